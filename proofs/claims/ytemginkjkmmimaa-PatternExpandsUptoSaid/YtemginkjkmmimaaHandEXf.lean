/- The contracts of pattern.Expand and of the law's own reading, in the printed texts' form. -/
import Derived.Test.YtemginkjkmmimaaHandEXe
namespace Go.Proofs.Ytemginkjkmmimaa.HandEX
open Go.RowKit Go.Proofs.YtemginkjkmmimaaW.PrintWords Go.Proofs.YtemginkjkmmimaaW.PrintLast Go.Proofs.YtemginkjkmmimaaW.PrintMore Go.Proofs.Ytemginkjkmmimaa.PPatternExpands Go.Proofs.Ytemginkjkmmimaa.Expand
noncomputable def pattern_Expand.f (a0 : ByteArray) (l1 : List Int) (a2_0 a2_1 : Int) (l2_2 : List S51) : Option (List Int × Int) :=
  if a0.size ≤ 1048576 ∧ l1.length ≤ 1048576 ∧ l2_2.length * 16 ≤ 140737488351232 then some (expandF a0 l1 a2_0 a2_1 l2_2) else none
theorem pattern_Expand.calls (a0 : ByteArray) (A1 : Option Addr) (c1 : Nat) (l1 : List Int) (a2_0 a2_1 : Int) (A2_2 : Option Addr) (c2_2 : Nat) (l2_2 : List S51) (r1 : List Int) (r2 : Int) (w : World) (hr1 : Kd.C (Kd.int .i64) w A1 l1.length l1) (hc1 : l1.length ≤ c1) (hr2 : Kd.C k51 w A2_2 l2_2.length l2_2) (hc2 : l2_2.length ≤ c2_2) (h : pattern_Expand.f a0 l1 a2_0 a2_1 l2_2 = some (r1, r2)) :
    Calls Try.prog 14 #[.string a0, .slice A1 l1.length c1, .agg #[.int .i64 a2_0, .int .i64 a2_1, .slice A2_2 l2_2.length c2_2]] w fun e w' => ∃ v0_ : Value, e = .returned (.tuple #[v0_, .int .i64 r2]) ∧ Kd.R (Kd.int .i64) 3 w' w.heap.size (fun _ => True) v0_ r1 ∧ Below w.heap.size w w' := by
  unfold pattern_Expand.f at h
  by_cases g : a0.size ≤ 1048576 ∧ l1.length ≤ 1048576 ∧ l2_2.length * 16 ≤ 140737488351232
  · rw [if_pos g] at h
    have e := Option.some.inj h
    have k := ex_all A1 c1 l1 A2_2 c2_2 l2_2 a2_0 a2_1 a0 w hr1 hc1 hr2 hc2 g.2.2 g.1 g.2.1
    rw [e] at k
    exact k
  · rw [if_neg g] at h
    cases h
noncomputable def chancerylaw3_expanded.f (a0 : ByteArray) (l1 : List Int) (a2_0 a2_1 : Int) (l2_2 : List S51) : Option (List Int × Int) :=
  if a0.size ≤ 1048576 ∧ l1.length ≤ 1048576 then some (expandF a0 l1 a2_0 a2_1 l2_2) else none
theorem chancerylaw3_expanded.calls (a0 : ByteArray) (A1 : Option Addr) (c1 : Nat) (l1 : List Int) (a2_0 a2_1 : Int) (A2_2 : Option Addr) (c2_2 : Nat) (l2_2 : List S51) (r1 : List Int) (r2 : Int) (w : World) (hr1 : Kd.C (Kd.int .i64) w A1 l1.length l1) (hc1 : l1.length ≤ c1) (hr2 : Kd.C k51 w A2_2 l2_2.length l2_2) (hc2 : l2_2.length ≤ c2_2) (h : chancerylaw3_expanded.f a0 l1 a2_0 a2_1 l2_2 = some (r1, r2)) :
    Calls Try.prog 16 #[.string a0, .slice A1 l1.length c1, .agg #[.int .i64 a2_0, .int .i64 a2_1, .slice A2_2 l2_2.length c2_2]] w fun e w' => ∃ v0_ : Value, e = .returned (.tuple #[v0_, .int .i64 r2]) ∧ Kd.R (Kd.int .i64) 3 w' w.heap.size (fun _ => True) v0_ r1 ∧ Below w.heap.size w w' := by
  unfold chancerylaw3_expanded.f at h
  by_cases g : a0.size ≤ 1048576 ∧ l1.length ≤ 1048576
  · rw [if_pos g] at h
    have e := Option.some.inj h
    have k := ex2_all A1 c1 l1 A2_2 c2_2 l2_2 a2_0 a2_1 a0 w hr1 hc1 hr2 hc2 g.1 g.2
    rw [e] at k
    exact k
  · rw [if_neg g] at h
    cases h
end Go.Proofs.Ytemginkjkmmimaa.HandEX
