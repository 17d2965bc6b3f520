/- The statement's own bars as a contract: where everything is in order they are chart.Bars' bars. -/
import Derived.Test.YtemginkjkmmimaaHandCBf
namespace Go.Proofs.Ytemginkjkmmimaa.HandCB
open Go.Proofs.Ytemginkjkmmimaa.Lib (w64)
open Go.RowKit Go.Proofs.YtemginkjkmmimaaW.PrintWords Go.Proofs.YtemginkjkmmimaaW.PrintLast Go.Proofs.YtemginkjkmmimaaW.PrintMore Go.Proofs.Ytemginkjkmmimaa.QCB Go.Proofs.Ytemginkjkmmimaa.QCN Go.Proofs.Ytemginkjkmmimaa.ChartB
set_option linter.unusedVariables false
namespace NearB
open Go.Proofs.Ytemginkjkmmimaa.Lib
theorem down_ok (a b : Int) (hb : 1 ≤ b) (hb2 : b ≤ 4000000000000000000) (h1 : -4000000000000000000 ≤ a) (h2 : a ≤ 4000000000000000000) : chanceryref3_Down.f a b = some (a / b) := by
  have e := Int.mul_ediv_add_emod a b
  have e2 := Int.emod_nonneg a (by omega : b ≠ 0)
  have e3 := Int.emod_lt_of_pos a (by omega : 0 < b)
  have hc : b * (a / b) = a / b * b := Int.mul_comm _ _
  have b1 : -4000000000000000000 ≤ a / b := (Int.le_ediv_iff_mul_le (by omega)).2 (by
    have : (-4000000000000000000 : Int) * b ≤ -4000000000000000000 * 1 := Int.mul_le_mul_of_nonpos_left (by omega) (by omega)
    omega)
  have b2 : a / b < 4000000000000000001 := (Int.ediv_lt_iff_lt_mul (by omega)).2 (by
    have : (4000000000000000001 : Int) * 1 ≤ 4000000000000000001 * b := Int.mul_le_mul_of_nonneg_left (by omega) (by omega)
    omega)
  unfold chanceryref3_Down.f
  rw [if_neg (by omega), tdiv_down a b (by omega)]
  by_cases h : a < 0 ∧ a % b ≠ 0
  · have e4 : (a / b + 1) * b = a / b * b + b := by rw [Int.add_mul]; omega
    rw [if_pos h, w64 (n := a / b + 1) (by omega) (by omega), w64 (n := (a / b + 1) * b) (by omega) (by omega), if_pos (by omega), w64 (by omega) (by omega)]; congr 1; omega
  · rw [if_neg h, w64 (n := a / b) (by omega) (by omega), w64 (n := a / b * b) (by omega) (by omega), if_neg (by omega)]
theorem near_ok (a b : Int) (hb : 1 ≤ b) (hb2 : b ≤ 400000000000000000) (h1 : -400000000000000000 ≤ a) (h2 : a ≤ 400000000000000000) : chanceryref3_Near.f a b = some ((2 * a + b) / (2 * b)) := by
  unfold chanceryref3_Near.f
  rw [w64 (n := 2 * a) (by omega) (by omega), w64 (n := 2 * a + b) (by omega) (by omega), w64 (n := 2 * b) (by omega) (by omega), down_ok _ _ (by omega) (by omega) (by omega) (by omega)]
  rfl
theorem near_ok2 (a b : Int) (hb : 1 ≤ b) (hb2 : b ≤ 1000000000000000000) (h1 : -1000000000000000000 ≤ a) (h2 : a ≤ 1000000000000000000) : chanceryref3_Near.f a b = some ((2 * a + b) / (2 * b)) := by
  unfold chanceryref3_Near.f
  rw [w64 (n := 2 * a) (by omega) (by omega), w64 (n := 2 * a + b) (by omega) (by omega), w64 (n := 2 * b) (by omega) (by omega), down_ok _ _ (by omega) (by omega) (by omega) (by omega)]
  rfl
end NearB
def chancerylaw3_bars.f (k : Nat) (kind : Int) (nm : List ByteArray) (ss : List (List Int)) (lo hi st wd ht : Int) : Option (List S42) :=
  (chart_Range.f k kind nm ss).bind fun r => if r.2.2 = 0 ∧ lo ≤ r.1 ∧ r.2.1 ≤ hi ∧ kind ≠ 3 ∧ chk lo hi st = 0 ∧ (1 ≤ wd ∧ wd ≤ 100000) ∧ (1 ≤ ht ∧ ht ≤ 100000) then some (barsC kind ss lo hi ht (edg wd nm.length) nm.length) else none
theorem chancerylaw3_bars.mono (kind : Int) (nm : List ByteArray) (ss : List (List Int)) (lo hi st wd ht : Int) (k : Nat) : LeO (chancerylaw3_bars.f k kind nm ss lo hi st wd ht) (chancerylaw3_bars.f (k + 1) kind nm ss lo hi st wd ht) := by
  unfold chancerylaw3_bars.f
  exact LeO.bind (chart_Range.mono _ _ _ k) fun r => LeO.refl _
set_option maxHeartbeats 1000000 in
theorem chancerylaw3_bars.calls (k : Nat) (a0_0 : Int) (A0_1 : Option Addr) (c0_1 : Nat) (l0_1 : List ByteArray) (A0_2 : Option Addr) (c0_2 : Nat) (l0_2 : List (List Int)) (a1_0 a1_1 a1_2 a2 a3 : Int) (r : List S42) (w : World) (hr0_1 : Kd.C Kd.string w A0_1 l0_1.length l0_1) (hc0_1 : l0_1.length ≤ c0_1) (hr0_2 : Kd.C (Kd.slice 3 (Kd.int .i64)) w A0_2 l0_2.length l0_2) (hc0_2 : l0_2.length ≤ c0_2) (h : chancerylaw3_bars.f k a0_0 l0_1 l0_2 a1_0 a1_1 a1_2 a2 a3 = some r) :
    Calls Try.prog 13 #[.agg #[.int .i64 a0_0, .slice A0_1 l0_1.length c0_1, .slice A0_2 l0_2.length c0_2], .agg #[.int .i64 a1_0, .int .i64 a1_1, .int .i64 a1_2], .int .i64 a2, .int .i64 a3] w fun e w' => ∃ v0_ : Value, e = .returned (v0_) ∧ Kd.R k42 42 w' w.heap.size (fun _ => True) v0_ r ∧ Below w.heap.size w w' := by
  unfold chancerylaw3_bars.f at h
  obtain ⟨⟨low, high, e0⟩, hR, h⟩ := Option.bind_eq_some_iff.1 h
  simp only at h
  by_cases hG : e0 = 0 ∧ a1_0 ≤ low ∧ high ≤ a1_1 ∧ a0_0 ≠ 3 ∧ chk a1_0 a1_1 a1_2 = 0 ∧ (1 ≤ a2 ∧ a2 ≤ 100000) ∧ (1 ≤ a3 ∧ a3 ≤ 100000)
  · rw [if_pos hG] at h
    obtain rfl := Option.some.inj h
    obtain ⟨rfl, hlo, hhi, hk3, hz, hwd, hht⟩ := hG
    obtain ⟨k0, k3⟩ := range_kind k a0_0 l0_1 l0_2 low high hR
    obtain ⟨n1, n2, m1, m2, hl, hg⟩ := range_shape k a0_0 l0_1 l0_2 low high hR
    obtain ⟨rfl, rfl⟩ := range_val k a0_0 l0_1 l0_2 low high hR
    obtain ⟨W, hlt, _, _, _, _⟩ := chk_zero a1_0 a1_1 a1_2 hz
    unfold Within at W
    obtain ⟨q1, q2, q3⟩ := bounds_all a0_0 l0_1 l0_2 a1_0 a1_1 a1_2 hz n1 n2 m1 m2 hl hg hlo hhi
    refine lawbars_ok a0_0 A0_1 c0_1 l0_1 A0_2 c0_2 l0_2 a1_0 a1_1 a1_2 a2 a3 w hr0_1 hc0_1 hr0_2 hc0_2 (by omega) n1 n2 m1 m2 (by omega) hwd hht (fun v v0 v1 => ?_) q1 (fun hk i i0 i1 => ⟨q2 hk i i0 i1, fun j hj => ?_⟩) q3 hl
    · have p1 : 0 ≤ (v - a1_0) * a3 := Int.mul_nonneg (by omega) (by omega)
      have p2 : (v - a1_0) * a3 ≤ 8000000000000 * 100000 := Int.mul_le_mul (by omega) (by omega) (by omega) (by omega)
      rw [w64 (n := v - a1_0) (by omega) (by omega), w64 (n := (v - a1_0) * a3) (by omega) (by omega), w64 (n := a1_1 - a1_0) (by omega) (by omega), NearB.near_ok2 _ _ (by omega) (by omega) (by omega) (by omega)]
      rfl
    · obtain ⟨g1, g2, g3⟩ := hg i j i0 i1 (by omega) (by omega)
      have := g3 (.inr hk)
      unfold val at this g2
      omega
  · rw [if_neg hG] at h
    cases h
end Go.Proofs.Ytemginkjkmmimaa.HandCB
