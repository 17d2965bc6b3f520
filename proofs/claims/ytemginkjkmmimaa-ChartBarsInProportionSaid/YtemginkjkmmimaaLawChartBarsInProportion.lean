/- Proved: the row of chancerylaw3.ChartBarsInProportion: for every input that the form lets in the call returns true and leaves its arguments as they were. No condition of our own. -/
import Derived.Test.YtemginkjkmmimaaRows
import Derived.Test.YtemginkjkmmimaaQCTx3
import Derived.Test.YtemginkjkmmimaaPureChartBarsInProportion
import Derived.Test.YtemginkjkmmimaaOpens
import Derived.WalkKit
import Derived.ProofKit
import Derived.OpenShut
import Derived.ShutString
import Derived.ChangeOld
import Derived.Below
import Derived.SizedLaws
namespace Go.Proofs.Ytemginkjkmmimaa.chartBarsInProportion
open Go.ChangeShapes Go.WideShapes Go.ChangeAt Go.RowKit Go.Proofs.Ytemginkjkmmimaa.Opens Go.Proofs.YtemginkjkmmimaaW.PrintWords
open Go.ChangeMaps (open_string shut_string)
set_option linter.unusedVariables false
theorem own : ownKnob Try.prog.godebug = none := by kernel_rfl
theorem laidOut : laidOutB Try.prog = true := by kernel_rfl
def I22 (l : List (ByteArray)) : Prop := l.length ≤ maxLen ∧ l.length * 16 ≤ 140737488351232 ∧ ∀ x ∈ l, (fun s => s.size ≤ 140737488351232) x
theorem op22 : Opn Try.prog 22 (Kd.slice 9 Kd.string) I22 := op_slice (B := 16) Try.underlying22 (by kernel_rfl) (op_string Try.underlying9 (by kernel_rfl)) (by kernel_rfl)
def I44 (l : List (Int)) : Prop := l.length ≤ maxLen ∧ l.length * 8 ≤ 140737488351232 ∧ ∀ x ∈ l, (fun n => (Lit.int .i64 n).wf = true) x
theorem op44 : Opn Try.prog 44 (Kd.slice 3 (Kd.int .i64)) I44 := op_slice (B := 8) Try.underlying44 (by kernel_rfl) (op_int Try.underlying3 (by kernel_rfl)) (by kernel_rfl)
def I23 (l : List (List (Int))) : Prop := l.length ≤ maxLen ∧ l.length * 24 ≤ 140737488351232 ∧ ∀ x ∈ l, I44 x
theorem op23 : Opn Try.prog 23 (Kd.slice 44 (Kd.slice 3 (Kd.int .i64))) I23 := op_slice (B := 24) Try.underlying23 (by kernel_rfl) (op44) (by kernel_rfl)
def IT25 (x : (Int) × (List (ByteArray)) × (List (List (Int)))) : Prop := ((fun n => (Lit.int .i64 n).wf = true) x.1 ∧ (I22 x.2.1 ∧ I23 x.2.2))
theorem opT25 : Opn Try.prog 25 (Kd.pair (Kd.int .i64) (Kd.pair (Kd.slice 9 Kd.string) (Kd.slice 44 (Kd.slice 3 (Kd.int .i64))))) IT25 := op_struct0 Try.underlying25 (by kernel_rfl) (opF_cons (op_int Try.underlying3 (by kernel_rfl)) rfl (opF_cons (op22) rfl (opF_one (op23) rfl)))
def IT27 (x : (Int) × (Int) × (Int)) : Prop := ((fun n => (Lit.int .i64 n).wf = true) x.1 ∧ ((fun n => (Lit.int .i64 n).wf = true) x.2.1 ∧ (fun n => (Lit.int .i64 n).wf = true) x.2.2))
theorem opT27 : Opn Try.prog 27 (Kd.pair (Kd.int .i64) (Kd.pair (Kd.int .i64) (Kd.int .i64))) IT27 := op_struct0 Try.underlying27 (by kernel_rfl) (opF_cons (op_int Try.underlying3 (by kernel_rfl)) rfl (opF_cons (op_int Try.underlying3 (by kernel_rfl)) rfl (opF_one (op_int Try.underlying3 (by kernel_rfl)) rfl)))
set_option maxRecDepth 100000 in
theorem lifted (os : Os) (started : os.Started) (H : Type) (enc : TypeId × Value → H) :
    ReturnsInHanded {} Try.checked os 3 .any (Rows.chartBarsInProportionSpec.pre6 enc Try.prog Try.f3 Rows.chartBarsInProportionRow.domain false) (Rows.chartBarsInProportionSpec.post enc Try.prog Try.f3 false true false false) := by
  refine returnsInHanded_of_change_sized (C := Try.checked) own started (by kernel_rfl) Try.func3
    (ChangeSpec.witness6 (enc := enc) (C := Try.checked) false ⟨#[], #[.agg #[.int .i64 0, .slice none 0 0, .slice none 0 0], .agg #[.int .i64 0, .int .i64 0, .int .i64 0], .int .i64 0, .int .i64 0], []⟩ 8 (by kernel_rfl) (by kernel_rfl) (by kernel_rfl) (by kernel_rfl)) ?_
  intro W base args ds gs before hval0 hW hcnd hsz0 _
  have hsz : (DataW.weightsEach Try.prog (Try.f3.params.toList ++ Rows.chartBarsInProportionSpec.plain.varTypes Try.prog) (ds ++ gs)).all (· ≤ reachBytes) = true := hsz0
  have hval : ∀ (j : Nat) t v, Try.f3.params[j]? = some t → args[j]? = some v → Value.okWide Try.prog W .any base t v := hval0
  have hW' := hW
  obtain ⟨p, q, hA0, hV, rfl, hfz, hnd⟩ := hW
  have hA : DataW.TrodAll enc Try.prog W 0 (fun _ => true) true Try.f3.params.toList args.toList ds p := hA0
  rw [Try.params3] at hA hval hsz
  obtain ⟨v0, vs0, d0, ds0, p0, q0, hargs, rfl, rfl, h0, r0⟩ := trodAll_cons hA
  obtain ⟨v1, vs1, d1, ds1, p1, q1, rfl, rfl, rfl, h1, r1⟩ := trodAll_cons r0
  obtain ⟨v2, vs2, d2, ds2, p2, q2, rfl, rfl, rfl, h2, r2⟩ := trodAll_cons r1
  obtain ⟨v3, vs3, d3, ds3, p3, q3, rfl, rfl, rfl, h3, r3⟩ := trodAll_cons r2
  obtain ⟨rfl, rfl, rfl⟩ := trodAll_nil r3
  obtain rfl : args = #[v0, v1, v2, v3] := by cases args; simp_all
  obtain ⟨rfl, rfl⟩ := trodVars_none hV
  obtain ⟨x0, hx0, J0⟩ := arg opT25 hsz (j := 0) rfl rfl h0
  obtain ⟨cs0, rfl⟩ := agg_form Try.underlying25 (hval 0 25 v0 rfl rfl)
  have lt0 := arg_lt h0
  obtain ⟨z0_0, y0_0, e0_0, hz0_0, hy0_0⟩ := hx0
  replace hz0_0 : z0_0 = [Value.int .i64 x0.1] := hz0_0
  obtain ⟨z0_1, y0_1, e0_1, hz0_1, hy0_1⟩ := hy0_0
  obtain ⟨A0_1, c0_1, rfl, hc0_1, hr0_1⟩ := hz0_1
  obtain ⟨A0_2, c0_2, q0_2, hc0_2, hr0_2⟩ := hy0_1
  rw [q0_2] at e0_1
  rw [e0_1] at e0_0
  rw [hz0_0] at e0_0
  obtain rfl := agg_arr e0_0
  obtain ⟨x1, hx1, J1⟩ := arg opT27 hsz (j := 1) rfl rfl h1
  obtain ⟨cs1, rfl⟩ := agg_form Try.underlying27 (hval 1 27 v1 rfl rfl)
  have lt1 := arg_lt h1
  obtain ⟨z1_0, y1_0, e1_0, hz1_0, hy1_0⟩ := hx1
  replace hz1_0 : z1_0 = [Value.int .i64 x1.1] := hz1_0
  obtain ⟨z1_1, y1_1, e1_1, hz1_1, hy1_1⟩ := hy1_0
  replace hz1_1 : z1_1 = [Value.int .i64 x1.2.1] := hz1_1
  replace hy1_1 : _ = [Value.int .i64 x1.2.2] := hy1_1
  rw [hy1_1] at e1_1
  rw [hz1_1] at e1_1
  rw [e1_1] at e1_0
  rw [hz1_0] at e1_0
  obtain rfl := agg_arr e1_0
  obtain ⟨a2, rfl, rfl, rfl, w2⟩ := open_int Try.underlying3 (hval 2 3 v2 rfl rfl) h2
  obtain ⟨a3, rfl, rfl, rfl, w3⟩ := open_int Try.underlying3 (hval 3 3 v3 rfl rfl) h3
  clear hA0 hval0 hsz0 hsz
  obtain ⟨k, hk⟩ := Pure.ChartBarsInProportion x0.1 x0.2.1 x0.2.2 x1.1 x1.2.1 x1.2.2 a2 a3 
  refine (QCT.chancerylaw3_ChartBarsInProportion.calls k x0.1 A0_1 c0_1 x0.2.1 A0_2 c0_2 x0.2.2 x1.1 x1.2.1 x1.2.2 a2 a3 true W hr0_1 hc0_1 hr0_2 hc0_2 hk).mono fun e W' ⟨he, bel⟩ => ?_
  subst he
  exact ⟨_, rfl, _, _, _, [], _, [], hW', trodAll_mk1 (shut_bool Try.underlying4 _), (trodAll_cons_mk (Below.trod laidOut (by kernel_rfl) (of_decide_eq_true (by kernel_rfl)) h0 bel lt0) (trodAll_cons_mk (Below.trod laidOut (by kernel_rfl) (of_decide_eq_true (by kernel_rfl)) h1 bel lt1) (trodAll_cons_mk (shut_int Try.underlying3 w2) (trodAll_cons_mk (shut_int Try.underlying3 w3) trodAll_mk0)))), rfl, bel.frame _, fun h => by cases h⟩
theorem over : Rows.ChartBarsInProportionSaid :=
  OpenClaim.holds_of_wide 3 Try.f3 rfl rfl rfl rfl rfl rfl rfl ⟨rfl, rfl, rfl, rfl, rfl⟩ rfl rfl rfl rfl rfl (by kernel_rfl) Try.func3 (by kernel_rfl)
    (of_decide_eq_true (by kernel_rfl)) (by unfold Func.isWrapper; first | (rw [if_pos (by decide +kernel)]; kernel_rfl) | (rw [if_neg (by decide +kernel)]; exact ⟨rfl, rfl⟩))
    (fun os started H enc _ => lifted os started H enc)
#print axioms over
end Go.Proofs.Ytemginkjkmmimaa.chartBarsInProportion
namespace Go.Proofs.Ytemginkjkmmimaa
/-- The row, under a short name, for the claim. -/
theorem chartBarsInProportion_holds : Rows.ChartBarsInProportionSaid := chartBarsInProportion.over
end Go.Proofs.Ytemginkjkmmimaa
