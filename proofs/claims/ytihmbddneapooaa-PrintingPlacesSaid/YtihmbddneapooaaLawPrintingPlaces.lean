/- Proved: the row of chancerylaw3.PrintingPlaces: for every input that the form lets in the call returns true and leaves its arguments as they were. No condition of our own. -/
import Derived.Test.YtihmbddneapooaaRows
import Derived.Test.YtihmbddneapooaaQPPx3
import Derived.Test.YtihmbddneapooaaPurePrintingPlaces
import Derived.Test.YtihmbddneapooaaOpens
import Derived.WalkKit
import Derived.ProofKit
import Derived.OpenShut
import Derived.ShutString
import Derived.ChangeOld
import Derived.Below
import Derived.SizedLaws
namespace Go.Proofs.Ytihmbddneapooaa.printingPlaces
open Go.ChangeShapes Go.WideShapes Go.ChangeAt Go.RowKit Go.Proofs.Ytihmbddneapooaa.Opens Go.Proofs.YtihmbddneapooaaW.PrintWords
open Go.ChangeMaps (open_string shut_string)
set_option linter.unusedVariables false
theorem own : ownKnob Try.prog.godebug = none := by kernel_rfl
theorem laidOut : laidOutB Try.prog = true := by kernel_rfl
def IT23 (x : (Int) × (Int) × (Int) × (Int)) : Prop := ((fun n => (Lit.int .i64 n).wf = true) x.1 ∧ ((fun n => (Lit.int .i64 n).wf = true) x.2.1 ∧ ((fun n => (Lit.int .i64 n).wf = true) x.2.2.1 ∧ (fun n => (Lit.int .i64 n).wf = true) x.2.2.2)))
theorem opT23 : Opn Try.prog 23 (Kd.pair (Kd.int .i64) (Kd.pair (Kd.int .i64) (Kd.pair (Kd.int .i64) (Kd.int .i64)))) IT23 := op_struct0 Try.underlying23 (by kernel_rfl) (opF_cons (op_int Try.underlying3 (by kernel_rfl)) rfl (opF_cons (op_int Try.underlying3 (by kernel_rfl)) rfl (opF_cons (op_int Try.underlying3 (by kernel_rfl)) rfl (opF_one (op_int Try.underlying3 (by kernel_rfl)) rfl))))
set_option maxRecDepth 100000 in
theorem lifted (os : Os) (started : os.Started) (H : Type) (enc : TypeId × Value → H) :
    ReturnsInHanded {} Try.checked os 3 .any (Rows.printingPlacesSpec.pre6 enc Try.prog Try.f3 Rows.printingPlacesRow.domain false) (Rows.printingPlacesSpec.post enc Try.prog Try.f3 false true false false) := by
  refine returnsInHanded_of_change_sized (C := Try.checked) own started (by kernel_rfl) Try.func3
    (ChangeSpec.witness6 (enc := enc) (C := Try.checked) false ⟨#[], #[.int .i64 0, .int .i64 0, .agg #[.int .i64 0, .int .i64 0, .int .i64 0, .int .i64 0]], []⟩ 8 (by kernel_rfl) (by kernel_rfl) (by kernel_rfl) (by kernel_rfl)) ?_
  intro W base args ds gs before hval0 hW hcnd hsz0 _
  have hsz : (DataW.weightsEach Try.prog (Try.f3.params.toList ++ Rows.printingPlacesSpec.plain.varTypes Try.prog) (ds ++ gs)).all (· ≤ reachBytes) = true := hsz0
  have hval : ∀ (j : Nat) t v, Try.f3.params[j]? = some t → args[j]? = some v → Value.okWide Try.prog W .any base t v := hval0
  have hW' := hW
  obtain ⟨p, q, hA0, hV, rfl, hfz, hnd⟩ := hW
  have hA : DataW.TrodAll enc Try.prog W 0 (fun _ => true) true Try.f3.params.toList args.toList ds p := hA0
  rw [Try.params3] at hA hval hsz
  obtain ⟨v0, vs0, d0, ds0, p0, q0, hargs, rfl, rfl, h0, r0⟩ := trodAll_cons hA
  obtain ⟨v1, vs1, d1, ds1, p1, q1, rfl, rfl, rfl, h1, r1⟩ := trodAll_cons r0
  obtain ⟨v2, vs2, d2, ds2, p2, q2, rfl, rfl, rfl, h2, r2⟩ := trodAll_cons r1
  obtain ⟨rfl, rfl, rfl⟩ := trodAll_nil r2
  obtain rfl : args = #[v0, v1, v2] := by cases args; simp_all
  obtain ⟨rfl, rfl⟩ := trodVars_none hV
  obtain ⟨a0, rfl, rfl, rfl, w0⟩ := open_int Try.underlying3 (hval 0 3 v0 rfl rfl) h0
  obtain ⟨a1, rfl, rfl, rfl, w1⟩ := open_int Try.underlying3 (hval 1 3 v1 rfl rfl) h1
  obtain ⟨x2, hx2, J2⟩ := arg opT23 hsz (j := 2) rfl rfl h2
  obtain ⟨cs2, rfl⟩ := agg_form Try.underlying23 (hval 2 23 v2 rfl rfl)
  have lt2 := arg_lt h2
  obtain ⟨z2_0, y2_0, e2_0, hz2_0, hy2_0⟩ := hx2
  replace hz2_0 : z2_0 = [Value.int .i64 x2.1] := hz2_0
  obtain ⟨z2_1, y2_1, e2_1, hz2_1, hy2_1⟩ := hy2_0
  replace hz2_1 : z2_1 = [Value.int .i64 x2.2.1] := hz2_1
  obtain ⟨z2_2, y2_2, e2_2, hz2_2, hy2_2⟩ := hy2_1
  replace hz2_2 : z2_2 = [Value.int .i64 x2.2.2.1] := hz2_2
  replace hy2_2 : _ = [Value.int .i64 x2.2.2.2] := hy2_2
  rw [hy2_2] at e2_2
  rw [hz2_2] at e2_2
  rw [e2_2] at e2_1
  rw [hz2_1] at e2_1
  rw [e2_1] at e2_0
  rw [hz2_0] at e2_0
  obtain rfl := agg_arr e2_0
  clear hA0 hval0 hsz0 hsz
  obtain ⟨k, hk⟩ := Pure.PrintingPlaces a0 a1 x2.1 x2.2.1 x2.2.2.1 x2.2.2.2 
  refine (QPP.chancerylaw3_PrintingPlaces.calls k a0 a1 x2.1 x2.2.1 x2.2.2.1 x2.2.2.2 true W  hk).mono fun e W' ⟨he, bel⟩ => ?_
  subst he
  exact ⟨_, rfl, _, _, _, [], _, [], hW', trodAll_mk1 (shut_bool Try.underlying4 _), (trodAll_cons_mk (shut_int Try.underlying3 w0) (trodAll_cons_mk (shut_int Try.underlying3 w1) (trodAll_cons_mk (Below.trod laidOut (by kernel_rfl) (of_decide_eq_true (by kernel_rfl)) h2 bel lt2) trodAll_mk0))), rfl, bel.frame _, fun h => by cases h⟩
theorem over : Rows.PrintingPlacesSaid :=
  OpenClaim.holds_of_wide 3 Try.f3 rfl rfl rfl rfl rfl rfl rfl ⟨rfl, rfl, rfl, rfl, rfl⟩ rfl rfl rfl rfl rfl (by kernel_rfl) Try.func3 (by kernel_rfl)
    (of_decide_eq_true (by kernel_rfl)) (by unfold Func.isWrapper; first | (rw [if_pos (by decide +kernel)]; kernel_rfl) | (rw [if_neg (by decide +kernel)]; exact ⟨rfl, rfl⟩))
    (fun os started H enc _ => lifted os started H enc)
#print axioms over
end Go.Proofs.Ytihmbddneapooaa.printingPlaces
namespace Go.Proofs.Ytihmbddneapooaa
/-- The row, under a short name, for the claim. -/
theorem printingPlaces_holds : Rows.PrintingPlacesSaid := printingPlaces.over
end Go.Proofs.Ytihmbddneapooaa
