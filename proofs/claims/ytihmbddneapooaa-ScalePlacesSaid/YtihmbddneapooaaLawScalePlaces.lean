/- Proved: the row of chancerylaw3.ScalePlaces: for every input that the form lets in the call returns true and leaves its arguments as they were. No condition of our own. -/
import Derived.Test.YtihmbddneapooaaRows
import Derived.Test.YtihmbddneapooaaQSPx2
import Derived.Test.YtihmbddneapooaaPureScalePlaces
import Derived.Test.YtihmbddneapooaaOpens
import Derived.WalkKit
import Derived.ProofKit
import Derived.OpenShut
import Derived.ShutString
import Derived.ChangeOld
import Derived.Below
import Derived.SizedLaws
namespace Go.Proofs.Ytihmbddneapooaa.scalePlaces
open Go.ChangeShapes Go.WideShapes Go.ChangeAt Go.RowKit Go.Proofs.Ytihmbddneapooaa.Opens Go.Proofs.YtihmbddneapooaaW.PrintWords
open Go.ChangeMaps (open_string shut_string)
set_option linter.unusedVariables false
theorem own : ownKnob Try.prog.godebug = none := by kernel_rfl
theorem laidOut : laidOutB Try.prog = true := by kernel_rfl
def IT30 (x : (Int) × (Int) × (Int)) : Prop := ((fun n => (Lit.int .i64 n).wf = true) x.1 ∧ ((fun n => (Lit.int .i64 n).wf = true) x.2.1 ∧ (fun n => (Lit.int .i64 n).wf = true) x.2.2))
theorem opT30 : Opn Try.prog 30 (Kd.pair (Kd.int .i64) (Kd.pair (Kd.int .i64) (Kd.int .i64))) IT30 := op_struct0 Try.underlying30 (by kernel_rfl) (opF_cons (op_int Try.underlying3 (by kernel_rfl)) rfl (opF_cons (op_int Try.underlying3 (by kernel_rfl)) rfl (opF_one (op_int Try.underlying3 (by kernel_rfl)) rfl)))
set_option maxRecDepth 100000 in
theorem lifted (os : Os) (started : os.Started) (H : Type) (enc : TypeId × Value → H) :
    ReturnsInHanded {} Try.checked os 6 .any (Rows.scalePlacesSpec.pre6 enc Try.prog Try.f6 Rows.scalePlacesRow.domain false) (Rows.scalePlacesSpec.post enc Try.prog Try.f6 false true false false) := by
  refine returnsInHanded_of_change_sized (C := Try.checked) own started (by kernel_rfl) Try.func6
    (ChangeSpec.witness6 (enc := enc) (C := Try.checked) false ⟨#[], #[.agg #[.int .i64 0, .int .i64 0, .int .i64 0], .int .i64 0, .int .i64 0], []⟩ 8 (by kernel_rfl) (by kernel_rfl) (by kernel_rfl) (by kernel_rfl)) ?_
  intro W base args ds gs before hval0 hW hcnd hsz0 _
  have hsz : (DataW.weightsEach Try.prog (Try.f6.params.toList ++ Rows.scalePlacesSpec.plain.varTypes Try.prog) (ds ++ gs)).all (· ≤ reachBytes) = true := hsz0
  have hval : ∀ (j : Nat) t v, Try.f6.params[j]? = some t → args[j]? = some v → Value.okWide Try.prog W .any base t v := hval0
  have hW' := hW
  obtain ⟨p, q, hA0, hV, rfl, hfz, hnd⟩ := hW
  have hA : DataW.TrodAll enc Try.prog W 0 (fun _ => true) true Try.f6.params.toList args.toList ds p := hA0
  rw [Try.params6] at hA hval hsz
  obtain ⟨v0, vs0, d0, ds0, p0, q0, hargs, rfl, rfl, h0, r0⟩ := trodAll_cons hA
  obtain ⟨v1, vs1, d1, ds1, p1, q1, rfl, rfl, rfl, h1, r1⟩ := trodAll_cons r0
  obtain ⟨v2, vs2, d2, ds2, p2, q2, rfl, rfl, rfl, h2, r2⟩ := trodAll_cons r1
  obtain ⟨rfl, rfl, rfl⟩ := trodAll_nil r2
  obtain rfl : args = #[v0, v1, v2] := by cases args; simp_all
  obtain ⟨rfl, rfl⟩ := trodVars_none hV
  obtain ⟨x0, hx0, J0⟩ := arg opT30 hsz (j := 0) rfl rfl h0
  obtain ⟨cs0, rfl⟩ := agg_form Try.underlying30 (hval 0 30 v0 rfl rfl)
  have lt0 := arg_lt h0
  obtain ⟨z0_0, y0_0, e0_0, hz0_0, hy0_0⟩ := hx0
  replace hz0_0 : z0_0 = [Value.int .i64 x0.1] := hz0_0
  obtain ⟨z0_1, y0_1, e0_1, hz0_1, hy0_1⟩ := hy0_0
  replace hz0_1 : z0_1 = [Value.int .i64 x0.2.1] := hz0_1
  replace hy0_1 : _ = [Value.int .i64 x0.2.2] := hy0_1
  rw [hy0_1] at e0_1
  rw [hz0_1] at e0_1
  rw [e0_1] at e0_0
  rw [hz0_0] at e0_0
  obtain rfl := agg_arr e0_0
  obtain ⟨a1, rfl, rfl, rfl, w1⟩ := open_int Try.underlying3 (hval 1 3 v1 rfl rfl) h1
  obtain ⟨a2, rfl, rfl, rfl, w2⟩ := open_int Try.underlying3 (hval 2 3 v2 rfl rfl) h2
  clear hA0 hval0 hsz0 hsz
  obtain ⟨k, hk⟩ := Pure.ScalePlaces x0.1 x0.2.1 x0.2.2 a1 a2 
  refine (QSP.chancerylaw3_ScalePlaces.calls k x0.1 x0.2.1 x0.2.2 a1 a2 true W  hk).mono fun e W' ⟨he, bel⟩ => ?_
  subst he
  exact ⟨_, rfl, _, _, _, [], _, [], hW', trodAll_mk1 (shut_bool Try.underlying4 _), (trodAll_cons_mk (Below.trod laidOut (by kernel_rfl) (of_decide_eq_true (by kernel_rfl)) h0 bel lt0) (trodAll_cons_mk (shut_int Try.underlying3 w1) (trodAll_cons_mk (shut_int Try.underlying3 w2) trodAll_mk0))), rfl, bel.frame _, fun h => by cases h⟩
theorem over : Rows.ScalePlacesSaid :=
  OpenClaim.holds_of_wide 6 Try.f6 rfl rfl rfl rfl rfl rfl rfl ⟨rfl, rfl, rfl, rfl, rfl⟩ rfl rfl rfl rfl rfl (by kernel_rfl) Try.func6 (by kernel_rfl)
    (of_decide_eq_true (by kernel_rfl)) (by unfold Func.isWrapper; first | (rw [if_pos (by decide +kernel)]; kernel_rfl) | (rw [if_neg (by decide +kernel)]; exact ⟨rfl, rfl⟩))
    (fun os started H enc _ => lifted os started H enc)
#print axioms over
end Go.Proofs.Ytihmbddneapooaa.scalePlaces
namespace Go.Proofs.Ytihmbddneapooaa
/-- The row, under a short name, for the claim. -/
theorem scalePlaces_holds : Rows.ScalePlacesSaid := scalePlaces.over
end Go.Proofs.Ytihmbddneapooaa
