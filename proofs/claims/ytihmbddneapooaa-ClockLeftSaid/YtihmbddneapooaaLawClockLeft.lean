/- Proved: the row of chancerylaw3.ClockLeft: for every input that the form lets in the call returns true and leaves its arguments as they were. No condition of our own. -/
import Derived.Test.YtihmbddneapooaaRows
import Derived.Test.YtihmbddneapooaaQCLx3
import Derived.Test.YtihmbddneapooaaPureClockLeft
import Derived.Test.YtihmbddneapooaaOpens
import Derived.WalkKit
import Derived.ProofKit
import Derived.OpenShut
import Derived.ShutString
import Derived.ChangeOld
import Derived.Below
import Derived.SizedLaws
namespace Go.Proofs.Ytihmbddneapooaa.clockLeft
open Go.ChangeShapes Go.WideShapes Go.ChangeAt Go.RowKit Go.Proofs.Ytihmbddneapooaa.Opens Go.Proofs.YtihmbddneapooaaW.PrintWords
open Go.ChangeMaps (open_string shut_string)
set_option linter.unusedVariables false
theorem own : ownKnob Try.prog.godebug = none := by kernel_rfl
theorem laidOut : laidOutB Try.prog = true := by kernel_rfl
def IT72 (x : (Int) × (Int) × (Int)) : Prop := ((fun n => (Lit.int .i64 n).wf = true) x.1 ∧ ((fun n => (Lit.int .i64 n).wf = true) x.2.1 ∧ (fun n => (Lit.int .i64 n).wf = true) x.2.2))
theorem opT72 : Opn Try.prog 72 (Kd.pair (Kd.int .i64) (Kd.pair (Kd.int .i64) (Kd.int .i64))) IT72 := op_struct0 Try.underlying72 (by kernel_rfl) (opF_cons (op_int Try.underlying3 (by kernel_rfl)) rfl (opF_cons (op_int Try.underlying3 (by kernel_rfl)) rfl (opF_one (op_int Try.underlying3 (by kernel_rfl)) rfl)))
theorem opS72 : Opn Try.prog 72 PClockLeft.k72 (fun x => IT72 (x.f0, x.f1, x.f2)) := op_struct (d := (Kd.pair (Kd.int .i64) (Kd.pair (Kd.int .i64) (Kd.int .i64)))) (g := fun x : PClockLeft.S72 => (x.f0, x.f1, x.f2)) (fun a => ⟨a.1, a.2.1, a.2.2⟩) Try.underlying72 (by kernel_rfl) (opF_cons (op_int Try.underlying3 (by kernel_rfl)) rfl (opF_cons (op_int Try.underlying3 (by kernel_rfl)) rfl (opF_one (op_int Try.underlying3 (by kernel_rfl)) rfl))) (fun _ => rfl)
def I63 (l : List (PClockLeft.S72)) : Prop := l.length ≤ maxLen ∧ l.length * 24 ≤ 140737488351232 ∧ ∀ x ∈ l, (fun x : PClockLeft.S72 => IT72 (x.f0, x.f1, x.f2)) x
theorem op63 : Opn Try.prog 63 (Kd.slice 72 PClockLeft.k72) I63 := op_slice (B := 24) Try.underlying63 (by kernel_rfl) (opS72) (by kernel_rfl)
def I34 (l : List (Int)) : Prop := l.length ≤ maxLen ∧ l.length * 8 ≤ 140737488351232 ∧ ∀ x ∈ l, (fun n => (Lit.int .i64 n).wf = true) x
theorem op34 : Opn Try.prog 34 (Kd.slice 3 (Kd.int .i64)) I34 := op_slice (B := 8) Try.underlying34 (by kernel_rfl) (op_int Try.underlying3 (by kernel_rfl)) (by kernel_rfl)
set_option maxRecDepth 100000 in
theorem lifted (os : Os) (started : os.Started) (H : Type) (enc : TypeId × Value → H) :
    ReturnsInHanded {} Try.checked os 12 .any (Rows.clockLeftSpec.pre6 enc Try.prog Try.f12 Rows.clockLeftRow.domain false) (Rows.clockLeftSpec.post enc Try.prog Try.f12 false true false false) := by
  refine returnsInHanded_of_change_sized (C := Try.checked) own started (by kernel_rfl) Try.func12
    (ChangeSpec.witness6 (enc := enc) (C := Try.checked) false ⟨#[], #[.slice none 0 0, .int .i64 0, .slice none 0 0], []⟩ 8 (by kernel_rfl) (by kernel_rfl) (by kernel_rfl) (by kernel_rfl)) ?_
  intro W base args ds gs before hval0 hW hcnd hsz0 _
  have hsz : (DataW.weightsEach Try.prog (Try.f12.params.toList ++ Rows.clockLeftSpec.plain.varTypes Try.prog) (ds ++ gs)).all (· ≤ reachBytes) = true := hsz0
  have hval : ∀ (j : Nat) t v, Try.f12.params[j]? = some t → args[j]? = some v → Value.okWide Try.prog W .any base t v := hval0
  have hW' := hW
  obtain ⟨p, q, hA0, hV, rfl, hfz, hnd⟩ := hW
  have hA : DataW.TrodAll enc Try.prog W 0 (fun _ => true) true Try.f12.params.toList args.toList ds p := hA0
  rw [Try.params12] at hA hval hsz
  obtain ⟨v0, vs0, d0, ds0, p0, q0, hargs, rfl, rfl, h0, r0⟩ := trodAll_cons hA
  obtain ⟨v1, vs1, d1, ds1, p1, q1, rfl, rfl, rfl, h1, r1⟩ := trodAll_cons r0
  obtain ⟨v2, vs2, d2, ds2, p2, q2, rfl, rfl, rfl, h2, r2⟩ := trodAll_cons r1
  obtain ⟨rfl, rfl, rfl⟩ := trodAll_nil r2
  obtain rfl : args = #[v0, v1, v2] := by cases args; simp_all
  obtain ⟨rfl, rfl⟩ := trodVars_none hV
  obtain ⟨l0, hx0, i0⟩ := arg op63 hsz (j := 0) rfl rfl h0
  obtain ⟨A0, n0, c0, rfl⟩ := okWide_slice Try.underlying63 (hval 0 63 v0 rfl rfl)
  obtain ⟨rfl, hc0, hr0⟩ := slice_form hx0
  have lt0 := arg_lt h0
  obtain ⟨a1, rfl, rfl, rfl, w1⟩ := open_int Try.underlying3 (hval 1 3 v1 rfl rfl) h1
  obtain ⟨l2, hx2, i2⟩ := arg op34 hsz (j := 2) rfl rfl h2
  obtain ⟨A2, n2, c2, rfl⟩ := okWide_slice Try.underlying34 (hval 2 34 v2 rfl rfl)
  obtain ⟨rfl, hc2, hr2⟩ := slice_form hx2
  have lt2 := arg_lt h2
  clear hA0 hval0 hsz0 hsz
  obtain ⟨k, hk⟩ := Pure.ClockLeft l0 a1 l2 i2.2.1
  refine (QCL.chancerylaw3_ClockLeft.calls k A0 c0 l0 a1 A2 c2 l2 true W hr0 hc0 hr2 hc2 hk).mono fun e W' ⟨he, bel⟩ => ?_
  subst he
  exact ⟨_, rfl, _, _, _, [], _, [], hW', trodAll_mk1 (shut_bool Try.underlying4 _), (trodAll_cons_mk (Below.trod laidOut (by kernel_rfl) (of_decide_eq_true (by kernel_rfl)) h0 bel lt0) (trodAll_cons_mk (shut_int Try.underlying3 w1) (trodAll_cons_mk (Below.trod laidOut (by kernel_rfl) (of_decide_eq_true (by kernel_rfl)) h2 bel lt2) trodAll_mk0))), rfl, bel.frame _, fun h => by cases h⟩
theorem over : Rows.ClockLeftSaid :=
  OpenClaim.holds_of_wide 12 Try.f12 rfl rfl rfl rfl rfl rfl rfl ⟨rfl, rfl, rfl, rfl, rfl⟩ rfl rfl rfl rfl rfl (by kernel_rfl) Try.func12 (by kernel_rfl)
    (of_decide_eq_true (by kernel_rfl)) (by unfold Func.isWrapper; first | (rw [if_pos (by decide +kernel)]; kernel_rfl) | (rw [if_neg (by decide +kernel)]; exact ⟨rfl, rfl⟩))
    (fun os started H enc _ => lifted os started H enc)
#print axioms over
end Go.Proofs.Ytihmbddneapooaa.clockLeft
namespace Go.Proofs.Ytihmbddneapooaa
/-- The row, under a short name, for the claim. -/
theorem clockLeft_holds : Rows.ClockLeftSaid := clockLeft.over
end Go.Proofs.Ytihmbddneapooaa
