/- Proved: the row of chancerylaw3.LinesBestOfAll: for every input that the form lets in the call returns true and leaves its arguments as they were. No condition of our own. -/
import Derived.Test.YthapclmfkjldaaaRows
import Derived.Test.YthapclmfkjldaaaHandLNu
import Derived.Test.YthapclmfkjldaaaOpens
import Derived.WalkKit
import Derived.ProofKit
import Derived.OpenShut
import Derived.ShutString
import Derived.ChangeOld
import Derived.Below
import Derived.SizedLaws
namespace Go.Proofs.Ythapclmfkjldaaa.linesBestOfAll
set_option linter.unusedSectionVars false
set_option linter.unusedVariables false
set_option linter.unusedSimpArgs false
open Go.ChangeShapes Go.WideShapes Go.ChangeAt Go.RowKit Go.Proofs.Ythapclmfkjldaaa.Opens Go.Proofs.YthapclmfkjldaaaW.PrintWords
open Go.ChangeMaps (open_string shut_string)
theorem own : ownKnob Try.prog.godebug = none := by kernel_rfl
theorem laidOut : laidOutB Try.prog = true := by kernel_rfl
def IT49 (x : (Int) × (Int) × (Int) × (Int) × (Int) × (Bool)) : Prop := ((fun n => (Lit.int .i64 n).wf = true) x.1 ∧ ((fun n => (Lit.int .i64 n).wf = true) x.2.1 ∧ ((fun n => (Lit.int .i64 n).wf = true) x.2.2.1 ∧ ((fun n => (Lit.int .i64 n).wf = true) x.2.2.2.1 ∧ ((fun n => (Lit.int .i64 n).wf = true) x.2.2.2.2.1 ∧ (fun _ => True) x.2.2.2.2.2)))))
theorem opT49 : Opn Try.prog 49 (Kd.pair (Kd.int .i64) (Kd.pair (Kd.int .i64) (Kd.pair (Kd.int .i64) (Kd.pair (Kd.int .i64) (Kd.pair (Kd.int .i64) Kd.bool))))) IT49 := op_struct0 Try.underlying49 (by kernel_rfl) (opF_cons (op_int Try.underlying3 (by kernel_rfl)) rfl (opF_cons (op_int Try.underlying3 (by kernel_rfl)) rfl (opF_cons (op_int Try.underlying3 (by kernel_rfl)) rfl (opF_cons (op_int Try.underlying3 (by kernel_rfl)) rfl (opF_cons (op_int Try.underlying3 (by kernel_rfl)) rfl (opF_one (op_bool Try.underlying4 (by kernel_rfl)) rfl))))))
theorem opS49 : Opn Try.prog 49 QLN.k49 (fun x => IT49 (x.f0, x.f1, x.f2, x.f3, x.f4, x.f5)) := op_struct (d := (Kd.pair (Kd.int .i64) (Kd.pair (Kd.int .i64) (Kd.pair (Kd.int .i64) (Kd.pair (Kd.int .i64) (Kd.pair (Kd.int .i64) Kd.bool)))))) (g := fun x : QLN.S49 => (x.f0, x.f1, x.f2, x.f3, x.f4, x.f5)) (fun a => ⟨a.1, a.2.1, a.2.2.1, a.2.2.2.1, a.2.2.2.2.1, a.2.2.2.2.2⟩) Try.underlying49 (by kernel_rfl) (opF_cons (op_int Try.underlying3 (by kernel_rfl)) rfl (opF_cons (op_int Try.underlying3 (by kernel_rfl)) rfl (opF_cons (op_int Try.underlying3 (by kernel_rfl)) rfl (opF_cons (op_int Try.underlying3 (by kernel_rfl)) rfl (opF_cons (op_int Try.underlying3 (by kernel_rfl)) rfl (opF_one (op_bool Try.underlying4 (by kernel_rfl)) rfl)))))) (fun _ => rfl)
def I22 (l : List (QLN.S49)) : Prop := l.length ≤ maxLen ∧ l.length * 48 ≤ 140737488351232 ∧ ∀ x ∈ l, (fun x : QLN.S49 => IT49 (x.f0, x.f1, x.f2, x.f3, x.f4, x.f5)) x
theorem op22 : Opn Try.prog 22 (Kd.slice 49 QLN.k49) I22 := op_slice (B := 48) Try.underlying22 (by kernel_rfl) (opS49) (by kernel_rfl)
def I23 (l : List (Int)) : Prop := l.length ≤ maxLen ∧ l.length * 8 ≤ 140737488351232 ∧ ∀ x ∈ l, (fun n => (Lit.int .i64 n).wf = true) x
theorem op23 : Opn Try.prog 23 (Kd.slice 3 (Kd.int .i64)) I23 := op_slice (B := 8) Try.underlying23 (by kernel_rfl) (op_int Try.underlying3 (by kernel_rfl)) (by kernel_rfl)
def IT25 (x : (List (Int)) × (Int)) : Prop := (I23 x.1 ∧ (fun n => (Lit.int .i64 n).wf = true) x.2)
theorem opT25 : Opn Try.prog 25 (Kd.pair (Kd.slice 3 (Kd.int .i64)) (Kd.int .i64)) IT25 := op_struct0 Try.underlying25 (by kernel_rfl) (opF_cons (op23) rfl (opF_one (op_int Try.underlying3 (by kernel_rfl)) rfl))
set_option maxRecDepth 100000 in
theorem lifted (os : Os) (started : os.Started) (H : Type) (enc : TypeId × Value → H) :
    ReturnsInHanded {} Try.checked os 3 .any (Rows.linesBestOfAllSpec.pre6 enc Try.prog Try.f3 Rows.linesBestOfAllRow.domain false) (Rows.linesBestOfAllSpec.post enc Try.prog Try.f3 false true false false) := by
  refine returnsInHanded_of_change_sized (C := Try.checked) own started (by kernel_rfl) Try.func3
    (ChangeSpec.witness6 (enc := enc) (C := Try.checked) false ⟨#[], #[.slice none 0 0, .agg #[.slice none 0 0, .int .i64 0]], []⟩ 8 (by kernel_rfl) (by kernel_rfl) (by kernel_rfl) (by kernel_rfl)) ?_
  intro W base args ds gs before hval0 hW hcnd hsz0 _
  have hsz : (DataW.weightsEach Try.prog (Try.f3.params.toList ++ Rows.linesBestOfAllSpec.plain.varTypes Try.prog) (ds ++ gs)).all (· ≤ reachBytes) = true := hsz0
  have hval : ∀ (j : Nat) t v, Try.f3.params[j]? = some t → args[j]? = some v → Value.okWide Try.prog W .any base t v := hval0
  have hW' := hW
  obtain ⟨p, q, hA0, hV, rfl, hfz, hnd⟩ := hW
  have hA : DataW.TrodAll enc Try.prog W 0 (fun _ => true) true Try.f3.params.toList args.toList ds p := hA0
  rw [Try.params3] at hA hval hsz
  obtain ⟨v0, vs0, d0, ds0, p0, q0, hargs, rfl, rfl, h0, r0⟩ := trodAll_cons hA
  obtain ⟨v1, vs1, d1, ds1, p1, q1, rfl, rfl, rfl, h1, r1⟩ := trodAll_cons r0
  obtain ⟨rfl, rfl, rfl⟩ := trodAll_nil r1
  obtain rfl : args = #[v0, v1] := by cases args; simp_all
  obtain ⟨rfl, rfl⟩ := trodVars_none hV
  obtain ⟨l0, hx0, i0⟩ := arg op22 hsz (j := 0) rfl rfl h0
  obtain ⟨A0, n0, c0, rfl⟩ := okWide_slice Try.underlying22 (hval 0 22 v0 rfl rfl)
  obtain ⟨rfl, hc0, hr0⟩ := slice_form hx0
  have lt0 := arg_lt h0
  obtain ⟨x1, hx1, J1⟩ := arg opT25 hsz (j := 1) rfl rfl h1
  obtain ⟨cs1, rfl⟩ := agg_form Try.underlying25 (hval 1 25 v1 rfl rfl)
  have lt1 := arg_lt h1
  obtain ⟨z1_0, y1_0, e1_0, hz1_0, hy1_0⟩ := hx1
  obtain ⟨A1_0, c1_0, rfl, hc1_0, hr1_0⟩ := hz1_0
  replace hy1_0 : _ = [Value.int .i64 x1.2] := hy1_0
  rw [hy1_0] at e1_0
  obtain rfl := agg_arr e1_0
  clear hA0 hval0 hsz0 hsz
  refine (HandLN.bestLaw A0 c0 l0 A1_0 c1_0 x1.1 x1.2 W hr0 hc0 hr1_0 hc1_0).mono fun e W' ⟨he, bel⟩ => ?_
  subst he
  exact ⟨_, rfl, _, _, _, [], _, [], hW', trodAll_mk1 (shut_bool Try.underlying4 _), (trodAll_cons_mk (Below.trod laidOut (by kernel_rfl) (of_decide_eq_true (by kernel_rfl)) h0 bel lt0) (trodAll_cons_mk (Below.trod laidOut (by kernel_rfl) (of_decide_eq_true (by kernel_rfl)) h1 bel lt1) trodAll_mk0)), rfl, bel.frame _, fun h => by cases h⟩
theorem over : Rows.LinesBestOfAllSaid :=
  OpenClaim.holds_of_wide 3 Try.f3 rfl rfl rfl rfl rfl rfl rfl ⟨rfl, rfl, rfl, rfl, rfl⟩ rfl rfl rfl rfl rfl (by kernel_rfl) Try.func3 (by kernel_rfl)
    (of_decide_eq_true (by kernel_rfl)) (by unfold Func.isWrapper; first | (rw [if_pos (by decide +kernel)]; kernel_rfl) | (rw [if_neg (by decide +kernel)]; exact ⟨rfl, rfl⟩))
    (fun os started H enc _ => lifted os started H enc)
#print axioms over
end Go.Proofs.Ythapclmfkjldaaa.linesBestOfAll
namespace Go.Proofs.Ythapclmfkjldaaa
/-- The row, under a short name, for the claim. -/
theorem linesBestOfAll_holds : Rows.LinesBestOfAllSaid := linesBestOfAll.over
end Go.Proofs.Ythapclmfkjldaaa
