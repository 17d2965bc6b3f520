/- Proved: the row of chancerylaw3.BalanceWidths: for every input that the form lets in the call returns true and leaves its arguments as they were. No condition of our own. -/
import Derived.Test.YtihmbddneapooaaRows
import Derived.Test.YtihmbddneapooaaQBWx5
import Derived.Test.YtihmbddneapooaaPureBalanceWidths
import Derived.Test.YtihmbddneapooaaOpens
import Derived.WalkKit
import Derived.ProofKit
import Derived.OpenShut
import Derived.ShutString
import Derived.ChangeOld
import Derived.Below
import Derived.SizedLaws
namespace Go.Proofs.Ytihmbddneapooaa.balanceWidths
open Go.ChangeShapes Go.WideShapes Go.ChangeAt Go.RowKit Go.Proofs.Ytihmbddneapooaa.Opens Go.Proofs.YtihmbddneapooaaW.PrintWords
open Go.ChangeMaps (open_string shut_string)
set_option linter.unusedVariables false
theorem own : ownKnob Try.prog.godebug = none := by kernel_rfl
theorem laidOut : laidOutB Try.prog = true := by kernel_rfl
def IT94 (x : (Int) × (Int) × (Int) × (Int)) : Prop := ((fun n => (Lit.int .i64 n).wf = true) x.1 ∧ ((fun n => (Lit.int .i64 n).wf = true) x.2.1 ∧ ((fun n => (Lit.int .i64 n).wf = true) x.2.2.1 ∧ (fun n => (Lit.int .i64 n).wf = true) x.2.2.2)))
theorem opT94 : Opn Try.prog 94 (Kd.pair (Kd.int .i64) (Kd.pair (Kd.int .i64) (Kd.pair (Kd.int .i64) (Kd.int .i64)))) IT94 := op_struct0 Try.underlying94 (by kernel_rfl) (opF_cons (op_int Try.underlying3 (by kernel_rfl)) rfl (opF_cons (op_int Try.underlying3 (by kernel_rfl)) rfl (opF_cons (op_int Try.underlying3 (by kernel_rfl)) rfl (opF_one (op_int Try.underlying3 (by kernel_rfl)) rfl))))
theorem opS94 : Opn Try.prog 94 QBA.k94 (fun x => IT94 (x.f0, x.f1, x.f2, x.f3)) := op_struct (d := (Kd.pair (Kd.int .i64) (Kd.pair (Kd.int .i64) (Kd.pair (Kd.int .i64) (Kd.int .i64))))) (g := fun x : QBA.S94 => (x.f0, x.f1, x.f2, x.f3)) (fun a => ⟨a.1, a.2.1, a.2.2.1, a.2.2.2⟩) Try.underlying94 (by kernel_rfl) (opF_cons (op_int Try.underlying3 (by kernel_rfl)) rfl (opF_cons (op_int Try.underlying3 (by kernel_rfl)) rfl (opF_cons (op_int Try.underlying3 (by kernel_rfl)) rfl (opF_one (op_int Try.underlying3 (by kernel_rfl)) rfl)))) (fun _ => rfl)
def I76 (l : List (QBA.S94)) : Prop := l.length ≤ maxLen ∧ l.length * 32 ≤ 140737488351232 ∧ ∀ x ∈ l, (fun x : QBA.S94 => IT94 (x.f0, x.f1, x.f2, x.f3)) x
theorem op76 : Opn Try.prog 76 (Kd.slice 94 QBA.k94) I76 := op_slice (B := 32) Try.underlying76 (by kernel_rfl) (opS94) (by kernel_rfl)
set_option maxRecDepth 100000 in
theorem lifted (os : Os) (started : os.Started) (H : Type) (enc : TypeId × Value → H) :
    ReturnsInHanded {} Try.checked os 11 .any (Rows.balanceWidthsSpec.pre6 enc Try.prog Try.f11 Rows.balanceWidthsRow.domain false) (Rows.balanceWidthsSpec.post enc Try.prog Try.f11 false true false false) := by
  refine returnsInHanded_of_change_sized (C := Try.checked) own started (by kernel_rfl) Try.func11
    (ChangeSpec.witness6 (enc := enc) (C := Try.checked) false ⟨#[], #[.int .i64 0, .slice none 0 0, .int .i64 0], []⟩ 8 (by kernel_rfl) (by kernel_rfl) (by kernel_rfl) (by kernel_rfl)) ?_
  intro W base args ds gs before hval0 hW hcnd hsz0 _
  have hsz : (DataW.weightsEach Try.prog (Try.f11.params.toList ++ Rows.balanceWidthsSpec.plain.varTypes Try.prog) (ds ++ gs)).all (· ≤ reachBytes) = true := hsz0
  have hval : ∀ (j : Nat) t v, Try.f11.params[j]? = some t → args[j]? = some v → Value.okWide Try.prog W .any base t v := hval0
  have hW' := hW
  obtain ⟨p, q, hA0, hV, rfl, hfz, hnd⟩ := hW
  have hA : DataW.TrodAll enc Try.prog W 0 (fun _ => true) true Try.f11.params.toList args.toList ds p := hA0
  rw [Try.params11] at hA hval hsz
  obtain ⟨v0, vs0, d0, ds0, p0, q0, hargs, rfl, rfl, h0, r0⟩ := trodAll_cons hA
  obtain ⟨v1, vs1, d1, ds1, p1, q1, rfl, rfl, rfl, h1, r1⟩ := trodAll_cons r0
  obtain ⟨v2, vs2, d2, ds2, p2, q2, rfl, rfl, rfl, h2, r2⟩ := trodAll_cons r1
  obtain ⟨rfl, rfl, rfl⟩ := trodAll_nil r2
  obtain rfl : args = #[v0, v1, v2] := by cases args; simp_all
  obtain ⟨rfl, rfl⟩ := trodVars_none hV
  obtain ⟨a0, rfl, rfl, rfl, w0⟩ := open_int Try.underlying3 (hval 0 3 v0 rfl rfl) h0
  obtain ⟨l1, hx1, i1⟩ := arg op76 hsz (j := 1) rfl rfl h1
  obtain ⟨A1, n1, c1, rfl⟩ := okWide_slice Try.underlying76 (hval 1 76 v1 rfl rfl)
  obtain ⟨rfl, hc1, hr1⟩ := slice_form hx1
  have lt1 := arg_lt h1
  obtain ⟨a2, rfl, rfl, rfl, w2⟩ := open_int Try.underlying3 (hval 2 3 v2 rfl rfl) h2
  clear hA0 hval0 hsz0 hsz
  obtain ⟨k, hk⟩ := Pure.BalanceWidths a0 l1 a2 
  refine (QBW.chancerylaw3_BalanceWidths.calls k a0 A1 c1 l1 a2 true W hr1 hc1 hk).mono fun e W' ⟨he, bel⟩ => ?_
  subst he
  exact ⟨_, rfl, _, _, _, [], _, [], hW', trodAll_mk1 (shut_bool Try.underlying4 _), (trodAll_cons_mk (shut_int Try.underlying3 w0) (trodAll_cons_mk (Below.trod laidOut (by kernel_rfl) (of_decide_eq_true (by kernel_rfl)) h1 bel lt1) (trodAll_cons_mk (shut_int Try.underlying3 w2) trodAll_mk0))), rfl, bel.frame _, fun h => by cases h⟩
theorem over : Rows.BalanceWidthsSaid :=
  OpenClaim.holds_of_wide 11 Try.f11 rfl rfl rfl rfl rfl rfl rfl ⟨rfl, rfl, rfl, rfl, rfl⟩ rfl rfl rfl rfl rfl (by kernel_rfl) Try.func11 (by kernel_rfl)
    (of_decide_eq_true (by kernel_rfl)) (by unfold Func.isWrapper; first | (rw [if_pos (by decide +kernel)]; kernel_rfl) | (rw [if_neg (by decide +kernel)]; exact ⟨rfl, rfl⟩))
    (fun os started H enc _ => lifted os started H enc)
#print axioms over
end Go.Proofs.Ytihmbddneapooaa.balanceWidths
namespace Go.Proofs.Ytihmbddneapooaa
/-- The row, under a short name, for the claim. -/
theorem balanceWidths_holds : Rows.BalanceWidthsSaid := balanceWidths.over
end Go.Proofs.Ytihmbddneapooaa
