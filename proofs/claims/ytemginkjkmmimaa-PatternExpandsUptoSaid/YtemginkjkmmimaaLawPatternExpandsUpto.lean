/- Proved: the second form's row of chancerylaw3.PatternExpands: for every input that the form lets in and whose bulk is at most 1048576 the call returns true and leaves its arguments as they were. No condition of our own. -/
import Derived.Test.YtemginkjkmmimaaRows
import Derived.Test.YtemginkjkmmimaaQEXx1
import Derived.Test.YtemginkjkmmimaaPurePatternExpands
import Derived.Test.YtemginkjkmmimaaOpens
import Derived.Test.YtemginkjkmmimaaBulk
import Derived.WalkKit
import Derived.ProofKit
import Derived.OpenShut
import Derived.ShutString
import Derived.ChangeOld
import Derived.Below
import Derived.SizedLaws
import Derived.JoinedCond
import Derived.Deep.CondSized
namespace Go.Proofs.Ytemginkjkmmimaa.patternExpands
open Go.ChangeShapes Go.WideShapes Go.ChangeAt Go.RowKit Go.Proofs.Ytemginkjkmmimaa.Opens Go.Proofs.YtemginkjkmmimaaW.PrintWords
open Go.ChangeMaps (open_string shut_string)
set_option linter.unusedVariables false
theorem own : ownKnob Try.prog.godebug = none := by kernel_rfl
theorem laidOut : laidOutB Try.prog = true := by kernel_rfl
def I44 (l : List (Int)) : Prop := l.length ≤ maxLen ∧ l.length * 8 ≤ 140737488351232 ∧ ∀ x ∈ l, (fun n => (Lit.int .i64 n).wf = true) x
theorem op44 : Opn Try.prog 44 (Kd.slice 3 (Kd.int .i64)) I44 := op_slice (B := 8) Try.underlying44 (by kernel_rfl) (op_int Try.underlying3 (by kernel_rfl)) (by kernel_rfl)
def IT51 (x : (Int) × (Int)) : Prop := ((fun n => (Lit.int .i64 n).wf = true) x.1 ∧ (fun n => (Lit.int .i64 n).wf = true) x.2)
theorem opT51 : Opn Try.prog 51 (Kd.pair (Kd.int .i64) (Kd.int .i64)) IT51 := op_struct0 Try.underlying51 (by kernel_rfl) (opF_cons (op_int Try.underlying3 (by kernel_rfl)) rfl (opF_one (op_int Try.underlying3 (by kernel_rfl)) rfl))
theorem opS51 : Opn Try.prog 51 PPatternExpands.k51 (fun x => IT51 (x.f0, x.f1)) := op_struct (d := (Kd.pair (Kd.int .i64) (Kd.int .i64))) (g := fun x : PPatternExpands.S51 => (x.f0, x.f1)) (fun a => ⟨a.1, a.2⟩) Try.underlying51 (by kernel_rfl) (opF_cons (op_int Try.underlying3 (by kernel_rfl)) rfl (opF_one (op_int Try.underlying3 (by kernel_rfl)) rfl)) (fun _ => rfl)
def I45 (l : List (PPatternExpands.S51)) : Prop := l.length ≤ maxLen ∧ l.length * 16 ≤ 140737488351232 ∧ ∀ x ∈ l, (fun x : PPatternExpands.S51 => IT51 (x.f0, x.f1)) x
theorem op45 : Opn Try.prog 45 (Kd.slice 51 PPatternExpands.k51) I45 := op_slice (B := 16) Try.underlying45 (by kernel_rfl) (opS51) (by kernel_rfl)
def IT47 (x : (Int) × (Int) × (List (PPatternExpands.S51))) : Prop := ((fun n => (Lit.int .i64 n).wf = true) x.1 ∧ ((fun n => (Lit.int .i64 n).wf = true) x.2.1 ∧ I45 x.2.2))
theorem opT47 : Opn Try.prog 47 (Kd.pair (Kd.int .i64) (Kd.pair (Kd.int .i64) (Kd.slice 51 PPatternExpands.k51))) IT47 := op_struct0 Try.underlying47 (by kernel_rfl) (opF_cons (op_int Try.underlying3 (by kernel_rfl)) rfl (opF_cons (op_int Try.underlying3 (by kernel_rfl)) rfl (opF_one (op45) rfl)))
theorem part_bound {H : Type} {l : List (DataW H)} (hk : Rows.uptoSmall H l = true) (d : DataW H) (h : d ∈ l) : Rows.uptoBulk d ≤ 1048576 :=
  Nat.le_trans (bulks.part_le h) (bulks.bound hk)
theorem str_le {H : Type} {s : ByteArray} (hk : Rows.uptoBulk (DataW.lit (H := H) (.string s.data.toList)) ≤ 1048576) : s.size ≤ 1048576 := by
  rw [bulks.string_eq, Array.length_toList] at hk
  have e : s.data.size = s.size := rfl
  omega
theorem len_le {H : Type} {enc : TypeId × Value → H} {W : World} {A : Option Addr} {n c : Nat} {t e : TypeId} {d : DataW H} {p : List MemPlace} (ht : Try.prog.underlying t = some (.slice e)) (h : DataW.Trod enc Try.prog W 0 (fun _ => true) true t (.slice A n c) d p) (hk : Rows.uptoBulk d ≤ 1048576) : n ≤ 1048576 := by
  obtain ⟨fuel, hf⟩ := h
  rcases DataW.trod_slice ht hf with ⟨e1, _⟩ | ⟨a, len, cap, elems, rest, _, _, e1, e2, _, _, _, hl, _⟩
  · have e2 : [Value.slice A n c] = [Value.slice none 0 0] := e1
    injection e2 with e3 _
    injection e3 with _ e4 _
    omega
  · have e3 : [Value.slice A n c] = [Value.slice (some a) len cap] := e1
    injection e3 with e4 _
    injection e4 with _ e5 _
    have e6 := congrArg Prod.fst e2
    rw [show d = DataW.slice (elems.map (·.1)) (rest.map (·.1)) from e6] at hk
    have := bulks.slice_le (elems.map (·.1)) (rest.map (·.1))
    rw [List.length_map] at this
    omega
set_option maxRecDepth 100000 in
theorem contract (H : Type) (enc : TypeId × Value → H) (W : World) (base : Nat) (args : Array Value) (ds gs : List (DataW H)) (before : List MemPlace)
    (hval0 : ∀ (j : Nat) t v, Try.f4.params[j]? = some t → args[j]? = some v → Value.okWide Try.prog W .any base t v)
    (hW : DataW.Whole enc Try.prog Try.f4.params.toList Rows.patternExpandsSpec.vars false W args.toList ds gs before) (hk0 : Rows.uptoSmall H (ds ++ gs) = true)
    (hsz0 : (DataW.weightsEach Try.prog (Try.f4.params.toList ++ Rows.patternExpandsSpec.plain.varTypes Try.prog) (ds ++ gs)).all (· ≤ reachBytes) = true) :
    Calls Try.prog 4 args W fun e W' => ∃ v, e = .returned v ∧ Rows.patternExpandsSpec.post enc Try.prog Try.f4 false true false false W args v W' := by
  have hsz : (DataW.weightsEach Try.prog (Try.f4.params.toList ++ Rows.patternExpandsSpec.plain.varTypes Try.prog) (ds ++ gs)).all (· ≤ reachBytes) = true := hsz0
  have hval : ∀ (j : Nat) t v, Try.f4.params[j]? = some t → args[j]? = some v → Value.okWide Try.prog W .any base t v := hval0
  have hW' := hW
  obtain ⟨p, q, hA0, hV, rfl, hfz, hnd⟩ := hW
  have hA : DataW.TrodAll enc Try.prog W 0 (fun _ => true) true Try.f4.params.toList args.toList ds p := hA0
  rw [Try.params4] at hA hval hsz
  obtain ⟨v0, vs0, d0, ds0, p0, q0, hargs, rfl, rfl, h0, r0⟩ := trodAll_cons hA
  obtain ⟨v1, vs1, d1, ds1, p1, q1, rfl, rfl, rfl, h1, r1⟩ := trodAll_cons r0
  obtain ⟨v2, vs2, d2, ds2, p2, q2, rfl, rfl, rfl, h2, r2⟩ := trodAll_cons r1
  obtain ⟨rfl, rfl, rfl⟩ := trodAll_nil r2
  obtain rfl : args = #[v0, v1, v2] := by cases args; simp_all
  obtain ⟨rfl, rfl⟩ := trodVars_none hV
  obtain ⟨a0, rfl, rfl, rfl, z0⟩ := open_string Try.underlying9 (hval 0 9 v0 rfl rfl) h0
  have y0 : a0.size ≤ 140737488351232 := by
    have z := sized_string hsz (j := 0) (t := 9) rfl rfl
    rw [Array.length_toList] at z
    exact z
  obtain ⟨l1, hx1, i1⟩ := arg op44 hsz (j := 1) rfl rfl h1
  obtain ⟨A1, n1, c1, rfl⟩ := okWide_slice Try.underlying44 (hval 1 44 v1 rfl rfl)
  obtain ⟨rfl, hc1, hr1⟩ := slice_form hx1
  have lt1 := arg_lt h1
  obtain ⟨x2, hx2, J2⟩ := arg opT47 hsz (j := 2) rfl rfl h2
  obtain ⟨cs2, rfl⟩ := agg_form Try.underlying47 (hval 2 47 v2 rfl rfl)
  have lt2 := arg_lt h2
  obtain ⟨z2_0, y2_0, e2_0, hz2_0, hy2_0⟩ := hx2
  replace hz2_0 : z2_0 = [Value.int .i64 x2.1] := hz2_0
  obtain ⟨z2_1, y2_1, e2_1, hz2_1, hy2_1⟩ := hy2_0
  replace hz2_1 : z2_1 = [Value.int .i64 x2.2.1] := hz2_1
  obtain ⟨A2_2, c2_2, q2_2, hc2_2, hr2_2⟩ := hy2_1
  rw [q2_2] at e2_1
  rw [hz2_1] at e2_1
  rw [e2_1] at e2_0
  rw [hz2_0] at e2_0
  obtain rfl := agg_arr e2_0
  have hs0 : a0.size ≤ 1048576 := str_le (part_bound hk0 _ (by simp))
  have hl1 : l1.length ≤ 1048576 := len_le (t := 44) Try.underlying44 h1 (part_bound hk0 _ (by simp))
  clear hA0 hval0 hsz0 hsz hk0
  obtain ⟨k, hk⟩ := Pure.PatternExpands a0 l1 x2.1 x2.2.1 x2.2.2 hs0 hl1 J2.2.2.2.1
  refine (QEX.chancerylaw3_PatternExpands.calls k a0 A1 c1 l1 x2.1 x2.2.1 A2_2 c2_2 x2.2.2 true W hr1 hc1 hr2_2 hc2_2 hk).mono fun e W' ⟨he, bel⟩ => ?_
  subst he
  exact ⟨_, rfl, _, _, _, [], _, [], hW', trodAll_mk1 (shut_bool Try.underlying4 _), (trodAll_cons_mk (shut_string Try.underlying9 z0) (trodAll_cons_mk (Below.trod laidOut (by kernel_rfl) (of_decide_eq_true (by kernel_rfl)) h1 bel lt1) (trodAll_cons_mk (Below.trod laidOut (by kernel_rfl) (of_decide_eq_true (by kernel_rfl)) h2 bel lt2) trodAll_mk0))), rfl, bel.frame _, fun h => by cases h⟩
set_option maxRecDepth 100000 in
theorem lifted (os : Os) (started : os.Started) (H : Type) (enc : TypeId × Value → H) (F : Stop.Interp) :
    ReturnsInHanded {} Try.checked os 4 .any ((Rows.OpenSpec.upto Rows.patternExpandsSpec).pre6 enc Try.prog Try.f4 Rows.patternExpandsUptoRow.domain false) (((Rows.OpenSpec.upto Rows.patternExpandsSpec).at F).post enc Try.prog Try.f4 false true false false) := by
  refine returnsInHanded_of_cond_sized (C := Try.checked) (s := Rows.OpenSpec.upto Rows.patternExpandsSpec) (k := Rows.uptoSmall) rfl own started (by kernel_rfl) Try.func4
    (OpenSpec.witness (enc := enc) (C := Try.checked) (s := Rows.OpenSpec.upto Rows.patternExpandsSpec) (k := Rows.uptoSmall) rfl false ⟨#[], #[.string ByteArray.empty, .slice none 0 0, .agg #[.int .i64 0, .int .i64 0, .slice none 0 0]], []⟩ 8 (by kernel_rfl) (by kernel_rfl) (by kernel_rfl)
      (x := ([.lit (.string []), .nil, .agg [.lit (.int .i64 0), .lit (.int .i64 0), .nil]], [], [])) (by kernel_rfl) rfl (by kernel_rfl)) ?_
  intro W base args ds gs before hval hW _ hk hsz _
  exact contract H enc W base args ds gs before hval hW hk hsz
theorem over : Rows.PatternExpandsUptoSaid :=
  OpenClaim.holds_of_cond 4 Try.f4 rfl rfl rfl rfl rfl rfl rfl ⟨rfl, rfl, rfl, rfl, rfl⟩ rfl rfl rfl rfl rfl (by kernel_rfl) Try.func4 (by kernel_rfl)
    (of_decide_eq_true (by kernel_rfl)) (by unfold Func.isWrapper; first | (rw [if_pos (by decide +kernel)]; kernel_rfl) | (rw [if_neg (by decide +kernel)]; exact ⟨rfl, rfl⟩))
    (fun os started H enc _ F => lifted os started H enc F)
#print axioms over
end Go.Proofs.Ytemginkjkmmimaa.patternExpands
namespace Go.Proofs.Ytemginkjkmmimaa
/-- The row, under a short name, for the claim. -/
theorem patternExpandsUpto_holds : Rows.PatternExpandsUptoSaid := patternExpands.over
end Go.Proofs.Ytemginkjkmmimaa
