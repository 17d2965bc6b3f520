/- Proved: the row of chancerylaw3.ShapeCorners: for every input that the form lets in the call returns true and leaves its arguments as they were. The row's listed tables hold what the program's own text lays in them (the given tie). No condition of our own. -/
import Derived.Test.YtmheeekbbhkmkaaDoorCards
import Derived.Test.YtmheeekbbhkmkaaDoorTie
import Derived.Test.YtmheeekbbhkmkaaDoorQSCx5
import Derived.Test.YtmheeekbbhkmkaaDoorPureShapeCorners
import Derived.Test.YtmheeekbbhkmkaaDoorOpens
import Derived.WalkKit
import Derived.ProofKit
import Derived.OpenShut
import Derived.ShutString
import Derived.ChangeOld
import Derived.Below
import Derived.SizedLaws
import Derived.LaidMore
import Derived.Stop.Joined
import Derived.SevenTiedAt
namespace Go.Proofs.YtmheeekbbhkmkaaDoor.shapeCorners
open Go.ChangeShapes Go.WideShapes Go.ChangeAt Go.RowKit Go.Proofs.YtmheeekbbhkmkaaDoor.Opens Go.Proofs.YtmheeekbbhkmkaaDoorW.PrintWords Go.Proofs.YtmheeekbbhkmkaaDoor.HandSH
open Go.ChangeMaps (open_string shut_string)
set_option linter.unusedVariables false
theorem own : ownKnob Tryd.prog.godebug = none := by kernel_rfl
theorem laidOut : laidOutB Tryd.prog = true := by kernel_rfl
def IT45 (x : (Int) × (Int) × (Int) × (Int) × (Int) × (Int) × (Int) × (Int) × (Int) × (Int) × (ByteArray) × (ByteArray)) : Prop := ((fun n => (Lit.int .i64 n).wf = true) x.1 ∧ ((fun n => (Lit.int .i64 n).wf = true) x.2.1 ∧ ((fun n => (Lit.int .i64 n).wf = true) x.2.2.1 ∧ ((fun n => (Lit.int .i64 n).wf = true) x.2.2.2.1 ∧ ((fun n => (Lit.int .i64 n).wf = true) x.2.2.2.2.1 ∧ ((fun n => (Lit.int .i64 n).wf = true) x.2.2.2.2.2.1 ∧ ((fun n => (Lit.int .i64 n).wf = true) x.2.2.2.2.2.2.1 ∧ ((fun n => (Lit.int .i64 n).wf = true) x.2.2.2.2.2.2.2.1 ∧ ((fun n => (Lit.int .i64 n).wf = true) x.2.2.2.2.2.2.2.2.1 ∧ ((fun n => (Lit.int .i64 n).wf = true) x.2.2.2.2.2.2.2.2.2.1 ∧ ((fun s => s.size ≤ 140737488351232) x.2.2.2.2.2.2.2.2.2.2.1 ∧ (fun s => s.size ≤ 140737488351232) x.2.2.2.2.2.2.2.2.2.2.2)))))))))))
theorem opT45 : Opn Tryd.prog 45 (Kd.pair (Kd.int .i64) (Kd.pair (Kd.int .i64) (Kd.pair (Kd.int .i64) (Kd.pair (Kd.int .i64) (Kd.pair (Kd.int .i64) (Kd.pair (Kd.int .i64) (Kd.pair (Kd.int .i64) (Kd.pair (Kd.int .i64) (Kd.pair (Kd.int .i64) (Kd.pair (Kd.int .i64) (Kd.pair Kd.string Kd.string))))))))))) IT45 := op_struct0 Tryd.underlying45 (by kernel_rfl) (opF_cons (op_int Tryd.underlying3 (by kernel_rfl)) rfl (opF_cons (op_int Tryd.underlying3 (by kernel_rfl)) rfl (opF_cons (op_int Tryd.underlying3 (by kernel_rfl)) rfl (opF_cons (op_int Tryd.underlying3 (by kernel_rfl)) rfl (opF_cons (op_int Tryd.underlying3 (by kernel_rfl)) rfl (opF_cons (op_int Tryd.underlying3 (by kernel_rfl)) rfl (opF_cons (op_int Tryd.underlying3 (by kernel_rfl)) rfl (opF_cons (op_int Tryd.underlying3 (by kernel_rfl)) rfl (opF_cons (op_int Tryd.underlying3 (by kernel_rfl)) rfl (opF_cons (op_int Tryd.underlying3 (by kernel_rfl)) rfl (opF_cons (op_string Tryd.underlying9 (by kernel_rfl)) rfl (opF_one (op_string Tryd.underlying9 (by kernel_rfl)) rfl))))))))))))
theorem opS45 : Opn Tryd.prog 45 QSH.k45 (fun x => IT45 (x.f0, x.f1, x.f2, x.f3, x.f4, x.f5, x.f6, x.f7, x.f8, x.f9, x.f10, x.f11)) := op_struct (d := (Kd.pair (Kd.int .i64) (Kd.pair (Kd.int .i64) (Kd.pair (Kd.int .i64) (Kd.pair (Kd.int .i64) (Kd.pair (Kd.int .i64) (Kd.pair (Kd.int .i64) (Kd.pair (Kd.int .i64) (Kd.pair (Kd.int .i64) (Kd.pair (Kd.int .i64) (Kd.pair (Kd.int .i64) (Kd.pair Kd.string Kd.string)))))))))))) (g := fun x : QSH.S45 => (x.f0, x.f1, x.f2, x.f3, x.f4, x.f5, x.f6, x.f7, x.f8, x.f9, x.f10, x.f11)) (fun a => ⟨a.1, a.2.1, a.2.2.1, a.2.2.2.1, a.2.2.2.2.1, a.2.2.2.2.2.1, a.2.2.2.2.2.2.1, a.2.2.2.2.2.2.2.1, a.2.2.2.2.2.2.2.2.1, a.2.2.2.2.2.2.2.2.2.1, a.2.2.2.2.2.2.2.2.2.2.1, a.2.2.2.2.2.2.2.2.2.2.2⟩) Tryd.underlying45 (by kernel_rfl) (opF_cons (op_int Tryd.underlying3 (by kernel_rfl)) rfl (opF_cons (op_int Tryd.underlying3 (by kernel_rfl)) rfl (opF_cons (op_int Tryd.underlying3 (by kernel_rfl)) rfl (opF_cons (op_int Tryd.underlying3 (by kernel_rfl)) rfl (opF_cons (op_int Tryd.underlying3 (by kernel_rfl)) rfl (opF_cons (op_int Tryd.underlying3 (by kernel_rfl)) rfl (opF_cons (op_int Tryd.underlying3 (by kernel_rfl)) rfl (opF_cons (op_int Tryd.underlying3 (by kernel_rfl)) rfl (opF_cons (op_int Tryd.underlying3 (by kernel_rfl)) rfl (opF_cons (op_int Tryd.underlying3 (by kernel_rfl)) rfl (opF_cons (op_string Tryd.underlying9 (by kernel_rfl)) rfl (opF_one (op_string Tryd.underlying9 (by kernel_rfl)) rfl)))))))))))) (fun _ => rfl)
def I22 (l : List (QSH.S45)) : Prop := l.length ≤ maxLen ∧ l.length * 112 ≤ 140737488351232 ∧ ∀ x ∈ l, (fun x : QSH.S45 => IT45 (x.f0, x.f1, x.f2, x.f3, x.f4, x.f5, x.f6, x.f7, x.f8, x.f9, x.f10, x.f11)) x
theorem op22 : Opn Tryd.prog 22 (Kd.slice 45 QSH.k45) I22 := op_slice (B := 112) Tryd.underlying22 (by kernel_rfl) (opS45) (by kernel_rfl)
theorem g0 : Tryd.prog.globalNamed "chancery/chanceryref3.sines" = some 0 := by kernel_rfl
theorem t0 : (Tryd.prog.globals[0]?).map (·.type) = some 62 := by kernel_rfl
theorem g1 : Tryd.prog.globalNamed "chancery/shape.quarter" = some 1 := by kernel_rfl
theorem t1 : (Tryd.prog.globals[1]?).map (·.type) = some 62 := by kernel_rfl
theorem door_met (os : Os) (args : Array Value) : laidMetH Tryd.prog Rows.shapeCornersRow.laid ((World.doorLaid Tryd.prog 19 os).forCall (fun _ _ => 0) ⟨#[], args, []⟩).memory :=
  laidMetH_of_parts3 (fuel := 8) (laidMet_of_run' 8 (by kernel_rfl) (by kernel_rfl)) (by kernel_rfl) (by kernel_rfl)
/-- What the row's list gives the walks. -/
theorem of_laid {W : World} (h : laidMetH Tryd.prog Rows.shapeCornersRow.laid W) : LaidW W := by
  rw [MakeChecks.laidMetH_plain _ _ _ (by kernel_rfl)] at h
  obtain ⟨ps, ⟨ga, ta, csa, fa, pa, qa, hga, hta, hva, hda, ⟨gb, tb, csb, fb, pb, qb, hgb, htb, hvb, hdb, _, _⟩, _⟩, _, _⟩ := h
  obtain rfl := Option.some.inj (g0.symm.trans hga)
  obtain rfl := Option.some.inj (g1.symm.trans hgb)
  obtain rfl := Option.some.inj (t0.symm.trans hta)
  obtain rfl := Option.some.inj (t1.symm.trans htb)
  have ea : Lib.TabIs Tryd.prog W "chancery/chanceryref3.sines" .i64 sinesL := by
    unfold Lib.TabIs; rw [hva, ← Lib.cells_of_tab (zs := sinesL) Tryd.underlying62 Tryd.underlying3 (by kernel_rfl) (by kernel_rfl) hda]
  have eb : Lib.TabIs Tryd.prog W "chancery/shape.quarter" .i64 sinesL := by
    unfold Lib.TabIs; rw [hvb, ← Lib.cells_of_tab (zs := sinesL) Tryd.underlying62 Tryd.underlying3 (by kernel_rfl) (by kernel_rfl) hdb]
  exact ⟨fun i hi => eb.cell g1 i hi, fun i hi => ea.cell g0 i hi⟩
set_option maxRecDepth 100000 in
theorem lifted (os : Os) (started : os.Started) (H : Type) (enc : TypeId × Value → H) :
    ReturnsInHanded {} Tryd.checked os 3 .any (fun w args => (Rows.shapeCornersSpec.pre enc Tryd.prog Tryd.f3 [] false w args ∧ laidMetH Tryd.prog Rows.shapeCornersRow.laid w) ∧ sizedMet enc Tryd.prog Tryd.f3 (OpenSpec.ofChange Rows.shapeCornersSpec) false w args) (Rows.shapeCornersSpec.post enc Tryd.prog Tryd.f3 false true false false) := by
  refine returnsInHanded_of_change_and (C := Tryd.checked) (X := fun w _ => laidMetH Tryd.prog Rows.shapeCornersRow.laid w) (fun _ _ _ hh h => h.of_heap hh) own started (by kernel_rfl) Tryd.func3
    (ChangeSpec.witness_shaped (enc := enc) (C := Tryd.checked) (os := os) (X := fun w _ => laidMetH Tryd.prog Rows.shapeCornersRow.laid w) false (World.doorLaid Tryd.prog 19 os) #[.slice none 0 0, .int .i64 0] 8 rfl (World.shaped_of_RefB (by kernel_rfl) (by kernel_rfl)) (by kernel_rfl) (by kernel_rfl) (by kernel_rfl) (door_met os _)) ?_
  intro W base args ds gs before hval0 hW hcnd hsz0 hL _
  have hsz : (DataW.weightsEach Tryd.prog (Tryd.f3.params.toList ++ Rows.shapeCornersSpec.plain.varTypes Tryd.prog) (ds ++ gs)).all (· ≤ reachBytes) = true := hsz0
  have hval : ∀ (j : Nat) t v, Tryd.f3.params[j]? = some t → args[j]? = some v → Value.okWide Tryd.prog W .any base t v := hval0
  have hW' := hW
  obtain ⟨p, q, hA0, hV, rfl, hfz, hnd⟩ := hW
  have hA : DataW.TrodAll enc Tryd.prog W 0 (fun _ => true) true Tryd.f3.params.toList args.toList ds p := hA0
  rw [Tryd.params3] at hA hval hsz
  obtain ⟨v0, vs0, d0, ds0, p0, q0, hargs, rfl, rfl, h0, r0⟩ := trodAll_cons hA
  obtain ⟨v1, vs1, d1, ds1, p1, q1, rfl, rfl, rfl, h1, r1⟩ := trodAll_cons r0
  obtain ⟨rfl, rfl, rfl⟩ := trodAll_nil r1
  obtain rfl : args = #[v0, v1] := by cases args; simp_all
  obtain ⟨rfl, rfl⟩ := trodVars_none hV
  obtain ⟨l0, hx0, i0⟩ := arg op22 hsz (j := 0) rfl rfl h0
  obtain ⟨A0, n0, c0, rfl⟩ := okWide_slice Tryd.underlying22 (hval 0 22 v0 rfl rfl)
  obtain ⟨rfl, hc0, hr0⟩ := slice_form hx0
  have lt0 := arg_lt h0
  obtain ⟨a1, rfl, rfl, rfl, w1⟩ := open_int Tryd.underlying3 (hval 1 3 v1 rfl rfl) h1
  have hLW := of_laid hL
  clear hA0 hval0 hsz0 hsz hL
  obtain ⟨k, hk⟩ := Pure.ShapeCorners l0 a1 
  refine (QSC.chancerylaw3_ShapeCorners.calls k A0 c0 l0 a1 true W hr0 hc0 hk hLW).mono fun e W' ⟨he, bel⟩ => ?_
  subst he
  exact ⟨_, rfl, _, _, _, [], _, [], hW', trodAll_mk1 (shut_bool Tryd.underlying4 _), (trodAll_cons_mk (Below.trod laidOut (by kernel_rfl) (of_decide_eq_true (by kernel_rfl)) h0 bel lt0) (trodAll_cons_mk (shut_int Tryd.underlying3 w1) trodAll_mk0)), rfl, bel.frame _, fun h => by cases h⟩
theorem over : Rows.ShapeCornersSaid :=
  OpenClaim.holds_of_wide 3 Tryd.f3 rfl rfl rfl rfl rfl rfl rfl ⟨rfl, rfl, rfl, rfl, rfl⟩ rfl rfl rfl rfl rfl (by kernel_rfl) Tryd.func3 (by kernel_rfl)
    (of_decide_eq_true (by kernel_rfl)) (by unfold Func.isWrapper; first | (rw [if_pos (by decide +kernel)]; kernel_rfl) | (rw [if_neg (by decide +kernel)]; exact ⟨rfl, rfl⟩))
    (fun os started H enc _ => lifted os started H enc)
theorem plain (f : FuncId) (fn : Func) (hf : Tryd.pinned.checked.prog.funcNamed "chancery/chancerylaw3.ShapeCorners" = some f) (hfn : Tryd.pinned.checked.prog.funcs[f]? = some fn) :
    false = Tryd.pinned.checked.prog.looks [] ∧ ∀ (j : Nat) t, fn.params[j]? = some t → Tryd.pinned.checked.prog.wantsStandIn t = false := by
  obtain rfl : f = 3 := Option.some.inj ((show Tryd.prog.funcNamed "chancery/chancerylaw3.ShapeCorners" = some 3 by kernel_rfl).symm.trans hf) |>.symm
  obtain rfl : fn = Tryd.f3 := (Option.some.inj (Tryd.func3.symm.trans hfn)).symm
  refine ⟨by kernel_rfl, fun j t ht => ?_⟩
  rw [Tryd.params3] at ht
  have hm : t ∈ [22, 3] := by simpa using Array.mem_of_getElem? ht
  have hall : ([22, 3].all fun u => !Tryd.prog.wantsStandIn u) = true := by kernel_rfl
  exact (show Tryd.prog.wantsStandIn t = false by simpa using List.all_eq_true.1 hall t hm)
theorem card : Rows.ShapeCornersCardSaid :=
  Claim7.holds_tied_plain_at .later [] _ _ _ _ over (fun _ h => by cases h) (by kernel_rfl) (fun _ h => by cases h) shapeCorners_row_tie rfl ⟨rfl, rfl⟩ (by kernel_rfl) rfl plain (by kernel_rfl)
#print axioms card
end Go.Proofs.YtmheeekbbhkmkaaDoor.shapeCorners
namespace Go.Proofs.YtmheeekbbhkmkaaDoor
/-- The card, under a short name, for the claim. -/
theorem shapeCorners_holds : Rows.ShapeCornersCardSaid := shapeCorners.card
end Go.Proofs.YtmheeekbbhkmkaaDoor
