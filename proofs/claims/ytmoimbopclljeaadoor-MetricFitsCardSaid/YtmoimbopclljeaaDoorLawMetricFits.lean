/- Proved: the row of chancerylaw3.MetricFits: for every input that the form lets in the call returns true and leaves its arguments as they were. The row's listed tables hold what the program's own text lays in them (the given tie). No condition of our own. -/
import Derived.Test.YtmoimbopclljeaaDoorCards
import Derived.Test.YtmoimbopclljeaaDoorTie
import Derived.Test.YtmoimbopclljeaaDoorQMFx2
import Derived.Test.YtmoimbopclljeaaDoorPureMetricFits
import Derived.Test.YtmoimbopclljeaaDoorOpens
import Derived.Test.YtmoimbopclljeaaDoorTables
import Derived.WalkKit
import Derived.ProofKit
import Derived.OpenShut
import Derived.ShutString
import Derived.ChangeOld
import Derived.Below
import Derived.SizedLaws
import Derived.LaidMore
import Derived.Stop.Joined
import Derived.SevenTiedAt
namespace Go.Proofs.YtmoimbopclljeaaDoor.metricFits
open Go.ChangeShapes Go.WideShapes Go.ChangeAt Go.RowKit Go.Proofs.YtmoimbopclljeaaDoor.Opens Go.Proofs.YtmoimbopclljeaaDoorW.PrintWords Go.Proofs.YtmoimbopclljeaaDoor.Tables Go.Proofs.YtmoimbopclljeaaDoor.HandMW
open Go.ChangeMaps (open_string shut_string)
set_option linter.unusedVariables false
theorem own : ownKnob Tryd.prog.godebug = none := by kernel_rfl
theorem laidOut : laidOutB Tryd.prog = true := by kernel_rfl
def I22 (l : List (Int)) : Prop := l.length ≤ maxLen ∧ l.length * 8 ≤ 140737488351232 ∧ ∀ x ∈ l, (fun n => (Lit.int .i64 n).wf = true) x
theorem op22 : Opn Tryd.prog 22 (Kd.slice 3 (Kd.int .i64)) I22 := op_slice (B := 8) Tryd.underlying22 (by kernel_rfl) (op_int Tryd.underlying3 (by kernel_rfl)) (by kernel_rfl)
def IT24 (x : (Int) × (Bool) × (Bool)) : Prop := ((fun n => (Lit.int .i64 n).wf = true) x.1 ∧ ((fun _ => True) x.2.1 ∧ (fun _ => True) x.2.2))
theorem opT24 : Opn Tryd.prog 24 (Kd.pair (Kd.int .i64) (Kd.pair Kd.bool Kd.bool)) IT24 := op_struct0 Tryd.underlying24 (by kernel_rfl) (opF_cons (op_int Tryd.underlying3 (by kernel_rfl)) rfl (opF_cons (op_bool Tryd.underlying4 (by kernel_rfl)) rfl (opF_one (op_bool Tryd.underlying4 (by kernel_rfl)) rfl)))
theorem g0 : Tryd.prog.globalNamed "chancery/metric.marks" = some 0 := by kernel_rfl
theorem t0 : (Tryd.prog.globals[0]?).map (·.type) = some 47 := by kernel_rfl
theorem g1 : Tryd.prog.globalNamed "chancery/metric.others" = some 1 := by kernel_rfl
theorem t1 : (Tryd.prog.globals[1]?).map (·.type) = some 47 := by kernel_rfl
theorem door_met (os : Os) (args : Array Value) : laidMetH Tryd.prog Rows.metricFitsRow.laid ((World.doorLaid Tryd.prog 48 os).forCall (fun _ _ => 0) ⟨#[], args, []⟩).memory :=
  laidMetH_of_parts3 (fuel := 8) (laidMet_of_run' 8 (by kernel_rfl) (by kernel_rfl)) (by kernel_rfl) (by kernel_rfl)
theorem tbl_sp : Tbl Tryd.prog 50 PMetricWidths.k50 (fun x => .agg [.lit (.int .i64 x.f0), .lit (.int .i64 x.f1), .lit (.int .i64 x.f2)]) :=
  tbl_struct (fun a : Int × Int × Int => [.lit (.int .i64 a.1), .lit (.int .i64 a.2.1), .lit (.int .i64 a.2.2)]) (fun x : PMetricWidths.S50 => (x.f0, x.f1, x.f2)) Tryd.underlying50 (by kernel_rfl) (tblF_cons (tbl_int Tryd.underlying3 (by kernel_rfl)) rfl (tblF_cons (tbl_int Tryd.underlying3 (by kernel_rfl)) rfl (tblF_one (tbl_int Tryd.underlying3 (by kernel_rfl)) rfl)))
theorem tbl_table : Tbl Tryd.prog 47 (Kd.slice 50 PMetricWidths.k50) (fun l => .slice (l.map fun x => .agg [.lit (.int .i64 x.f0), .lit (.int .i64 x.f1), .lit (.int .i64 x.f2)]) []) :=
  tbl_slice Tryd.underlying47 (by kernel_rfl) tbl_sp
/-- What the row's list gives the walks. -/
theorem of_laid {W : World} (h : laidMetH Tryd.prog Rows.metricFitsRow.laid W) : LaidW W := by
  rw [MakeChecks.laidMetH_plain _ _ _ (by kernel_rfl)] at h
  obtain ⟨ps, ⟨ga, ta, csa, fa, pa, qa, hga, hta, hva, hda, ⟨gb, tb, csb, fb, pb, qb, hgb, htb, hvb, hdb, _, _⟩, _⟩, _, _⟩ := h
  obtain rfl := Option.some.inj (g0.symm.trans hga)
  obtain rfl := Option.some.inj (g1.symm.trans hgb)
  obtain rfl := Option.some.inj (t0.symm.trans hta)
  obtain rfl := Option.some.inj (t1.symm.trans htb)
  obtain ⟨A, c, e1, h1, h2⟩ := tbl_table.read (a := marks) hda
  obtain ⟨A', c', e2, h3, h4⟩ := tbl_table.read (a := others) hdb
  have x0 := World.var?_cell hga hva 0
  have x1 := World.var?_cell hgb hvb 0
  rw [Array.eq_one_of_toList e1] at x0
  rw [Array.eq_one_of_toList e2] at x1
  exact ⟨⟨A', c', by simpa using x1, h3, h4⟩, ⟨A, c, by simpa using x0, h1, h2⟩⟩
set_option maxRecDepth 100000 in
theorem lifted (os : Os) (started : os.Started) (H : Type) (enc : TypeId × Value → H) :
    ReturnsInHanded {} Tryd.checked os 4 .any (fun w args => (Rows.metricFitsSpec.pre enc Tryd.prog Tryd.f4 [] false w args ∧ laidMetH Tryd.prog Rows.metricFitsRow.laid w) ∧ sizedMet enc Tryd.prog Tryd.f4 (OpenSpec.ofChange Rows.metricFitsSpec) false w args) (Rows.metricFitsSpec.post enc Tryd.prog Tryd.f4 false true false false) := by
  refine returnsInHanded_of_change_and (C := Tryd.checked) (X := fun w _ => laidMetH Tryd.prog Rows.metricFitsRow.laid w) (fun _ _ _ hh h => h.of_heap hh) own started (by kernel_rfl) Tryd.func4
    (ChangeSpec.witness_shaped (enc := enc) (C := Tryd.checked) (os := os) (X := fun w _ => laidMetH Tryd.prog Rows.metricFitsRow.laid w) false (World.doorLaid Tryd.prog 48 os) #[.slice none 0 0, .agg #[.int .i64 0, .bool false, .bool false], .int .i64 0] 8 rfl (World.shaped_of_RefB (by kernel_rfl) (by kernel_rfl)) (by kernel_rfl) (by kernel_rfl) (by kernel_rfl) (door_met os _)) ?_
  intro W base args ds gs before hval0 hW hcnd hsz0 hL _
  have hsz : (DataW.weightsEach Tryd.prog (Tryd.f4.params.toList ++ Rows.metricFitsSpec.plain.varTypes Tryd.prog) (ds ++ gs)).all (· ≤ reachBytes) = true := hsz0
  have hval : ∀ (j : Nat) t v, Tryd.f4.params[j]? = some t → args[j]? = some v → Value.okWide Tryd.prog W .any base t v := hval0
  have hW' := hW
  obtain ⟨p, q, hA0, hV, rfl, hfz, hnd⟩ := hW
  have hA : DataW.TrodAll enc Tryd.prog W 0 (fun _ => true) true Tryd.f4.params.toList args.toList ds p := hA0
  rw [Tryd.params4] at hA hval hsz
  obtain ⟨v0, vs0, d0, ds0, p0, q0, hargs, rfl, rfl, h0, r0⟩ := trodAll_cons hA
  obtain ⟨v1, vs1, d1, ds1, p1, q1, rfl, rfl, rfl, h1, r1⟩ := trodAll_cons r0
  obtain ⟨v2, vs2, d2, ds2, p2, q2, rfl, rfl, rfl, h2, r2⟩ := trodAll_cons r1
  obtain ⟨rfl, rfl, rfl⟩ := trodAll_nil r2
  obtain rfl : args = #[v0, v1, v2] := by cases args; simp_all
  obtain ⟨rfl, rfl⟩ := trodVars_none hV
  obtain ⟨l0, hx0, i0⟩ := arg op22 hsz (j := 0) rfl rfl h0
  obtain ⟨A0, n0, c0, rfl⟩ := okWide_slice Tryd.underlying22 (hval 0 22 v0 rfl rfl)
  obtain ⟨rfl, hc0, hr0⟩ := slice_form hx0
  have lt0 := arg_lt h0
  obtain ⟨x1, hx1, J1⟩ := arg opT24 hsz (j := 1) rfl rfl h1
  obtain ⟨cs1, rfl⟩ := agg_form Tryd.underlying24 (hval 1 24 v1 rfl rfl)
  have lt1 := arg_lt h1
  obtain ⟨z1_0, y1_0, e1_0, hz1_0, hy1_0⟩ := hx1
  replace hz1_0 : z1_0 = [Value.int .i64 x1.1] := hz1_0
  obtain ⟨z1_1, y1_1, e1_1, hz1_1, hy1_1⟩ := hy1_0
  replace hz1_1 : z1_1 = [Value.bool x1.2.1] := hz1_1
  replace hy1_1 : _ = [Value.bool x1.2.2] := hy1_1
  rw [hy1_1] at e1_1
  rw [hz1_1] at e1_1
  rw [e1_1] at e1_0
  rw [hz1_0] at e1_0
  obtain rfl := agg_arr e1_0
  obtain ⟨a2, rfl, rfl, rfl, w2⟩ := open_int Tryd.underlying3 (hval 2 3 v2 rfl rfl) h2
  have hLW := of_laid hL
  clear hA0 hval0 hsz0 hsz hL
  obtain ⟨k, hk⟩ := Pure.MetricFits l0 x1.1 x1.2.1 x1.2.2 a2 
  refine (QMF.chancerylaw3_MetricFits.calls k (fun k_ => k_ < W.heap.size) A0 c0 l0 x1.1 x1.2.1 x1.2.2 a2 true W (Kd.V_mk hc0 (Kd.C_F (Kd.heap_int .i64) hr0)) hk hLW).mono fun e W' ⟨he, bel⟩ => ?_
  subst he
  exact ⟨_, rfl, _, _, _, [], _, [], hW', trodAll_mk1 (shut_bool Tryd.underlying4 _), (trodAll_cons_mk (Below.trod laidOut (by kernel_rfl) (of_decide_eq_true (by kernel_rfl)) h0 bel lt0) (trodAll_cons_mk (Below.trod laidOut (by kernel_rfl) (of_decide_eq_true (by kernel_rfl)) h1 bel lt1) (trodAll_cons_mk (shut_int Tryd.underlying3 w2) trodAll_mk0))), rfl, bel.frame _, fun h => by cases h⟩
theorem over : Rows.MetricFitsSaid :=
  OpenClaim.holds_of_wide 4 Tryd.f4 rfl rfl rfl rfl rfl rfl rfl ⟨rfl, rfl, rfl, rfl, rfl⟩ rfl rfl rfl rfl rfl (by kernel_rfl) Tryd.func4 (by kernel_rfl)
    (of_decide_eq_true (by kernel_rfl)) (by unfold Func.isWrapper; first | (rw [if_pos (by decide +kernel)]; kernel_rfl) | (rw [if_neg (by decide +kernel)]; exact ⟨rfl, rfl⟩))
    (fun os started H enc _ => lifted os started H enc)
theorem plain (f : FuncId) (fn : Func) (hf : Tryd.pinned.checked.prog.funcNamed "chancery/chancerylaw3.MetricFits" = some f) (hfn : Tryd.pinned.checked.prog.funcs[f]? = some fn) :
    false = Tryd.pinned.checked.prog.looks [] ∧ ∀ (j : Nat) t, fn.params[j]? = some t → Tryd.pinned.checked.prog.wantsStandIn t = false := by
  obtain rfl : f = 4 := Option.some.inj ((show Tryd.prog.funcNamed "chancery/chancerylaw3.MetricFits" = some 4 by kernel_rfl).symm.trans hf) |>.symm
  obtain rfl : fn = Tryd.f4 := (Option.some.inj (Tryd.func4.symm.trans hfn)).symm
  refine ⟨by kernel_rfl, fun j t ht => ?_⟩
  rw [Tryd.params4] at ht
  have hm : t ∈ [22, 24, 3] := by simpa using Array.mem_of_getElem? ht
  have hall : ([22, 24, 3].all fun u => !Tryd.prog.wantsStandIn u) = true := by kernel_rfl
  exact (show Tryd.prog.wantsStandIn t = false by simpa using List.all_eq_true.1 hall t hm)
theorem card : Rows.MetricFitsCardSaid :=
  Claim7.holds_tied_plain_at .later [] _ _ _ _ over (fun _ h => by cases h) (by kernel_rfl) (fun _ h => by cases h) metricFits_row_tie rfl ⟨rfl, rfl⟩ (by kernel_rfl) rfl plain (by kernel_rfl)
#print axioms card
end Go.Proofs.YtmoimbopclljeaaDoor.metricFits
namespace Go.Proofs.YtmoimbopclljeaaDoor
/-- The card, under a short name, for the claim. -/
theorem metricFits_holds : Rows.MetricFitsCardSaid := metricFits.card
end Go.Proofs.YtmoimbopclljeaaDoor
