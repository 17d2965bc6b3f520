/- Proved: the tied card of chancerylaw3.MetricEms: for every whole number the call returns true and leaves its argument as it was, where the package's two tables hold what the program's own text lays in them (the given tie). No condition of our own. -/
import Derived.Test.YtihmbddneapooaaDoorCards
import Derived.Test.YtihmbddneapooaaDoorTie
import Derived.Test.YtihmbddneapooaaDoorQMEx3
import Derived.Test.YtihmbddneapooaaDoorPureMetricEms
import Derived.Test.YtihmbddneapooaaDoorTables
import Derived.WalkKit
import Derived.ProofKit
import Derived.OpenShut
import Derived.LaidMore
import Derived.Stop.Joined
import Derived.SevenTiedAt
namespace Go.Proofs.YtihmbddneapooaaDoor.metricEms
open Go.ChangeShapes Go.WideShapes Go.ChangeAt Go.RowKit Go.Proofs.YtihmbddneapooaaDoor.Opens Go.Proofs.YtihmbddneapooaaDoor.Tables Go.Proofs.YtihmbddneapooaaDoorW.PrintWords Go.Proofs.YtihmbddneapooaaDoor.HandME
theorem own : ownKnob Tryd.prog.godebug = none := by kernel_rfl
theorem g0 : Tryd.prog.globalNamed "chancery/metric.marks" = some 5 := by kernel_rfl
theorem t0 : (Tryd.prog.globals[5]?).map (·.type) = some 60 := by kernel_rfl
theorem g1 : Tryd.prog.globalNamed "chancery/metric.others" = some 4 := by kernel_rfl
theorem t1 : (Tryd.prog.globals[4]?).map (·.type) = some 60 := by kernel_rfl
/-- The door's own heap meets the condition. -/
theorem door_met (os : Os) (args : Array Value) : laidMetH Tryd.prog Rows.metricEmsRow.laid ((World.doorLaid Tryd.prog 153 os).forCall (fun _ _ => 0) ⟨#[], args, []⟩).memory :=
  laidMetH_of_parts3 (fuel := 8) (laidMet_of_run' 8 (by kernel_rfl) (by kernel_rfl)) (by kernel_rfl) (by kernel_rfl)
theorem tbl_sp : Tbl Tryd.prog 73 PMetricEms.k73 (fun x => .agg [.lit (.int .i64 x.f0), .lit (.int .i64 x.f1), .lit (.int .i64 x.f2)]) :=
  tbl_struct (fun a : Int × Int × Int => [.lit (.int .i64 a.1), .lit (.int .i64 a.2.1), .lit (.int .i64 a.2.2)]) (fun x : PMetricEms.S73 => (x.f0, x.f1, x.f2)) Tryd.underlying73 (by kernel_rfl) (tblF_cons (tbl_int Tryd.underlying3 (by kernel_rfl)) rfl (tblF_cons (tbl_int Tryd.underlying3 (by kernel_rfl)) rfl (tblF_one (tbl_int Tryd.underlying3 (by kernel_rfl)) rfl)))
theorem tbl_table : Tbl Tryd.prog 60 (Kd.slice 73 PMetricEms.k73) (fun l => .slice (l.map fun x => .agg [.lit (.int .i64 x.f0), .lit (.int .i64 x.f1), .lit (.int .i64 x.f2)]) []) :=
  tbl_slice Tryd.underlying60 (by kernel_rfl) tbl_sp
/-- What the row's list gives the walks. -/
theorem of_laid {W : World} (h : laidMetH Tryd.prog Rows.metricEmsRow.laid W) : LaidW W := by
  rw [MakeChecks.laidMetH_plain _ _ _ (by kernel_rfl)] at h
  obtain ⟨ps, ⟨ga, ta, csa, fa, pa, qa, hga, hta, hva, hda, ⟨gb, tb, csb, fb, pb, qb, hgb, htb, hvb, hdb, _, _⟩, _⟩, _, _⟩ := h
  obtain rfl := Option.some.inj (g0.symm.trans hga)
  obtain rfl := Option.some.inj (g1.symm.trans hgb)
  obtain rfl := Option.some.inj (t0.symm.trans hta)
  obtain rfl := Option.some.inj (t1.symm.trans htb)
  obtain ⟨A, c, e1, h1, h2⟩ := tbl_table.read (a := marks) hda
  obtain ⟨A', c', e2, h3, h4⟩ := tbl_table.read (a := others) hdb
  have x0 := World.var?_cell hga hva 0
  have x1 := World.var?_cell hgb hvb 0
  rw [Array.eq_one_of_toList e1] at x0
  rw [Array.eq_one_of_toList e2] at x1
  exact ⟨⟨A', c', by simpa using x1, h3, h4⟩, ⟨A, c, by simpa using x0, h1, h2⟩⟩
set_option maxRecDepth 100000 in
theorem lifted (os : Os) (started : os.Started) (H : Type) (enc : TypeId × Value → H) :
    ReturnsInHanded {} Tryd.checked os 5 .any (fun w args => (Rows.metricEmsSpec.pre enc Tryd.prog Tryd.f5 [] false w args ∧ laidMetH Tryd.prog Rows.metricEmsRow.laid w) ∧ sizedMet enc Tryd.prog Tryd.f5 (OpenSpec.ofChange Rows.metricEmsSpec) false w args)
      (Rows.metricEmsSpec.post enc Tryd.prog Tryd.f5 false true false false) := by
  refine returnsInHanded_of_change_and (C := Tryd.checked) (X := fun w _ => laidMetH Tryd.prog Rows.metricEmsRow.laid w) (fun _ _ _ hh h => h.of_heap hh) own started (by kernel_rfl) Tryd.func5
    (ChangeSpec.witness_shaped (enc := enc) (C := Tryd.checked) (os := os) (X := fun w _ => laidMetH Tryd.prog Rows.metricEmsRow.laid w) false (World.doorLaid Tryd.prog 153 os) #[.int .i64 0] 8 rfl (World.shaped_of_RefB (by kernel_rfl) (by kernel_rfl)) (by kernel_rfl) (by kernel_rfl) (by kernel_rfl) (door_met os _)) ?_
  intro W base args ds gs before hval0 hW _ _ hL _
  have hval : ∀ (j : Nat) t v, Tryd.f5.params[j]? = some t → args[j]? = some v → Value.okWide Tryd.prog W .any base t v := hval0
  have hW' := hW
  obtain ⟨p, q, hA0, hV, rfl, hfz, hnd⟩ := hW
  have hA : DataW.TrodAll enc Tryd.prog W 0 (fun _ => true) true Tryd.f5.params.toList args.toList ds p := hA0
  rw [Tryd.params5] at hA hval
  obtain ⟨v0, vs0, d0, ds0, p0, q0, hargs, rfl, rfl, h0, r0⟩ := trodAll_cons hA
  obtain ⟨rfl, rfl, rfl⟩ := trodAll_nil r0
  obtain rfl : args = #[v0] := by cases args; simp_all
  obtain ⟨rfl, rfl⟩ := trodVars_none hV
  obtain ⟨a0, rfl, rfl, rfl, w0⟩ := open_int Tryd.underlying3 (hval 0 3 v0 rfl rfl) h0
  have hLW := of_laid hL
  clear hA0 hval0 hL
  obtain ⟨k, hk⟩ := Pure.MetricEms a0
  refine (QME.chancerylaw3_MetricEms.calls k a0 true W hk hLW).mono fun e W' ⟨he, bel⟩ => ?_
  subst he
  exact ⟨_, rfl, _, _, _, [], _, [], hW', trodAll_mk1 (shut_bool Tryd.underlying4 _), (trodAll_cons_mk (shut_int Tryd.underlying3 w0) trodAll_mk0), rfl, bel.frame _, fun h => by cases h⟩
theorem over : Rows.MetricEmsSaid :=
  OpenClaim.holds_of_wide 5 Tryd.f5 rfl rfl rfl rfl rfl rfl rfl ⟨rfl, rfl, rfl, rfl, rfl⟩ rfl rfl rfl rfl rfl (by kernel_rfl) Tryd.func5 (by kernel_rfl)
    (of_decide_eq_true (by kernel_rfl)) (by unfold Func.isWrapper; first | (rw [if_pos (by decide +kernel)]; kernel_rfl) | (rw [if_neg (by decide +kernel)]; exact ⟨rfl, rfl⟩))
    (fun os started H enc _ => lifted os started H enc)
theorem plain (f : FuncId) (fn : Func) (hf : Tryd.pinned.checked.prog.funcNamed "chancery/chancerylaw3.MetricEms" = some f) (hfn : Tryd.pinned.checked.prog.funcs[f]? = some fn) :
    false = Tryd.pinned.checked.prog.looks [] ∧ ∀ (j : Nat) t, fn.params[j]? = some t → Tryd.pinned.checked.prog.wantsStandIn t = false := by
  obtain rfl : f = 5 := Option.some.inj ((show Tryd.prog.funcNamed "chancery/chancerylaw3.MetricEms" = some 5 by kernel_rfl).symm.trans hf) |>.symm
  obtain rfl : fn = Tryd.f5 := (Option.some.inj (Tryd.func5.symm.trans hfn)).symm
  refine ⟨by kernel_rfl, fun j t ht => ?_⟩
  rw [Tryd.params5] at ht
  obtain rfl : t = 3 := by simpa using Array.mem_of_getElem? ht
  exact (show Tryd.prog.wantsStandIn 3 = false by kernel_rfl)
theorem card : Rows.MetricEmsCardSaid :=
  Claim7.holds_tied_plain_at .later [] _ _ _ _ over (fun _ h => by cases h) (by kernel_rfl) (fun _ h => by cases h) metricEms_row_tie rfl ⟨rfl, rfl⟩ (by kernel_rfl) rfl plain (by kernel_rfl)
#print axioms card
end Go.Proofs.YtihmbddneapooaaDoor.metricEms
namespace Go.Proofs.YtihmbddneapooaaDoor
/-- The card, under a short name, for the claim. -/
theorem metricEms_holds : Rows.MetricEmsCardSaid := metricEms.card
end Go.Proofs.YtihmbddneapooaaDoor
