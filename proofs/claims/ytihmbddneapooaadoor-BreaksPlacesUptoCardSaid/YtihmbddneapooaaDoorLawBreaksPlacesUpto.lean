/- Proved: the second form's card of chancerylaw3.BreaksPlaces: for every input that the form lets in and whose bulk is at most 1048576 the call returns true and leaves its arguments as they were. The row's listed tables hold what the program's own text lays in them (the given tie). No condition of our own. -/
import Derived.Test.YtihmbddneapooaaDoorCards
import Derived.Test.YtihmbddneapooaaDoorTie
import Derived.Test.YtihmbddneapooaaDoorQBSx5
import Derived.Test.YtihmbddneapooaaDoorPureBreaksPlaces
import Derived.Test.YtihmbddneapooaaDoorOpens
import Derived.Test.YtihmbddneapooaaDoorBulk
import Derived.Test.YtihmbddneapooaaDoorTables
import Derived.WalkKit
import Derived.ProofKit
import Derived.OpenShut
import Derived.ShutString
import Derived.ChangeOld
import Derived.Below
import Derived.SizedLaws
import Derived.LaidMore
import Derived.Stop.Joined
import Derived.SevenTiedAt
import Derived.Deep.DeepHandedRow
namespace Go.Proofs.YtihmbddneapooaaDoor.breaksPlaces
open Go.ChangeShapes Go.WideShapes Go.ChangeAt Go.RowKit Go.Proofs.YtihmbddneapooaaDoor.Opens Go.Proofs.YtihmbddneapooaaDoorW.PrintWords Go.Proofs.YtihmbddneapooaaDoor.Tables Go.Proofs.YtihmbddneapooaaDoor.HandMB
open Go.ChangeMaps (open_string shut_string)
set_option linter.unusedVariables false
theorem own : ownKnob Tryd.prog.godebug = none := by kernel_rfl
theorem laidOut : laidOutB Tryd.prog = true := by kernel_rfl
def I25 (l : List (Int)) : Prop := l.length ≤ maxLen ∧ l.length * 8 ≤ 140737488351232 ∧ ∀ x ∈ l, (fun n => (Lit.int .i64 n).wf = true) x
theorem op25 : Opn Tryd.prog 25 (Kd.slice 3 (Kd.int .i64)) I25 := op_slice (B := 8) Tryd.underlying25 (by kernel_rfl) (op_int Tryd.underlying3 (by kernel_rfl)) (by kernel_rfl)
theorem g0 : Tryd.prog.globalNamed "chancery/metric.marks" = some 5 := by kernel_rfl
theorem t0 : (Tryd.prog.globals[5]?).map (·.type) = some 60 := by kernel_rfl
theorem door_met (os : Os) (args : Array Value) : laidMetH Tryd.prog Rows.breaksPlacesRow.laid ((World.doorLaid Tryd.prog 153 os).forCall (fun _ _ => 0) ⟨#[], args, []⟩).memory :=
  laidMetH_of_parts3 (fuel := 8) (laidMet_of_run' 8 (by kernel_rfl) (by kernel_rfl)) (by kernel_rfl) (by kernel_rfl)
theorem tbl_sp : Tbl Tryd.prog 73 PMetricEms.k73 (fun x => .agg [.lit (.int .i64 x.f0), .lit (.int .i64 x.f1), .lit (.int .i64 x.f2)]) :=
  tbl_struct (fun a : Int × Int × Int => [.lit (.int .i64 a.1), .lit (.int .i64 a.2.1), .lit (.int .i64 a.2.2)]) (fun x : PMetricEms.S73 => (x.f0, x.f1, x.f2)) Tryd.underlying73 (by kernel_rfl) (tblF_cons (tbl_int Tryd.underlying3 (by kernel_rfl)) rfl (tblF_cons (tbl_int Tryd.underlying3 (by kernel_rfl)) rfl (tblF_one (tbl_int Tryd.underlying3 (by kernel_rfl)) rfl)))
theorem tbl_table : Tbl Tryd.prog 60 (Kd.slice 73 PMetricEms.k73) (fun l => .slice (l.map fun x => .agg [.lit (.int .i64 x.f0), .lit (.int .i64 x.f1), .lit (.int .i64 x.f2)]) []) :=
  tbl_slice Tryd.underlying60 (by kernel_rfl) tbl_sp
/-- What the row's list gives the walks. -/
theorem of_laid {W : World} (h : laidMetH Tryd.prog Rows.breaksPlacesRow.laid W) : LaidW W := by
  rw [MakeChecks.laidMetH_plain _ _ _ (by kernel_rfl)] at h
  obtain ⟨ps, ⟨ga, ta, csa, fa, pa, qa, hga, hta, hva, hda, _, _⟩, _, _⟩ := h
  obtain rfl := Option.some.inj (g0.symm.trans hga)
  obtain rfl := Option.some.inj (t0.symm.trans hta)
  obtain ⟨A, c, e1, h1, h2⟩ := tbl_table.read (a := marks) hda
  have x0 := World.var?_cell hga hva 0
  rw [Array.eq_one_of_toList e1] at x0
  exact ⟨⟨A, c, by simpa using x0, h1, h2⟩⟩
theorem part_bound {H : Type} {l : List (DataW H)} (hk : Rows.uptoSmall H l = true) (d : DataW H) (h : d ∈ l) : Rows.uptoBulk d ≤ 1048576 :=
  Nat.le_trans (bulks.part_le h) (bulks.bound hk)
theorem len_le {H : Type} {enc : TypeId × Value → H} {W : World} {A : Option Addr} {n c : Nat} {t e : TypeId} {d : DataW H} {p : List MemPlace} (ht : Tryd.prog.underlying t = some (.slice e)) (h : DataW.Trod enc Tryd.prog W 0 (fun _ => true) true t (.slice A n c) d p) (hk : Rows.uptoBulk d ≤ 1048576) : n ≤ 1048576 := by
  obtain ⟨fuel, hf⟩ := h
  rcases DataW.trod_slice ht hf with ⟨e1, _⟩ | ⟨a, len, cap, elems, rest, _, _, e1, e2, _, _, _, hl, _⟩
  · have e2 : [Value.slice A n c] = [Value.slice none 0 0] := e1
    injection e2 with e3 _
    injection e3 with _ e4 _
    omega
  · have e3 : [Value.slice A n c] = [Value.slice (some a) len cap] := e1
    injection e3 with e4 _
    injection e4 with _ e5 _
    have e6 := congrArg Prod.fst e2
    rw [show d = DataW.slice (elems.map (·.1)) (rest.map (·.1)) from e6] at hk
    have := bulks.slice_le (elems.map (·.1)) (rest.map (·.1))
    rw [List.length_map] at this
    omega
theorem witness_row_shaped {H : Type} {enc : TypeId × Value → H} {C : Checked} {os : Os} {f : FuncId} {fn : Func} {s : OpenSpec} {conds : List PathCond} {apart : Bool} {laid : List (String × DataW Unit)} (modest : Bool) (w0 : World) (args : Array Value) (hos : w0.os = os)
    (hsh : (w0.forCall (fun _ _ => 0) ⟨#[], args, []⟩).Shaped C.prog) (hok : Input.okWideB C.prog (w0.forCall (fun _ _ => 0) ⟨#[], args, []⟩) f ⟨#[], args, []⟩ = true)
    (hrow : s.preRow enc C.prog fn conds apart laid (w0.forCall (fun _ _ => 0) ⟨#[], args, []⟩).memory args) :
    ∃ (w : World) (tape : Tape) (i : Input), w.os = os ∧ (w.forCall tape i).Shaped C.prog ∧ i.vars = [] ∧ Input.okWide C.prog (w.forCall tape i) .any w.heap.size f i ∧
      s.preRow enc C.prog fn conds apart laid (w.forCall tape i).memory i.args ∧ ({ modest := modest } : Assume).holds C.prog (lone (Frame.enter C.prog f i.args .normal) [] (w.forCall tape i)) :=
  ⟨w0, fun _ _ => 0, ⟨#[], args, []⟩, hos, hsh, (Input.okWide_of_okWideB (base := 0) hok).1, (Input.okWide_of_okWideB hok).2, hrow, by
    simp only [Assume.holds]
    exact ⟨by simp, by simp, fun _ => Modest.zero, by simp, by simp⟩⟩
set_option maxRecDepth 100000 in
theorem contract (H : Type) (enc : TypeId × Value → H) (W : World) (base : Nat) (args : Array Value) (ds gs : List (DataW H)) (before : List MemPlace)
    (hval0 : ∀ (j : Nat) t v, Tryd.f6.params[j]? = some t → args[j]? = some v → Value.okWide Tryd.prog W .any base t v)
    (hW : DataW.Whole enc Tryd.prog Tryd.f6.params.toList Rows.breaksPlacesSpec.vars false W args.toList ds gs before) (hk0 : Rows.uptoSmall H (ds ++ gs) = true)
    (hsz0 : (DataW.weightsEach Tryd.prog (Tryd.f6.params.toList ++ Rows.breaksPlacesSpec.plain.varTypes Tryd.prog) (ds ++ gs)).all (· ≤ reachBytes) = true) (hL : laidMetH Tryd.prog Rows.breaksPlacesRow.laid W) :
    Calls Tryd.prog 6 args W fun e W' => ∃ v, e = .returned v ∧ Rows.breaksPlacesSpec.post enc Tryd.prog Tryd.f6 false true false false W args v W' := by
  have hsz : (DataW.weightsEach Tryd.prog (Tryd.f6.params.toList ++ Rows.breaksPlacesSpec.plain.varTypes Tryd.prog) (ds ++ gs)).all (· ≤ reachBytes) = true := hsz0
  have hval : ∀ (j : Nat) t v, Tryd.f6.params[j]? = some t → args[j]? = some v → Value.okWide Tryd.prog W .any base t v := hval0
  have hW' := hW
  obtain ⟨p, q, hA0, hV, rfl, hfz, hnd⟩ := hW
  have hA : DataW.TrodAll enc Tryd.prog W 0 (fun _ => true) true Tryd.f6.params.toList args.toList ds p := hA0
  rw [Tryd.params6] at hA hval hsz
  obtain ⟨v0, vs0, d0, ds0, p0, q0, hargs, rfl, rfl, h0, r0⟩ := trodAll_cons hA
  obtain ⟨rfl, rfl, rfl⟩ := trodAll_nil r0
  obtain rfl : args = #[v0] := by cases args; simp_all
  obtain ⟨rfl, rfl⟩ := trodVars_none hV
  obtain ⟨l0, hx0, i0⟩ := arg op25 hsz (j := 0) rfl rfl h0
  obtain ⟨A0, n0, c0, rfl⟩ := okWide_slice Tryd.underlying25 (hval 0 25 v0 rfl rfl)
  obtain ⟨rfl, hc0, hr0⟩ := slice_form hx0
  have lt0 := arg_lt h0
  have hLW := of_laid hL
  have hl : l0.length ≤ 1048576 := len_le (t := 25) Tryd.underlying25 h0 (part_bound hk0 _ (by simp))
  clear hA0 hval0 hsz0 hsz hL hk0
  obtain ⟨k, hk⟩ := Pure.BreaksPlaces l0 hl
  refine (QBS.chancerylaw3_BreaksPlaces.calls k A0 c0 l0 true W hr0 hc0 hk hLW).mono fun e W' ⟨he, bel⟩ => ?_
  subst he
  exact ⟨_, rfl, _, _, _, [], _, [], hW', trodAll_mk1 (shut_bool Tryd.underlying4 _), (trodAll_cons_mk (Below.trod laidOut (by kernel_rfl) (of_decide_eq_true (by kernel_rfl)) h0 bel lt0) trodAll_mk0), rfl, bel.frame _, fun h => by cases h⟩
theorem reads (os : Os) {H : Type} (enc : TypeId × Value → H) : ∃ places, DataW.whole enc Tryd.prog ((World.doorLaid Tryd.prog 153 os).forCall (fun _ _ => 0) ⟨#[], #[.slice none 0 0], []⟩).memory Tryd.f6.params.toList Rows.breaksPlacesSpec.vars false (#[.slice none 0 0] : Array Value).toList 8 = some ([.nil], [], places) :=
  ⟨[], by kernel_rfl⟩
set_option maxRecDepth 100000 in
theorem lifted (os : Os) (started : os.Started) (H : Type) (enc : TypeId × Value → H) (F : Stop.Interp) :
    ReturnsInHanded {} Tryd.checked os 6 .any ((Rows.OpenSpec.upto Rows.breaksPlacesSpec).preRow enc Tryd.prog Tryd.f6 Rows.breaksPlacesUptoRow.domain false Rows.breaksPlacesUptoRow.laid) (((Rows.OpenSpec.upto Rows.breaksPlacesSpec).at F).post enc Tryd.prog Tryd.f6 false true false false) := by
  obtain ⟨places, hx⟩ := reads os enc
  refine returnsInHanded_of_row (C := Tryd.checked) (s := Rows.OpenSpec.upto Rows.breaksPlacesSpec) own started (by kernel_rfl) Tryd.func6
    (witness_row_shaped (enc := enc) (C := Tryd.checked) false (World.doorLaid Tryd.prog 153 os) #[.slice none 0 0] rfl (World.shaped_of_RefB (by kernel_rfl) (by kernel_rfl)) (by kernel_rfl)
      (OpenSpec.preRow_of_cond 8 hx (by kernel_rfl) (fun k hk => by cases hk; kernel_rfl) (by kernel_rfl) (door_met os _))) ?_
  intro W base args ds gs before hval hW _ hcond hsz hL _ _
  exact contract H enc W base args ds gs before hval hW (hcond _ rfl) hsz hL
theorem over : Rows.BreaksPlacesUptoSaid :=
  OpenClaim.holds_of_cond 6 Tryd.f6 rfl rfl rfl rfl rfl rfl rfl ⟨rfl, rfl, rfl, rfl, rfl⟩ rfl rfl rfl rfl rfl (by kernel_rfl) Tryd.func6 (by kernel_rfl)
    (of_decide_eq_true (by kernel_rfl)) (by unfold Func.isWrapper; first | (rw [if_pos (by decide +kernel)]; kernel_rfl) | (rw [if_neg (by decide +kernel)]; exact ⟨rfl, rfl⟩))
    (fun os started H enc _ F => by rw [OpenClaim.pre_eq_preRow]; exact lifted os started H enc F)
theorem plain (f : FuncId) (fn : Func) (hf : Tryd.pinned.checked.prog.funcNamed "chancery/chancerylaw3.BreaksPlaces" = some f) (hfn : Tryd.pinned.checked.prog.funcs[f]? = some fn) :
    false = Tryd.pinned.checked.prog.looks [] ∧ ∀ (j : Nat) t, fn.params[j]? = some t → Tryd.pinned.checked.prog.wantsStandIn t = false := by
  obtain rfl : f = 6 := Option.some.inj ((show Tryd.prog.funcNamed "chancery/chancerylaw3.BreaksPlaces" = some 6 by kernel_rfl).symm.trans hf) |>.symm
  obtain rfl : fn = Tryd.f6 := (Option.some.inj (Tryd.func6.symm.trans hfn)).symm
  refine ⟨by kernel_rfl, fun j t ht => ?_⟩
  rw [Tryd.params6] at ht
  have hm : t ∈ [25] := by simpa using Array.mem_of_getElem? ht
  have hall : ([25].all fun u => !Tryd.prog.wantsStandIn u) = true := by kernel_rfl
  exact (show Tryd.prog.wantsStandIn t = false by simpa using List.all_eq_true.1 hall t hm)
theorem card : Rows.BreaksPlacesUptoCardSaid :=
  Claim7.holds_tied_plain_at .later [] _ _ _ _ over (fun _ h => by cases h) (by kernel_rfl) (fun _ h => by cases h) breaksPlacesUpto_row_tie rfl ⟨rfl, rfl⟩ (by kernel_rfl) rfl plain (by kernel_rfl)
#print axioms card
end Go.Proofs.YtihmbddneapooaaDoor.breaksPlaces
namespace Go.Proofs.YtihmbddneapooaaDoor
/-- The card, under a short name, for the claim. -/
theorem breaksPlacesUpto_holds : Rows.BreaksPlacesUptoCardSaid := breaksPlaces.card
end Go.Proofs.YtihmbddneapooaaDoor
