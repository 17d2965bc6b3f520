/- Walked by hand: clock.Report. -/
import Derived.Test.YtihmbddneapooaaHandCKb
namespace Go.Proofs.Ytihmbddneapooaa.HandCK
open Go.Proofs.Ytihmbddneapooaa.Lib (w64)
open Go.RowKit Go.Proofs.YtihmbddneapooaaW.PrintWords Go.Proofs.YtihmbddneapooaaW.PrintLast Go.Proofs.YtihmbddneapooaaW.PrintMore Go.Proofs.Ytihmbddneapooaa.PClockLeft
set_option linter.unusedVariables false
attribute [local go_sem] max2_int min2_int max_two min_two
theorem St.below {base g : Nat} {s : Rep} {w w1 : World} (h : St base w g s) (hb : Below w.heap.size w w1) : St base w1 g s := by
  obtain ⟨v, h1, h2, h3⟩ := h
  exact ⟨v, (hb.block g (blk_lt h1)).trans h1, h2, Kd.R_below h3 hb⟩
theorem St.grown {base g k : Nat} {s : Rep} {w w1 : World} {cs : Array Value} {q : TypeId} (h : St base w g s) (hg : w.grownBy w1 (some k)) (hk : w.heap[k]? = some (.cells cs q (0, 0))) (hq : q ≠ 74) (hne : g ≠ k) : St base w1 g s := by
  obtain ⟨v, h1, h2, h3⟩ := h
  refine ⟨v, (hg.block g (blk_lt h1) (fun e => hne (by injection e))).trans h1, h2, ?_⟩
  exact Kd.R_mono (Kd.R_grown (Kd.R_types h3 hk (fun p hp => by simp at hp; rcases hp with rfl | hp; exact fun e => hq e.symm; cases hp)) hg (fun j hj e => hj.2 (by injection e))) (fun _ _ => trivial)
theorem St.new {base g : Nat} {w : World} {A : Option Addr} {c n : Nat} (h : w.heap[g]? = some (.cells #[.bool false, .int .i64 0, .int .i64 0, .slice none 0 0] 67 (0, 0))) (hg : base ≤ g) : St base w g ⟨false, 0, 0, []⟩ := ⟨_, h, hg, Kd.R_nil _ _ _ _ _⟩
theorem St.setRun {base g : Nat} {s : Rep} {w : World} (h : St base w g s) (b : Bool) : St base (w.setCell ⟨g, 0, none⟩ (.bool b)) g { s with run := b } := by
  obtain ⟨v, h1, h2, h3⟩ := h
  exact ⟨v, blk_set h1 0 _, h2, Kd.R_mono (Kd.R_far (Kd.R_types h3 h1 (by decide)) (fun _ hk => hk.2) _) (fun _ _ => trivial)⟩
/-- A row of events over what changes reports and slides alone. -/
theorem ev_tk {g base : Nat} {ok : Nat → Prop} {w w1 : World} {v : Value} {xs : List S72} {cs : Array Value} (h : Kd.R k72 72 w base ok v xs) (hg : w.heap[g]? = some (.cells cs 67 (0, 0))) (ht : TK g w w1) : Kd.R k72 72 w1 base ok v xs := by
  refine Kd.R_mono (Kd.R_move (Kd.R_bound h) (fun k hk => ?_)) (fun _ hk => hk.1)
  obtain ⟨_, _, _, q, hq, cells, hc⟩ := hk
  have hq2 : q = 72 := by simp at hq; rcases hq with rfl | hq; rfl; cases hq
  subst hq2
  rw [hc]
  refine ht k cells 72 (0, 0) hc (by decide) (fun e => ?_)
  subst e
  rw [hc] at hg
  injection hg with hg
  injection hg with _ hg
  exact absurd hg (by decide)
theorem ev_far {g base : Nat} {ok : Nat → Prop} {w : World} {v u : Value} {xs : List S72} {cs : Array Value} {i : Nat} (h : Kd.R k72 72 w base ok v xs) (hg : w.heap[g]? = some (.cells cs 67 (0, 0))) : Kd.R k72 72 (w.setCell ⟨g, i, none⟩ u) base ok v xs :=
  ev_tk h hg (TK.set (TK.refl _ _) _)
theorem St.alloc {base g : Nat} {s : Rep} {w : World} (h : St base w g s) (o : Obj) : St base (w.alloc o) g s := h.below (below_alloc (Below.refl _ _) o)
theorem St.ne {base g k : Nat} {s : Rep} {w : World} {cs : Array Value} {q : TypeId} {f : Nat × Nat} (h : St base w g s) (hk : w.heap[k]? = some (.cells cs q f)) (hq : q ≠ 67) : g ≠ k := fun e => by
  obtain ⟨v, h1, _, _⟩ := h
  subst e
  rw [h1] at hk
  injection hk with hk
  injection hk with _ hk
  exact hq hk.symm
theorem St.row {base g : Nat} {s : Rep} {w w1 : World} {row : Option Nat} (h : St base w g s) (hg : w.grownBy w1 row) (hty : ∀ k, row = some k → ∃ cells, w.heap[k]? = some (.cells cells 72 (0, 0))) : St base w1 g s := by
  cases row with
  | none =>
    obtain ⟨v, h1, h2, h3⟩ := h
    exact ⟨v, (hg.block g (blk_lt h1) (by simp)).trans h1, h2, Kd.R_grown h3 hg (fun _ _ e => by cases e)⟩
  | some k =>
    obtain ⟨cells, hc⟩ := hty k rfl
    exact St.grown h hg hc (by decide) (St.ne h hc (by decide))
theorem ev_st {g base : Nat} {ok : Nat → Prop} {w w1 : World} {v : Value} {xs : List S72} {s : Rep} (h : Kd.R k72 72 w base ok v xs) (hs : St base w g s) (ht : TK g w w1) : Kd.R k72 72 w1 base ok v xs := by
  obtain ⟨u, h1, _, _⟩ := hs
  exact ev_tk h h1 ht
theorem blk_types_ne {g k : Nat} {w : World} {cs cs' : Array Value} {q q' : TypeId} {f f' : Nat × Nat} (h : w.heap[g]? = some (.cells cs q f)) (hk : w.heap[k]? = some (.cells cs' q' f')) (hq : q ≠ q') : g ≠ k := fun e => by
  subst e
  rw [h] at hk
  injection hk with hk
  injection hk with _ hk
  exact hq hk
theorem St.cell0 {base g : Nat} {s : Rep} {w : World} (h : St base w g s) : w.cell? ⟨g, 0, none⟩ = some (.bool s.run) ∧ w.frozen? ⟨g, 0, none⟩ = false := by
  obtain ⟨v, h1, _, _⟩ := h
  exact ⟨(blk_cell h1 0).trans rfl, blk_frozen h1 0⟩
theorem St.ge {base g : Nat} {s : Rep} {w : World} (h : St base w g s) : base ≤ g := by
  obtain ⟨v, _, h2, _⟩ := h
  exact h2
theorem St.lt {base g : Nat} {s : Rep} {w : World} (h : St base w g s) : g < w.heap.size := by
  obtain ⟨v, h1, _, _⟩ := h
  exact blk_lt h1
/-- One event. -/
def stepE (at_ : Int) (p : Rep × Int) (x : S72) : Rep × Int :=
  if at_ < x.f1 then (passF p.1 (wrap64 (at_ - p.2)), at_)
  else if x.f0 = 0 then ({ passF p.1 (wrap64 (x.f1 - p.2)) with run := true }, x.f1)
  else if x.f0 = 1 ∨ x.f0 = 3 then ({ passF p.1 (wrap64 (x.f1 - p.2)) with run := false }, x.f1)
  else if x.f0 = 2 then (showF (passF p.1 (wrap64 (x.f1 - p.2))) x.f2, x.f1)
  else (passF p.1 (wrap64 (x.f1 - p.2)), x.f1)
def after (at_ : Int) (xs : List S72) (i : Nat) : Rep × Int := (xs.take i).foldl (stepE at_) (⟨false, 0, 0, []⟩, 0)
theorem after_succ (at_ : Int) (xs : List S72) (i : Nat) (h : i < xs.length) : after at_ xs (i + 1) = stepE at_ (after at_ xs i) (xs.getD i z72) := by
  unfold after
  rw [List.take_succ_eq_append_getElem h, List.foldl_append, List.getD_eq_getElem?_getD, List.getElem?_eq_getElem h]
  rfl
theorem showL_len (ag : Bool) (n : Int) : ∀ xs : List S74, (showL ag n xs).length ≤ xs.length + 1
  | [] => by simp [showL]
  | x :: l => by
    rw [showL]
    split
    · simp
    · have := showL_len ag n l; simp; omega
theorem pass_len (s : Rep) (t : Int) : (passF s t).sls.length = s.sls.length := by
  unfold passF; split
  · simp
  · rfl
theorem step_len (at_ : Int) (p : Rep × Int) (x : S72) : (stepE at_ p x).1.sls.length ≤ p.1.sls.length + 1 := by
  unfold stepE
  repeat' split
  all_goals (try simp only [pass_len])
  all_goals (try omega)
  have := showL_len ((passF p.1 (wrap64 (x.f1 - p.2))).sl == x.f2) x.f2 (passF p.1 (wrap64 (x.f1 - p.2))).sls
  rw [pass_len] at this
  exact this
theorem after_len (at_ : Int) (xs : List S72) : ∀ i : Nat, i ≤ xs.length → (after at_ xs i).1.sls.length ≤ i
  | 0, _ => by simp [after]
  | i + 1, h => by
    rw [after_succ at_ xs i (by omega)]
    have h1 := step_len at_ (after at_ xs i) (xs.getD i z72)
    have h2 := after_len at_ xs i (by omega)
    omega
def evs (l : List S72) (at_ : Int) : List S72 := l ++ [⟨-1, at_, 0⟩]
def clock_Report.f (k : Nat) (l : List S72) (at_ : Int) : Option (Bool × Int × Int × List S74 × Int) :=
  (clock_Check.f k l).bind fun e => if e = 0 then (if at_ < 0 ∨ at_ > 10000000 then some (false, 0, 0, [], 2) else
    (if l.length ≤ 1000 then some ((after at_ (evs l at_) (l.length + 1)).1.run, (after at_ (evs l at_) (l.length + 1)).1.tot, (after at_ (evs l at_) (l.length + 1)).1.sl, (after at_ (evs l at_) (l.length + 1)).1.sls, 0) else none)) else some (false, 0, 0, [], e)
theorem clock_Report.mono (a0 : List S72) (a1 : Int) (k : Nat) : LeO (clock_Report.f k a0 a1) (clock_Report.f (k + 1) a0 a1) := by
  unfold clock_Report.f
  exact LeO.bind (clock_Check.mono _ _) fun _ => LeO.refl _
def Ans (A : Option Addr) (c : Nat) (l : List S72) (at_ : Int) (w : World) (s : Rep) (e0 : Int) : Prop :=
  Calls Try.prog 34 #[.slice A l.length c, .int .i64 at_] w fun e w' => ∃ v0_ : Value, e = .returned (.tuple #[.agg #[.bool s.run, .int .i64 s.tot, .int .i64 s.sl, v0_], .int .i64 e0]) ∧ Kd.R k74 74 w' w.heap.size (fun _ => True) v0_ s.sls ∧ Below w.heap.size w w'
set_option maxHeartbeats 8000000 in
set_option maxRecDepth 100000 in
theorem report_err (k : Nat) (A : Option Addr) (c : Nat) (l : List S72) (at_ : Int) (e0 : Int) (w : World) (hr : Kd.C k72 w A l.length l) (hc : l.length ≤ c) (he : clock_Check.f k l = some e0) (h0 : e0 ≠ 0) : Ans A c l at_ w ⟨false, 0, 0, []⟩ e0 := by
  have hu67 := Try.underlying67
  have HR := Aside0.mk hr
  have HC := Aside0.mk hc
  have HE := Aside0.mk he
  have HB := Aside0.mk (Below.refl w.heap.size w)
  have e0b : (e0 == 0) = false := beq_eq_false_iff_ne.2 h0
  have e0c : (e0 != 0) = true := bne_iff_ne.2 h0
  clear hr hc he h0
  unfold Ans
  go_enter Try.func34, Try.ntmps34
  go_wp2_with (first | (go_at_call 36; refine (clock_Check.calls k A c l e0 _ ?sR HC.out HE.out).mono ?_; (case sR => exact Kd.C_below HR.out HB.out); rintro e w2 ⟨rfl, hb⟩; have hbx := (hb.block _ (blk_lt HBX.out)).trans HBX.out; have hb2 := below_step HB.out hb; clear HB HBX; have HBX := Aside0.mk hbx; have HB := Aside0.mk hb2; clear hb hbx hb2) | ((with_reducible refine gate_dst (N := 4) rfl ?_); refine box_event ?hg (N := 4) ?hd (cs := #[.bool false, .int .i64 0, .int .i64 0, .slice none 0 0]) (t := 67) ?hr ?_; (case hd => rfl); (case hg => rfl); (case hr => first | (go_simp; done) | (go_simp; rfl)); intro g hg w1 hbox hb; have HBX := Aside0.mk hbox; have HGE := Aside0.mk (show w.heap.size ≤ g by rw [hg]; exact Nat.le_refl _); have HB1 := Aside0.mk (below_step HB.out hb); clear hbox hg hb HB; have HB := HB1; clear HB1) | ((with_reducible refine gate_store (t := 67) (p := 4) rfl ?_); refine agg_event (w0 := w) rfl rfl 67 (.tmp 4) (.tmp 16) rfl (g := g) (e := 67) (.agg #[.bool false, .int .i64 0, .int .i64 0, .slice none 0 0]) [.bool false, .int .i64 0, .int .i64 0, .slice none 0 0] rfl rfl rfl (by kernel_rfl) HBX.out rfl (by simp only [List.mem_cons, List.not_mem_nil, or_false, forall_eq_or_imp, forall_eq]; exact ⟨rfl, rfl, rfl, rfl⟩) HB.out HGE.out ?_; intro w3 hbox hb hgr; clear HBX HB; have HBX := Aside0.mk hbox; have HB := Aside0.mk hb; clear hbox hb hgr))
  refine bodyPost_ret (results_ct rfl _ _ g 67 #[.bool false, .int .i64 0, .int .i64 0, .slice none 0 0] (0, 0) _ rfl HBX.out hu67 rfl (by kernel_rfl)) rfl ?_
  exact ⟨_, rfl, Kd.R_nil _ _ _ _ _, HB.out⟩
end Go.Proofs.Ytihmbddneapooaa.HandCK
