/- Walked by hand: the maker of a chart's bars: y, zero and bar, over a maker that lies in memory with its own row of bars. -/
import Derived.Test.YtemginkjkmmimaaQCBx3
import Derived.Test.YtemginkjkmmimaaLib
import Derived.StillTailTactics
import Derived.Deep.RegionWith
namespace Go.Proofs.Ytemginkjkmmimaa.HandCB
open Go.Proofs.Ytemginkjkmmimaa.Lib (w64)
open Go.RowKit Go.Proofs.YtemginkjkmmimaaW.PrintWords Go.Proofs.YtemginkjkmmimaaW.PrintLast Go.Proofs.YtemginkjkmmimaaW.PrintMore Go.Proofs.Ytemginkjkmmimaa.QCB
set_option linter.unusedVariables false
attribute [local go_sem] max2_int min2_int max_two min_two
theorem info42 : (Try.prog.info? 42).map (fun i => (i.zero, i.size, i.bytes)) = some (some (.agg #[.int .i64 0, .int .i64 0, .int .i64 0, .int .i64 0, .int .i64 0, .int .i64 0]), 6, 48) := by kernel_rfl
/-- A maker lies at block g. -/
def MK (base : Nat) (w : World) (g : Nat) (kd : Int) (NM SR : Value) (lo hi st ht : Int) (out : List S42) : Prop :=
  ∃ v : Value, w.heap[g]? = some (.cells #[.int .i64 kd, NM, SR, .int .i64 lo, .int .i64 hi, .int .i64 st, .int .i64 ht, v] 57 (0, 0)) ∧ base ≤ g ∧ Kd.R k42 42 w base (fun _ => True) v out
theorem MK.below {base : Nat} {w w1 : World} {g : Nat} {kd : Int} {NM SR : Value} {lo hi st ht : Int} {out : List S42} (h : MK base w g kd NM SR lo hi st ht out) (hb : Below w.heap.size w w1) : MK base w1 g kd NM SR lo hi st ht out := by
  obtain ⟨v, h1, h2, h3⟩ := h
  exact ⟨v, blk_below h1 hb, h2, Kd.R_below h3 hb⟩
/-- All blocks but those of bars, and g, are as they were. -/
def TK (g : Nat) (w w' : World) : Prop := ∀ k cells q f, w.heap[k]? = some (.cells cells q f) → q ≠ 42 → k ≠ g → w'.heap[k]? = some (.cells cells q f)
theorem TK.refl (g : Nat) (w : World) : TK g w w := fun _ _ _ _ h _ _ => h
theorem TK.below {g : Nat} {w w1 w2 : World} (h : TK g w w1) (hb : Below w1.heap.size w1 w2) : TK g w w2 := fun j c q f hj hq hg => by
  have h1 := h j c q f hj hq hg
  exact blk_below h1 hb
theorem TK.set {g i : Nat} {w w1 : World} (h : TK g w w1) (u : Value) : TK g w (w1.setCell ⟨g, i, none⟩ u) := fun j c q f hj hq hg => (Below.heap_setCell w1 ⟨g, i, none⟩ u j hg).trans (h j c q f hj hq hg)
theorem TK.row {g : Nat} {w w1 w2 : World} {row : Option Nat} (h : TK g w w1) (hg : w1.grownBy w2 row) (hty : ∀ k, row = some k → ∃ cells, w1.heap[k]? = some (.cells cells 42 (0, 0))) : TK g w w2 := fun j c q f hj hq hne => by
  have h1 := h j c q f hj hq hne
  refine (hg.block j (blk_lt h1) fun e => ?_).trans h1
  obtain ⟨cells, hc⟩ := hty j e.symm
  rw [h1] at hc
  injection hc with hc
  injection hc with _ hc
  exact hq hc
/-- What was made of another type stays, where blocks of bars and the maker alone change. -/
theorem R_TK {α : Type} {d : Kd α} {e base : Nat} {ok : Nat → Prop} {v : Value} {xs : List α} {g : Nat} {w w' : World} {cs : Array Value} (h : d.R e w base ok v xs) (hT : TK g w w') (hg : w.heap[g]? = some (.cells cs 57 (0, 0))) (h42 : ∀ q, q ∈ e :: d.E → q ≠ 42 ∧ q ≠ 57) : d.R e w' base ok v xs := by
  have h2 : d.R e w base (fun k => ok k ∧ k ≠ g ∧ ∃ q, q ∈ e :: d.E ∧ ∃ cells, w.heap[k]? = some (.cells cells q (0, 0))) v xs := Kd.R_mono (Kd.R_bound h) fun k hk => by
    obtain ⟨h1, _, _, q, hq, cells, hc⟩ := hk
    refine ⟨h1, ?_, q, hq, cells, hc⟩
    rintro rfl
    rw [hg] at hc
    injection hc with hc
    injection hc with _ hc
    exact (h42 q hq).2 hc.symm
  refine Kd.R_mono (Kd.R_step h2 fun k hk _ => ?_) fun k hk => hk.1
  obtain ⟨_, hne, q, hq, cells, hc⟩ := hk
  rw [hc]
  exact hT k cells q _ hc (h42 q hq).1 hne
section
variable (base g : Nat) (kd : Int) (NM SR : Value) (lo hi st ht : Int) (out : List S42) (w : World)
set_option maxHeartbeats 4000000 in
set_option maxRecDepth 100000 in
theorem y_ok (k : Nat) (v n e0 : Int) (hM : MK base w g kd NM SR lo hi st ht out) (hp : scale_Place.f k lo hi st v ht = some (n, e0)) :
    Calls Try.prog 21 #[.pointer (some ⟨g, 0, none⟩), .int .i64 v] w fun e w' => e = .returned (.int .i64 (wrap64 (ht - n))) ∧ Below w.heap.size w w' := by
  have hu57 := Try.underlying57
  have hu27 := Try.underlying27
  obtain ⟨u, hbg, hgg, hRR⟩ := hM
  have hc3 : w.cell? ⟨g, 3, none⟩ = some (.int .i64 lo) := (blk_cell hbg 3).trans rfl
  have hc4 : w.cell? ⟨g, 4, none⟩ = some (.int .i64 hi) := (blk_cell hbg 4).trans rfl
  have hc5 : w.cell? ⟨g, 5, none⟩ = some (.int .i64 st) := (blk_cell hbg 5).trans rfl
  have hc6 : w.cell? ⟨g, 6, none⟩ = some (.int .i64 ht) := (blk_cell hbg 6).trans rfl
  have HBK := Aside0.mk hbg
  have HP := Aside0.mk hp
  clear hbg hgg hRR hp
  go_enter Try.func21, Try.ntmps21
  go_wp2
  go_region_with (go_at_call 28; refine (scale_Place.calls k lo hi st v ht n e0 _ HP.out).mono ?_; rintro e w2 ⟨rfl, hb⟩)
  all_goals (have hb3 : Below w.heap.size w w2 := below_step (pw_below_drewN (Below.refl w.heap.size w) 1) hb)
  all_goals (have hc6 : w2.cell? ⟨g, 6, none⟩ = some (.int .i64 ht) := (blk_cell (blk_below HBK.out hb3) 6).trans rfl)
  all_goals (have HB2 := Aside0.mk hb3)
  all_goals clear hb hb3
  all_goals go_wp2
  all_goals go_ret
  all_goals exact ⟨rfl, HB2.out⟩
set_option maxHeartbeats 4000000 in
set_option maxRecDepth 100000 in
theorem zero_ok (hM : MK base w g kd NM SR lo hi st ht out) :
    Calls Try.prog 27 #[.pointer (some ⟨g, 0, none⟩)] w fun e w' => e = .returned (.int .i64 (mn (mx 0 lo) hi)) ∧ Below w.heap.size w w' := by
  have hu57 := Try.underlying57
  have hu27 := Try.underlying27
  obtain ⟨u, hbg, hgg, hRR⟩ := hM
  have hc3 : w.cell? ⟨g, 3, none⟩ = some (.int .i64 lo) := (blk_cell hbg 3).trans rfl
  have hc4 : w.cell? ⟨g, 4, none⟩ = some (.int .i64 hi) := (blk_cell hbg 4).trans rfl
  clear hbg hgg hRR
  obtain ⟨a, ha⟩ : ∃ a, mx 0 lo = a := ⟨_, rfl⟩
  have ha_ : (if 0 < lo then lo else 0) = a := ha
  obtain ⟨b, hb⟩ : ∃ b, mn a hi = b := ⟨_, rfl⟩
  have hb_ : (if hi < a then hi else a) = b := hb
  rw [ha, hb]
  go_enter Try.func27, Try.ntmps27
  go_wp2
  repeat (go_quiet (fail); try go_wp2)
  go_ret
  exact ⟨by first | rfl | (simp [*]; done), pw_below_drewN (Below.refl _ _) _⟩
set_option maxHeartbeats 8000000 in
set_option maxRecDepth 100000 in
theorem bar_ok (w0 : World) (k : Nat) (sr vl from_ to_ x wd na ea nb eb : Int) (hw : base = w0.heap.size) (hB : Below w0.heap.size w0 w) (hM : MK base w g kd NM SR lo hi st ht out) (ha : scale_Place.f k lo hi st from_ ht = some (na, ea)) (hb : scale_Place.f k lo hi st to_ ht = some (nb, eb)) (hn : out.length ≤ 1000000) :
    Calls Try.prog 26 #[.pointer (some ⟨g, 0, none⟩), .int .i64 sr, .int .i64 vl, .int .i64 from_, .int .i64 to_, .int .i64 x, .int .i64 wd] w fun e w' => e = .returned (.tuple #[]) ∧
      MK base w' g kd NM SR lo hi st ht (out ++ [⟨sr, vl, x, mn (wrap64 (ht - na)) (wrap64 (ht - nb)), wd, wrap64 (mx (wrap64 (ht - na)) (wrap64 (ht - nb)) - mn (wrap64 (ht - na)) (wrap64 (ht - nb)))⟩]) ∧ Below w0.heap.size w0 w' ∧ TK g w w' := by
  subst hw
  have hu57 := Try.underlying57
  have hu42 := Try.underlying42
  have HM := Aside0.mk hM
  have HA := Aside0.mk ha
  have HBB := Aside0.mk hb
  have HN := Aside0.mk hn
  have HB := Aside0.mk hB
  have HT := Aside0.mk (TK.refl g w)
  clear hM ha hb hn hB
  obtain ⟨ya, hya⟩ : ∃ ya, wrap64 (ht - na) = ya := ⟨_, rfl⟩
  obtain ⟨yb, hyb⟩ : ∃ yb, wrap64 (ht - nb) = yb := ⟨_, rfl⟩
  rw [hya, hyb]
  have HYA := Aside0.mk hya
  have HYB := Aside0.mk hyb
  clear hya hyb
  obtain ⟨m1, hm1⟩ : ∃ a, mn ya yb = a := ⟨_, rfl⟩
  obtain ⟨m2, hm2⟩ : ∃ a, mx ya yb = a := ⟨_, rfl⟩
  have hm1_ : (if yb < ya then yb else ya) = m1 := hm1
  have hm2_ : (if ya < yb then yb else ya) = m2 := hm2
  rw [hm1, hm2]
  go_enter Try.func26, Try.ntmps26
  go_upto_region 1 with (first | (go_at_call 21; refine (y_ok w0.heap.size g kd NM SR lo hi st ht out _ k from_ na ea HM.out HA.out).mono ?_; rintro e w2 ⟨rfl, hb⟩; rw [HYA.out]; (have hmm := MK.below HM.out hb); (have hbb := below_step HB.out hb); (have htt := TK.below HT.out hb); clear HM HB HT HA; (have HM := Aside0.mk hmm); (have HB := Aside0.mk hbb); (have HT := Aside0.mk htt); clear hmm hbb htt hb) | (go_at_call 21; refine (y_ok w0.heap.size g kd NM SR lo hi st ht out _ k to_ nb eb HM.out HBB.out).mono ?_; rintro e w3 ⟨rfl, hb⟩; rw [HYB.out]; (have hmm := MK.below HM.out hb); (have hbb := below_step HB.out hb); (have htt := TK.below HT.out hb); clear HM HB HT HBB; (have HM := Aside0.mk hmm); (have HB := Aside0.mk hbb); (have HT := Aside0.mk htt); clear hmm hbb htt hb))
  obtain ⟨u, hbg, hgg, hRR⟩ := HM.out
  obtain ⟨Ao, co, rfl⟩ := Kd.R_slice hRR
  have hc7 : w3.cell? ⟨g, 7, none⟩ = some (.slice Ao out.length co) := (blk_cell hbg 7).trans rfl
  have HBK := Aside0.mk hbg
  have HG := Aside0.mk hgg
  have HO := Aside0.mk hRR
  clear hbg hgg hRR
  clear HM
  have hf7 : w3.frozen? ⟨g, 7, none⟩ = false := blk_frozen HBK.out 7
  go_wp2_with ((with_reducible refine gate_builtin (b := .append) (xs := #[.tmp 26, .tmp 42]) rfl ?_); at_builtin; refine Kd.R_append k42 (w0 := w0) w0.heap.size rfl (.tmp 26) (.tmp 42) 32 42 (.agg #[(.int .i64 0), (.int .i64 0), (.int .i64 0), (.int .i64 0), (.int .i64 0), (.int .i64 0)]) 48 rfl Try.underlying32 info42 rfl (by decide) (by omega) (.slice Ao out.length co) out (⟨sr, vl, x, m1, wd, wrap64 (m2 - m1)⟩ : S42) [.int .i64 sr, .int .i64 vl, .int .i64 x, .int .i64 m1, .int .i64 wd, .int .i64 (wrap64 (m2 - m1))] (fun _ => True) (fun _ => False) rfl rfl ?aP (fun _ hk => hk.elim) ?aF ?aO ?aB ?aS ?aL ?_; (case aP => exact k42_mkM _ _ _ (⟨sr, vl, x, m1, wd, wrap64 (m2 - m1)⟩ : S42)); (case aB => exact HB.out); (case aF => exact (fun _ _ => trivial)); (case aO => exact HO.out); (case aS => exact HB.out.size); (case aL => have := HN.out; omega); intro v4 w4 ho hb hgr hat; obtain ⟨A4, c4, rfl⟩ := Kd.R_slice ho; simp only [List.length_append, List.length_singleton] at ho; have hbk4 := blk_grown HBK.out hgr (Kd.R_ne HO.out HBK.out (by decide)); have hc4 : w4.cell? ⟨g, 7, none⟩ = some (.slice Ao out.length co) := (blk_cell hbk4 7).trans rfl; have hf4 : w4.frozen? ⟨g, 7, none⟩ = false := blk_frozen hbk4 7; have HO4 := Aside0.mk ho; have HB4 := Aside0.mk hb; have HK4 := Aside0.mk hbk4; have HT4 := Aside0.mk (TK.row HT.out hgr (fun k hk => Kd.R_typed HO.out k hk)); clear ho hb hgr hat hbk4)
  go_end0
  refine ⟨rfl, ⟨.slice A4 (out.length + 1) c4, blk_set HK4.out 7 _, HG.out, ?_⟩, below_set HB4.out HG.out, TK.set HT4.out _⟩
  exact Kd.R_mono (Kd.R_far (Kd.R_types HO4.out HK4.out (by decide)) (fun _ hk => hk.2) _) (fun _ _ => trivial)
end
end Go.Proofs.Ytemginkjkmmimaa.HandCB
