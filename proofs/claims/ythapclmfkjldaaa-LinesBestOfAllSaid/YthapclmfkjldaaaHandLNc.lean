import Derived.Test.YthapclmfkjldaaaHandLNb
namespace Go.Proofs.Ythapclmfkjldaaa.HandLN
set_option linter.unusedSectionVars false
set_option linter.unusedVariables false
set_option linter.unusedSimpArgs false
open Go.Proofs.Ythapclmfkjldaaa.Lib (w64)
open Go.RowKit Go.Proofs.YthapclmfkjldaaaW.PrintWords Go.Proofs.YthapclmfkjldaaaW.PrintLast Go.Proofs.YthapclmfkjldaaaW.PrintMore Go.Proofs.Ythapclmfkjldaaa.QLN
attribute [local go_sem] max2_int min2_int max_two min_two
section
variable {P : Program} {ops : Array Oper} {o : Oper} {a : Act} {Q : Exit → Act → World → Prop} {K : Act → World → Prop}
theorem agg_step {w0 W : World} (hw : Region.wanted o (yielded ops a.tmps) = true) (hN : o.dst = none) (t : TypeId) (p x : Operand) (ho : o.op = .store t p x) {g : Nat} {e : TypeId} {cur : Array Value} (u : Value) (seg : List Value)
    (haddr : a.eval p = .pointer (some ⟨g, 0, none⟩)) (hx : a.eval x = u) (hu : u.cells.toList = seg) (ht : (P.info? t).map (·.size) = some seg.length) (hh : W.heap[g]? = some (.cells cur e (0, 0))) (hfit : cur.size = seg.length) (h1 : ∀ q ∈ seg, q.oneCell' = true)
    (HB : Below w0.heap.size w0 W) (hge : w0.heap.size ≤ g)
    (h : ∀ w1, w1.heap[g]? = some (.cells seg.toArray e (0, 0)) → Below w0.heap.size w0 w1 → W.grownBy w1 (some g) → K a w1) : if Region.wanted o (yielded ops a.tmps) = true then Oper.wp P o a W K Q else K (a.put none undef) W := by
 have hrun : (Instr.storeAt t (.pointer (some ⟨g, 0, none⟩)) u).run P W = .ok () (W.setCells g 0 seg) := run_store_run t u seg hh hu ht (by omega) h1
 obtain ⟨cur', hrow, _, hl⟩ := setCells_row (g := g) (e := e) seg 0 W cur hh (by omega)
 have hcur : cur' = seg.toArray := by
  rw [List.drop_eq_nil_of_le (by rw [Array.length_toList]; omega), List.take_zero, List.append_nil, List.nil_append] at hl
  rw [← hl]
 rw [hcur] at hrow
 have hs := setCells_same g seg 0 W
 have hg : W.grownBy (W.setCells g 0 seg) (some g) := ⟨hs.1, hs.2.1, hs.2.2.1, by omega, fun k _ hk => setCells_far seg 0 k (fun e => hk (by rw [e]))⟩
 have hB : Below w0.heap.size w0 (W.setCells g 0 seg) := pw_below_grown HB (some g) HB.size hg (fun k hk => by cases hk; exact hge)
 refine skip_ hw hN (w1 := W.setCells g 0 seg) ?_ (h _ hrow hB hg)
 unfold execOp
 simp only [ho, haddr, hx, Sem.run_bind, Sem.run_pure, Result.andThen_ok, hrun]
end
def lineP (L : List S49) (W wi gr yi : List Int) (f t num : Int) : S41 := ⟨f, t, rd wi t - rd wi f + addP L t, rd gr t - rd gr f, rd yi t - rd yi f, rd W (mn num ((W.length : Int) - 1))⟩
def Bd (L : List S49) (W wi gr yi be : List Int) : Prop :=
 L.length ≤ 8000 ∧ 1 ≤ W.length ∧ W.length ≤ 20 ∧ wi.length = L.length + 1 ∧ gr.length = L.length + 1 ∧ yi.length = L.length + 1 ∧ be.length = L.length + 2 ∧
 (∀ i : Int, 0 ≤ i → i ≤ L.length → 0 ≤ rd wi i ∧ rd wi i ≤ 800000000 ∧ 0 ≤ rd gr i ∧ rd gr i ≤ 800000000 ∧ 0 ≤ rd yi i ∧ rd yi i ≤ 800000000) ∧
 (∀ i : Int, 0 ≤ i → i < L.length → 0 ≤ (pt L i).f1 ∧ (pt L i).f1 ≤ 100000 ∧ -10000 ≤ (pt L i).f4 ∧ (pt L i).f4 ≤ 10000) ∧
 (∀ i : Int, 0 ≤ i → i < W.length → 1 ≤ rd W i ∧ rd W i ≤ 100000)
section
variable (w : World) (g : Nat) (L : List S49) (W : List Int) (D : Int) (wi gr yi be : List Int) (hM : MK w g L W D wi gr yi be) (hD : Bd L W wi gr yi be)
include hM hD
set_option maxHeartbeats 8000000 in
set_option maxRecDepth 100000 in
theorem line_ok (f t num : Int) (hf0 : 0 ≤ f) (hft : f ≤ t) (ht1 : t ≤ L.length) (hn0 : 0 ≤ num) (hn1 : num ≤ 1000000) :
    Calls Try.prog 24 #[.pointer (some ⟨g, 0, none⟩), .int .i64 f, .int .i64 t, .int .i64 num] w fun e w' => e = .returned (.agg #[.int .i64 (lineP L W wi gr yi f t num).f0, .int .i64 (lineP L W wi gr yi f t num).f1, .int .i64 (lineP L W wi gr yi f t num).f2, .int .i64 (lineP L W wi gr yi f t num).f3, .int .i64 (lineP L W wi gr yi f t num).f4, .int .i64 (lineP L W wi gr yi f t num).f5]) ∧ Below w.heap.size w w' := by
 have hu57 := Try.underlying57
 have hu49 := Try.underlying49
 have hu41 := Try.underlying41
 have hu25 := Try.underlying25
 obtain ⟨d1, d2, d3, d4, d5, d6, d7, d8, d9, d10⟩ := hD
 obtain ⟨A0, c0, A1, c1, A2, c2, A3, c3, A4, c4, A5, c5, hbk, hL, hW, h2, h3, h4, h5⟩ := hM
 obtain ⟨a2, rfl, x2t⟩ := at_int h2 t (by omega) (by omega)
 obtain ⟨a2', e2, x2f⟩ := at_int h2 f (by omega) (by omega)
 cases e2
 obtain ⟨a3, rfl, x3t⟩ := at_int h3 t (by omega) (by omega)
 obtain ⟨a3', e3, x3f⟩ := at_int h3 f (by omega) (by omega)
 cases e3
 obtain ⟨a4, rfl, x4t⟩ := at_int h4 t (by omega) (by omega)
 obtain ⟨a4', e4, x4f⟩ := at_int h4 f (by omega) (by omega)
 cases e4
 obtain ⟨m, hm⟩ : ∃ m, mn num ((W.length : Int) - 1) = m := ⟨_, rfl⟩
 have hmb : 0 ≤ m ∧ m < (W.length : Int) := by rw [← hm]; unfold mn; split <;> omega
 obtain ⟨a1, rfl, x1m⟩ := at_int hW m hmb.1 hmb.2
 have hm0 : 0 ≤ m := hmb.1
 have hm1 : m < (W.length : Int) := hmb.2
 obtain ⟨bt1, bt2, bt3, bt4, bt5, bt6⟩ := d8 t (by omega) ht1
 obtain ⟨bf1, bf2, bf3, bf4, bf5, bf6⟩ := d8 f (by omega) (by omega)
 have hLP : Aside0 (lineP L W wi gr yi f t num = ⟨f, t, rd wi t - rd wi f + addP L t, rd gr t - rd gr f, rd yi t - rd yi f, rd W m⟩) := ⟨by unfold lineP; rw [hm]⟩
 have hm_ : (if (W.length : Int) - 1 < num then (W.length : Int) - 1 else num) = m := hm
 have l2t : t < (wi.length : Int) := by omega
 have l2f : f < (wi.length : Int) := by omega
 have l3t : t < (gr.length : Int) := by omega
 have l3f : f < (gr.length : Int) := by omega
 have l4t : t < (yi.length : Int) := by omega
 have l4f : f < (yi.length : Int) := by omega
 have ht0 : 0 ≤ t := by omega
 obtain ⟨wt, hwt⟩ : ∃ q, rd wi t = q := ⟨_, rfl⟩
 obtain ⟨wf, hwf⟩ : ∃ q, rd wi f = q := ⟨_, rfl⟩
 obtain ⟨gt, hgt⟩ : ∃ q, rd gr t = q := ⟨_, rfl⟩
 obtain ⟨gf, hgf⟩ : ∃ q, rd gr f = q := ⟨_, rfl⟩
 obtain ⟨yt, hyt⟩ : ∃ q, rd yi t = q := ⟨_, rfl⟩
 obtain ⟨yf, hyf⟩ : ∃ q, rd yi f = q := ⟨_, rfl⟩
 obtain ⟨wm, hwm⟩ : ∃ q, rd W m = q := ⟨_, rfl⟩
 rw [hwt, hwf, hgt, hgf, hyt, hyf, hwm] at hLP
 rw [hwt] at x2t bt1 bt2
 rw [hwf] at x2f bf1 bf2
 rw [hgt] at x3t bt3 bt4
 rw [hgf] at x3f bf3 bf4
 rw [hyt] at x4t bt5 bt6
 rw [hyf] at x4f bf5 bf6
 rw [hwm] at x1m
 clear hwt hwf hgt hgf hyt hyf hwm
 have k1 : wrap64 (wt - wf) = wt - wf := w64 (by omega) (by omega)
 have k2 : wrap64 (gt - gf) = gt - gf := w64 (by omega) (by omega)
 have k3 : wrap64 (yt - yf) = yt - yf := w64 (by omega) (by omega)
 have k4 : wrap64 ((W.length : Int) - 1) = (W.length : Int) - 1 := w64 (by omega) (by omega)
 have k6 := (i64_w ((W.length : Int) - 1)).trans k4
 have hmn_ : (if t < f then t else f) = f := if_neg (by omega)
 have HBK := Aside0.mk hbk
 have HLL := Aside0.mk hL
 have X2t := Aside0.mk x2t
 have X2f := Aside0.mk x2f
 have X3t := Aside0.mk x3t
 have X3f := Aside0.mk x3f
 have X4t := Aside0.mk x4t
 have X4f := Aside0.mk x4f
 have X1m := Aside0.mk x1m
 have D9 := Aside0.mk d9
 have HB := Aside0.mk (Below.refl w.heap.size w)
 clear d2 d3 d4 d5 d6 d7 hm hbk hL hW h2 h3 h4 h5 d8 d9 d10 x2t x2f x3t x3f x4t x4f x1m
 go_enter Try.func24, Try.ntmps24
 go_upto_region 2 with ((with_reducible refine gate_dst (N := 8) rfl ?_); refine box_event ?hg (N := 8) ?hd (cs := #[.int .i64 0, .int .i64 0, .int .i64 0, .int .i64 0, .int .i64 0, .int .i64 0]) (t := 41) ?hr ?_; (case hd => rfl); (case hg => rfl); (case hr => first | (go_simp; done) | (go_simp; rfl)); intro g8 hg w5 hbox hb; (have hge : w.heap.size ≤ g8 := by rw [hg]; exact Nat.le_refl _); (have hbb := below_step HB.out hb); clear HB; (have HB := Aside0.mk hbb); (have H8 := Aside0.mk hbox); (have G8 := Aside0.mk hge); clear hg hbox hb hbb hge)
 have HB0 := Aside0.mk (below_drew1 HB.out)
 have H80 := Aside0.mk (blk_below H8.out (below_drew1 (Below.refl w5.heap.size w5)))
 refine start_ (n := 50) (S := fun w' => w'.cell? ⟨g, 3, none⟩ = some (.slice (some a2) wi.length c2) ∧ w'.cell? ⟨g, 4, none⟩ = some (.slice (some a3) gr.length c3) ∧ w'.cell? ⟨g, 5, none⟩ = some (.slice (some a4) yi.length c4) ∧ w'.cell? (a2.add t.toNat) = some (.int .i64 wt) ∧ w'.cell? (a2.add f.toNat) = some (.int .i64 wf) ∧ w'.cell? (a3.add t.toNat) = some (.int .i64 gt) ∧ w'.cell? (a3.add f.toNat) = some (.int .i64 gf) ∧ w'.cell? (a4.add t.toNat) = some (.int .i64 yt) ∧ w'.cell? (a4.add f.toNat) = some (.int .i64 yf)) (ds := [49]) #[false, false, false, false, false, false, false, false, false, false, false, false, false, false, false, false, false, false, false, false, false, false, false, false, false, false, false, false, false, false, false, false, false, false, false, false, false, false, false, false, false, false, false, false, false, false, false, false, false, false] (by kernel_rfl) rfl rfl ⟨(blk_cell (blk_below HBK.out HB0.out) 3).trans rfl, (blk_cell (blk_below HBK.out HB0.out) 4).trans rfl, (blk_cell (blk_below HBK.out HB0.out) 5).trans rfl, (HB0.out.cell (World.block_lt_of_cell? _ _ X2t.out)).trans X2t.out, (HB0.out.cell (World.block_lt_of_cell? _ _ X2f.out)).trans X2f.out, (HB0.out.cell (World.block_lt_of_cell? _ _ X3t.out)).trans X3t.out, (HB0.out.cell (World.block_lt_of_cell? _ _ X3f.out)).trans X3f.out, (HB0.out.cell (World.block_lt_of_cell? _ _ X4t.out)).trans X4t.out, (HB0.out.cell (World.block_lt_of_cell? _ _ X4f.out)).trans X4f.out⟩ (fun hHeld => ?_)
 generalize w5.drew = wd at HB0 H80 hHeld ⊢
 clear HB H8
 have HB := HB0
 have H8 := H80
 clear HB0 H80
 refine pure_ (i := 0) (N := some 13) (v := ?_) (a' := ?_) #[true, false, false, false, false, false, false, false, false, false, false, false, false, false, false, false, false, false, false, false, false, false, false, false, false, false, false, false, false, false, false, false, false, false, false, false, false, false, false, false, false, false, false, false, false, false, false, false, false, false] rfl rfl (by kernel_rfl) (fun _ _ _ h => h) (Or.inl ⟨by rfl, ?_⟩) ?_ ?_
 rotate_left
 · intro w'
   go_simp
   with_reducible rfl
 rotate_left
 · simp only [Act.put, List.setIfInBounds_toArray, List.set_cons_zero, List.set_cons_succ, i64_w, i32_w]
   rfl
 refine pure_ (i := 1) (N := some 14) (v := ?_) (a' := ?_) #[true, true, false, false, false, false, false, false, false, false, false, false, false, false, false, false, false, false, false, false, false, false, false, false, false, false, false, false, false, false, false, false, false, false, false, false, false, false, false, false, false, false, false, false, false, false, false, false, false, false] rfl rfl (by kernel_rfl) (fun _ _ _ h => h) (Or.inl ⟨by rfl, ?_⟩) ?_ ?_
 rotate_left
 · intro w'
   go_simp
   with_reducible rfl
 rotate_left
 · simp only [Act.put, List.setIfInBounds_toArray, List.set_cons_zero, List.set_cons_succ, i64_w, i32_w]
   rfl
 refine pure_ (i := 2) (N := some 15) (v := ?_) (a' := ?_) #[true, true, true, false, false, false, false, false, false, false, false, false, false, false, false, false, false, false, false, false, false, false, false, false, false, false, false, false, false, false, false, false, false, false, false, false, false, false, false, false, false, false, false, false, false, false, false, false, false, false] rfl rfl (by kernel_rfl) (fun _ _ _ h => h) (Or.inl ⟨by rfl, ?_⟩) ?_ ?_
 rotate_left
 · intro w'
   go_simp
   with_reducible rfl
 rotate_left
 · simp only [Act.put, List.setIfInBounds_toArray, List.set_cons_zero, List.set_cons_succ, i64_w, i32_w]
   rfl
 refine pure_ (i := 3) (N := some 16) (v := ?_) (a' := ?_) #[true, true, true, true, false, false, false, false, false, false, false, false, false, false, false, false, false, false, false, false, false, false, false, false, false, false, false, false, false, false, false, false, false, false, false, false, false, false, false, false, false, false, false, false, false, false, false, false, false, false] rfl rfl (by kernel_rfl) (fun _ _ _ h => h) (Or.inl ⟨by rfl, ?_⟩) ?_ ?_
 rotate_left
 · intro w'
   go_simp
   with_reducible rfl
 rotate_left
 · simp only [Act.put, List.setIfInBounds_toArray, List.set_cons_zero, List.set_cons_succ, i64_w, i32_w]
   rfl
 refine pure_ (i := 4) (N := some 17) (v := ?_) (a' := ?_) #[true, true, true, true, true, false, false, false, false, false, false, false, false, false, false, false, false, false, false, false, false, false, false, false, false, false, false, false, false, false, false, false, false, false, false, false, false, false, false, false, false, false, false, false, false, false, false, false, false, false] rfl rfl (by kernel_rfl) (fun _ _ _ h => h) (Or.inl ⟨by rfl, ?_⟩) ?_ ?_
 rotate_left
 · intro w'
   go_simp
   with_reducible rfl
 rotate_left
 · simp only [Act.put, List.setIfInBounds_toArray, List.set_cons_zero, List.set_cons_succ, i64_w, i32_w]
   rfl
 refine pure_ (i := 6) (N := some 19) (v := ?_) (a' := ?_) #[true, true, true, true, true, false, true, false, false, false, false, false, false, false, false, false, false, false, false, false, false, false, false, false, false, false, false, false, false, false, false, false, false, false, false, false, false, false, false, false, false, false, false, false, false, false, false, false, false, false] rfl rfl (by kernel_rfl) (fun _ _ _ h => h) (Or.inl ⟨by rfl, ?_⟩) ?_ ?_
 rotate_left
 · intro w'
   go_simp
   with_reducible rfl
 rotate_left
 · simp only [Act.put, List.setIfInBounds_toArray, List.set_cons_zero, List.set_cons_succ, i64_w, i32_w]
   rfl
 refine pure_ (i := 9) (N := some 22) (v := ?_) (a' := ?_) #[true, true, true, true, true, false, true, false, false, true, false, false, false, false, false, false, false, false, false, false, false, false, false, false, false, false, false, false, false, false, false, false, false, false, false, false, false, false, false, false, false, false, false, false, false, false, false, false, false, false] rfl rfl (by kernel_rfl) (fun _ _ _ h => h) (Or.inl ⟨by rfl, ?_⟩) ?_ ?_
 rotate_left
 · intro w'
   go_simp
   with_reducible rfl
 rotate_left
 · simp only [Act.put, List.setIfInBounds_toArray, List.set_cons_zero, List.set_cons_succ, i64_w, i32_w]
   rfl
 refine pure_ (i := 10) (N := some 23) (v := ?_) (a' := ?_) #[true, true, true, true, true, false, true, false, false, true, true, false, false, false, false, false, false, false, false, false, false, false, false, false, false, false, false, false, false, false, false, false, false, false, false, false, false, false, false, false, false, false, false, false, false, false, false, false, false, false] rfl rfl (by kernel_rfl) (fun _ _ _ h => h) (Or.inl ⟨by rfl, ?_⟩) ?_ ?_
 rotate_left
 · intro w'
   go_simp
   with_reducible rfl
 rotate_left
 · simp only [Act.put, List.setIfInBounds_toArray, List.set_cons_zero, List.set_cons_succ, i64_w, i32_w]
   rfl
 refine pure_ (i := 11) (N := some 24) (v := ?_) (a' := ?_) #[true, true, true, true, true, false, true, false, false, true, true, true, false, false, false, false, false, false, false, false, false, false, false, false, false, false, false, false, false, false, false, false, false, false, false, false, false, false, false, false, false, false, false, false, false, false, false, false, false, false] rfl rfl (by kernel_rfl) (fun _ _ _ h => h) (Or.inl ⟨by rfl, ?_⟩) ?_ ?_
 rotate_left
 · intro w'
   go_simp
   with_reducible rfl
 rotate_left
 · simp only [Act.put, List.setIfInBounds_toArray, List.set_cons_zero, List.set_cons_succ, i64_w, i32_w]
   rfl
 refine pure_ (i := 13) (N := some 26) (v := ?_) (a' := ?_) #[true, true, true, true, true, false, true, false, false, true, true, true, false, true, false, false, false, false, false, false, false, false, false, false, false, false, false, false, false, false, false, false, false, false, false, false, false, false, false, false, false, false, false, false, false, false, false, false, false, false] rfl rfl (by kernel_rfl) (fun _ _ _ h => h) (Or.inl ⟨by rfl, ?_⟩) ?_ ?_
 rotate_left
 · intro w'
   go_simp
   with_reducible rfl
 rotate_left
 · simp only [Act.put, List.setIfInBounds_toArray, List.set_cons_zero, List.set_cons_succ, i64_w, i32_w]
   rfl
 refine pure_ (i := 17) (N := some 30) (v := ?_) (a' := ?_) #[true, true, true, true, true, false, true, false, false, true, true, true, false, true, false, false, false, true, false, false, false, false, false, false, false, false, false, false, false, false, false, false, false, false, false, false, false, false, false, false, false, false, false, false, false, false, false, false, false, false] rfl rfl (by kernel_rfl) (fun _ _ _ h => h) (Or.inl ⟨by rfl, ?_⟩) ?_ ?_
 rotate_left
 · intro w'
   go_simp
   with_reducible rfl
 rotate_left
 · simp only [Act.put, List.setIfInBounds_toArray, List.set_cons_zero, List.set_cons_succ, i64_w, i32_w]
   rfl
 refine pure_ (i := 18) (N := some 31) (v := ?_) (a' := ?_) #[true, true, true, true, true, false, true, false, false, true, true, true, false, true, false, false, false, true, true, false, false, false, false, false, false, false, false, false, false, false, false, false, false, false, false, false, false, false, false, false, false, false, false, false, false, false, false, false, false, false] rfl rfl (by kernel_rfl) (fun _ _ _ h => h) (Or.inl ⟨by rfl, ?_⟩) ?_ ?_
 rotate_left
 · intro w'
   go_simp
   with_reducible rfl
 rotate_left
 · simp only [Act.put, List.setIfInBounds_toArray, List.set_cons_zero, List.set_cons_succ, i64_w, i32_w]
   rfl
 refine pure_ (i := 19) (N := some 32) (v := ?_) (a' := ?_) #[true, true, true, true, true, false, true, false, false, true, true, true, false, true, false, false, false, true, true, true, false, false, false, false, false, false, false, false, false, false, false, false, false, false, false, false, false, false, false, false, false, false, false, false, false, false, false, false, false, false] rfl rfl (by kernel_rfl) (fun _ _ _ h => h) (Or.inl ⟨by rfl, ?_⟩) ?_ ?_
 rotate_left
 · intro w'
   go_simp
   with_reducible rfl
 rotate_left
 · simp only [Act.put, List.setIfInBounds_toArray, List.set_cons_zero, List.set_cons_succ, i64_w, i32_w]
   rfl
 refine pure_ (i := 21) (N := some 34) (v := ?_) (a' := ?_) #[true, true, true, true, true, false, true, false, false, true, true, true, false, true, false, false, false, true, true, true, false, true, false, false, false, false, false, false, false, false, false, false, false, false, false, false, false, false, false, false, false, false, false, false, false, false, false, false, false, false] rfl rfl (by kernel_rfl) (fun _ _ _ h => h) (Or.inl ⟨by rfl, ?_⟩) ?_ ?_
 rotate_left
 · intro w'
   go_simp
   with_reducible rfl
 rotate_left
 · simp only [Act.put, List.setIfInBounds_toArray, List.set_cons_zero, List.set_cons_succ, i64_w, i32_w]
   rfl
 refine pure_ (i := 24) (N := some 37) (v := ?_) (a' := ?_) #[true, true, true, true, true, false, true, false, false, true, true, true, false, true, false, false, false, true, true, true, false, true, false, false, true, false, false, false, false, false, false, false, false, false, false, false, false, false, false, false, false, false, false, false, false, false, false, false, false, false] rfl rfl (by kernel_rfl) (fun _ _ _ h => h) (Or.inl ⟨by rfl, ?_⟩) ?_ ?_
 rotate_left
 · intro w'
   go_simp
   with_reducible rfl
 rotate_left
 · simp only [Act.put, List.setIfInBounds_toArray, List.set_cons_zero, List.set_cons_succ, i64_w, i32_w]
   rfl
 refine pure_ (i := 25) (N := some 38) (v := ?_) (a' := ?_) #[true, true, true, true, true, false, true, false, false, true, true, true, false, true, false, false, false, true, true, true, false, true, false, false, true, true, false, false, false, false, false, false, false, false, false, false, false, false, false, false, false, false, false, false, false, false, false, false, false, false] rfl rfl (by kernel_rfl) (fun _ _ _ h => h) (Or.inl ⟨by rfl, ?_⟩) ?_ ?_
 rotate_left
 · intro w'
   go_simp
   with_reducible rfl
 rotate_left
 · simp only [Act.put, List.setIfInBounds_toArray, List.set_cons_zero, List.set_cons_succ, i64_w, i32_w]
   rfl
 refine pure_ (i := 26) (N := some 39) (v := ?_) (a' := ?_) #[true, true, true, true, true, false, true, false, false, true, true, true, false, true, false, false, false, true, true, true, false, true, false, false, true, true, true, false, false, false, false, false, false, false, false, false, false, false, false, false, false, false, false, false, false, false, false, false, false, false] rfl rfl (by kernel_rfl) (fun _ _ _ h => h) (Or.inl ⟨by rfl, ?_⟩) ?_ ?_
 rotate_left
 · intro w'
   go_simp
   with_reducible rfl
 rotate_left
 · simp only [Act.put, List.setIfInBounds_toArray, List.set_cons_zero, List.set_cons_succ, i64_w, i32_w]
   rfl
 refine pure_ (i := 28) (N := some 41) (v := ?_) (a' := ?_) #[true, true, true, true, true, false, true, false, false, true, true, true, false, true, false, false, false, true, true, true, false, true, false, false, true, true, true, false, true, false, false, false, false, false, false, false, false, false, false, false, false, false, false, false, false, false, false, false, false, false] rfl rfl (by kernel_rfl) (fun _ _ _ h => h) (Or.inl ⟨by rfl, ?_⟩) ?_ ?_
 rotate_left
 · intro w'
   go_simp
   with_reducible rfl
 rotate_left
 · simp only [Act.put, List.setIfInBounds_toArray, List.set_cons_zero, List.set_cons_succ, i64_w, i32_w]
   rfl
 refine pure_ (i := 32) (N := some 45) (v := ?_) (a' := ?_) #[true, true, true, true, true, false, true, false, false, true, true, true, false, true, false, false, false, true, true, true, false, true, false, false, true, true, true, false, true, false, false, false, true, false, false, false, false, false, false, false, false, false, false, false, false, false, false, false, false, false] rfl rfl (by kernel_rfl) (fun _ _ _ h => h) (Or.inl ⟨by rfl, ?_⟩) ?_ ?_
 rotate_left
 · intro w'
   go_simp
   with_reducible rfl
 rotate_left
 · simp only [Act.put, List.setIfInBounds_toArray, List.set_cons_zero, List.set_cons_succ, i64_w, i32_w]
   rfl
 refine pure_ (i := 33) (N := some 46) (v := ?_) (a' := ?_) #[true, true, true, true, true, false, true, false, false, true, true, true, false, true, false, false, false, true, true, true, false, true, false, false, true, true, true, false, true, false, false, false, true, true, false, false, false, false, false, false, false, false, false, false, false, false, false, false, false, false] rfl rfl (by kernel_rfl) (fun _ _ _ h => h) (Or.inl ⟨by rfl, ?_⟩) ?_ ?_
 rotate_left
 · intro w'
   go_simp
   with_reducible rfl
 rotate_left
 · simp only [Act.put, List.setIfInBounds_toArray, List.set_cons_zero, List.set_cons_succ, i64_w, i32_w]
   rfl
 refine pure_ (i := 34) (N := some 47) (v := ?_) (a' := ?_) #[true, true, true, true, true, false, true, false, false, true, true, true, false, true, false, false, false, true, true, true, false, true, false, false, true, true, true, false, true, false, false, false, true, true, true, false, false, false, false, false, false, false, false, false, false, false, false, false, false, false] rfl rfl (by kernel_rfl) (fun _ _ _ h => h) (Or.inl ⟨by rfl, ?_⟩) ?_ ?_
 rotate_left
 · intro w'
   go_simp
   with_reducible rfl
 rotate_left
 · simp only [Act.put, List.setIfInBounds_toArray, List.set_cons_zero, List.set_cons_succ, i64_w, i32_w]
   rfl
 refine pure_ (i := 36) (N := some 49) (v := ?_) (a' := ?_) #[true, true, true, true, true, false, true, false, false, true, true, true, false, true, false, false, false, true, true, true, false, true, false, false, true, true, true, false, true, false, false, false, true, true, true, false, true, false, false, false, false, false, false, false, false, false, false, false, false, false] rfl rfl (by kernel_rfl) (fun _ _ _ h => h) (Or.inl ⟨by rfl, ?_⟩) ?_ ?_
 rotate_left
 · intro w'
   go_simp
   with_reducible rfl
 rotate_left
 · simp only [Act.put, List.setIfInBounds_toArray, List.set_cons_zero, List.set_cons_succ, i64_w, i32_w]
   rfl
 refine pure_ (i := 39) (N := some 52) (v := ?_) (a' := ?_) #[true, true, true, true, true, false, true, false, false, true, true, true, false, true, false, false, false, true, true, true, false, true, false, false, true, true, true, false, true, false, false, false, true, true, true, false, true, false, false, true, false, false, false, false, false, false, false, false, false, false] rfl rfl (by kernel_rfl) (fun _ _ _ h => h) (Or.inl ⟨by rfl, ?_⟩) ?_ ?_
 rotate_left
 · intro w'
   go_simp
   with_reducible rfl
 rotate_left
 · simp only [Act.put, List.setIfInBounds_toArray, List.set_cons_zero, List.set_cons_succ, i64_w, i32_w]
   rfl
 refine pure_ (i := 40) (N := some 53) (v := ?_) (a' := ?_) #[true, true, true, true, true, false, true, false, false, true, true, true, false, true, false, false, false, true, true, true, false, true, false, false, true, true, true, false, true, false, false, false, true, true, true, false, true, false, false, true, true, false, false, false, false, false, false, false, false, false] rfl rfl (by kernel_rfl) (fun _ _ _ h => h) (Or.inl ⟨by rfl, ?_⟩) ?_ ?_
 rotate_left
 · intro w'
   go_simp
   with_reducible rfl
 rotate_left
 · simp only [Act.put, List.setIfInBounds_toArray, List.set_cons_zero, List.set_cons_succ, i64_w, i32_w]
   rfl
 refine pure_ (i := 41) (N := some 54) (v := ?_) (a' := ?_) #[true, true, true, true, true, false, true, false, false, true, true, true, false, true, false, false, false, true, true, true, false, true, false, false, true, true, true, false, true, false, false, false, true, true, true, false, true, false, false, true, true, true, false, false, false, false, false, false, false, false] rfl rfl (by kernel_rfl) (fun _ _ _ h => h) (Or.inl ⟨by rfl, ?_⟩) ?_ ?_
 rotate_left
 · intro w'
   go_simp
   with_reducible rfl
 rotate_left
 · simp only [Act.put, List.setIfInBounds_toArray, List.set_cons_zero, List.set_cons_succ, i64_w, i32_w]
   rfl
 refine pure_ (i := 43) (N := some 56) (v := ?_) (a' := ?_) #[true, true, true, true, true, false, true, false, false, true, true, true, false, true, false, false, false, true, true, true, false, true, false, false, true, true, true, false, true, false, false, false, true, true, true, false, true, false, false, true, true, true, false, true, false, false, false, false, false, false] rfl rfl (by kernel_rfl) (fun _ _ _ h => h) (Or.inl ⟨by rfl, ?_⟩) ?_ ?_
 rotate_left
 · intro w'
   go_simp
   with_reducible rfl
 rotate_left
 · simp only [Act.put, List.setIfInBounds_toArray, List.set_cons_zero, List.set_cons_succ, i64_w, i32_w]
   rfl
 refine take_ (i := 5) (N := some 18) (v := ?_) (a' := ?_) #[true, true, true, true, true, true, true, false, false, true, true, true, false, true, false, false, false, true, true, true, false, true, false, false, true, true, true, false, true, false, false, false, true, true, true, false, true, false, false, true, true, true, false, true, false, false, false, false, false, false] rfl rfl (by kernel_rfl) (fun _ _ _ h => h) (Or.inl ⟨by rfl, ?_⟩) hHeld ?_ ?_
 rotate_left
 · rintro w' ⟨s0, s1, s2, s3, s4, s5, s6, s7, s8⟩
   go_simp
   with_reducible rfl
 rotate_left
 · simp only [Act.put, List.setIfInBounds_toArray, List.set_cons_zero, List.set_cons_succ, i64_w, i32_w]
   rfl
 refine pure_ (i := 7) (N := some 20) (v := ?_) (a' := ?_) #[true, true, true, true, true, true, true, true, false, true, true, true, false, true, false, false, false, true, true, true, false, true, false, false, true, true, true, false, true, false, false, false, true, true, true, false, true, false, false, true, true, true, false, true, false, false, false, false, false, false] rfl rfl (by kernel_rfl) (fun _ _ _ h => h) (Or.inl ⟨by rfl, ?_⟩) ?_ ?_
 rotate_left
 · intro w'
   go_simp
   with_reducible rfl
 rotate_left
 · simp only [Act.put, List.setIfInBounds_toArray, List.set_cons_zero, List.set_cons_succ, i64_w, i32_w]
   rfl
 refine take_ (i := 8) (N := some 21) (v := ?_) (a' := ?_) #[true, true, true, true, true, true, true, true, true, true, true, true, false, true, false, false, false, true, true, true, false, true, false, false, true, true, true, false, true, false, false, false, true, true, true, false, true, false, false, true, true, true, false, true, false, false, false, false, false, false] rfl rfl (by kernel_rfl) (fun _ _ _ h => h) (Or.inl ⟨by rfl, ?_⟩) hHeld ?_ ?_
 rotate_left
 · rintro w' ⟨s0, s1, s2, s3, s4, s5, s6, s7, s8⟩
   go_simp
   with_reducible rfl
 rotate_left
 · simp only [Act.put, List.setIfInBounds_toArray, List.set_cons_zero, List.set_cons_succ, i64_w, i32_w]
   rfl
 refine take_ (i := 12) (N := some 25) (v := ?_) (a' := ?_) #[true, true, true, true, true, true, true, true, true, true, true, true, true, true, false, false, false, true, true, true, false, true, false, false, true, true, true, false, true, false, false, false, true, true, true, false, true, false, false, true, true, true, false, true, false, false, false, false, false, false] rfl rfl (by kernel_rfl) (fun _ _ _ h => h) (Or.inl ⟨by rfl, ?_⟩) hHeld ?_ ?_
 rotate_left
 · rintro w' ⟨s0, s1, s2, s3, s4, s5, s6, s7, s8⟩
   go_simp
   with_reducible rfl
 rotate_left
 · simp only [Act.put, List.setIfInBounds_toArray, List.set_cons_zero, List.set_cons_succ, i64_w, i32_w]
   rfl
 refine pure_ (i := 14) (N := some 27) (v := ?_) (a' := ?_) #[true, true, true, true, true, true, true, true, true, true, true, true, true, true, true, false, false, true, true, true, false, true, false, false, true, true, true, false, true, false, false, false, true, true, true, false, true, false, false, true, true, true, false, true, false, false, false, false, false, false] rfl rfl (by kernel_rfl) (fun _ _ _ h => h) (Or.inl ⟨by rfl, ?_⟩) ?_ ?_
 rotate_left
 · intro w'
   go_simp
   with_reducible rfl
 rotate_left
 · simp only [Act.put, List.setIfInBounds_toArray, List.set_cons_zero, List.set_cons_succ, i64_w, i32_w]
   rfl
 refine take_ (i := 15) (N := some 28) (v := ?_) (a' := ?_) #[true, true, true, true, true, true, true, true, true, true, true, true, true, true, true, true, false, true, true, true, false, true, false, false, true, true, true, false, true, false, false, false, true, true, true, false, true, false, false, true, true, true, false, true, false, false, false, false, false, false] rfl rfl (by kernel_rfl) (fun _ _ _ h => h) (Or.inl ⟨by rfl, ?_⟩) hHeld ?_ ?_
 rotate_left
 · rintro w' ⟨s0, s1, s2, s3, s4, s5, s6, s7, s8⟩
   go_simp
   with_reducible rfl
 rotate_left
 · simp only [Act.put, List.setIfInBounds_toArray, List.set_cons_zero, List.set_cons_succ, i64_w, i32_w]
   rfl
 refine pure_ (i := 16) (N := some 29) (v := ?_) (a' := ?_) #[true, true, true, true, true, true, true, true, true, true, true, true, true, true, true, true, true, true, true, true, false, true, false, false, true, true, true, false, true, false, false, false, true, true, true, false, true, false, false, true, true, true, false, true, false, false, false, false, false, false] rfl rfl (by kernel_rfl) (fun _ _ _ h => h) (Or.inl ⟨by rfl, ?_⟩) ?_ ?_
 rotate_left
 · intro w'
   go_simp
   with_reducible rfl
 rotate_left
 · simp only [Act.put, List.setIfInBounds_toArray, List.set_cons_zero, List.set_cons_succ, i64_w, i32_w]
   rfl
 refine take_ (i := 20) (N := some 33) (v := ?_) (a' := ?_) #[true, true, true, true, true, true, true, true, true, true, true, true, true, true, true, true, true, true, true, true, true, true, false, false, true, true, true, false, true, false, false, false, true, true, true, false, true, false, false, true, true, true, false, true, false, false, false, false, false, false] rfl rfl (by kernel_rfl) (fun _ _ _ h => h) (Or.inl ⟨by rfl, ?_⟩) hHeld ?_ ?_
 rotate_left
 · rintro w' ⟨s0, s1, s2, s3, s4, s5, s6, s7, s8⟩
   go_simp
   with_reducible rfl
 rotate_left
 · simp only [Act.put, List.setIfInBounds_toArray, List.set_cons_zero, List.set_cons_succ, i64_w, i32_w]
   rfl
 refine pure_ (i := 22) (N := some 35) (v := ?_) (a' := ?_) #[true, true, true, true, true, true, true, true, true, true, true, true, true, true, true, true, true, true, true, true, true, true, true, false, true, true, true, false, true, false, false, false, true, true, true, false, true, false, false, true, true, true, false, true, false, false, false, false, false, false] rfl rfl (by kernel_rfl) (fun _ _ _ h => h) (Or.inl ⟨by rfl, ?_⟩) ?_ ?_
 rotate_left
 · intro w'
   go_simp
   with_reducible rfl
 rotate_left
 · simp only [Act.put, List.setIfInBounds_toArray, List.set_cons_zero, List.set_cons_succ, i64_w, i32_w]
   rfl
 refine take_ (i := 23) (N := some 36) (v := ?_) (a' := ?_) #[true, true, true, true, true, true, true, true, true, true, true, true, true, true, true, true, true, true, true, true, true, true, true, true, true, true, true, false, true, false, false, false, true, true, true, false, true, false, false, true, true, true, false, true, false, false, false, false, false, false] rfl rfl (by kernel_rfl) (fun _ _ _ h => h) (Or.inl ⟨by rfl, ?_⟩) hHeld ?_ ?_
 rotate_left
 · rintro w' ⟨s0, s1, s2, s3, s4, s5, s6, s7, s8⟩
   go_simp
   with_reducible rfl
 rotate_left
 · simp only [Act.put, List.setIfInBounds_toArray, List.set_cons_zero, List.set_cons_succ, i64_w, i32_w]
   rfl
 refine take_ (i := 27) (N := some 40) (v := ?_) (a' := ?_) #[true, true, true, true, true, true, true, true, true, true, true, true, true, true, true, true, true, true, true, true, true, true, true, true, true, true, true, true, true, false, false, false, true, true, true, false, true, false, false, true, true, true, false, true, false, false, false, false, false, false] rfl rfl (by kernel_rfl) (fun _ _ _ h => h) (Or.inl ⟨by rfl, ?_⟩) hHeld ?_ ?_
 rotate_left
 · rintro w' ⟨s0, s1, s2, s3, s4, s5, s6, s7, s8⟩
   go_simp
   with_reducible rfl
 rotate_left
 · simp only [Act.put, List.setIfInBounds_toArray, List.set_cons_zero, List.set_cons_succ, i64_w, i32_w]
   rfl
 refine pure_ (i := 29) (N := some 42) (v := ?_) (a' := ?_) #[true, true, true, true, true, true, true, true, true, true, true, true, true, true, true, true, true, true, true, true, true, true, true, true, true, true, true, true, true, true, false, false, true, true, true, false, true, false, false, true, true, true, false, true, false, false, false, false, false, false] rfl rfl (by kernel_rfl) (fun _ _ _ h => h) (Or.inl ⟨by rfl, ?_⟩) ?_ ?_
 rotate_left
 · intro w'
   go_simp
   with_reducible rfl
 rotate_left
 · simp only [Act.put, List.setIfInBounds_toArray, List.set_cons_zero, List.set_cons_succ, i64_w, i32_w]
   rfl
 refine take_ (i := 30) (N := some 43) (v := ?_) (a' := ?_) #[true, true, true, true, true, true, true, true, true, true, true, true, true, true, true, true, true, true, true, true, true, true, true, true, true, true, true, true, true, true, true, false, true, true, true, false, true, false, false, true, true, true, false, true, false, false, false, false, false, false] rfl rfl (by kernel_rfl) (fun _ _ _ h => h) (Or.inl ⟨by rfl, ?_⟩) hHeld ?_ ?_
 rotate_left
 · rintro w' ⟨s0, s1, s2, s3, s4, s5, s6, s7, s8⟩
   go_simp
   with_reducible rfl
 rotate_left
 · simp only [Act.put, List.setIfInBounds_toArray, List.set_cons_zero, List.set_cons_succ, i64_w, i32_w]
   rfl
 refine pure_ (i := 31) (N := some 44) (v := ?_) (a' := ?_) #[true, true, true, true, true, true, true, true, true, true, true, true, true, true, true, true, true, true, true, true, true, true, true, true, true, true, true, true, true, true, true, true, true, true, true, false, true, false, false, true, true, true, false, true, false, false, false, false, false, false] rfl rfl (by kernel_rfl) (fun _ _ _ h => h) (Or.inl ⟨by rfl, ?_⟩) ?_ ?_
 rotate_left
 · intro w'
   go_simp
   with_reducible rfl
 rotate_left
 · simp only [Act.put, List.setIfInBounds_toArray, List.set_cons_zero, List.set_cons_succ, i64_w, i32_w]
   rfl
 refine take_ (i := 35) (N := some 48) (v := ?_) (a' := ?_) #[true, true, true, true, true, true, true, true, true, true, true, true, true, true, true, true, true, true, true, true, true, true, true, true, true, true, true, true, true, true, true, true, true, true, true, true, true, false, false, true, true, true, false, true, false, false, false, false, false, false] rfl rfl (by kernel_rfl) (fun _ _ _ h => h) (Or.inl ⟨by rfl, ?_⟩) hHeld ?_ ?_
 rotate_left
 · rintro w' ⟨s0, s1, s2, s3, s4, s5, s6, s7, s8⟩
   go_simp
   with_reducible rfl
 rotate_left
 · simp only [Act.put, List.setIfInBounds_toArray, List.set_cons_zero, List.set_cons_succ, i64_w, i32_w]
   rfl
 refine pure_ (i := 37) (N := some 50) (v := ?_) (a' := ?_) #[true, true, true, true, true, true, true, true, true, true, true, true, true, true, true, true, true, true, true, true, true, true, true, true, true, true, true, true, true, true, true, true, true, true, true, true, true, true, false, true, true, true, false, true, false, false, false, false, false, false] rfl rfl (by kernel_rfl) (fun _ _ _ h => h) (Or.inl ⟨by rfl, ?_⟩) ?_ ?_
 rotate_left
 · intro w'
   go_simp
   with_reducible rfl
 rotate_left
 · simp only [Act.put, List.setIfInBounds_toArray, List.set_cons_zero, List.set_cons_succ, i64_w, i32_w]
   rfl
 refine take_ (i := 38) (N := some 51) (v := ?_) (a' := ?_) #[true, true, true, true, true, true, true, true, true, true, true, true, true, true, true, true, true, true, true, true, true, true, true, true, true, true, true, true, true, true, true, true, true, true, true, true, true, true, true, true, true, true, false, true, false, false, false, false, false, false] rfl rfl (by kernel_rfl) (fun _ _ _ h => h) (Or.inl ⟨by rfl, ?_⟩) hHeld ?_ ?_
 rotate_left
 · rintro w' ⟨s0, s1, s2, s3, s4, s5, s6, s7, s8⟩
   go_simp
   with_reducible rfl
 rotate_left
 · simp only [Act.put, List.setIfInBounds_toArray, List.set_cons_zero, List.set_cons_succ, i64_w, i32_w]
   rfl
 refine take_ (i := 42) (N := some 55) (v := ?_) (a' := ?_) #[true, true, true, true, true, true, true, true, true, true, true, true, true, true, true, true, true, true, true, true, true, true, true, true, true, true, true, true, true, true, true, true, true, true, true, true, true, true, true, true, true, true, true, true, false, false, false, false, false, false] rfl rfl (by kernel_rfl) (fun _ _ _ h => h) (Or.inl ⟨by rfl, ?_⟩) hHeld ?_ ?_
 rotate_left
 · rintro w' ⟨s0, s1, s2, s3, s4, s5, s6, s7, s8⟩
   go_simp
   with_reducible rfl
 rotate_left
 · simp only [Act.put, List.setIfInBounds_toArray, List.set_cons_zero, List.set_cons_succ, i64_w, i32_w]
   rfl
 refine pure_ (i := 44) (N := some 57) (v := ?_) (a' := ?_) #[true, true, true, true, true, true, true, true, true, true, true, true, true, true, true, true, true, true, true, true, true, true, true, true, true, true, true, true, true, true, true, true, true, true, true, true, true, true, true, true, true, true, true, true, true, false, false, false, false, false] rfl rfl (by kernel_rfl) (fun _ _ _ h => h) (Or.inl ⟨by rfl, ?_⟩) ?_ ?_
 rotate_left
 · intro w'
   go_simp
   with_reducible rfl
 rotate_left
 · simp only [Act.put, List.setIfInBounds_toArray, List.set_cons_zero, List.set_cons_succ, i64_w, i32_w]
   rfl
 refine take_ (i := 45) (N := some 58) (v := ?_) (a' := ?_) #[true, true, true, true, true, true, true, true, true, true, true, true, true, true, true, true, true, true, true, true, true, true, true, true, true, true, true, true, true, true, true, true, true, true, true, true, true, true, true, true, true, true, true, true, true, true, false, false, false, false] rfl rfl (by kernel_rfl) (fun _ _ _ h => h) (Or.inl ⟨by rfl, ?_⟩) hHeld ?_ ?_
 rotate_left
 · rintro w' ⟨s0, s1, s2, s3, s4, s5, s6, s7, s8⟩
   go_simp
   with_reducible rfl
 rotate_left
 · simp only [Act.put, List.setIfInBounds_toArray, List.set_cons_zero, List.set_cons_succ, i64_w, i32_w]
   rfl
 refine pure_ (i := 46) (N := some 59) (v := ?_) (a' := ?_) #[true, true, true, true, true, true, true, true, true, true, true, true, true, true, true, true, true, true, true, true, true, true, true, true, true, true, true, true, true, true, true, true, true, true, true, true, true, true, true, true, true, true, true, true, true, true, true, false, false, false] rfl rfl (by kernel_rfl) (fun _ _ _ h => h) (Or.inl ⟨by rfl, ?_⟩) ?_ ?_
 rotate_left
 · intro w'
   go_simp
   with_reducible rfl
 rotate_left
 · simp only [Act.put, List.setIfInBounds_toArray, List.set_cons_zero, List.set_cons_succ, i64_w, i32_w]
   rfl
 refine pure_ (i := 47) (N := some 60) (v := ?_) (a' := ?_) #[true, true, true, true, true, true, true, true, true, true, true, true, true, true, true, true, true, true, true, true, true, true, true, true, true, true, true, true, true, true, true, true, true, true, true, true, true, true, true, true, true, true, true, true, true, true, true, true, false, false] rfl rfl (by kernel_rfl) (fun _ _ _ h => h) (Or.inl ⟨by rfl, ?_⟩) ?_ ?_
 rotate_left
 · intro w'
   go_simp
   with_reducible rfl
 rotate_left
 · simp only [Act.put, List.setIfInBounds_toArray, List.set_cons_zero, List.set_cons_succ, i64_w, i32_w]
   rfl
 refine one_ (i := 48) (N := some 9) #[true, true, true, true, true, true, true, true, true, true, true, true, true, true, true, true, true, true, true, true, true, true, true, true, true, true, true, true, true, true, true, true, true, true, true, true, true, true, true, true, true, true, true, true, true, true, true, true, true, false] rfl rfl (by kernel_rfl) (by decide) (fun K hK => ?_)
 refine value_ (w1 := ?_) (v := ?_) (by rfl) rfl ?_ ?_
 rotate_left 2
 · go_simp
   constructor
   · rfl
   · rfl
 have hb9 := below_alloc (Below.refl wd.heap.size wd) (Obj.cells #[.int .i64 0, .int .i64 0, .int .i64 0, .int .i64 0, .int .i64 0, .int .i64 0] 41 (0, 0))
 have hbb := below_step HB.out hb9
 have h8 := blk_below H8.out hb9
 have h9 := blk_new wd (Obj.cells #[.int .i64 0, .int .i64 0, .int .i64 0, .int .i64 0, .int .i64 0, .int .i64 0] 41 (0, 0))
 have hge9 : w.heap.size ≤ wd.heap.size := HB.out.size
 have hne9 : g8 ≠ wd.heap.size := by have := blk_lt H8.out; omega
 generalize hw10 : wd.alloc (Obj.cells #[.int .i64 0, .int .i64 0, .int .i64 0, .int .i64 0, .int .i64 0, .int .i64 0] 41 (0, 0)) = w10 at hbb h8 h9 ⊢
 generalize hg9 : wd.heap.size = g9 at h9 hge9 hne9 ⊢
 clear HB H8 hb9 hw10 hg9
 have HB := Aside0.mk hbb
 have H8 := Aside0.mk h8
 have H9 := Aside0.mk h9
 have G9 := Aside0.mk hge9
 have N89 := Aside0.mk hne9
 clear hbb h8 h9 hge9 hne9
 refine hK.out _ _ ⟨(blk_cell (blk_below HBK.out HB.out) 3).trans rfl, (blk_cell (blk_below HBK.out HB.out) 4).trans rfl, (blk_cell (blk_below HBK.out HB.out) 5).trans rfl, (HB.out.cell (World.block_lt_of_cell? _ _ X2t.out)).trans X2t.out, (HB.out.cell (World.block_lt_of_cell? _ _ X2f.out)).trans X2f.out, (HB.out.cell (World.block_lt_of_cell? _ _ X3t.out)).trans X3t.out, (HB.out.cell (World.block_lt_of_cell? _ _ X3f.out)).trans X3f.out, (HB.out.cell (World.block_lt_of_cell? _ _ X4t.out)).trans X4t.out, (HB.out.cell (World.block_lt_of_cell? _ _ X4f.out)).trans X4f.out⟩ (fun hHeld => ?_)
 clear hK K
 refine norm_ (a' := ?_) ?_ ?_
 rotate_left
 · show Act.put _ (some 9) _ = _
   simp only [Act.put, List.setIfInBounds_toArray, List.set_cons_zero, List.set_cons_succ, i64_w, i32_w]
   rfl
 refine last_ (i := 49) (N := none) #[true, true, true, true, true, true, true, true, true, true, true, true, true, true, true, true, true, true, true, true, true, true, true, true, true, true, true, true, true, true, true, true, true, true, true, true, true, true, true, true, true, true, true, true, true, true, true, true, true, true] rfl rfl (by kernel_rfl) (by decide) (fun K hK => ?_)
 refine agg_step (w0 := w) (by rfl) rfl 41 (.tmp 9) (.tmp 60) rfl (g := g9) (e := 41) (.agg #[.int .i64 f, .int .i64 t, .int .i64 (wt - wf), .int .i64 (gt - gf), .int .i64 (yt - yf), .int .i64 0]) [.int .i64 f, .int .i64 t, .int .i64 (wt - wf), .int .i64 (gt - gf), .int .i64 (yt - yf), .int .i64 0] rfl rfl rfl (by kernel_rfl) H9.out rfl (by simp only [List.mem_cons, List.not_mem_nil, or_false, forall_eq_or_imp, forall_eq]; exact ⟨rfl, rfl, rfl, rfl, rfl, rfl⟩) HB.out G9.out ?_
 intro w11 h9 hb hgr
 have h8 : w11.heap[g8]? = _ := (hgr.block g8 (blk_lt H8.out) (fun e => N89.out (by injection e))).trans H8.out
 clear HB H8 H9
 have HB := Aside0.mk hb
 have H8 := Aside0.mk h8
 have H9 := Aside0.mk h9
 clear hb h8 h9 hgr
 refine hK.out _ _ ?_
 clear hK K
 refine done_ (by kernel_rfl) ?_
 have hc0_ : w11.cell? ⟨g, 0, none⟩ = some (.slice A0 L.length c0) := (blk_cell (blk_below HBK.out HB.out) 0).trans rfl
 by_cases e : t = L.length
 · have eb : decide (t < (L.length : Int)) = false := decide_eq_false (by omega)
   have EA : Aside0 (addP L t = 0) := ⟨if_neg (by omega)⟩
   clear e
   go_upto_region 5 with (fail)
   refine wp_region_still_tail 17 (by kernel_rfl) (by kernel_rfl) ?_
   simp only [List.take_succ_cons, List.take_zero, List.drop_succ_cons, List.drop_zero]
   have hb12 : Below w11.heap.size w11 { w11 with drawn := w11.drawn + 1 } := pw_below_drewN (Below.refl _ _) 1
   have h9 := blk_below H9.out hb12
   have h8 := blk_below H8.out hb12
   have hbb := below_step HB.out hb12
   generalize ({ w11 with drawn := w11.drawn + 1 } : World) = w14 at h9 h8 hbb ⊢
   have hc1 : w14.cell? ⟨g, 1, none⟩ = some (.slice (some a1) W.length c1) := (blk_cell (blk_below HBK.out hbb) 1).trans rfl
   have hx1m := (hbb.cell (World.block_lt_of_cell? _ _ X1m.out)).trans X1m.out
   have hs5 : w14.cell? ⟨g9, 5, none⟩ = some (.int .i64 0) := (blk_cell h9 5).trans rfl
   have hf5 := blk_frozen h9 5
   clear HB H8 H9 hb12
   have HB := Aside0.mk hbb
   have H8 := Aside0.mk h8
   have H9 := Aside0.mk h9
   clear hbb h8 h9
   repeat still_step
   refine wpStill_nil ?_
   go_upto_region 6 with (fail)
   have h9 := blk_set H9.out 5 (.int .i64 wm)
   have h8 := blk_far (p := ⟨g9, 5, none⟩) H8.out N89.out (.int .i64 wm)
   have hbb := below_set (j := 5) (v := .int .i64 wm) HB.out G9.out
   generalize w14.setCell ⟨g9, 5, none⟩ (.int .i64 wm) = w15 at h9 h8 hbb ⊢
   clear HB H8 H9 hs5 hf5 hc1 hx1m
   have HB := Aside0.mk hbb
   have H8 := Aside0.mk h8
   have hs0 : w15.cell? ⟨g9, 0, none⟩ = some (.int .i64 (f)) := (blk_cell h9 0).trans rfl
   have hs1 : w15.cell? ⟨g9, 1, none⟩ = some (.int .i64 (t)) := (blk_cell h9 1).trans rfl
   have hs2 : w15.cell? ⟨g9, 2, none⟩ = some (.int .i64 (wt - wf)) := (blk_cell h9 2).trans rfl
   have hs3 : w15.cell? ⟨g9, 3, none⟩ = some (.int .i64 (gt - gf)) := (blk_cell h9 3).trans rfl
   have hs4 : w15.cell? ⟨g9, 4, none⟩ = some (.int .i64 (yt - yf)) := (blk_cell h9 4).trans rfl
   have hs5 : w15.cell? ⟨g9, 5, none⟩ = some (.int .i64 (wm)) := (blk_cell h9 5).trans rfl
   clear hbb h8 h9
   go_wp2_with ((with_reducible refine gate_store (t := 41) (p := 8) rfl ?_); refine agg_event (w0 := w) rfl rfl 41 (.tmp 8) (.tmp 108) rfl (g := g8) (e := 41) (.agg #[.int .i64 f, .int .i64 t, .int .i64 (wt - wf), .int .i64 (gt - gf), .int .i64 (yt - yf), .int .i64 wm]) [.int .i64 f, .int .i64 t, .int .i64 (wt - wf), .int .i64 (gt - gf), .int .i64 (yt - yf), .int .i64 wm] rfl rfl rfl (by kernel_rfl) H8.out rfl (by simp only [List.mem_cons, List.not_mem_nil, or_false, forall_eq_or_imp, forall_eq]; exact ⟨rfl, rfl, rfl, rfl, rfl, rfl⟩) HB.out G8.out ?_; intro w16 h8 hb hgr; clear HB H8 hs0 hs1 hs2 hs3 hs4 hs5; (have HB := Aside0.mk hb); (have H8 := Aside0.mk h8); clear hb h8 hgr)
   refine bodyPost_ret (results_cell_row rfl _ _ g8 41 #[.int .i64 f, .int .i64 t, .int .i64 (wt - wf), .int .i64 (gt - gf), .int .i64 (yt - yf), .int .i64 wm] (0, 0) _ rfl H8.out Try.underlying41 rfl (by kernel_rfl)) rfl ?_
   exact ⟨by rw [hLP.out]; simp only [EA.out, Int.add_zero], HB.out⟩
 · have hlt : t < (L.length : Int) := by omega
   have eb : decide (t < (L.length : Int)) = true := decide_eq_true hlt
   obtain ⟨ad, rfl, hx0, hx1, hx2, hx3, hx4, hx5⟩ := at_T49 HLL.out t ht0 hlt
   have HX1 := Aside0.mk hx1
   replace hx0 := (HB.out.cell (World.block_lt_of_cell? _ _ hx0)).trans hx0
   clear hx1 hx2 hx3 hx4 hx5
   have D9t := D9.out t ht0 hlt
   by_cases k2_ : (rd_T49 L t).f0 = 2
   · have k2b : ((rd_T49 L t).f0 == 2) = true := beq_iff_eq.2 k2_
     obtain ⟨pw, hpw⟩ : ∃ q, (rd_T49 L t).f1 = q := ⟨_, rfl⟩
     have EA : Aside0 (addP L t = pw) := ⟨(if_pos ⟨hlt, k2_⟩).trans hpw⟩
     have D9u : 0 ≤ pw ∧ pw ≤ 100000 := by rw [← hpw]; exact ⟨D9t.1, D9t.2.1⟩
     rw [hpw] at HX1
     clear hpw D9t k2_ e
     have k7 : wrap64 (wt - wf + pw) = wt - wf + pw := w64 (by omega) (by omega)
     have k8 := (i64_w (wt - wf + pw)).trans k7
     go_upto_region 4 with (fail)
     refine wp_region_still_tail 12 (by kernel_rfl) (by kernel_rfl) ?_
     simp only [List.take_succ_cons, List.take_zero, List.drop_succ_cons, List.drop_zero]
     have hb12 : Below w11.heap.size w11 { w11 with drawn := w11.drawn + 1 } := pw_below_drewN (Below.refl _ _) 1
     have h9 := blk_below H9.out hb12
     have h8 := blk_below H8.out hb12
     have hbb := below_step HB.out hb12
     generalize ({ w11 with drawn := w11.drawn + 1 } : World) = w12 at h9 h8 hbb ⊢
     have hc0 : w12.cell? ⟨g, 0, none⟩ = some (.slice (some ad) L.length c0) := (blk_cell (blk_below HBK.out hbb) 0).trans rfl
     have hs2 : w12.cell? ⟨g9, 2, none⟩ = some (.int .i64 (wt - wf)) := (blk_cell h9 2).trans rfl
     have hf2 := blk_frozen h9 2
     have hx1 := (hbb.cell (World.block_lt_of_cell? _ _ HX1.out)).trans HX1.out
     clear HB H8 H9 hb12
     have HB := Aside0.mk hbb
     have H8 := Aside0.mk h8
     have H9 := Aside0.mk h9
     clear hbb h8 h9 hc0_ hx0
     repeat still_step
     refine wpStill_nil ?_
     go_upto_region 5 with (fail)
     have h9 := blk_set H9.out 2 (.int .i64 (wt - wf + pw))
     have h8 := blk_far (p := ⟨g9, 2, none⟩) H8.out N89.out (.int .i64 (wt - wf + pw))
     have hbb := below_set (j := 2) (v := .int .i64 (wt - wf + pw)) HB.out G9.out
     generalize w12.setCell ⟨g9, 2, none⟩ (.int .i64 (wt - wf + pw)) = w13 at h9 h8 hbb ⊢
     clear HB H8 H9 hs2 hf2 hc0 hx1
     have HB := Aside0.mk hbb
     have H8 := Aside0.mk h8
     have H9 := Aside0.mk h9
     clear hbb h8 h9
     refine wp_region_still_tail 17 (by kernel_rfl) (by kernel_rfl) ?_
     simp only [List.take_succ_cons, List.take_zero, List.drop_succ_cons, List.drop_zero]
     have hb12 : Below w13.heap.size w13 { w13 with drawn := w13.drawn + 1 } := pw_below_drewN (Below.refl _ _) 1
     have h9 := blk_below H9.out hb12
     have h8 := blk_below H8.out hb12
     have hbb := below_step HB.out hb12
     generalize ({ w13 with drawn := w13.drawn + 1 } : World) = w14 at h9 h8 hbb ⊢
     have hc1 : w14.cell? ⟨g, 1, none⟩ = some (.slice (some a1) W.length c1) := (blk_cell (blk_below HBK.out hbb) 1).trans rfl
     have hx1m := (hbb.cell (World.block_lt_of_cell? _ _ X1m.out)).trans X1m.out
     have hs5 : w14.cell? ⟨g9, 5, none⟩ = some (.int .i64 0) := (blk_cell h9 5).trans rfl
     have hf5 := blk_frozen h9 5
     clear HB H8 H9 hb12
     have HB := Aside0.mk hbb
     have H8 := Aside0.mk h8
     have H9 := Aside0.mk h9
     clear hbb h8 h9
     repeat still_step
     refine wpStill_nil ?_
     go_upto_region 6 with (fail)
     have h9 := blk_set H9.out 5 (.int .i64 wm)
     have h8 := blk_far (p := ⟨g9, 5, none⟩) H8.out N89.out (.int .i64 wm)
     have hbb := below_set (j := 5) (v := .int .i64 wm) HB.out G9.out
     generalize w14.setCell ⟨g9, 5, none⟩ (.int .i64 wm) = w15 at h9 h8 hbb ⊢
     clear HB H8 H9 hs5 hf5 hc1 hx1m
     have HB := Aside0.mk hbb
     have H8 := Aside0.mk h8
     have hs0 : w15.cell? ⟨g9, 0, none⟩ = some (.int .i64 (f)) := (blk_cell h9 0).trans rfl
     have hs1 : w15.cell? ⟨g9, 1, none⟩ = some (.int .i64 (t)) := (blk_cell h9 1).trans rfl
     have hs2 : w15.cell? ⟨g9, 2, none⟩ = some (.int .i64 (wt - wf + pw)) := (blk_cell h9 2).trans rfl
     have hs3 : w15.cell? ⟨g9, 3, none⟩ = some (.int .i64 (gt - gf)) := (blk_cell h9 3).trans rfl
     have hs4 : w15.cell? ⟨g9, 4, none⟩ = some (.int .i64 (yt - yf)) := (blk_cell h9 4).trans rfl
     have hs5 : w15.cell? ⟨g9, 5, none⟩ = some (.int .i64 (wm)) := (blk_cell h9 5).trans rfl
     clear hbb h8 h9
     go_wp2_with ((with_reducible refine gate_store (t := 41) (p := 8) rfl ?_); refine agg_event (w0 := w) rfl rfl 41 (.tmp 8) (.tmp 108) rfl (g := g8) (e := 41) (.agg #[.int .i64 f, .int .i64 t, .int .i64 (wt - wf + pw), .int .i64 (gt - gf), .int .i64 (yt - yf), .int .i64 wm]) [.int .i64 f, .int .i64 t, .int .i64 (wt - wf + pw), .int .i64 (gt - gf), .int .i64 (yt - yf), .int .i64 wm] rfl rfl rfl (by kernel_rfl) H8.out rfl (by simp only [List.mem_cons, List.not_mem_nil, or_false, forall_eq_or_imp, forall_eq]; exact ⟨rfl, rfl, rfl, rfl, rfl, rfl⟩) HB.out G8.out ?_; intro w16 h8 hb hgr; clear HB H8 hs0 hs1 hs2 hs3 hs4 hs5; (have HB := Aside0.mk hb); (have H8 := Aside0.mk h8); clear hb h8 hgr)
     refine bodyPost_ret (results_cell_row rfl _ _ g8 41 #[.int .i64 f, .int .i64 t, .int .i64 (wt - wf + pw), .int .i64 (gt - gf), .int .i64 (yt - yf), .int .i64 wm] (0, 0) _ rfl H8.out Try.underlying41 rfl (by kernel_rfl)) rfl ?_
     exact ⟨by rw [hLP.out]; simp only [EA.out], HB.out⟩
   · have k2b : ((rd_T49 L t).f0 == 2) = false := beq_eq_false_iff_ne.2 k2_
     have EA : Aside0 (addP L t = 0) := ⟨if_neg (fun h => k2_ h.2)⟩
     clear D9t k2_ e
     go_upto_region 5 with (fail)
     refine wp_region_still_tail 17 (by kernel_rfl) (by kernel_rfl) ?_
     simp only [List.take_succ_cons, List.take_zero, List.drop_succ_cons, List.drop_zero]
     have hb12 : Below w11.heap.size w11 { w11 with drawn := w11.drawn + 1 } := pw_below_drewN (Below.refl _ _) 1
     have h9 := blk_below H9.out hb12
     have h8 := blk_below H8.out hb12
     have hbb := below_step HB.out hb12
     generalize ({ w11 with drawn := w11.drawn + 1 } : World) = w14 at h9 h8 hbb ⊢
     have hc1 : w14.cell? ⟨g, 1, none⟩ = some (.slice (some a1) W.length c1) := (blk_cell (blk_below HBK.out hbb) 1).trans rfl
     have hx1m := (hbb.cell (World.block_lt_of_cell? _ _ X1m.out)).trans X1m.out
     have hs5 : w14.cell? ⟨g9, 5, none⟩ = some (.int .i64 0) := (blk_cell h9 5).trans rfl
     have hf5 := blk_frozen h9 5
     clear HB H8 H9 hb12
     have HB := Aside0.mk hbb
     have H8 := Aside0.mk h8
     have H9 := Aside0.mk h9
     clear hbb h8 h9
     repeat still_step
     refine wpStill_nil ?_
     go_upto_region 6 with (fail)
     have h9 := blk_set H9.out 5 (.int .i64 wm)
     have h8 := blk_far (p := ⟨g9, 5, none⟩) H8.out N89.out (.int .i64 wm)
     have hbb := below_set (j := 5) (v := .int .i64 wm) HB.out G9.out
     generalize w14.setCell ⟨g9, 5, none⟩ (.int .i64 wm) = w15 at h9 h8 hbb ⊢
     clear HB H8 H9 hs5 hf5 hc1 hx1m
     have HB := Aside0.mk hbb
     have H8 := Aside0.mk h8
     have hs0 : w15.cell? ⟨g9, 0, none⟩ = some (.int .i64 (f)) := (blk_cell h9 0).trans rfl
     have hs1 : w15.cell? ⟨g9, 1, none⟩ = some (.int .i64 (t)) := (blk_cell h9 1).trans rfl
     have hs2 : w15.cell? ⟨g9, 2, none⟩ = some (.int .i64 (wt - wf)) := (blk_cell h9 2).trans rfl
     have hs3 : w15.cell? ⟨g9, 3, none⟩ = some (.int .i64 (gt - gf)) := (blk_cell h9 3).trans rfl
     have hs4 : w15.cell? ⟨g9, 4, none⟩ = some (.int .i64 (yt - yf)) := (blk_cell h9 4).trans rfl
     have hs5 : w15.cell? ⟨g9, 5, none⟩ = some (.int .i64 (wm)) := (blk_cell h9 5).trans rfl
     clear hbb h8 h9
     go_wp2_with ((with_reducible refine gate_store (t := 41) (p := 8) rfl ?_); refine agg_event (w0 := w) rfl rfl 41 (.tmp 8) (.tmp 108) rfl (g := g8) (e := 41) (.agg #[.int .i64 f, .int .i64 t, .int .i64 (wt - wf), .int .i64 (gt - gf), .int .i64 (yt - yf), .int .i64 wm]) [.int .i64 f, .int .i64 t, .int .i64 (wt - wf), .int .i64 (gt - gf), .int .i64 (yt - yf), .int .i64 wm] rfl rfl rfl (by kernel_rfl) H8.out rfl (by simp only [List.mem_cons, List.not_mem_nil, or_false, forall_eq_or_imp, forall_eq]; exact ⟨rfl, rfl, rfl, rfl, rfl, rfl⟩) HB.out G8.out ?_; intro w16 h8 hb hgr; clear HB H8 hs0 hs1 hs2 hs3 hs4 hs5; (have HB := Aside0.mk hb); (have H8 := Aside0.mk h8); clear hb h8 hgr)
     refine bodyPost_ret (results_cell_row rfl _ _ g8 41 #[.int .i64 f, .int .i64 t, .int .i64 (wt - wf), .int .i64 (gt - gf), .int .i64 (yt - yf), .int .i64 wm] (0, 0) _ rfl H8.out Try.underlying41 rfl (by kernel_rfl)) rfl ?_
     exact ⟨by rw [hLP.out]; simp only [EA.out, Int.add_zero], HB.out⟩
end
end Go.Proofs.Ythapclmfkjldaaa.HandLN
