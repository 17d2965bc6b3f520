import Derived.Test.YthapclmfkjldaaaHandLNe
namespace Go.Proofs.Ythapclmfkjldaaa.HandLN
set_option linter.unusedSectionVars false
set_option linter.unusedVariables false
set_option linter.unusedSimpArgs false
open Go.Proofs.Ythapclmfkjldaaa.Lib (w64)
open Go.RowKit Go.Proofs.YthapclmfkjldaaaW.PrintWords Go.Proofs.YthapclmfkjldaaaW.PrintLast Go.Proofs.YthapclmfkjldaaaW.PrintMore Go.Proofs.Ythapclmfkjldaaa.QLN
attribute [local go_sem] max2_int min2_int max_two min_two
theorem info3 : (Try.prog.info? 3).map (fun i => (i.zero, i.size, i.bytes)) = some (some (.int .i64 0), 1, 8) := by kernel_rfl
def prepT1 : Bool × List (List Nat × List Nat) := (true, [([], []), ([], []), ([], []), ([2], [2]), ([3], [3]), ([4, 4], [4]), ([], []), ([6], [6]), ([7], [7]), ([8, 8], [8]), ([], []), ([10], [10]), ([11], [11]), ([12, 12], [12]), ([], []), ([14], [14]), ([15], [15]), ([16, 16], [16]), ([0, 1, 5, 9, 13, 17], [0, 1, 5, 9, 13, 17]), ([18], [18]), ([19, 0, 1, 2, 3, 4, 5, 6, 7, 8, 9, 10, 11, 12, 13, 14, 15, 16, 17, 18, 19], [19])])
def prepB1 : List Nat := [0, 0, 0, 4, 12, 28, 0, 64, 192, 448, 0, 1024, 3072, 7168, 0, 16384, 49152, 114688, 262143, 524287, 1048575]
theorem prep_tab1 : rtab .any (opsOf Try.f22 1) = prepT1 := by kernel_rfl
theorem prep_bits1 : waitsOk prepT1.2 prepB1 = true := by kernel_rfl
theorem own_new {α : Type} {d : Kd α} {e base : Nat} {ok : Nat → Prop} {W : World} {v v1 : Value} {xs : List α} (h : d.R e W base ok v xs) (hn : ∃ b, v1.ownBlock = some b ∧ W.heap.size ≤ b) : v1.ownBlock ≠ v.ownBlock := by
 obtain ⟨b, hb, hle⟩ := hn
 obtain ⟨inner, ho⟩ := Kd.R_own h
 intro he
 obtain ⟨cells, hc⟩ := own_typed ho b (by rw [← he]; exact hb)
 have := blk_lt hc
 omega
def PM (base : Nat) (w : World) (gm : Nat) (v0 v1 : Value) (D : Int) (b5 c5 b9 c9 b13 c13 b17 c17 : Nat) (wi gr yi be : List Int) : Prop :=
 w.heap[gm]? = some (.cells #[v0, v1, .int .i64 D, .slice (some ⟨b5, 0, none⟩) wi.length c5, .slice (some ⟨b9, 0, none⟩) gr.length c9, .slice (some ⟨b13, 0, none⟩) yi.length c13, .slice (some ⟨b17, 0, none⟩) be.length c17] 57 (0, 0)) ∧ base ≤ gm ∧ (base ≤ b5 ∧ base ≤ b9 ∧ base ≤ b13 ∧ base ≤ b17) ∧ (gm ≠ b5 ∧ gm ≠ b9 ∧ gm ≠ b13 ∧ gm ≠ b17) ∧
 kI.R 3 w base (fun k => k ≠ b9 ∧ k ≠ b13 ∧ k ≠ b17) (.slice (some ⟨b5, 0, none⟩) wi.length c5) wi ∧ kI.R 3 w base (fun k => k ≠ b5 ∧ k ≠ b13 ∧ k ≠ b17) (.slice (some ⟨b9, 0, none⟩) gr.length c9) gr ∧
 kI.R 3 w base (fun k => k ≠ b5 ∧ k ≠ b9 ∧ k ≠ b17) (.slice (some ⟨b13, 0, none⟩) yi.length c13) yi ∧ kI.R 3 w base (fun k => k ≠ b5 ∧ k ≠ b9 ∧ k ≠ b13) (.slice (some ⟨b17, 0, none⟩) be.length c17) be
section
variable {base gm b5 c5 b9 c9 b13 c13 b17 c17 : Nat} {w w1 : World} {v0 v1 : Value} {D : Int} {wi gr yi be : List Int}
theorem PM.below (h : PM base w gm v0 v1 D b5 c5 b9 c9 b13 c13 b17 c17 wi gr yi be) (hb : Below w.heap.size w w1) : PM base w1 gm v0 v1 D b5 c5 b9 c9 b13 c13 b17 c17 wi gr yi be := by
 obtain ⟨h1, h2, h3, h4, h5, h6, h7, h8⟩ := h
 exact ⟨blk_below h1 hb, h2, h3, h4, Kd.R_below h5 hb, Kd.R_below h6 hb, Kd.R_below h7 hb, Kd.R_below h8 hb⟩
theorem PM.grown (h : PM base w gm v0 v1 D b5 c5 b9 c9 b13 c13 b17 c17 wi gr yi be) {g : Nat} (hg : w.grownBy w1 (some g)) {cs : Array Value} (hb : w.heap[g]? = some (.cells cs 49 (0, 0))) : PM base w1 gm v0 v1 D b5 c5 b9 c9 b13 c13 b17 c17 wi gr yi be := by
 obtain ⟨h1, h2, h3, h4, h5, h6, h7, h8⟩ := h
 have ne : gm ≠ g := fun e => by rw [e, hb] at h1; simp at h1
 have key : ∀ {ok : Nat → Prop} {v : Value} {xs : List Int}, kI.R 3 w base ok v xs → kI.R 3 w1 base ok v xs := fun h => Kd.R_mono (Kd.R_grown (Kd.R_types h hb (by decide)) hg (fun j hj e => hj.2 (by injection e))) (fun k hk => hk.1)
 exact ⟨(hg.block gm (blk_lt h1) (fun e => ne (by injection e))).trans h1, h2, h3, h4, key h5, key h6, key h7, key h8⟩
theorem PM.set5 (h : PM base w gm v0 v1 D b5 c5 b9 c9 b13 c13 b17 c17 wi gr yi be) (i x : Int) : PM base (w.setCell ⟨b5, i.toNat, none⟩ (.int .i64 x)) gm v0 v1 D b5 c5 b9 c9 b13 c13 b17 c17 (wi.set i.toNat x) gr yi be := by
 obtain ⟨h1, h2, h3, h4, h5, h6, h7, h8⟩ := h
 refine ⟨?_, h2, h3, h4, ?_, Kd.R_far h6 (fun k hk => hk.1) _, Kd.R_far h7 (fun k hk => hk.1) _, Kd.R_far h8 (fun k hk => hk.1) _⟩
 · rw [List.length_set]; exact blk_far h1 h4.1 _
 · rw [List.length_set]; exact Kd.R_putn h5 i x
theorem PM.set9 (h : PM base w gm v0 v1 D b5 c5 b9 c9 b13 c13 b17 c17 wi gr yi be) (i x : Int) : PM base (w.setCell ⟨b9, i.toNat, none⟩ (.int .i64 x)) gm v0 v1 D b5 c5 b9 c9 b13 c13 b17 c17 wi (gr.set i.toNat x) yi be := by
 obtain ⟨h1, h2, h3, h4, h5, h6, h7, h8⟩ := h
 refine ⟨?_, h2, h3, h4, Kd.R_far h5 (fun k hk => hk.1) _, ?_, Kd.R_far h7 (fun k hk => hk.2.1) _, Kd.R_far h8 (fun k hk => hk.2.1) _⟩
 · rw [List.length_set]; exact blk_far h1 h4.2.1 _
 · rw [List.length_set]; exact Kd.R_putn h6 i x
theorem PM.set13 (h : PM base w gm v0 v1 D b5 c5 b9 c9 b13 c13 b17 c17 wi gr yi be) (i x : Int) : PM base (w.setCell ⟨b13, i.toNat, none⟩ (.int .i64 x)) gm v0 v1 D b5 c5 b9 c9 b13 c13 b17 c17 wi gr (yi.set i.toNat x) be := by
 obtain ⟨h1, h2, h3, h4, h5, h6, h7, h8⟩ := h
 refine ⟨?_, h2, h3, h4, Kd.R_far h5 (fun k hk => hk.2.1) _, Kd.R_far h6 (fun k hk => hk.2.1) _, ?_, Kd.R_far h8 (fun k hk => hk.2.2) _⟩
 · rw [List.length_set]; exact blk_far h1 h4.2.2.1 _
 · rw [List.length_set]; exact Kd.R_putn h7 i x
theorem PM.set17 (h : PM base w gm v0 v1 D b5 c5 b9 c9 b13 c13 b17 c17 wi gr yi be) (i x : Int) : PM base (w.setCell ⟨b17, i.toNat, none⟩ (.int .i64 x)) gm v0 v1 D b5 c5 b9 c9 b13 c13 b17 c17 wi gr yi (be.set i.toNat x) := by
 obtain ⟨h1, h2, h3, h4, h5, h6, h7, h8⟩ := h
 refine ⟨?_, h2, h3, h4, Kd.R_far h5 (fun k hk => hk.2.2) _, Kd.R_far h6 (fun k hk => hk.2.2) _, Kd.R_far h7 (fun k hk => hk.2.2) _, ?_⟩
 · rw [List.length_set]; exact blk_far h1 h4.2.2.2 _
 · rw [List.length_set]; exact Kd.R_putn h8 i x
theorem PM.cells (h : PM base w gm v0 v1 D b5 c5 b9 c9 b13 c13 b17 c17 wi gr yi be) : w.cell? ⟨gm, 3, none⟩ = some (.slice (some ⟨b5, 0, none⟩) wi.length c5) ∧ w.cell? ⟨gm, 4, none⟩ = some (.slice (some ⟨b9, 0, none⟩) gr.length c9) ∧ w.cell? ⟨gm, 5, none⟩ = some (.slice (some ⟨b13, 0, none⟩) yi.length c13) ∧ w.cell? ⟨gm, 6, none⟩ = some (.slice (some ⟨b17, 0, none⟩) be.length c17) :=
 ⟨(blk_cell h.1 3).trans rfl, (blk_cell h.1 4).trans rfl, (blk_cell h.1 5).trans rfl, (blk_cell h.1 6).trans rfl⟩
theorem PM.at5 (h : PM base w gm v0 v1 D b5 c5 b9 c9 b13 c13 b17 c17 wi gr yi be) (i : Int) (h0 : 0 ≤ i) (h1 : i < wi.length) : w.cell? ⟨b5, i.toNat, none⟩ = some (.int .i64 (rd wi i)) ∧ w.frozen? ⟨b5, i.toNat, none⟩ = false := Kd.R_celln 0 h.2.2.2.2.1 i h0 h1
theorem PM.at9 (h : PM base w gm v0 v1 D b5 c5 b9 c9 b13 c13 b17 c17 wi gr yi be) (i : Int) (h0 : 0 ≤ i) (h1 : i < gr.length) : w.cell? ⟨b9, i.toNat, none⟩ = some (.int .i64 (rd gr i)) ∧ w.frozen? ⟨b9, i.toNat, none⟩ = false := Kd.R_celln 0 h.2.2.2.2.2.1 i h0 h1
theorem PM.at13 (h : PM base w gm v0 v1 D b5 c5 b9 c9 b13 c13 b17 c17 wi gr yi be) (i : Int) (h0 : 0 ≤ i) (h1 : i < yi.length) : w.cell? ⟨b13, i.toNat, none⟩ = some (.int .i64 (rd yi i)) ∧ w.frozen? ⟨b13, i.toNat, none⟩ = false := Kd.R_celln 0 h.2.2.2.2.2.2.1 i h0 h1
theorem PM.at17 (h : PM base w gm v0 v1 D b5 c5 b9 c9 b13 c13 b17 c17 wi gr yi be) (i : Int) (h0 : 0 ≤ i) (h1 : i < be.length) : w.cell? ⟨b17, i.toNat, none⟩ = some (.int .i64 (rd be i)) ∧ w.frozen? ⟨b17, i.toNat, none⟩ = false := Kd.R_celln 0 h.2.2.2.2.2.2.2 i h0 h1
end
theorem PM.mk_ {base gm b5 c5 b9 c9 b13 c13 b17 c17 : Nat} {w : World} {A0 : Option Addr} {c0 : Nat} {L : List S49} {A1 : Option Addr} {c1 : Nat} {W : List Int} {D : Int} {wi gr yi be : List Int} (h : PM base w gm (.slice A0 L.length c0) (.slice A1 W.length c1) D b5 c5 b9 c9 b13 c13 b17 c17 wi gr yi be) (hL : Kd.C k49 w A0 L.length L) (hW : kI.C w A1 W.length W) : MK w gm L W D wi gr yi be := by
 obtain ⟨h1, h2, h3, h4, h5, h6, h7, h8⟩ := h
 exact ⟨A0, c0, A1, c1, _, c5, _, c9, _, c13, _, c17, h1, hL, hW, (Kd.R_reads' h5).2.2, (Kd.R_reads' h6).2.2, (Kd.R_reads' h7).2.2, (Kd.R_reads' h8).2.2⟩
def sumU (h : S49 → Int) (L : List S49) : Nat → Int
 | 0 => 0
 | k + 1 => sumU h L k + h (pt L k)
def hW1 (p : S49) : Int := if p.f0 = 2 then 0 else p.f1
theorem sumU_bd (h : S49 → Int) (L : List S49) (hb : ∀ i : Int, 0 ≤ i → i < L.length → 0 ≤ h (pt L i) ∧ h (pt L i) ≤ 100000) (k : Nat) (hk : k ≤ L.length) : 0 ≤ sumU h L k ∧ sumU h L k ≤ 100000 * (k : Int) := by
 induction k with
 | zero => simp [sumU]
 | succ k ih =>
  have h1 := ih (by omega)
  have h2 := hb k (by omega) (by omega)
  unfold sumU
  omega
def fillT (h : S49 → Int) (L : List S49) (i : Int) : List Int := Lib.tab (fun j => if j ≤ i then sumU h L j.toNat else 0) (L.length + 1)
theorem fillT_length (h : S49 → Int) (L : List S49) (i : Int) : (fillT h L i).length = L.length + 1 := Lib.tab_length _ _
theorem fillT_zero (h : S49 → Int) (L : List S49) : List.replicate (L.length + 1) 0 = fillT h L 0 := by
 rw [Lib.tab_const]
 exact Lib.tab_congr fun j j0 j1 => by
  by_cases c : j = 0
  · subst c; rfl
  · rw [if_neg (by omega)]
theorem fillT_at (h : S49 → Int) (L : List S49) (i : Int) (i0 : 0 ≤ i) (i1 : i ≤ L.length) : rd (fillT h L i) i = sumU h L i.toNat := (Lib.rd_tab i0 (by omega)).trans (if_pos (Int.le_refl _))
theorem fillT_set (h : S49 → Int) (L : List S49) (i x : Int) (i0 : 0 ≤ i) (hx : x = sumU h L i.toNat + h (pt L i)) : (fillT h L i).set (i + 1).toNat x = fillT h L (i + 1) := by
 unfold fillT
 rw [Lib.tab_set (by omega)]
 exact Lib.tab_congr fun j j0 j1 => by
  by_cases c : j = i + 1
  · subst c
    rw [if_pos rfl, if_pos (Int.le_refl _), hx, show (i + 1).toNat = i.toNat + 1 by omega, sumU, show ((i.toNat : Nat) : Int) = i by omega]
  · rw [if_neg c]
    by_cases d : j ≤ i
    · rw [if_pos d, if_pos (by omega)]
    · rw [if_neg d, if_neg (by omega)]
def boxP (p : S49) : Bool := p.f0 == 0 || (p.f0 == 2 && p.f4 == -10000)
def nextD (L : List S49) : Nat → Int
 | 0 => L.length
 | d + 1 => if boxP (pt L ((L.length : Int) - d - 1)) = true then (L.length : Int) - d - 1 else nextD L d
def begT (L : List S49) (t : Int) : List Int := Lib.tab (fun j => if t < j ∧ j ≤ L.length then nextD L ((L.length : Int) - j).toNat else 0) (L.length + 2)
theorem begT_start (L : List S49) : (List.replicate (L.length + 2) (0 : Int)).set L.length (L.length : Int) = begT L ((L.length : Int) - 1) := by
 rw [Lib.tab_const]
 have h := Lib.tab_set (f := fun _ => (0 : Int)) (n := L.length + 2) (i := (L.length : Int)) (v := (L.length : Int)) (by omega)
 rw [Int.toNat_natCast] at h
 rw [h]
 exact Lib.tab_congr fun j j0 j1 => by
  by_cases c : j = L.length
  · subst c
    rw [if_pos rfl, if_pos (by omega), show ((L.length : Int) - L.length).toNat = 0 by omega]
    rfl
  · rw [if_neg c, if_neg (by omega)]
theorem begT_set (L : List S49) (t : Int) (t0 : 0 ≤ t) (t1 : t ≤ L.length) : (begT L t).set t.toNat (nextD L ((L.length : Int) - t).toNat) = begT L (t - 1) := by
 unfold begT
 rw [Lib.tab_set t0]
 exact Lib.tab_congr fun j j0 j1 => by
  by_cases c : j = t
  · subst c; rw [if_pos rfl, if_pos (by omega)]
  · rw [if_neg c]
    by_cases d : t < j ∧ j ≤ L.length
    · rw [if_pos d, if_pos (by omega)]
    · rw [if_neg d, if_neg (by omega)]
set_option maxHeartbeats 8000000 in
set_option maxRecDepth 100000 in
theorem prep_ok (A0 : Option Addr) (c0 : Nat) (L : List S49) (A1 : Option Addr) (c1 : Nat) (W : List Int) (D : Int) (w : World) (hL : Kd.C k49 w A0 L.length L) (hW : kI.C w A1 W.length W) (hn : L.length ≤ 8000) (hP3 : ∀ i : Int, 0 ≤ i → i < L.length → 0 ≤ (pt L i).f1 ∧ (pt L i).f1 ≤ 100000 ∧ 0 ≤ (pt L i).f2 ∧ (pt L i).f2 ≤ 100000 ∧ 0 ≤ (pt L i).f3 ∧ (pt L i).f3 ≤ 100000) :
    Calls Try.prog 22 #[.slice A0 L.length c0, .agg #[.slice A1 W.length c1, .int .i64 D]] w fun e w' => ∃ g : Nat, e = .returned (.pointer (some ⟨g, 0, none⟩)) ∧ MK w' g L W D (fillT hW1 L (L.length : Int)) (fillT (·.f2) L (L.length : Int)) (fillT (·.f3) L (L.length : Int)) (begT L (-1)) ∧ w.heap.size ≤ g ∧ Below w.heap.size w w' := by
 have hu57 := Try.underlying57
 have hu49 := Try.underlying49
 have hu25 := Try.underlying25
 have HP3 := Aside0.mk hP3
 have HL := Aside0.mk hL
 have HW := Aside0.mk hW
 have HB := Aside0.mk (Below.refl w.heap.size w)
 have k1 : wrap64 ((L.length : Int) + 1) = (L.length : Int) + 1 := w64 (by omega) (by omega)
 have k2 : wrap64 ((L.length : Int) + 2) = (L.length : Int) + 2 := w64 (by omega) (by omega)
 have y1 := (i64_w ((L.length : Int) + 1)).trans k1
 have y2 := (i64_w ((L.length : Int) + 2)).trans k2
 clear hL hW hP3
 go_enter Try.func22, Try.ntmps22
 go_upto_region 1 with ((with_reducible refine gate_dst (N := 3) rfl ?_); refine box_event ?hg (N := 3) ?hd (cs := #[.slice A1 W.length c1, .int .i64 D]) (t := 25) ?hr ?_; (case hd => rfl); (case hg => rfl); (case hr => first | (go_simp; done) | (go_simp; rfl)); intro gb3 hg w5 hbox hb; (have hbb := below_step HB.out hb); clear HB; (have HB := Aside0.mk hbb); (have B3_ := Aside0.mk hbox); clear hg hbox hb hbb)
 have hB1 := below_drew1 HB.out
 have B3 := blk_below B3_.out (below_drew1 (Below.refl w5.heap.size w5))
 clear HB B3_
 have HB := hB1
 clear hB1
 refine start_ (n := 21) (S := fun w' => True) (ds := []) #[false, false, false, false, false, false, false, false, false, false, false, false, false, false, false, false, false, false, false, false, false] (by kernel_rfl) rfl rfl trivial (fun hHeld => ?_)
 refine with_tabW prep_tab1 prep_bits1 (fun HT_ HW_ => ?_)
 generalize w5.drew = wd at HB B3 ⊢
 refine pure_ (i := 0) (N := some 10) (v := ?_) (a' := ?_) #[true, false, false, false, false, false, false, false, false, false, false, false, false, false, false, false, false, false, false, false, false] rfl rfl (any_of HT_.out (by kernel_rfl)) (fun _ _ _ h => h) (Or.inl ⟨by rfl, ?_⟩) ?_ ?_
 rotate_left
 · intro w'
   go_simp
   with_reducible rfl
 rotate_left
 · simp only [Act.put, List.setIfInBounds_toArray, List.set_cons_zero, List.set_cons_succ, i64_w, i32_w]
   rfl
 refine pure_ (i := 2) (N := some 12) (v := ?_) (a' := ?_) #[true, false, true, false, false, false, false, false, false, false, false, false, false, false, false, false, false, false, false, false, false] rfl rfl (any_of HT_.out (by kernel_rfl)) (fun _ _ _ h => h) (Or.inl ⟨by rfl, ?_⟩) ?_ ?_
 rotate_left
 · intro w'
   go_simp
   with_reducible rfl
 rotate_left
 · simp only [Act.put, List.setIfInBounds_toArray, List.set_cons_zero, List.set_cons_succ, i64_w, i32_w]
   rfl
 refine pure_ (i := 3) (N := some 13) (v := ?_) (a' := ?_) #[true, false, true, true, false, false, false, false, false, false, false, false, false, false, false, false, false, false, false, false, false] rfl rfl (any_of HT_.out (by kernel_rfl)) (fun _ _ _ h => h) (Or.inl ⟨by rfl, ?_⟩) ?_ ?_
 rotate_left
 · intro w'
   go_simp
   with_reducible rfl
 rotate_left
 · simp only [Act.put, List.setIfInBounds_toArray, List.set_cons_zero, List.set_cons_succ, i64_w, i32_w]
   rfl
 refine pure_ (i := 4) (N := some 14) (v := ?_) (a' := ?_) #[true, false, true, true, true, false, false, false, false, false, false, false, false, false, false, false, false, false, false, false, false] rfl rfl (any_of HT_.out (by kernel_rfl)) (fun _ _ _ h => h) (Or.inl ⟨by rfl, ?_⟩) ?_ ?_
 rotate_left
 · intro w'
   go_simp
   with_reducible rfl
 rotate_left
 · simp only [Act.put, List.setIfInBounds_toArray, List.set_cons_zero, List.set_cons_succ, i64_w, i32_w]
   rfl
 refine pure_ (i := 6) (N := some 16) (v := ?_) (a' := ?_) #[true, false, true, true, true, false, true, false, false, false, false, false, false, false, false, false, false, false, false, false, false] rfl rfl (any_of HT_.out (by kernel_rfl)) (fun _ _ _ h => h) (Or.inl ⟨by rfl, ?_⟩) ?_ ?_
 rotate_left
 · intro w'
   go_simp
   with_reducible rfl
 rotate_left
 · simp only [Act.put, List.setIfInBounds_toArray, List.set_cons_zero, List.set_cons_succ, i64_w, i32_w]
   rfl
 refine pure_ (i := 7) (N := some 17) (v := ?_) (a' := ?_) #[true, false, true, true, true, false, true, true, false, false, false, false, false, false, false, false, false, false, false, false, false] rfl rfl (any_of HT_.out (by kernel_rfl)) (fun _ _ _ h => h) (Or.inl ⟨by rfl, ?_⟩) ?_ ?_
 rotate_left
 · intro w'
   go_simp
   with_reducible rfl
 rotate_left
 · simp only [Act.put, List.setIfInBounds_toArray, List.set_cons_zero, List.set_cons_succ, i64_w, i32_w]
   rfl
 refine pure_ (i := 8) (N := some 18) (v := ?_) (a' := ?_) #[true, false, true, true, true, false, true, true, true, false, false, false, false, false, false, false, false, false, false, false, false] rfl rfl (any_of HT_.out (by kernel_rfl)) (fun _ _ _ h => h) (Or.inl ⟨by rfl, ?_⟩) ?_ ?_
 rotate_left
 · intro w'
   go_simp
   with_reducible rfl
 rotate_left
 · simp only [Act.put, List.setIfInBounds_toArray, List.set_cons_zero, List.set_cons_succ, i64_w, i32_w]
   rfl
 refine pure_ (i := 10) (N := some 20) (v := ?_) (a' := ?_) #[true, false, true, true, true, false, true, true, true, false, true, false, false, false, false, false, false, false, false, false, false] rfl rfl (any_of HT_.out (by kernel_rfl)) (fun _ _ _ h => h) (Or.inl ⟨by rfl, ?_⟩) ?_ ?_
 rotate_left
 · intro w'
   go_simp
   with_reducible rfl
 rotate_left
 · simp only [Act.put, List.setIfInBounds_toArray, List.set_cons_zero, List.set_cons_succ, i64_w, i32_w]
   rfl
 refine pure_ (i := 11) (N := some 21) (v := ?_) (a' := ?_) #[true, false, true, true, true, false, true, true, true, false, true, true, false, false, false, false, false, false, false, false, false] rfl rfl (any_of HT_.out (by kernel_rfl)) (fun _ _ _ h => h) (Or.inl ⟨by rfl, ?_⟩) ?_ ?_
 rotate_left
 · intro w'
   go_simp
   with_reducible rfl
 rotate_left
 · simp only [Act.put, List.setIfInBounds_toArray, List.set_cons_zero, List.set_cons_succ, i64_w, i32_w]
   rfl
 refine pure_ (i := 12) (N := some 22) (v := ?_) (a' := ?_) #[true, false, true, true, true, false, true, true, true, false, true, true, true, false, false, false, false, false, false, false, false] rfl rfl (any_of HT_.out (by kernel_rfl)) (fun _ _ _ h => h) (Or.inl ⟨by rfl, ?_⟩) ?_ ?_
 rotate_left
 · intro w'
   go_simp
   with_reducible rfl
 rotate_left
 · simp only [Act.put, List.setIfInBounds_toArray, List.set_cons_zero, List.set_cons_succ, i64_w, i32_w]
   rfl
 refine pure_ (i := 14) (N := some 24) (v := ?_) (a' := ?_) #[true, false, true, true, true, false, true, true, true, false, true, true, true, false, true, false, false, false, false, false, false] rfl rfl (any_of HT_.out (by kernel_rfl)) (fun _ _ _ h => h) (Or.inl ⟨by rfl, ?_⟩) ?_ ?_
 rotate_left
 · intro w'
   go_simp
   with_reducible rfl
 rotate_left
 · simp only [Act.put, List.setIfInBounds_toArray, List.set_cons_zero, List.set_cons_succ, i64_w, i32_w]
   rfl
 refine pure_ (i := 15) (N := some 25) (v := ?_) (a' := ?_) #[true, false, true, true, true, false, true, true, true, false, true, true, true, false, true, true, false, false, false, false, false] rfl rfl (any_of HT_.out (by kernel_rfl)) (fun _ _ _ h => h) (Or.inl ⟨by rfl, ?_⟩) ?_ ?_
 rotate_left
 · intro w'
   go_simp
   with_reducible rfl
 rotate_left
 · simp only [Act.put, List.setIfInBounds_toArray, List.set_cons_zero, List.set_cons_succ, i64_w, i32_w]
   rfl
 refine pure_ (i := 16) (N := some 26) (v := ?_) (a' := ?_) #[true, false, true, true, true, false, true, true, true, false, true, true, true, false, true, true, true, false, false, false, false] rfl rfl (any_of HT_.out (by kernel_rfl)) (fun _ _ _ h => h) (Or.inl ⟨by rfl, ?_⟩) ?_ ?_
 rotate_left
 · intro w'
   go_simp
   with_reducible rfl
 rotate_left
 · simp only [Act.put, List.setIfInBounds_toArray, List.set_cons_zero, List.set_cons_succ, i64_w, i32_w]
   rfl
 refine inv_at [1, 5, 9, 13, 17, 18, 19, 20] (fun a0_ b a w' => ∃ (A5_ : Option Addr) (c5_ : Nat) (A9_ : Option Addr) (c9_ : Nat) (A13_ : Option Addr) (c13_ : Nat) (A17_ : Option Addr) (c17_ : Nat) (gm : Nat) (m5_ : Value) (m9_ : Value) (m13_ : Value) (m17_ : Value) (m18_ : Value) (m19_ : Value) (m20_ : Value), a = putSel a0_ b [(1, 11, .agg #[.slice A1 W.length c1, .int .i64 D]), (5, 15, m5_), (9, 19, m9_), (13, 23, m13_), (17, 27, m17_), (18, 28, m18_), (19, 29, m19_), (20, 5, m20_)] ∧ (Below w.heap.size w w') ∧ (w'.heap[gb3]? = some (.cells #[.slice A1 W.length c1, .int .i64 D] 25 (0, 0))) ∧ (b 5 = true → kI.R 3 w' w.heap.size (fun _ => True) (.slice A5_ (L.length + 1) c5_) (List.replicate (L.length + 1) 0)) ∧ (b 9 = true → kI.R 3 w' w.heap.size (fun _ => True) (.slice A9_ (L.length + 1) c9_) (List.replicate (L.length + 1) 0)) ∧ (b 13 = true → kI.R 3 w' w.heap.size (fun _ => True) (.slice A13_ (L.length + 1) c13_) (List.replicate (L.length + 1) 0)) ∧ (b 17 = true → kI.R 3 w' w.heap.size (fun _ => True) (.slice A17_ (L.length + 2) c17_) (List.replicate (L.length + 2) 0)) ∧ (b 5 = true → b 9 = true → (.slice A5_ (L.length + 1) c5_ : Value).ownBlock ≠ (.slice A9_ (L.length + 1) c9_ : Value).ownBlock) ∧ (b 5 = true → b 13 = true → (.slice A5_ (L.length + 1) c5_ : Value).ownBlock ≠ (.slice A13_ (L.length + 1) c13_ : Value).ownBlock) ∧ (b 5 = true → b 17 = true → (.slice A5_ (L.length + 1) c5_ : Value).ownBlock ≠ (.slice A17_ (L.length + 2) c17_ : Value).ownBlock) ∧ (b 9 = true → b 13 = true → (.slice A9_ (L.length + 1) c9_ : Value).ownBlock ≠ (.slice A13_ (L.length + 1) c13_ : Value).ownBlock) ∧ (b 9 = true → b 17 = true → (.slice A9_ (L.length + 1) c9_ : Value).ownBlock ≠ (.slice A17_ (L.length + 2) c17_ : Value).ownBlock) ∧ (b 13 = true → b 17 = true → (.slice A13_ (L.length + 1) c13_ : Value).ownBlock ≠ (.slice A17_ (L.length + 2) c17_ : Value).ownBlock) ∧ (b 19 = true → w'.heap[gm]? = some (.cells #[.slice A0 L.length c0, .slice A1 W.length c1, .int .i64 D, .slice A5_ (L.length + 1) c5_, .slice A9_ (L.length + 1) c9_, .slice A13_ (L.length + 1) c13_, .slice A17_ (L.length + 2) c17_] 57 (0, 0)) ∧ w.heap.size ≤ gm) ∧ (b 5 = true → (m5_ : Value) = .slice A5_ (L.length + 1) c5_) ∧ (b 9 = true → (m9_ : Value) = .slice A9_ (L.length + 1) c9_) ∧ (b 13 = true → (m13_ : Value) = .slice A13_ (L.length + 1) c13_) ∧ (b 17 = true → (m17_ : Value) = .slice A17_ (L.length + 2) c17_) ∧ (b 18 = true → (m18_ : Value) = .agg #[.slice A0 L.length c0, .slice A1 W.length c1, .int .i64 D, .slice A5_ (L.length + 1) c5_, .slice A9_ (L.length + 1) c9_, .slice A13_ (L.length + 1) c13_, .slice A17_ (L.length + 2) c17_]) ∧ (b 19 = true → (m19_ : Value) = .pointer (some ⟨gm, 0, none⟩)) ∧ (b 20 = true → (m20_ : Value) = .pointer (some ⟨gm, 0, none⟩))) HT_.out HW_.out (by kernel_rfl) (by kernel_rfl) ?_ ?_ ?_
 · exact ⟨none, 0, none, 0, none, 0, none, 0, 0, .bool false, .bool false, .bool false, .bool false, .bool false, .bool false, .bool false, by simp only [putSel, Bool.false_eq_true, if_false], HB, B3, fun h_ => absurd h_ (by decide), fun h_ => absurd h_ (by decide), fun h_ => absurd h_ (by decide), fun h_ => absurd h_ (by decide), fun h_ => absurd h_ (by decide), fun h_ => absurd h_ (by decide), fun h_ => absurd h_ (by decide), fun h_ => absurd h_ (by decide), fun h_ => absurd h_ (by decide), fun h_ => absurd h_ (by decide), fun h_ => absurd h_ (by decide), fun h_ => absurd h_ (by decide), fun h_ => absurd h_ (by decide), fun h_ => absurd h_ (by decide), fun h_ => absurd h_ (by decide), fun h_ => absurd h_ (by decide), fun h_ => absurd h_ (by decide), fun h_ => absurd h_ (by decide)⟩
 · skip
   clear B3 HB
   refine steps_cons ?_ ?_
   · rintro b a w' ⟨A5_, c5_, A9_, c9_, A13_, c13_, A17_, c17_, gm, m5_, m9_, m13_, m17_, m18_, m19_, m20_, ha, Q_HB, Q_B3, Q_R5, Q_R9, Q_R13, Q_R17, Q_N5_9, Q_N5_13, Q_N5_17, Q_N9_13, Q_N9_17, Q_N13_17, Q_BM, Q_X5_, Q_X9_, Q_X13_, Q_X17_, Q_X18_, Q_X19_, Q_X20_⟩ hb_ hon hoff
     refine ⟨_, rfl, fun K hK => ?_⟩
     have e3 : a.tmps[3]? = some (.pointer (some ⟨gb3, 0, none⟩)) := by rw [ha]; exact (putSel_off rfl).trans rfl
     replace ha := Aside0.mk ha
     have HB := Aside0.mk Q_HB
     have B3 := Aside0.mk Q_B3
     have hcz0 : w'.cell? ⟨gb3, 0, none⟩ = some (.slice A1 W.length c1) := (blk_cell B3.out 0).trans rfl
     have hcz1 : w'.cell? ⟨gb3, 1, none⟩ = some (.int .i64 D) := (blk_cell B3.out 1).trans rfl
     refine value_ (w1 := w') (v := .agg #[.slice A1 W.length c1, .int .i64 D]) (by rfl) rfl ?_ ?_
     · go_simp
       (try simp only [i64_w])
       try rfl
     refine hK.out _ _ ⟨A5_, c5_, A9_, c9_, A13_, c13_, A17_, c17_, gm, m5_, m9_, m13_, m17_, m18_, m19_, m20_, (by rw [ha.out]; exact putSel_upk 0 hb_ rfl rfl rfl), Q_HB, Q_B3, Q_R5, Q_R9, Q_R13, Q_R17, Q_N5_9, Q_N5_13, Q_N5_17, Q_N9_13, Q_N9_17, Q_N13_17, fun h0_ => absurd ((hoff 19 (by kernel_rfl)).symm.trans h0_) (by decide), Q_X5_, Q_X9_, Q_X13_, Q_X17_, fun h0_ => absurd ((hoff 18 (by kernel_rfl)).symm.trans h0_) (by decide), fun h0_ => absurd ((hoff 19 (by kernel_rfl)).symm.trans h0_) (by decide), fun h0_ => absurd ((hoff 20 (by kernel_rfl)).symm.trans h0_) (by decide)⟩
   refine steps_cons ?_ ?_
   · rintro b a w' ⟨A5_, c5_, A9_, c9_, A13_, c13_, A17_, c17_, gm, m5_, m9_, m13_, m17_, m18_, m19_, m20_, ha, Q_HB, Q_B3, Q_R5, Q_R9, Q_R13, Q_R17, Q_N5_9, Q_N5_13, Q_N5_17, Q_N9_13, Q_N9_17, Q_N13_17, Q_BM, Q_X5_, Q_X9_, Q_X13_, Q_X17_, Q_X18_, Q_X19_, Q_X20_⟩ hb_ hon hoff
     refine ⟨_, rfl, fun K hK => ?_⟩
     have e14 : a.tmps[14]? = some (.int .i64 ((L.length : Int) + 1)) := by rw [ha]; exact (putSel_off rfl).trans rfl
     replace ha := Aside0.mk ha
     have HB := Aside0.mk Q_HB
     have B3 := Aside0.mk Q_B3
     refine Kd.R_make_step kI (w0 := w) w.heap.size 3 (by rfl) (N := 15) rfl 23 (.tmp 14) (.tmp 14) rfl ((L.length : Int) + 1) (by simp only [Act.eval, Array.getD_eq_getD_getElem?, e14, Option.getD_some]) (by simp only [Act.eval, Array.getD_eq_getD_getElem?, e14, Option.getD_some]) Try.underlying23 (.int .i64 0) 8 info3 rfl (by decide) (by omega) 0 (ok := fun _ => True) (okp := fun _ => True) rfl (fun _ hk => hk) trivial (by omega) (by omega) HB.out HB.out.size ?_
     intro v1 w1 ho hb hgr hat
     rw [show (((L.length : Int) + 1)).toNat = (L.length + 1) by omega] at ho
     obtain ⟨Ax, cx, hv⟩ := Kd.R_slice ho
     rw [List.length_replicate] at hv
     subst hv
     refine hK.out _ _ ⟨Ax, cx, A9_, c9_, A13_, c13_, A17_, c17_, gm, (.slice Ax (L.length + 1) cx), m9_, m13_, m17_, m18_, m19_, m20_, (by rw [ha.out]; exact putSel_upk 1 hb_ rfl rfl rfl), hb, (hgr.block gb3 (blk_lt B3.out) (by simp)).trans B3.out, fun _ => ho, fun h0_ => Kd.R_grown (Q_R9 h0_) hgr (fun j hj e => by cases e), fun h0_ => Kd.R_grown (Q_R13 h0_) hgr (fun j hj e => by cases e), fun h0_ => Kd.R_grown (Q_R17 h0_) hgr (fun j hj e => by cases e), fun h0_ h1_ => own_new (Q_R9 h1_) hat, fun h0_ h1_ => own_new (Q_R13 h1_) hat, fun h0_ h1_ => own_new (Q_R17 h1_) hat, Q_N9_13, Q_N9_17, Q_N13_17, fun h0_ => absurd ((hoff 19 (by kernel_rfl)).symm.trans h0_) (by decide), fun _ => rfl, Q_X9_, Q_X13_, Q_X17_, fun h0_ => absurd ((hoff 18 (by kernel_rfl)).symm.trans h0_) (by decide), fun h0_ => absurd ((hoff 19 (by kernel_rfl)).symm.trans h0_) (by decide), fun h0_ => absurd ((hoff 20 (by kernel_rfl)).symm.trans h0_) (by decide)⟩
   refine steps_cons ?_ ?_
   · rintro b a w' ⟨A5_, c5_, A9_, c9_, A13_, c13_, A17_, c17_, gm, m5_, m9_, m13_, m17_, m18_, m19_, m20_, ha, Q_HB, Q_B3, Q_R5, Q_R9, Q_R13, Q_R17, Q_N5_9, Q_N5_13, Q_N5_17, Q_N9_13, Q_N9_17, Q_N13_17, Q_BM, Q_X5_, Q_X9_, Q_X13_, Q_X17_, Q_X18_, Q_X19_, Q_X20_⟩ hb_ hon hoff
     refine ⟨_, rfl, fun K hK => ?_⟩
     have e18 : a.tmps[18]? = some (.int .i64 ((L.length : Int) + 1)) := by rw [ha]; exact (putSel_off rfl).trans rfl
     replace ha := Aside0.mk ha
     have HB := Aside0.mk Q_HB
     have B3 := Aside0.mk Q_B3
     refine Kd.R_make_step kI (w0 := w) w.heap.size 3 (by rfl) (N := 19) rfl 23 (.tmp 18) (.tmp 18) rfl ((L.length : Int) + 1) (by simp only [Act.eval, Array.getD_eq_getD_getElem?, e18, Option.getD_some]) (by simp only [Act.eval, Array.getD_eq_getD_getElem?, e18, Option.getD_some]) Try.underlying23 (.int .i64 0) 8 info3 rfl (by decide) (by omega) 0 (ok := fun _ => True) (okp := fun _ => True) rfl (fun _ hk => hk) trivial (by omega) (by omega) HB.out HB.out.size ?_
     intro v1 w1 ho hb hgr hat
     rw [show (((L.length : Int) + 1)).toNat = (L.length + 1) by omega] at ho
     obtain ⟨Ax, cx, hv⟩ := Kd.R_slice ho
     rw [List.length_replicate] at hv
     subst hv
     refine hK.out _ _ ⟨A5_, c5_, Ax, cx, A13_, c13_, A17_, c17_, gm, m5_, (.slice Ax (L.length + 1) cx), m13_, m17_, m18_, m19_, m20_, (by rw [ha.out]; exact putSel_upk 2 hb_ rfl rfl rfl), hb, (hgr.block gb3 (blk_lt B3.out) (by simp)).trans B3.out, fun h0_ => Kd.R_grown (Q_R5 h0_) hgr (fun j hj e => by cases e), fun _ => ho, fun h0_ => Kd.R_grown (Q_R13 h0_) hgr (fun j hj e => by cases e), fun h0_ => Kd.R_grown (Q_R17 h0_) hgr (fun j hj e => by cases e), fun h0_ h1_ => (own_new (Q_R5 h0_) hat).symm, Q_N5_13, Q_N5_17, fun h0_ h1_ => own_new (Q_R13 h1_) hat, fun h0_ h1_ => own_new (Q_R17 h1_) hat, Q_N13_17, fun h0_ => absurd ((hoff 19 (by kernel_rfl)).symm.trans h0_) (by decide), Q_X5_, fun _ => rfl, Q_X13_, Q_X17_, fun h0_ => absurd ((hoff 18 (by kernel_rfl)).symm.trans h0_) (by decide), fun h0_ => absurd ((hoff 19 (by kernel_rfl)).symm.trans h0_) (by decide), fun h0_ => absurd ((hoff 20 (by kernel_rfl)).symm.trans h0_) (by decide)⟩
   refine steps_cons ?_ ?_
   · rintro b a w' ⟨A5_, c5_, A9_, c9_, A13_, c13_, A17_, c17_, gm, m5_, m9_, m13_, m17_, m18_, m19_, m20_, ha, Q_HB, Q_B3, Q_R5, Q_R9, Q_R13, Q_R17, Q_N5_9, Q_N5_13, Q_N5_17, Q_N9_13, Q_N9_17, Q_N13_17, Q_BM, Q_X5_, Q_X9_, Q_X13_, Q_X17_, Q_X18_, Q_X19_, Q_X20_⟩ hb_ hon hoff
     refine ⟨_, rfl, fun K hK => ?_⟩
     have e22 : a.tmps[22]? = some (.int .i64 ((L.length : Int) + 1)) := by rw [ha]; exact (putSel_off rfl).trans rfl
     replace ha := Aside0.mk ha
     have HB := Aside0.mk Q_HB
     have B3 := Aside0.mk Q_B3
     refine Kd.R_make_step kI (w0 := w) w.heap.size 3 (by rfl) (N := 23) rfl 23 (.tmp 22) (.tmp 22) rfl ((L.length : Int) + 1) (by simp only [Act.eval, Array.getD_eq_getD_getElem?, e22, Option.getD_some]) (by simp only [Act.eval, Array.getD_eq_getD_getElem?, e22, Option.getD_some]) Try.underlying23 (.int .i64 0) 8 info3 rfl (by decide) (by omega) 0 (ok := fun _ => True) (okp := fun _ => True) rfl (fun _ hk => hk) trivial (by omega) (by omega) HB.out HB.out.size ?_
     intro v1 w1 ho hb hgr hat
     rw [show (((L.length : Int) + 1)).toNat = (L.length + 1) by omega] at ho
     obtain ⟨Ax, cx, hv⟩ := Kd.R_slice ho
     rw [List.length_replicate] at hv
     subst hv
     refine hK.out _ _ ⟨A5_, c5_, A9_, c9_, Ax, cx, A17_, c17_, gm, m5_, m9_, (.slice Ax (L.length + 1) cx), m17_, m18_, m19_, m20_, (by rw [ha.out]; exact putSel_upk 3 hb_ rfl rfl rfl), hb, (hgr.block gb3 (blk_lt B3.out) (by simp)).trans B3.out, fun h0_ => Kd.R_grown (Q_R5 h0_) hgr (fun j hj e => by cases e), fun h0_ => Kd.R_grown (Q_R9 h0_) hgr (fun j hj e => by cases e), fun _ => ho, fun h0_ => Kd.R_grown (Q_R17 h0_) hgr (fun j hj e => by cases e), Q_N5_9, fun h0_ h1_ => (own_new (Q_R5 h0_) hat).symm, Q_N5_17, fun h0_ h1_ => (own_new (Q_R9 h0_) hat).symm, Q_N9_17, fun h0_ h1_ => own_new (Q_R17 h1_) hat, fun h0_ => absurd ((hoff 19 (by kernel_rfl)).symm.trans h0_) (by decide), Q_X5_, Q_X9_, fun _ => rfl, Q_X17_, fun h0_ => absurd ((hoff 18 (by kernel_rfl)).symm.trans h0_) (by decide), fun h0_ => absurd ((hoff 19 (by kernel_rfl)).symm.trans h0_) (by decide), fun h0_ => absurd ((hoff 20 (by kernel_rfl)).symm.trans h0_) (by decide)⟩
   refine steps_cons ?_ ?_
   · rintro b a w' ⟨A5_, c5_, A9_, c9_, A13_, c13_, A17_, c17_, gm, m5_, m9_, m13_, m17_, m18_, m19_, m20_, ha, Q_HB, Q_B3, Q_R5, Q_R9, Q_R13, Q_R17, Q_N5_9, Q_N5_13, Q_N5_17, Q_N9_13, Q_N9_17, Q_N13_17, Q_BM, Q_X5_, Q_X9_, Q_X13_, Q_X17_, Q_X18_, Q_X19_, Q_X20_⟩ hb_ hon hoff
     refine ⟨_, rfl, fun K hK => ?_⟩
     have e26 : a.tmps[26]? = some (.int .i64 ((L.length : Int) + 2)) := by rw [ha]; exact (putSel_off rfl).trans rfl
     replace ha := Aside0.mk ha
     have HB := Aside0.mk Q_HB
     have B3 := Aside0.mk Q_B3
     refine Kd.R_make_step kI (w0 := w) w.heap.size 3 (by rfl) (N := 27) rfl 23 (.tmp 26) (.tmp 26) rfl ((L.length : Int) + 2) (by simp only [Act.eval, Array.getD_eq_getD_getElem?, e26, Option.getD_some]) (by simp only [Act.eval, Array.getD_eq_getD_getElem?, e26, Option.getD_some]) Try.underlying23 (.int .i64 0) 8 info3 rfl (by decide) (by omega) 0 (ok := fun _ => True) (okp := fun _ => True) rfl (fun _ hk => hk) trivial (by omega) (by omega) HB.out HB.out.size ?_
     intro v1 w1 ho hb hgr hat
     rw [show (((L.length : Int) + 2)).toNat = (L.length + 2) by omega] at ho
     obtain ⟨Ax, cx, hv⟩ := Kd.R_slice ho
     rw [List.length_replicate] at hv
     subst hv
     refine hK.out _ _ ⟨A5_, c5_, A9_, c9_, A13_, c13_, Ax, cx, gm, m5_, m9_, m13_, (.slice Ax (L.length + 2) cx), m18_, m19_, m20_, (by rw [ha.out]; exact putSel_upk 4 hb_ rfl rfl rfl), hb, (hgr.block gb3 (blk_lt B3.out) (by simp)).trans B3.out, fun h0_ => Kd.R_grown (Q_R5 h0_) hgr (fun j hj e => by cases e), fun h0_ => Kd.R_grown (Q_R9 h0_) hgr (fun j hj e => by cases e), fun h0_ => Kd.R_grown (Q_R13 h0_) hgr (fun j hj e => by cases e), fun _ => ho, Q_N5_9, Q_N5_13, fun h0_ h1_ => (own_new (Q_R5 h0_) hat).symm, Q_N9_13, fun h0_ h1_ => (own_new (Q_R9 h0_) hat).symm, fun h0_ h1_ => (own_new (Q_R13 h0_) hat).symm, fun h0_ => absurd ((hoff 19 (by kernel_rfl)).symm.trans h0_) (by decide), Q_X5_, Q_X9_, Q_X13_, fun _ => rfl, fun h0_ => absurd ((hoff 18 (by kernel_rfl)).symm.trans h0_) (by decide), fun h0_ => absurd ((hoff 19 (by kernel_rfl)).symm.trans h0_) (by decide), fun h0_ => absurd ((hoff 20 (by kernel_rfl)).symm.trans h0_) (by decide)⟩
   refine steps_cons ?_ ?_
   · rintro b a w' ⟨A5_, c5_, A9_, c9_, A13_, c13_, A17_, c17_, gm, m5_, m9_, m13_, m17_, m18_, m19_, m20_, ha, Q_HB, Q_B3, Q_R5, Q_R9, Q_R13, Q_R17, Q_N5_9, Q_N5_13, Q_N5_17, Q_N9_13, Q_N9_17, Q_N13_17, Q_BM, Q_X5_, Q_X9_, Q_X13_, Q_X17_, Q_X18_, Q_X19_, Q_X20_⟩ hb_ hon hoff
     refine ⟨_, rfl, fun K hK => ?_⟩
     have e10 : a.tmps[10]? = some (.slice A0 L.length c0) := by rw [ha]; exact (putSel_off rfl).trans rfl
     have e11 : a.tmps[11]? = some (.agg #[.slice A1 W.length c1, .int .i64 D]) := by rw [ha]; exact putSel_on (e := (1, 11, .agg #[.slice A1 W.length c1, .int .i64 D])) 0 rfl rfl (hon 1 (by kernel_rfl)) rfl
     have e15 : a.tmps[15]? = some (m5_) := by rw [ha]; exact putSel_on (e := (5, 15, m5_)) 1 rfl rfl (hon 5 (by kernel_rfl)) rfl
     rw [Q_X5_ (hon 5 (by kernel_rfl))] at e15
     have e19 : a.tmps[19]? = some (m9_) := by rw [ha]; exact putSel_on (e := (9, 19, m9_)) 2 rfl rfl (hon 9 (by kernel_rfl)) rfl
     rw [Q_X9_ (hon 9 (by kernel_rfl))] at e19
     have e23 : a.tmps[23]? = some (m13_) := by rw [ha]; exact putSel_on (e := (13, 23, m13_)) 3 rfl rfl (hon 13 (by kernel_rfl)) rfl
     rw [Q_X13_ (hon 13 (by kernel_rfl))] at e23
     have e27 : a.tmps[27]? = some (m17_) := by rw [ha]; exact putSel_on (e := (17, 27, m17_)) 4 rfl rfl (hon 17 (by kernel_rfl)) rfl
     rw [Q_X17_ (hon 17 (by kernel_rfl))] at e27
     replace ha := Aside0.mk ha
     have HB := Aside0.mk Q_HB
     have B3 := Aside0.mk Q_B3
     have R5 := Aside0.mk (Q_R5 (hon 5 (by kernel_rfl)))
     have R9 := Aside0.mk (Q_R9 (hon 9 (by kernel_rfl)))
     have R13 := Aside0.mk (Q_R13 (hon 13 (by kernel_rfl)))
     have R17 := Aside0.mk (Q_R17 (hon 17 (by kernel_rfl)))
     have N5_9 := Aside0.mk (Q_N5_9 (hon 5 (by kernel_rfl)) (hon 9 (by kernel_rfl)))
     have N5_13 := Aside0.mk (Q_N5_13 (hon 5 (by kernel_rfl)) (hon 13 (by kernel_rfl)))
     have N5_17 := Aside0.mk (Q_N5_17 (hon 5 (by kernel_rfl)) (hon 17 (by kernel_rfl)))
     have N9_13 := Aside0.mk (Q_N9_13 (hon 9 (by kernel_rfl)) (hon 13 (by kernel_rfl)))
     have N9_17 := Aside0.mk (Q_N9_17 (hon 9 (by kernel_rfl)) (hon 17 (by kernel_rfl)))
     have N13_17 := Aside0.mk (Q_N13_17 (hon 13 (by kernel_rfl)) (hon 17 (by kernel_rfl)))
     refine value_ (w1 := w') (v := .agg #[.slice A0 L.length c0, .slice A1 W.length c1, .int .i64 D, .slice A5_ (L.length + 1) c5_, .slice A9_ (L.length + 1) c9_, .slice A13_ (L.length + 1) c13_, .slice A17_ (L.length + 2) c17_]) (by rfl) rfl ?_ ?_
     · go_simp
       (try simp only [i64_w])
       try rfl
     refine hK.out _ _ ⟨A5_, c5_, A9_, c9_, A13_, c13_, A17_, c17_, gm, m5_, m9_, m13_, m17_, (.agg #[.slice A0 L.length c0, .slice A1 W.length c1, .int .i64 D, .slice A5_ (L.length + 1) c5_, .slice A9_ (L.length + 1) c9_, .slice A13_ (L.length + 1) c13_, .slice A17_ (L.length + 2) c17_]), m19_, m20_, (by rw [ha.out]; exact putSel_upk 5 hb_ rfl rfl rfl), Q_HB, Q_B3, Q_R5, Q_R9, Q_R13, Q_R17, Q_N5_9, Q_N5_13, Q_N5_17, Q_N9_13, Q_N9_17, Q_N13_17, fun h0_ => absurd ((hoff 19 (by kernel_rfl)).symm.trans h0_) (by decide), Q_X5_, Q_X9_, Q_X13_, Q_X17_, fun _ => rfl, fun h0_ => absurd ((hoff 19 (by kernel_rfl)).symm.trans h0_) (by decide), fun h0_ => absurd ((hoff 20 (by kernel_rfl)).symm.trans h0_) (by decide)⟩
   refine steps_cons ?_ ?_
   · rintro b a w' ⟨A5_, c5_, A9_, c9_, A13_, c13_, A17_, c17_, gm, m5_, m9_, m13_, m17_, m18_, m19_, m20_, ha, Q_HB, Q_B3, Q_R5, Q_R9, Q_R13, Q_R17, Q_N5_9, Q_N5_13, Q_N5_17, Q_N9_13, Q_N9_17, Q_N13_17, Q_BM, Q_X5_, Q_X9_, Q_X13_, Q_X17_, Q_X18_, Q_X19_, Q_X20_⟩ hb_ hon hoff
     refine ⟨_, rfl, fun K hK => ?_⟩
     have e28 : a.tmps[28]? = some (m18_) := by rw [ha]; exact putSel_on (e := (18, 28, m18_)) 5 rfl rfl (hon 18 (by kernel_rfl)) rfl
     rw [Q_X18_ (hon 18 (by kernel_rfl))] at e28
     replace ha := Aside0.mk ha
     have HB := Aside0.mk Q_HB
     have B3 := Aside0.mk Q_B3
     have R5 := Aside0.mk (Q_R5 (hon 5 (by kernel_rfl)))
     have R9 := Aside0.mk (Q_R9 (hon 9 (by kernel_rfl)))
     have R13 := Aside0.mk (Q_R13 (hon 13 (by kernel_rfl)))
     have R17 := Aside0.mk (Q_R17 (hon 17 (by kernel_rfl)))
     have N5_9 := Aside0.mk (Q_N5_9 (hon 5 (by kernel_rfl)) (hon 9 (by kernel_rfl)))
     have N5_13 := Aside0.mk (Q_N5_13 (hon 5 (by kernel_rfl)) (hon 13 (by kernel_rfl)))
     have N5_17 := Aside0.mk (Q_N5_17 (hon 5 (by kernel_rfl)) (hon 17 (by kernel_rfl)))
     have N9_13 := Aside0.mk (Q_N9_13 (hon 9 (by kernel_rfl)) (hon 13 (by kernel_rfl)))
     have N9_17 := Aside0.mk (Q_N9_17 (hon 9 (by kernel_rfl)) (hon 17 (by kernel_rfl)))
     have N13_17 := Aside0.mk (Q_N13_17 (hon 13 (by kernel_rfl)) (hon 17 (by kernel_rfl)))
     refine value_ (w1 := w'.alloc (.cells #[.slice A0 L.length c0, .slice A1 W.length c1, .int .i64 D, .slice A5_ (L.length + 1) c5_, .slice A9_ (L.length + 1) c9_, .slice A13_ (L.length + 1) c13_, .slice A17_ (L.length + 2) c17_] 57 (0, 0))) (v := .pointer (some ⟨w'.heap.size, 0, none⟩)) (by rfl) rfl ?_ ?_
     · go_simp
       try rfl
     have hb1 := below_alloc (Below.refl w'.heap.size w') (Obj.cells #[.slice A0 L.length c0, .slice A1 W.length c1, .int .i64 D, .slice A5_ (L.length + 1) c5_, .slice A9_ (L.length + 1) c9_, .slice A13_ (L.length + 1) c13_, .slice A17_ (L.length + 2) c17_] 57 (0, 0))
     refine hK.out _ _ ⟨A5_, c5_, A9_, c9_, A13_, c13_, A17_, c17_, w'.heap.size, m5_, m9_, m13_, m17_, m18_, (.pointer (some ⟨w'.heap.size, 0, none⟩)), m20_, (by rw [ha.out]; exact putSel_upk 6 hb_ rfl rfl rfl), below_step HB.out hb1, blk_below B3.out hb1, fun _ => Kd.R_below R5.out hb1, fun _ => Kd.R_below R9.out hb1, fun _ => Kd.R_below R13.out hb1, fun _ => Kd.R_below R17.out hb1, Q_N5_9, Q_N5_13, Q_N5_17, Q_N9_13, Q_N9_17, Q_N13_17, fun _ => ⟨blk_new w' _, HB.out.size⟩, Q_X5_, Q_X9_, Q_X13_, Q_X17_, Q_X18_, fun _ => rfl, fun h0_ => absurd ((hoff 20 (by kernel_rfl)).symm.trans h0_) (by decide)⟩
   refine steps_cons ?_ ?_
   · rintro b a w' ⟨A5_, c5_, A9_, c9_, A13_, c13_, A17_, c17_, gm, m5_, m9_, m13_, m17_, m18_, m19_, m20_, ha, Q_HB, Q_B3, Q_R5, Q_R9, Q_R13, Q_R17, Q_N5_9, Q_N5_13, Q_N5_17, Q_N9_13, Q_N9_17, Q_N13_17, Q_BM, Q_X5_, Q_X9_, Q_X13_, Q_X17_, Q_X18_, Q_X19_, Q_X20_⟩ hb_ hon hoff
     refine ⟨_, rfl, fun K hK => ?_⟩
     have e29 : a.tmps[29]? = some (m19_) := by rw [ha]; exact putSel_on (e := (19, 29, m19_)) 6 rfl rfl (hon 19 (by kernel_rfl)) rfl
     rw [Q_X19_ (hon 19 (by kernel_rfl))] at e29
     replace ha := Aside0.mk ha
     have HB := Aside0.mk Q_HB
     have B3 := Aside0.mk Q_B3
     have R5 := Aside0.mk (Q_R5 (hon 5 (by kernel_rfl)))
     have R9 := Aside0.mk (Q_R9 (hon 9 (by kernel_rfl)))
     have R13 := Aside0.mk (Q_R13 (hon 13 (by kernel_rfl)))
     have R17 := Aside0.mk (Q_R17 (hon 17 (by kernel_rfl)))
     have N5_9 := Aside0.mk (Q_N5_9 (hon 5 (by kernel_rfl)) (hon 9 (by kernel_rfl)))
     have N5_13 := Aside0.mk (Q_N5_13 (hon 5 (by kernel_rfl)) (hon 13 (by kernel_rfl)))
     have N5_17 := Aside0.mk (Q_N5_17 (hon 5 (by kernel_rfl)) (hon 17 (by kernel_rfl)))
     have N9_13 := Aside0.mk (Q_N9_13 (hon 9 (by kernel_rfl)) (hon 13 (by kernel_rfl)))
     have N9_17 := Aside0.mk (Q_N9_17 (hon 9 (by kernel_rfl)) (hon 17 (by kernel_rfl)))
     have N13_17 := Aside0.mk (Q_N13_17 (hon 13 (by kernel_rfl)) (hon 17 (by kernel_rfl)))
     have BM := Aside0.mk (Q_BM (hon 19 (by kernel_rfl)))
     refine value_ (w1 := w') (v := .pointer (some ⟨gm, 0, none⟩)) (by rfl) rfl ?_ ?_
     · go_simp
       (try simp only [i64_w])
       try rfl
     refine hK.out _ _ ⟨A5_, c5_, A9_, c9_, A13_, c13_, A17_, c17_, gm, m5_, m9_, m13_, m17_, m18_, m19_, (.pointer (some ⟨gm, 0, none⟩)), (by rw [ha.out]; exact putSel_upk 7 hb_ rfl rfl rfl), Q_HB, Q_B3, Q_R5, Q_R9, Q_R13, Q_R17, Q_N5_9, Q_N5_13, Q_N5_17, Q_N9_13, Q_N9_17, Q_N13_17, Q_BM, Q_X5_, Q_X9_, Q_X13_, Q_X17_, Q_X18_, Q_X19_, fun _ => rfl⟩
   exact steps_nil
 · rintro b a w' hall ⟨A5_, c5_, A9_, c9_, A13_, c13_, A17_, c17_, gm, m5_, m9_, m13_, m17_, m18_, m19_, m20_, ha, Q_HB, Q_B3, Q_R5, Q_R9, Q_R13, Q_R17, Q_N5_9, Q_N5_13, Q_N5_17, Q_N9_13, Q_N9_17, Q_N13_17, Q_BM, Q_X5_, Q_X9_, Q_X13_, Q_X17_, Q_X18_, Q_X19_, Q_X20_⟩
   clear B3 HB
   have hb1_ := hall 1 (by kernel_rfl)
   have hb5_ := hall 5 (by kernel_rfl)
   have hb9_ := hall 9 (by kernel_rfl)
   have hb13_ := hall 13 (by kernel_rfl)
   have hb17_ := hall 17 (by kernel_rfl)
   have hb18_ := hall 18 (by kernel_rfl)
   have hb19_ := hall 19 (by kernel_rfl)
   have hb20_ := hall 20 (by kernel_rfl)
   subst ha
   obtain rfl := Q_X5_ hb5_
   obtain rfl := Q_X9_ hb9_
   obtain rfl := Q_X13_ hb13_
   obtain rfl := Q_X17_ hb17_
   obtain rfl := Q_X18_ hb18_
   obtain rfl := Q_X19_ hb19_
   obtain rfl := Q_X20_ hb20_
   simp only [putSel, hb1_, hb5_, hb9_, hb13_, hb17_, hb18_, hb19_, hb20_, if_true, Act.put, List.setIfInBounds_toArray, List.set_cons_zero, List.set_cons_succ]
   have HB := Aside0.mk Q_HB
   clear Q_HB
   have B3 := Aside0.mk Q_B3
   clear Q_B3
   have R5 := Aside0.mk (Q_R5 hb5_)
   clear Q_R5
   have R9 := Aside0.mk (Q_R9 hb9_)
   clear Q_R9
   have R13 := Aside0.mk (Q_R13 hb13_)
   clear Q_R13
   have R17 := Aside0.mk (Q_R17 hb17_)
   clear Q_R17
   have N5_9 := Aside0.mk (Q_N5_9 hb5_ hb9_)
   clear Q_N5_9
   have N5_13 := Aside0.mk (Q_N5_13 hb5_ hb13_)
   clear Q_N5_13
   have N5_17 := Aside0.mk (Q_N5_17 hb5_ hb17_)
   clear Q_N5_17
   have N9_13 := Aside0.mk (Q_N9_13 hb9_ hb13_)
   clear Q_N9_13
   have N9_17 := Aside0.mk (Q_N9_17 hb9_ hb17_)
   clear Q_N9_17
   have N13_17 := Aside0.mk (Q_N13_17 hb13_ hb17_)
   clear Q_N13_17
   have BM := Aside0.mk (Q_BM hb19_)
   clear Q_BM
   clear hall hb1_ hb5_ hb9_ hb13_ hb17_ hb18_ hb19_ hb20_
   obtain ⟨b5, cc5, e5, hb5, -⟩ := Kd.R_form R5.out (by simp)
   injection e5 with ea5 eb5 ec5
   subst ea5
   clear eb5 ec5
   obtain ⟨b9, cc9, e9, hb9, -⟩ := Kd.R_form R9.out (by simp)
   injection e9 with ea9 eb9 ec9
   subst ea9
   clear eb9 ec9
   obtain ⟨b13, cc13, e13, hb13, -⟩ := Kd.R_form R13.out (by simp)
   injection e13 with ea13 eb13 ec13
   subst ea13
   clear eb13 ec13
   obtain ⟨b17, cc17, e17, hb17, -⟩ := Kd.R_form R17.out (by simp)
   injection e17 with ea17 eb17 ec17
   subst ea17
   clear eb17 ec17
   have hgb := BM.out
   have gn5 : gm ≠ b5 := fun e => by have h1 := Kd.R_ne R5.out hgb.1 (by decide); rw [e] at h1; exact h1 (by simp [Value.ownBlock])
   have gn9 : gm ≠ b9 := fun e => by have h1 := Kd.R_ne R9.out hgb.1 (by decide); rw [e] at h1; exact h1 (by simp [Value.ownBlock])
   have gn13 : gm ≠ b13 := fun e => by have h1 := Kd.R_ne R13.out hgb.1 (by decide); rw [e] at h1; exact h1 (by simp [Value.ownBlock])
   have gn17 : gm ≠ b17 := fun e => by have h1 := Kd.R_ne R17.out hgb.1 (by decide); rw [e] at h1; exact h1 (by simp [Value.ownBlock])
   have n59 : b5 ≠ b9 := fun e => N5_9.out (by simp [Value.ownBlock, e])
   have n513 : b5 ≠ b13 := fun e => N5_13.out (by simp [Value.ownBlock, e])
   have n517 : b5 ≠ b17 := fun e => N5_17.out (by simp [Value.ownBlock, e])
   have n913 : b9 ≠ b13 := fun e => N9_13.out (by simp [Value.ownBlock, e])
   have n917 : b9 ≠ b17 := fun e => N9_17.out (by simp [Value.ownBlock, e])
   have n1317 : b13 ≠ b17 := fun e => N13_17.out (by simp [Value.ownBlock, e])
   have ownR : ∀ (b c : Nat) (xs : List Int) (ok : Nat → Prop), ok b → kI.R 3 w' w.heap.size (fun _ => True) (.slice (some ⟨b, 0, none⟩) xs.length c) xs → kI.R 3 w' w.heap.size ok (.slice (some ⟨b, 0, none⟩) xs.length c) xs := fun b c xs ok hb h => Kd.R_of_own (Kd.own_of_R h) (fun k hk => by simp [Value.ownBlock] at hk; rw [← hk]; exact hb)
   have hpm : PM w.heap.size w' gm (.slice A0 L.length c0) (.slice A1 W.length c1) D b5 c5_ b9 c9_ b13 c13_ b17 c17_ (fillT hW1 L 0) (fillT (·.f2) L 0) (fillT (·.f3) L 0) (List.replicate (L.length + 2) 0) := by
    rw [← fillT_zero hW1 L, ← fillT_zero (·.f2) L, ← fillT_zero (·.f3) L]
    refine ⟨by simp only [List.length_replicate]; exact hgb.1, hgb.2, ⟨hb5, hb9, hb13, hb17⟩, ⟨gn5, gn9, gn13, gn17⟩, ?_, ?_, ?_, ?_⟩
    · exact ownR b5 c5_ (List.replicate (L.length + 1) 0) _ ⟨n59, n513, n517⟩ (by rw [List.length_replicate]; exact R5.out)
    · exact ownR b9 c9_ (List.replicate (L.length + 1) 0) _ ⟨n59.symm, n913, n917⟩ (by rw [List.length_replicate]; exact R9.out)
    · exact ownR b13 c13_ (List.replicate (L.length + 1) 0) _ ⟨n513.symm, n913.symm, n1317⟩ (by rw [List.length_replicate]; exact R13.out)
    · exact ownR b17 c17_ (List.replicate (L.length + 2) 0) _ ⟨n517.symm, n917.symm, n1317.symm⟩ (by rw [List.length_replicate]; exact R17.out)
   have HP := Aside0.mk hpm
   clear hpm ownR n59 n513 n517 n913 n917 n1317 gn5 gn9 gn13 gn17 hgb hb5 hb9 hb13 hb17 N5_9 N5_13 N5_17 N9_13 N9_17 N13_17 R5 R9 R13 R17 BM B3
   clear Q_X5_ Q_X9_ Q_X13_ Q_X17_ Q_X18_ Q_X19_ Q_X20_
   go_wp2
   go_loopw [32] (fun v32 w2 => ∃ i : Int, v32 = .int .i64 i ∧ 0 ≤ i ∧ i ≤ (L.length : Int) ∧ Aside0 (PM w.heap.size w2 gm (.slice A0 L.length c0) (.slice A1 W.length c1) D b5 c5_ b9 c9_ b13 c13_ b17 c17_ (fillT hW1 L i) (fillT (·.f2) L i) (fillT (·.f3) L i) (List.replicate (L.length + 2) 0)) ∧ Aside0 (Below w.heap.size w w2)) (fun v32 _ => L.length - (intOf v32).toNat)
   case atStart => exact ⟨0, rfl, by omega, by omega, HP, HB⟩
   case round =>
    clear HP HB
    obtain ⟨i, rfl, hi0, hi1, HP, HB⟩ := hrel
    by_cases hlt : i < (L.length : Int)
    · have him : wrap64 (i + 1) = i + 1 := w64 (by omega) (by omega)
      have him2 := (i64_w (i + 1)).trans him
      obtain ⟨ad, ea, hx0, hx1, hx2, hx3, hx4, hx5⟩ := at_T49 HL.out i hi0 hlt
      subst ea
      replace hx0 := (HB.out.cell (World.block_lt_of_cell? _ _ hx0)).trans hx0
      replace hx1 := (HB.out.cell (World.block_lt_of_cell? _ _ hx1)).trans hx1
      replace hx2 := (HB.out.cell (World.block_lt_of_cell? _ _ hx2)).trans hx2
      replace hx3 := (HB.out.cell (World.block_lt_of_cell? _ _ hx3)).trans hx3
      replace hx4 := (HB.out.cell (World.block_lt_of_cell? _ _ hx4)).trans hx4
      replace hx5 := (HB.out.cell (World.block_lt_of_cell? _ _ hx5)).trans hx5
      have hbd := HP3.out i hi0 hlt
      obtain ⟨p, hp⟩ : ∃ p, rd_T49 L i = p := ⟨_, rfl⟩
      have HPT : Aside0 (pt L i = p) := ⟨hp⟩
      rw [hp] at hx0 hx1 hx2 hx3 hx4 hx5
      rw [show pt L i = p from hp] at hbd
      clear hp
      obtain ⟨WI, hWI⟩ : ∃ x, fillT hW1 L i = x := ⟨_, rfl⟩
      obtain ⟨GR, hGR⟩ : ∃ x, fillT (·.f2) L i = x := ⟨_, rfl⟩
      obtain ⟨YI, hYI⟩ : ∃ x, fillT (·.f3) L i = x := ⟨_, rfl⟩
      have lWI : WI.length = L.length + 1 := by rw [← hWI]; exact fillT_length _ _ _
      have lGR : GR.length = L.length + 1 := by rw [← hGR]; exact fillT_length _ _ _
      have lYI : YI.length = L.length + 1 := by rw [← hYI]; exact fillT_length _ _ _
      rw [hWI, hGR, hYI] at HP
      have aWI : rd WI i = sumU hW1 L i.toNat := by rw [← hWI]; exact fillT_at _ _ _ hi0 (by omega)
      have aGR : rd GR i = sumU (·.f2) L i.toNat := by rw [← hGR]; exact fillT_at _ _ _ hi0 (by omega)
      have aYI : rd YI i = sumU (·.f3) L i.toNat := by rw [← hYI]; exact fillT_at _ _ _ hi0 (by omega)
      have sW := sumU_bd hW1 L (fun j j0 j1 => by have := HP3.out j j0 j1; unfold hW1; split <;> omega) i.toNat (by omega)
      have sG := sumU_bd (·.f2) L (fun j j0 j1 => by have := HP3.out j j0 j1; exact ⟨by omega, by omega⟩) i.toNat (by omega)
      have sY := sumU_bd (·.f3) L (fun j j0 j1 => by have := HP3.out j j0 j1; exact ⟨by omega, by omega⟩) i.toNat (by omega)
      obtain ⟨a, ha⟩ : ∃ a, rd WI i = a := ⟨_, rfl⟩
      obtain ⟨b, hb⟩ : ∃ a, rd GR i = a := ⟨_, rfl⟩
      obtain ⟨c, hc⟩ : ∃ a, rd YI i = a := ⟨_, rfl⟩
      have eW : Aside0 (a = sumU hW1 L i.toNat) := ⟨ha.symm.trans aWI⟩
      have eG : Aside0 (b = sumU (·.f2) L i.toNat) := ⟨hb.symm.trans aGR⟩
      have eY : Aside0 (c = sumU (·.f3) L i.toNat) := ⟨hc.symm.trans aYI⟩
      rw [← eW.out] at sW
      rw [← eG.out] at sG
      rw [← eY.out] at sY
      have k5 : wrap64 (b + p.f2) = b + p.f2 := w64 (by omega) (by omega)
      have k6 : wrap64 (c + p.f3) = c + p.f3 := w64 (by omega) (by omega)
      have k7 : wrap64 (a + p.f1) = a + p.f1 := w64 (by omega) (by omega)
      have y5 := (i64_w (b + p.f2)).trans k5
      have y6 := (i64_w (c + p.f3)).trans k6
      have y7 := (i64_w (a + p.f1)).trans k7
      have l5 : i < (WI.length : Int) := by omega
      have l9 : i < (GR.length : Int) := by omega
      have l13 : i < (YI.length : Int) := by omega
      have m5 : i + 1 < (WI.length : Int) := by omega
      have m9 : i + 1 < (GR.length : Int) := by omega
      have m13 : i + 1 < (YI.length : Int) := by omega
      have hi2 : 0 ≤ i + 1 := by omega
      have EW := Aside0.mk hWI
      have EG := Aside0.mk hGR
      have EY := Aside0.mk hYI
      have ha := Aside0.mk ha
      have hb := Aside0.mk hb
      have hc := Aside0.mk hc
      clear hWI hGR hYI lWI lGR lYI aWI aGR aYI sW sG sY
      go_upto_region 5 with (first
       | ((with_reducible refine gate_dst (N := 7) rfl ?_); refine box_event ?hg (N := 7) ?hd (cs := #[.int .i64 0, .int .i64 0, .int .i64 0, .int .i64 0, .int .i64 0, .bool false]) (t := 49) ?hr ?_; (case hd => rfl); (case hg => rfl); (case hr => first | (go_simp; done) | (go_simp; rfl)); intro g7 hg w11 hbox hb11; (have hpp := PM.below HP.out hb11); (have hge : w.heap.size ≤ g7 := by rw [hg]; exact HB.out.size); (have hbb := below_step HB.out hb11); clear HB HP; (have HB := Aside0.mk hbb); (have HP := Aside0.mk hpp); (have H7 := Aside0.mk hbox); (have G7 := Aside0.mk hge); clear hg hbox hb11 hbb hge hpp)
       | ((with_reducible refine gate_store (t := 49) (p := 7) rfl ?_); refine agg_event (w0 := w) rfl rfl 49 (.tmp 7) (.tmp 36) rfl (g := g7) (e := 49) (.agg #[.int .i64 p.f0, .int .i64 p.f1, .int .i64 p.f2, .int .i64 p.f3, .int .i64 p.f4, .bool p.f5]) [.int .i64 p.f0, .int .i64 p.f1, .int .i64 p.f2, .int .i64 p.f3, .int .i64 p.f4, .bool p.f5] rfl rfl rfl (by kernel_rfl) H7.out rfl (by simp only [List.mem_cons, List.not_mem_nil, or_false, forall_eq_or_imp, forall_eq]; exact ⟨rfl, rfl, rfl, rfl, rfl, rfl⟩) HB.out G7.out ?_; intro w12 hbox hb12 hgr; (have hpp := PM.grown HP.out hgr H7.out); clear HB H7 HP; (have HB := Aside0.mk hb12); (have H7 := Aside0.mk hbox); (have HP := Aside0.mk hpp); clear hbox hb12 hgr hpp))
      clear hx0 hx1 hx2 hx3 hx4 hx5
      have typ : ∀ (q cq : Nat) (xs : List Int) (ok : Nat → Prop), kI.R 3 w12 w.heap.size ok (.slice (some ⟨q, 0, none⟩) xs.length cq) xs → 0 < xs.length → g7 ≠ q := fun q cq xs ok h hl e => by have h1 := Kd.R_ne h H7.out (by decide); rw [e] at h1; exact h1 (by simp [Value.ownBlock, hl])
      have n75 : g7 ≠ b5 := typ _ _ _ _ HP.out.2.2.2.2.1 (by omega)
      have n79 : g7 ≠ b9 := typ _ _ _ _ HP.out.2.2.2.2.2.1 (by omega)
      have n713 : g7 ≠ b13 := typ _ _ _ _ HP.out.2.2.2.2.2.2.1 (by omega)
      have HP1 := Aside0.mk (PM.below HP.out (below_drew1 (Below.refl w12.heap.size w12)))
      have HB1 := Aside0.mk (below_drew1 HB.out)
      have H71 := Aside0.mk (blk_below H7.out (below_drew1 (Below.refl w12.heap.size w12)))
      clear typ HP HB H7
      have HP := HP1
      have HB := HB1
      have H7 := H71
      clear HP1 HB1 H71
      refine start_ (n := 51) (S := fun w' => w'.cell? ⟨gm, 3, none⟩ = some (.slice (some ⟨b5, 0, none⟩) WI.length c5_) ∧ w'.cell? ⟨gm, 4, none⟩ = some (.slice (some ⟨b9, 0, none⟩) GR.length c9_) ∧ w'.cell? ⟨gm, 5, none⟩ = some (.slice (some ⟨b13, 0, none⟩) YI.length c13_) ∧ w'.cell? ⟨b5, i.toNat, none⟩ = some (.int .i64 a) ∧ w'.cell? ⟨b9, i.toNat, none⟩ = some (.int .i64 b) ∧ w'.cell? ⟨b13, i.toNat, none⟩ = some (.int .i64 c) ∧ w'.cell? ⟨g7, 2, none⟩ = some (.int .i64 p.f2) ∧ w'.cell? ⟨g7, 3, none⟩ = some (.int .i64 p.f3)) (ds := []) #[false, false, false, false, false, false, false, false, false, false, false, false, false, false, false, false, false, false, false, false, false, false, false, false, false, false, false, false, false, false, false, false, false, false, false, false, false, false, false, false, false, false, false, false, false, false, false, false, false, false, false] (by kernel_rfl) rfl rfl ⟨(by have h := (PM.cells HP.out).1; first | exact h | rwa [List.length_set] at h), (by have h := (PM.cells HP.out).2.1; first | exact h | rwa [List.length_set] at h), (by have h := (PM.cells HP.out).2.2.1; first | exact h | rwa [List.length_set] at h), (by have h := (PM.at5 HP.out i hi0 (by first | exact l5 | (rw [List.length_set]; exact l5))).1; first | (rw [ha.out] at h; exact h) | (rw [Lib.rd_set (by omega) (by omega) hi0, if_neg (by omega), ha.out] at h; exact h)), (by have h := (PM.at9 HP.out i hi0 (by first | exact l9 | (rw [List.length_set]; exact l9))).1; first | (rw [hb.out] at h; exact h) | (rw [Lib.rd_set (by omega) (by omega) hi0, if_neg (by omega), hb.out] at h; exact h)), (by have h := (PM.at13 HP.out i hi0 (by first | exact l13 | (rw [List.length_set]; exact l13))).1; first | (rw [hc.out] at h; exact h) | (rw [Lib.rd_set (by omega) (by omega) hi0, if_neg (by omega), hc.out] at h; exact h)), (blk_cell H7.out 2).trans rfl, (blk_cell H7.out 3).trans rfl⟩ (fun hHeld => ?_)
      generalize w12.drew = wd5 at HP HB H7 hHeld ⊢
      refine pure_ (i := 0) (N := some 37) (v := ?_) (a' := ?_) #[true, false, false, false, false, false, false, false, false, false, false, false, false, false, false, false, false, false, false, false, false, false, false, false, false, false, false, false, false, false, false, false, false, false, false, false, false, false, false, false, false, false, false, false, false, false, false, false, false, false, false] rfl rfl (by kernel_rfl) (fun _ _ _ h => h) (Or.inl ⟨by rfl, ?_⟩) ?_ ?_
      rotate_left
      · intro w'
        go_simp
        with_reducible rfl
      rotate_left
      · simp only [Act.put, List.setIfInBounds_toArray, List.set_cons_zero, List.set_cons_succ, i64_w, i32_w]
        rfl
      refine pure_ (i := 1) (N := some 38) (v := ?_) (a' := ?_) #[true, true, false, false, false, false, false, false, false, false, false, false, false, false, false, false, false, false, false, false, false, false, false, false, false, false, false, false, false, false, false, false, false, false, false, false, false, false, false, false, false, false, false, false, false, false, false, false, false, false, false] rfl rfl (by kernel_rfl) (fun _ _ _ h => h) (Or.inl ⟨by rfl, ?_⟩) ?_ ?_
      rotate_left
      · intro w'
        go_simp
        with_reducible rfl
      rotate_left
      · simp only [Act.put, List.setIfInBounds_toArray, List.set_cons_zero, List.set_cons_succ, i64_w, i32_w]
        rfl
      refine pure_ (i := 2) (N := some 39) (v := ?_) (a' := ?_) #[true, true, true, false, false, false, false, false, false, false, false, false, false, false, false, false, false, false, false, false, false, false, false, false, false, false, false, false, false, false, false, false, false, false, false, false, false, false, false, false, false, false, false, false, false, false, false, false, false, false, false] rfl rfl (by kernel_rfl) (fun _ _ _ h => h) (Or.inl ⟨by rfl, ?_⟩) ?_ ?_
      rotate_left
      · intro w'
        go_simp
        with_reducible rfl
      rotate_left
      · simp only [Act.put, List.setIfInBounds_toArray, List.set_cons_zero, List.set_cons_succ, i64_w, i32_w]
        rfl
      refine pure_ (i := 4) (N := some 41) (v := ?_) (a' := ?_) #[true, true, true, false, true, false, false, false, false, false, false, false, false, false, false, false, false, false, false, false, false, false, false, false, false, false, false, false, false, false, false, false, false, false, false, false, false, false, false, false, false, false, false, false, false, false, false, false, false, false, false] rfl rfl (by kernel_rfl) (fun _ _ _ h => h) (Or.inl ⟨by rfl, ?_⟩) ?_ ?_
      rotate_left
      · intro w'
        go_simp
        with_reducible rfl
      rotate_left
      · simp only [Act.put, List.setIfInBounds_toArray, List.set_cons_zero, List.set_cons_succ, i64_w, i32_w]
        rfl
      refine pure_ (i := 5) (N := some 42) (v := ?_) (a' := ?_) #[true, true, true, false, true, true, false, false, false, false, false, false, false, false, false, false, false, false, false, false, false, false, false, false, false, false, false, false, false, false, false, false, false, false, false, false, false, false, false, false, false, false, false, false, false, false, false, false, false, false, false] rfl rfl (by kernel_rfl) (fun _ _ _ h => h) (Or.inl ⟨by rfl, ?_⟩) ?_ ?_
      rotate_left
      · intro w'
        go_simp
        with_reducible rfl
      rotate_left
      · simp only [Act.put, List.setIfInBounds_toArray, List.set_cons_zero, List.set_cons_succ, i64_w, i32_w]
        rfl
      refine pure_ (i := 6) (N := some 43) (v := ?_) (a' := ?_) #[true, true, true, false, true, true, true, false, false, false, false, false, false, false, false, false, false, false, false, false, false, false, false, false, false, false, false, false, false, false, false, false, false, false, false, false, false, false, false, false, false, false, false, false, false, false, false, false, false, false, false] rfl rfl (by kernel_rfl) (fun _ _ _ h => h) (Or.inl ⟨by rfl, ?_⟩) ?_ ?_
      rotate_left
      · intro w'
        go_simp
        with_reducible rfl
      rotate_left
      · simp only [Act.put, List.setIfInBounds_toArray, List.set_cons_zero, List.set_cons_succ, i64_w, i32_w]
        rfl
      refine pure_ (i := 7) (N := some 44) (v := ?_) (a' := ?_) #[true, true, true, false, true, true, true, true, false, false, false, false, false, false, false, false, false, false, false, false, false, false, false, false, false, false, false, false, false, false, false, false, false, false, false, false, false, false, false, false, false, false, false, false, false, false, false, false, false, false, false] rfl rfl (by kernel_rfl) (fun _ _ _ h => h) (Or.inl ⟨by rfl, ?_⟩) ?_ ?_
      rotate_left
      · intro w'
        go_simp
        with_reducible rfl
      rotate_left
      · simp only [Act.put, List.setIfInBounds_toArray, List.set_cons_zero, List.set_cons_succ, i64_w, i32_w]
        rfl
      refine pure_ (i := 8) (N := some 45) (v := ?_) (a' := ?_) #[true, true, true, false, true, true, true, true, true, false, false, false, false, false, false, false, false, false, false, false, false, false, false, false, false, false, false, false, false, false, false, false, false, false, false, false, false, false, false, false, false, false, false, false, false, false, false, false, false, false, false] rfl rfl (by kernel_rfl) (fun _ _ _ h => h) (Or.inl ⟨by rfl, ?_⟩) ?_ ?_
      rotate_left
      · intro w'
        go_simp
        with_reducible rfl
      rotate_left
      · simp only [Act.put, List.setIfInBounds_toArray, List.set_cons_zero, List.set_cons_succ, i64_w, i32_w]
        rfl
      refine pure_ (i := 10) (N := some 47) (v := ?_) (a' := ?_) #[true, true, true, false, true, true, true, true, true, false, true, false, false, false, false, false, false, false, false, false, false, false, false, false, false, false, false, false, false, false, false, false, false, false, false, false, false, false, false, false, false, false, false, false, false, false, false, false, false, false, false] rfl rfl (by kernel_rfl) (fun _ _ _ h => h) (Or.inl ⟨by rfl, ?_⟩) ?_ ?_
      rotate_left
      · intro w'
        go_simp
        with_reducible rfl
      rotate_left
      · simp only [Act.put, List.setIfInBounds_toArray, List.set_cons_zero, List.set_cons_succ, i64_w, i32_w]
        rfl
      refine pure_ (i := 11) (N := some 48) (v := ?_) (a' := ?_) #[true, true, true, false, true, true, true, true, true, false, true, true, false, false, false, false, false, false, false, false, false, false, false, false, false, false, false, false, false, false, false, false, false, false, false, false, false, false, false, false, false, false, false, false, false, false, false, false, false, false, false] rfl rfl (by kernel_rfl) (fun _ _ _ h => h) (Or.inl ⟨by rfl, ?_⟩) ?_ ?_
      rotate_left
      · intro w'
        go_simp
        with_reducible rfl
      rotate_left
      · simp only [Act.put, List.setIfInBounds_toArray, List.set_cons_zero, List.set_cons_succ, i64_w, i32_w]
        rfl
      refine pure_ (i := 12) (N := some 49) (v := ?_) (a' := ?_) #[true, true, true, false, true, true, true, true, true, false, true, true, true, false, false, false, false, false, false, false, false, false, false, false, false, false, false, false, false, false, false, false, false, false, false, false, false, false, false, false, false, false, false, false, false, false, false, false, false, false, false] rfl rfl (by kernel_rfl) (fun _ _ _ h => h) (Or.inl ⟨by rfl, ?_⟩) ?_ ?_
      rotate_left
      · intro w'
        go_simp
        with_reducible rfl
      rotate_left
      · simp only [Act.put, List.setIfInBounds_toArray, List.set_cons_zero, List.set_cons_succ, i64_w, i32_w]
        rfl
      refine pure_ (i := 13) (N := some 50) (v := ?_) (a' := ?_) #[true, true, true, false, true, true, true, true, true, false, true, true, true, true, false, false, false, false, false, false, false, false, false, false, false, false, false, false, false, false, false, false, false, false, false, false, false, false, false, false, false, false, false, false, false, false, false, false, false, false, false] rfl rfl (by kernel_rfl) (fun _ _ _ h => h) (Or.inl ⟨by rfl, ?_⟩) ?_ ?_
      rotate_left
      · intro w'
        go_simp
        with_reducible rfl
      rotate_left
      · simp only [Act.put, List.setIfInBounds_toArray, List.set_cons_zero, List.set_cons_succ, i64_w, i32_w]
        rfl
      refine pure_ (i := 14) (N := some 51) (v := ?_) (a' := ?_) #[true, true, true, false, true, true, true, true, true, false, true, true, true, true, true, false, false, false, false, false, false, false, false, false, false, false, false, false, false, false, false, false, false, false, false, false, false, false, false, false, false, false, false, false, false, false, false, false, false, false, false] rfl rfl (by kernel_rfl) (fun _ _ _ h => h) (Or.inl ⟨by rfl, ?_⟩) ?_ ?_
      rotate_left
      · intro w'
        go_simp
        with_reducible rfl
      rotate_left
      · simp only [Act.put, List.setIfInBounds_toArray, List.set_cons_zero, List.set_cons_succ, i64_w, i32_w]
        rfl
      refine pure_ (i := 16) (N := some 53) (v := ?_) (a' := ?_) #[true, true, true, false, true, true, true, true, true, false, true, true, true, true, true, false, true, false, false, false, false, false, false, false, false, false, false, false, false, false, false, false, false, false, false, false, false, false, false, false, false, false, false, false, false, false, false, false, false, false, false] rfl rfl (by kernel_rfl) (fun _ _ _ h => h) (Or.inl ⟨by rfl, ?_⟩) ?_ ?_
      rotate_left
      · intro w'
        go_simp
        with_reducible rfl
      rotate_left
      · simp only [Act.put, List.setIfInBounds_toArray, List.set_cons_zero, List.set_cons_succ, i64_w, i32_w]
        rfl
      refine pure_ (i := 17) (N := some 54) (v := ?_) (a' := ?_) #[true, true, true, false, true, true, true, true, true, false, true, true, true, true, true, false, true, true, false, false, false, false, false, false, false, false, false, false, false, false, false, false, false, false, false, false, false, false, false, false, false, false, false, false, false, false, false, false, false, false, false] rfl rfl (by kernel_rfl) (fun _ _ _ h => h) (Or.inl ⟨by rfl, ?_⟩) ?_ ?_
      rotate_left
      · intro w'
        go_simp
        with_reducible rfl
      rotate_left
      · simp only [Act.put, List.setIfInBounds_toArray, List.set_cons_zero, List.set_cons_succ, i64_w, i32_w]
        rfl
      refine pure_ (i := 18) (N := some 55) (v := ?_) (a' := ?_) #[true, true, true, false, true, true, true, true, true, false, true, true, true, true, true, false, true, true, true, false, false, false, false, false, false, false, false, false, false, false, false, false, false, false, false, false, false, false, false, false, false, false, false, false, false, false, false, false, false, false, false] rfl rfl (by kernel_rfl) (fun _ _ _ h => h) (Or.inl ⟨by rfl, ?_⟩) ?_ ?_
      rotate_left
      · intro w'
        go_simp
        with_reducible rfl
      rotate_left
      · simp only [Act.put, List.setIfInBounds_toArray, List.set_cons_zero, List.set_cons_succ, i64_w, i32_w]
        rfl
      refine pure_ (i := 19) (N := some 56) (v := ?_) (a' := ?_) #[true, true, true, false, true, true, true, true, true, false, true, true, true, true, true, false, true, true, true, true, false, false, false, false, false, false, false, false, false, false, false, false, false, false, false, false, false, false, false, false, false, false, false, false, false, false, false, false, false, false, false] rfl rfl (by kernel_rfl) (fun _ _ _ h => h) (Or.inl ⟨by rfl, ?_⟩) ?_ ?_
      rotate_left
      · intro w'
        go_simp
        with_reducible rfl
      rotate_left
      · simp only [Act.put, List.setIfInBounds_toArray, List.set_cons_zero, List.set_cons_succ, i64_w, i32_w]
        rfl
      refine pure_ (i := 20) (N := some 57) (v := ?_) (a' := ?_) #[true, true, true, false, true, true, true, true, true, false, true, true, true, true, true, false, true, true, true, true, true, false, false, false, false, false, false, false, false, false, false, false, false, false, false, false, false, false, false, false, false, false, false, false, false, false, false, false, false, false, false] rfl rfl (by kernel_rfl) (fun _ _ _ h => h) (Or.inl ⟨by rfl, ?_⟩) ?_ ?_
      rotate_left
      · intro w'
        go_simp
        with_reducible rfl
      rotate_left
      · simp only [Act.put, List.setIfInBounds_toArray, List.set_cons_zero, List.set_cons_succ, i64_w, i32_w]
        rfl
      refine pure_ (i := 22) (N := some 59) (v := ?_) (a' := ?_) #[true, true, true, false, true, true, true, true, true, false, true, true, true, true, true, false, true, true, true, true, true, false, true, false, false, false, false, false, false, false, false, false, false, false, false, false, false, false, false, false, false, false, false, false, false, false, false, false, false, false, false] rfl rfl (by kernel_rfl) (fun _ _ _ h => h) (Or.inl ⟨by rfl, ?_⟩) ?_ ?_
      rotate_left
      · intro w'
        go_simp
        with_reducible rfl
      rotate_left
      · simp only [Act.put, List.setIfInBounds_toArray, List.set_cons_zero, List.set_cons_succ, i64_w, i32_w]
        rfl
      refine pure_ (i := 25) (N := some 62) (v := ?_) (a' := ?_) #[true, true, true, false, true, true, true, true, true, false, true, true, true, true, true, false, true, true, true, true, true, false, true, false, false, true, false, false, false, false, false, false, false, false, false, false, false, false, false, false, false, false, false, false, false, false, false, false, false, false, false] rfl rfl (by kernel_rfl) (fun _ _ _ h => h) (Or.inl ⟨by rfl, ?_⟩) ?_ ?_
      rotate_left
      · intro w'
        go_simp
        with_reducible rfl
      rotate_left
      · simp only [Act.put, List.setIfInBounds_toArray, List.set_cons_zero, List.set_cons_succ, i64_w, i32_w]
        rfl
      refine pure_ (i := 26) (N := some 63) (v := ?_) (a' := ?_) #[true, true, true, false, true, true, true, true, true, false, true, true, true, true, true, false, true, true, true, true, true, false, true, false, false, true, true, false, false, false, false, false, false, false, false, false, false, false, false, false, false, false, false, false, false, false, false, false, false, false, false] rfl rfl (by kernel_rfl) (fun _ _ _ h => h) (Or.inl ⟨by rfl, ?_⟩) ?_ ?_
      rotate_left
      · intro w'
        go_simp
        with_reducible rfl
      rotate_left
      · simp only [Act.put, List.setIfInBounds_toArray, List.set_cons_zero, List.set_cons_succ, i64_w, i32_w]
        rfl
      refine pure_ (i := 27) (N := some 64) (v := ?_) (a' := ?_) #[true, true, true, false, true, true, true, true, true, false, true, true, true, true, true, false, true, true, true, true, true, false, true, false, false, true, true, true, false, false, false, false, false, false, false, false, false, false, false, false, false, false, false, false, false, false, false, false, false, false, false] rfl rfl (by kernel_rfl) (fun _ _ _ h => h) (Or.inl ⟨by rfl, ?_⟩) ?_ ?_
      rotate_left
      · intro w'
        go_simp
        with_reducible rfl
      rotate_left
      · simp only [Act.put, List.setIfInBounds_toArray, List.set_cons_zero, List.set_cons_succ, i64_w, i32_w]
        rfl
      refine pure_ (i := 29) (N := some 66) (v := ?_) (a' := ?_) #[true, true, true, false, true, true, true, true, true, false, true, true, true, true, true, false, true, true, true, true, true, false, true, false, false, true, true, true, false, true, false, false, false, false, false, false, false, false, false, false, false, false, false, false, false, false, false, false, false, false, false] rfl rfl (by kernel_rfl) (fun _ _ _ h => h) (Or.inl ⟨by rfl, ?_⟩) ?_ ?_
      rotate_left
      · intro w'
        go_simp
        with_reducible rfl
      rotate_left
      · simp only [Act.put, List.setIfInBounds_toArray, List.set_cons_zero, List.set_cons_succ, i64_w, i32_w]
        rfl
      refine pure_ (i := 32) (N := some 69) (v := ?_) (a' := ?_) #[true, true, true, false, true, true, true, true, true, false, true, true, true, true, true, false, true, true, true, true, true, false, true, false, false, true, true, true, false, true, false, false, true, false, false, false, false, false, false, false, false, false, false, false, false, false, false, false, false, false, false] rfl rfl (by kernel_rfl) (fun _ _ _ h => h) (Or.inl ⟨by rfl, ?_⟩) ?_ ?_
      rotate_left
      · intro w'
        go_simp
        with_reducible rfl
      rotate_left
      · simp only [Act.put, List.setIfInBounds_toArray, List.set_cons_zero, List.set_cons_succ, i64_w, i32_w]
        rfl
      refine pure_ (i := 35) (N := some 72) (v := ?_) (a' := ?_) #[true, true, true, false, true, true, true, true, true, false, true, true, true, true, true, false, true, true, true, true, true, false, true, false, false, true, true, true, false, true, false, false, true, false, false, true, false, false, false, false, false, false, false, false, false, false, false, false, false, false, false] rfl rfl (by kernel_rfl) (fun _ _ _ h => h) (Or.inl ⟨by rfl, ?_⟩) ?_ ?_
      rotate_left
      · intro w'
        go_simp
        with_reducible rfl
      rotate_left
      · simp only [Act.put, List.setIfInBounds_toArray, List.set_cons_zero, List.set_cons_succ, i64_w, i32_w]
        rfl
      refine pure_ (i := 36) (N := some 73) (v := ?_) (a' := ?_) #[true, true, true, false, true, true, true, true, true, false, true, true, true, true, true, false, true, true, true, true, true, false, true, false, false, true, true, true, false, true, false, false, true, false, false, true, true, false, false, false, false, false, false, false, false, false, false, false, false, false, false] rfl rfl (by kernel_rfl) (fun _ _ _ h => h) (Or.inl ⟨by rfl, ?_⟩) ?_ ?_
      rotate_left
      · intro w'
        go_simp
        with_reducible rfl
      rotate_left
      · simp only [Act.put, List.setIfInBounds_toArray, List.set_cons_zero, List.set_cons_succ, i64_w, i32_w]
        rfl
      refine pure_ (i := 37) (N := some 74) (v := ?_) (a' := ?_) #[true, true, true, false, true, true, true, true, true, false, true, true, true, true, true, false, true, true, true, true, true, false, true, false, false, true, true, true, false, true, false, false, true, false, false, true, true, true, false, false, false, false, false, false, false, false, false, false, false, false, false] rfl rfl (by kernel_rfl) (fun _ _ _ h => h) (Or.inl ⟨by rfl, ?_⟩) ?_ ?_
      rotate_left
      · intro w'
        go_simp
        with_reducible rfl
      rotate_left
      · simp only [Act.put, List.setIfInBounds_toArray, List.set_cons_zero, List.set_cons_succ, i64_w, i32_w]
        rfl
      refine pure_ (i := 39) (N := some 76) (v := ?_) (a' := ?_) #[true, true, true, false, true, true, true, true, true, false, true, true, true, true, true, false, true, true, true, true, true, false, true, false, false, true, true, true, false, true, false, false, true, false, false, true, true, true, false, true, false, false, false, false, false, false, false, false, false, false, false] rfl rfl (by kernel_rfl) (fun _ _ _ h => h) (Or.inl ⟨by rfl, ?_⟩) ?_ ?_
      rotate_left
      · intro w'
        go_simp
        with_reducible rfl
      rotate_left
      · simp only [Act.put, List.setIfInBounds_toArray, List.set_cons_zero, List.set_cons_succ, i64_w, i32_w]
        rfl
      refine pure_ (i := 42) (N := some 79) (v := ?_) (a' := ?_) #[true, true, true, false, true, true, true, true, true, false, true, true, true, true, true, false, true, true, true, true, true, false, true, false, false, true, true, true, false, true, false, false, true, false, false, true, true, true, false, true, false, false, true, false, false, false, false, false, false, false, false] rfl rfl (by kernel_rfl) (fun _ _ _ h => h) (Or.inl ⟨by rfl, ?_⟩) ?_ ?_
      rotate_left
      · intro w'
        go_simp
        with_reducible rfl
      rotate_left
      · simp only [Act.put, List.setIfInBounds_toArray, List.set_cons_zero, List.set_cons_succ, i64_w, i32_w]
        rfl
      refine take_ (i := 3) (N := some 40) (v := ?_) (a' := ?_) #[true, true, true, true, true, true, true, true, true, false, true, true, true, true, true, false, true, true, true, true, true, false, true, false, false, true, true, true, false, true, false, false, true, false, false, true, true, true, false, true, false, false, true, false, false, false, false, false, false, false, false] rfl rfl (by kernel_rfl) (fun _ _ _ h => h) (Or.inl ⟨by rfl, ?_⟩) hHeld ?_ ?_
      rotate_left
      · rintro w' ⟨s0, s1, s2, s3, s4, s5, s6, s7⟩
        go_simp
        with_reducible rfl
      rotate_left
      · simp only [Act.put, List.setIfInBounds_toArray, List.set_cons_zero, List.set_cons_succ, i64_w, i32_w]
        rfl
      refine take_ (i := 9) (N := some 46) (v := ?_) (a' := ?_) #[true, true, true, true, true, true, true, true, true, true, true, true, true, true, true, false, true, true, true, true, true, false, true, false, false, true, true, true, false, true, false, false, true, false, false, true, true, true, false, true, false, false, true, false, false, false, false, false, false, false, false] rfl rfl (by kernel_rfl) (fun _ _ _ h => h) (Or.inl ⟨by rfl, ?_⟩) hHeld ?_ ?_
      rotate_left
      · rintro w' ⟨s0, s1, s2, s3, s4, s5, s6, s7⟩
        go_simp
        with_reducible rfl
      rotate_left
      · simp only [Act.put, List.setIfInBounds_toArray, List.set_cons_zero, List.set_cons_succ, i64_w, i32_w]
        rfl
      refine take_ (i := 15) (N := some 52) (v := ?_) (a' := ?_) #[true, true, true, true, true, true, true, true, true, true, true, true, true, true, true, true, true, true, true, true, true, false, true, false, false, true, true, true, false, true, false, false, true, false, false, true, true, true, false, true, false, false, true, false, false, false, false, false, false, false, false] rfl rfl (by kernel_rfl) (fun _ _ _ h => h) (Or.inl ⟨by rfl, ?_⟩) hHeld ?_ ?_
      rotate_left
      · rintro w' ⟨s0, s1, s2, s3, s4, s5, s6, s7⟩
        go_simp
        with_reducible rfl
      rotate_left
      · simp only [Act.put, List.setIfInBounds_toArray, List.set_cons_zero, List.set_cons_succ, i64_w, i32_w]
        rfl
      refine take_ (i := 21) (N := some 58) (v := ?_) (a' := ?_) #[true, true, true, true, true, true, true, true, true, true, true, true, true, true, true, true, true, true, true, true, true, true, true, false, false, true, true, true, false, true, false, false, true, false, false, true, true, true, false, true, false, false, true, false, false, false, false, false, false, false, false] rfl rfl (by kernel_rfl) (fun _ _ _ h => h) (Or.inl ⟨by rfl, ?_⟩) hHeld ?_ ?_
      rotate_left
      · rintro w' ⟨s0, s1, s2, s3, s4, s5, s6, s7⟩
        go_simp
        with_reducible rfl
      rotate_left
      · simp only [Act.put, List.setIfInBounds_toArray, List.set_cons_zero, List.set_cons_succ, i64_w, i32_w]
        rfl
      refine pure_ (i := 23) (N := some 60) (v := ?_) (a' := ?_) #[true, true, true, true, true, true, true, true, true, true, true, true, true, true, true, true, true, true, true, true, true, true, true, true, false, true, true, true, false, true, false, false, true, false, false, true, true, true, false, true, false, false, true, false, false, false, false, false, false, false, false] rfl rfl (by kernel_rfl) (fun _ _ _ h => h) (Or.inl ⟨by rfl, ?_⟩) ?_ ?_
      rotate_left
      · intro w'
        go_simp
        with_reducible rfl
      rotate_left
      · simp only [Act.put, List.setIfInBounds_toArray, List.set_cons_zero, List.set_cons_succ, i64_w, i32_w]
        rfl
      refine take_ (i := 24) (N := some 61) (v := ?_) (a' := ?_) #[true, true, true, true, true, true, true, true, true, true, true, true, true, true, true, true, true, true, true, true, true, true, true, true, true, true, true, true, false, true, false, false, true, false, false, true, true, true, false, true, false, false, true, false, false, false, false, false, false, false, false] rfl rfl (by kernel_rfl) (fun _ _ _ h => h) (Or.inl ⟨by rfl, ?_⟩) hHeld ?_ ?_
      rotate_left
      · rintro w' ⟨s0, s1, s2, s3, s4, s5, s6, s7⟩
        go_simp
        with_reducible rfl
      rotate_left
      · simp only [Act.put, List.setIfInBounds_toArray, List.set_cons_zero, List.set_cons_succ, i64_w, i32_w]
        rfl
      refine take_ (i := 28) (N := some 65) (v := ?_) (a' := ?_) #[true, true, true, true, true, true, true, true, true, true, true, true, true, true, true, true, true, true, true, true, true, true, true, true, true, true, true, true, true, true, false, false, true, false, false, true, true, true, false, true, false, false, true, false, false, false, false, false, false, false, false] rfl rfl (by kernel_rfl) (fun _ _ _ h => h) (Or.inl ⟨by rfl, ?_⟩) hHeld ?_ ?_
      rotate_left
      · rintro w' ⟨s0, s1, s2, s3, s4, s5, s6, s7⟩
        go_simp
        with_reducible rfl
      rotate_left
      · simp only [Act.put, List.setIfInBounds_toArray, List.set_cons_zero, List.set_cons_succ, i64_w, i32_w]
        rfl
      refine pure_ (i := 30) (N := some 67) (v := ?_) (a' := ?_) #[true, true, true, true, true, true, true, true, true, true, true, true, true, true, true, true, true, true, true, true, true, true, true, true, true, true, true, true, true, true, true, false, true, false, false, true, true, true, false, true, false, false, true, false, false, false, false, false, false, false, false] rfl rfl (by kernel_rfl) (fun _ _ _ h => h) (Or.inl ⟨by rfl, ?_⟩) ?_ ?_
      rotate_left
      · intro w'
        go_simp
        with_reducible rfl
      rotate_left
      · simp only [Act.put, List.setIfInBounds_toArray, List.set_cons_zero, List.set_cons_succ, i64_w, i32_w]
        rfl
      refine take_ (i := 31) (N := some 68) (v := ?_) (a' := ?_) #[true, true, true, true, true, true, true, true, true, true, true, true, true, true, true, true, true, true, true, true, true, true, true, true, true, true, true, true, true, true, true, true, true, false, false, true, true, true, false, true, false, false, true, false, false, false, false, false, false, false, false] rfl rfl (by kernel_rfl) (fun _ _ _ h => h) (Or.inl ⟨by rfl, ?_⟩) hHeld ?_ ?_
      rotate_left
      · rintro w' ⟨s0, s1, s2, s3, s4, s5, s6, s7⟩
        go_simp
        with_reducible rfl
      rotate_left
      · simp only [Act.put, List.setIfInBounds_toArray, List.set_cons_zero, List.set_cons_succ, i64_w, i32_w]
        rfl
      refine take_ (i := 33) (N := some 70) (v := ?_) (a' := ?_) #[true, true, true, true, true, true, true, true, true, true, true, true, true, true, true, true, true, true, true, true, true, true, true, true, true, true, true, true, true, true, true, true, true, true, false, true, true, true, false, true, false, false, true, false, false, false, false, false, false, false, false] rfl rfl (by kernel_rfl) (fun _ _ _ h => h) (Or.inl ⟨by rfl, ?_⟩) hHeld ?_ ?_
      rotate_left
      · rintro w' ⟨s0, s1, s2, s3, s4, s5, s6, s7⟩
        go_simp
        with_reducible rfl
      rotate_left
      · simp only [Act.put, List.setIfInBounds_toArray, List.set_cons_zero, List.set_cons_succ, i64_w, i32_w]
        rfl
      refine pure_ (i := 34) (N := some 71) (v := ?_) (a' := ?_) #[true, true, true, true, true, true, true, true, true, true, true, true, true, true, true, true, true, true, true, true, true, true, true, true, true, true, true, true, true, true, true, true, true, true, true, true, true, true, false, true, false, false, true, false, false, false, false, false, false, false, false] rfl rfl (by kernel_rfl) (fun _ _ _ h => h) (Or.inl ⟨by rfl, ?_⟩) ?_ ?_
      rotate_left
      · intro w'
        go_simp
        with_reducible rfl
      rotate_left
      · simp only [Act.put, List.setIfInBounds_toArray, List.set_cons_zero, List.set_cons_succ, i64_w, i32_w]
        rfl
      refine take_ (i := 38) (N := some 75) (v := ?_) (a' := ?_) #[true, true, true, true, true, true, true, true, true, true, true, true, true, true, true, true, true, true, true, true, true, true, true, true, true, true, true, true, true, true, true, true, true, true, true, true, true, true, true, true, false, false, true, false, false, false, false, false, false, false, false] rfl rfl (by kernel_rfl) (fun _ _ _ h => h) (Or.inl ⟨by rfl, ?_⟩) hHeld ?_ ?_
      rotate_left
      · rintro w' ⟨s0, s1, s2, s3, s4, s5, s6, s7⟩
        go_simp
        with_reducible rfl
      rotate_left
      · simp only [Act.put, List.setIfInBounds_toArray, List.set_cons_zero, List.set_cons_succ, i64_w, i32_w]
        rfl
      refine pure_ (i := 40) (N := some 77) (v := ?_) (a' := ?_) #[true, true, true, true, true, true, true, true, true, true, true, true, true, true, true, true, true, true, true, true, true, true, true, true, true, true, true, true, true, true, true, true, true, true, true, true, true, true, true, true, true, false, true, false, false, false, false, false, false, false, false] rfl rfl (by kernel_rfl) (fun _ _ _ h => h) (Or.inl ⟨by rfl, ?_⟩) ?_ ?_
      rotate_left
      · intro w'
        go_simp
        with_reducible rfl
      rotate_left
      · simp only [Act.put, List.setIfInBounds_toArray, List.set_cons_zero, List.set_cons_succ, i64_w, i32_w]
        rfl
      refine take_ (i := 41) (N := some 78) (v := ?_) (a' := ?_) #[true, true, true, true, true, true, true, true, true, true, true, true, true, true, true, true, true, true, true, true, true, true, true, true, true, true, true, true, true, true, true, true, true, true, true, true, true, true, true, true, true, true, true, false, false, false, false, false, false, false, false] rfl rfl (by kernel_rfl) (fun _ _ _ h => h) (Or.inl ⟨by rfl, ?_⟩) hHeld ?_ ?_
      rotate_left
      · rintro w' ⟨s0, s1, s2, s3, s4, s5, s6, s7⟩
        go_simp
        with_reducible rfl
      rotate_left
      · simp only [Act.put, List.setIfInBounds_toArray, List.set_cons_zero, List.set_cons_succ, i64_w, i32_w]
        rfl
      refine pure_ (i := 45) (N := some 82) (v := ?_) (a' := ?_) #[true, true, true, true, true, true, true, true, true, true, true, true, true, true, true, true, true, true, true, true, true, true, true, true, true, true, true, true, true, true, true, true, true, true, true, true, true, true, true, true, true, true, true, false, false, true, false, false, false, false, false] rfl rfl (by kernel_rfl) (fun _ _ _ h => h) (Or.inl ⟨by rfl, ?_⟩) ?_ ?_
      rotate_left
      · intro w'
        go_simp
        with_reducible rfl
      rotate_left
      · simp only [Act.put, List.setIfInBounds_toArray, List.set_cons_zero, List.set_cons_succ, i64_w, i32_w]
        rfl
      refine take_ (i := 43) (N := some 80) (v := ?_) (a' := ?_) #[true, true, true, true, true, true, true, true, true, true, true, true, true, true, true, true, true, true, true, true, true, true, true, true, true, true, true, true, true, true, true, true, true, true, true, true, true, true, true, true, true, true, true, true, false, true, false, false, false, false, false] rfl rfl (by kernel_rfl) (fun _ _ _ h => h) (Or.inl ⟨by rfl, ?_⟩) hHeld ?_ ?_
      rotate_left
      · rintro w' ⟨s0, s1, s2, s3, s4, s5, s6, s7⟩
        go_simp
        with_reducible rfl
      rotate_left
      · simp only [Act.put, List.setIfInBounds_toArray, List.set_cons_zero, List.set_cons_succ, i64_w, i32_w]
        rfl
      refine pure_ (i := 44) (N := some 81) (v := ?_) (a' := ?_) #[true, true, true, true, true, true, true, true, true, true, true, true, true, true, true, true, true, true, true, true, true, true, true, true, true, true, true, true, true, true, true, true, true, true, true, true, true, true, true, true, true, true, true, true, true, true, false, false, false, false, false] rfl rfl (by kernel_rfl) (fun _ _ _ h => h) (Or.inl ⟨by rfl, ?_⟩) ?_ ?_
      rotate_left
      · intro w'
        go_simp
        with_reducible rfl
      rotate_left
      · simp only [Act.put, List.setIfInBounds_toArray, List.set_cons_zero, List.set_cons_succ, i64_w, i32_w]
        rfl
      refine one_ (i := 46) (N := none) #[true, true, true, true, true, true, true, true, true, true, true, true, true, true, true, true, true, true, true, true, true, true, true, true, true, true, true, true, true, true, true, true, true, true, true, true, true, true, true, true, true, true, true, true, true, true, true, false, false, false, false] rfl rfl (by kernel_rfl) (by decide) (fun K hK => ?_)
      obtain ⟨hq, hqf⟩ := PM.at5 HP.out (i + 1) (by omega) (by first | exact m5 | (rw [List.length_set]; exact m5))
      refine skip_ (w1 := ?_) (by rfl) rfl ?_ ?_
      rotate_left
      · go_simp
        rfl
      have hp := PM.set5 HP.out (i + 1) (a)
      have h7 := blk_far (p := ⟨b5, (i + 1).toNat, none⟩) H7.out (fun e => n75 e) (.int .i64 (a))
      have hbb := below_set (j := (i + 1).toNat) (v := .int .i64 (a)) HB.out HP.out.2.2.1.1
      generalize wd5.setCell ⟨b5, (i + 1).toNat, none⟩ (.int .i64 (a)) = wd6 at hp h7 hbb ⊢
      clear HP H7 HB hq hqf
      have HP := Aside0.mk hp
      have H7 := Aside0.mk h7
      have HB := Aside0.mk hbb
      clear hp h7 hbb
      refine hK.out _ _ ⟨(by have h := (PM.cells HP.out).1; first | exact h | rwa [List.length_set] at h), (by have h := (PM.cells HP.out).2.1; first | exact h | rwa [List.length_set] at h), (by have h := (PM.cells HP.out).2.2.1; first | exact h | rwa [List.length_set] at h), (by have h := (PM.at5 HP.out i hi0 (by first | exact l5 | (rw [List.length_set]; exact l5))).1; first | (rw [ha.out] at h; exact h) | (rw [Lib.rd_set (by omega) (by omega) hi0, if_neg (by omega), ha.out] at h; exact h)), (by have h := (PM.at9 HP.out i hi0 (by first | exact l9 | (rw [List.length_set]; exact l9))).1; first | (rw [hb.out] at h; exact h) | (rw [Lib.rd_set (by omega) (by omega) hi0, if_neg (by omega), hb.out] at h; exact h)), (by have h := (PM.at13 HP.out i hi0 (by first | exact l13 | (rw [List.length_set]; exact l13))).1; first | (rw [hc.out] at h; exact h) | (rw [Lib.rd_set (by omega) (by omega) hi0, if_neg (by omega), hc.out] at h; exact h)), (blk_cell H7.out 2).trans rfl, (blk_cell H7.out 3).trans rfl⟩ (fun hHeld => ?_)
      clear hK K
      refine pure_ (i := 47) (N := some 83) (v := ?_) (a' := ?_) #[true, true, true, true, true, true, true, true, true, true, true, true, true, true, true, true, true, true, true, true, true, true, true, true, true, true, true, true, true, true, true, true, true, true, true, true, true, true, true, true, true, true, true, true, true, true, true, true, false, false, false] rfl rfl (by kernel_rfl) (fun _ _ _ h => h) (Or.inl ⟨by rfl, ?_⟩) ?_ ?_
      rotate_left
      · intro w'
        go_simp
        with_reducible rfl
      rotate_left
      · simp only [Act.put, List.setIfInBounds_toArray, List.set_cons_zero, List.set_cons_succ, i64_w, i32_w]
        rfl
      refine one_ (i := 48) (N := none) #[true, true, true, true, true, true, true, true, true, true, true, true, true, true, true, true, true, true, true, true, true, true, true, true, true, true, true, true, true, true, true, true, true, true, true, true, true, true, true, true, true, true, true, true, true, true, true, true, true, false, false] rfl rfl (by kernel_rfl) (by decide) (fun K hK => ?_)
      obtain ⟨hq, hqf⟩ := PM.at9 HP.out (i + 1) (by omega) (by first | exact m9 | (rw [List.length_set]; exact m9))
      refine skip_ (w1 := ?_) (by rfl) rfl ?_ ?_
      rotate_left
      · go_simp
        rfl
      have hp := PM.set9 HP.out (i + 1) (b + p.f2)
      have h7 := blk_far (p := ⟨b9, (i + 1).toNat, none⟩) H7.out (fun e => n79 e) (.int .i64 (b + p.f2))
      have hbb := below_set (j := (i + 1).toNat) (v := .int .i64 (b + p.f2)) HB.out HP.out.2.2.1.2.1
      generalize wd6.setCell ⟨b9, (i + 1).toNat, none⟩ (.int .i64 (b + p.f2)) = wd7 at hp h7 hbb ⊢
      clear HP H7 HB hq hqf
      have HP := Aside0.mk hp
      have H7 := Aside0.mk h7
      have HB := Aside0.mk hbb
      clear hp h7 hbb
      refine hK.out _ _ ⟨(by have h := (PM.cells HP.out).1; first | exact h | rwa [List.length_set] at h), (by have h := (PM.cells HP.out).2.1; first | exact h | rwa [List.length_set] at h), (by have h := (PM.cells HP.out).2.2.1; first | exact h | rwa [List.length_set] at h), (by have h := (PM.at5 HP.out i hi0 (by first | exact l5 | (rw [List.length_set]; exact l5))).1; first | (rw [ha.out] at h; exact h) | (rw [Lib.rd_set (by omega) (by omega) hi0, if_neg (by omega), ha.out] at h; exact h)), (by have h := (PM.at9 HP.out i hi0 (by first | exact l9 | (rw [List.length_set]; exact l9))).1; first | (rw [hb.out] at h; exact h) | (rw [Lib.rd_set (by omega) (by omega) hi0, if_neg (by omega), hb.out] at h; exact h)), (by have h := (PM.at13 HP.out i hi0 (by first | exact l13 | (rw [List.length_set]; exact l13))).1; first | (rw [hc.out] at h; exact h) | (rw [Lib.rd_set (by omega) (by omega) hi0, if_neg (by omega), hc.out] at h; exact h)), (blk_cell H7.out 2).trans rfl, (blk_cell H7.out 3).trans rfl⟩ (fun hHeld => ?_)
      clear hK K
      refine pure_ (i := 49) (N := some 84) (v := ?_) (a' := ?_) #[true, true, true, true, true, true, true, true, true, true, true, true, true, true, true, true, true, true, true, true, true, true, true, true, true, true, true, true, true, true, true, true, true, true, true, true, true, true, true, true, true, true, true, true, true, true, true, true, true, true, false] rfl rfl (by kernel_rfl) (fun _ _ _ h => h) (Or.inl ⟨by rfl, ?_⟩) ?_ ?_
      rotate_left
      · intro w'
        go_simp
        with_reducible rfl
      rotate_left
      · simp only [Act.put, List.setIfInBounds_toArray, List.set_cons_zero, List.set_cons_succ, i64_w, i32_w]
        rfl
      refine one_ (i := 50) (N := none) #[true, true, true, true, true, true, true, true, true, true, true, true, true, true, true, true, true, true, true, true, true, true, true, true, true, true, true, true, true, true, true, true, true, true, true, true, true, true, true, true, true, true, true, true, true, true, true, true, true, true, true] rfl rfl (by kernel_rfl) (by decide) (fun K hK => ?_)
      obtain ⟨hq, hqf⟩ := PM.at13 HP.out (i + 1) (by omega) (by first | exact m13 | (rw [List.length_set]; exact m13))
      refine skip_ (w1 := ?_) (by rfl) rfl ?_ ?_
      rotate_left
      · go_simp
        rfl
      have hp := PM.set13 HP.out (i + 1) (c + p.f3)
      have h7 := blk_far (p := ⟨b13, (i + 1).toNat, none⟩) H7.out (fun e => n713 e) (.int .i64 (c + p.f3))
      have hbb := below_set (j := (i + 1).toNat) (v := .int .i64 (c + p.f3)) HB.out HP.out.2.2.1.2.2.1
      generalize wd7.setCell ⟨b13, (i + 1).toNat, none⟩ (.int .i64 (c + p.f3)) = wd8 at hp h7 hbb ⊢
      clear HP H7 HB hq hqf
      have HP := Aside0.mk hp
      have H7 := Aside0.mk h7
      have HB := Aside0.mk hbb
      clear hp h7 hbb
      refine hK.out _ _ ⟨(by have h := (PM.cells HP.out).1; first | exact h | rwa [List.length_set] at h), (by have h := (PM.cells HP.out).2.1; first | exact h | rwa [List.length_set] at h), (by have h := (PM.cells HP.out).2.2.1; first | exact h | rwa [List.length_set] at h), (by have h := (PM.at5 HP.out i hi0 (by first | exact l5 | (rw [List.length_set]; exact l5))).1; first | (rw [ha.out] at h; exact h) | (rw [Lib.rd_set (by omega) (by omega) hi0, if_neg (by omega), ha.out] at h; exact h)), (by have h := (PM.at9 HP.out i hi0 (by first | exact l9 | (rw [List.length_set]; exact l9))).1; first | (rw [hb.out] at h; exact h) | (rw [Lib.rd_set (by omega) (by omega) hi0, if_neg (by omega), hb.out] at h; exact h)), (by have h := (PM.at13 HP.out i hi0 (by first | exact l13 | (rw [List.length_set]; exact l13))).1; first | (rw [hc.out] at h; exact h) | (rw [Lib.rd_set (by omega) (by omega) hi0, if_neg (by omega), hc.out] at h; exact h)), (blk_cell H7.out 2).trans rfl, (blk_cell H7.out 3).trans rfl⟩ (fun hHeld => ?_)
      clear hK K
      refine done_ (by kernel_rfl) ?_
      have hs0 : wd8.cell? ⟨g7, 0, none⟩ = some (.int .i64 p.f0) := (blk_cell H7.out 0).trans rfl
      by_cases k2_ : p.f0 = 2
      · have k2b : (p.f0 != 2) = false := bne_eq_false_iff_eq.2 k2_
        have eh : hW1 p = 0 := if_pos k2_
        clear k2_
        go_wp2
        go_roundw
        case rel =>
         refine ⟨i + 1, by first | rfl | rw [him], by omega, by omega, ⟨?_⟩, HB⟩
         rw [← fillT_set hW1 L i a hi0 (by rw [HPT.out, eh, eW.out]; omega), ← fillT_set (·.f2) L i (b + p.f2) hi0 (by simp only [HPT.out]; rw [eG.out]), ← fillT_set (·.f3) L i (c + p.f3) hi0 (by simp only [HPT.out]; rw [eY.out]), EW.out, EG.out, EY.out]
         exact HP.out
        case measure => first | (simp [intOf]; omega) | (rw [him]; simp [intOf]; omega)
      · have k2b : (p.f0 != 2) = true := bne_iff_ne.2 k2_
        have eh : hW1 p = p.f1 := if_neg k2_
        clear k2_
        go_upto_region 7 with (fail)
        refine wp_region_still_tail 12 (by kernel_rfl) (by kernel_rfl) ?_
        simp only [List.take_succ_cons, List.take_zero, List.drop_succ_cons, List.drop_zero]
        have hb12 : Below wd8.heap.size wd8 { wd8 with drawn := wd8.drawn + 1 } := pw_below_drewN (Below.refl _ _) 1
        have hp := PM.below HP.out hb12
        have h7 := blk_below H7.out hb12
        have hbb := below_step HB.out hb12
        generalize ({ wd8 with drawn := wd8.drawn + 1 } : World) = wd9 at hp h7 hbb ⊢
        clear HP H7 HB hb12 hs0
        have hcm : wd9.cell? ⟨gm, 3, none⟩ = some (.slice (some ⟨b5, 0, none⟩) WI.length c5_) := by have h := (PM.cells hp).1; rwa [List.length_set] at h
        have hs1 : wd9.cell? ⟨g7, 1, none⟩ = some (.int .i64 p.f1) := (blk_cell h7 1).trans rfl
        obtain ⟨hq, hqf⟩ := PM.at5 hp (i + 1) (by omega) (by rw [List.length_set]; exact m5)
        rw [Lib.rd_set (by omega) (by omega) (by omega), if_pos rfl] at hq
        have HP := Aside0.mk hp
        have HB := Aside0.mk hbb
        clear hp hbb h7
        repeat still_step
        refine wpStill_nil ?_
        go_wp2
        have hp := PM.set5 HP.out (i + 1) (a + p.f1)
        have hbb := below_set (j := (i + 1).toNat) (v := .int .i64 (a + p.f1)) HB.out HP.out.2.2.1.1
        rw [List.set_set] at hp
        clear HP HB hq hqf hcm hs1
        have HP := Aside0.mk hp
        have HB := Aside0.mk hbb
        clear hp hbb
        go_roundw
        case rel =>
         refine ⟨i + 1, by first | rfl | rw [him], by omega, by omega, ⟨?_⟩, HB⟩
         rw [← fillT_set hW1 L i (a + p.f1) hi0 (by rw [HPT.out, eh, eW.out]), ← fillT_set (·.f2) L i (b + p.f2) hi0 (by simp only [HPT.out]; rw [eG.out]), ← fillT_set (·.f3) L i (c + p.f3) hi0 (by simp only [HPT.out]; rw [eY.out]), EW.out, EG.out, EY.out]
         exact HP.out
        case measure => first | (simp [intOf]; omega) | (rw [him]; simp [intOf]; omega)
    · obtain rfl : i = (L.length : Int) := by omega
      have hcb : wr.cell? ⟨gm, 6, none⟩ = some (.slice (some ⟨b17, 0, none⟩) (L.length + 2) c17_) := by have h := (PM.cells HP.out).2.2.2; rwa [List.length_replicate] at h
      obtain ⟨hq, hqf⟩ := PM.at17 HP.out (L.length : Int) (by omega) (by rw [List.length_replicate]; omega)
      rw [Int.toNat_natCast] at hq hqf
      have kn : wrap64 ((L.length : Int) - 1) = (L.length : Int) - 1 := w64 (by omega) (by omega)
      go_wp2
      have hp := PM.set17 HP.out (L.length : Int) (L.length : Int)
      have hbb := below_set (j := L.length) (v := .int .i64 (L.length : Int)) HB.out HP.out.2.2.1.2.2.2
      rw [Int.toNat_natCast, begT_start] at hp
      clear HP HB hq hqf hcb
      have HP := Aside0.mk hp
      have HB := Aside0.mk hbb
      clear hp hbb
      go_loopw [9, 8] (fun v9 v8 w2 => ∃ t : Int, v9 = .int .i64 t ∧ v8 = .int .i64 (nextD L ((L.length : Int) - t - 1).toNat) ∧ -1 ≤ t ∧ t ≤ (L.length : Int) - 1 ∧ Aside0 (PM w.heap.size w2 gm (.slice A0 L.length c0) (.slice A1 W.length c1) D b5 c5_ b9 c9_ b13 c13_ b17 c17_ (fillT hW1 L (L.length : Int)) (fillT (·.f2) L (L.length : Int)) (fillT (·.f3) L (L.length : Int)) (begT L t)) ∧ Aside0 (Below w.heap.size w w2)) (fun v9 _ _ => (intOf v9 + 1).toNat)
      case atStart => exact ⟨(L.length : Int) - 1, by first | rfl | rw [kn], by rw [show ((L.length : Int) - ((L.length : Int) - 1) - 1).toNat = 0 by omega]; rfl, by omega, by omega, HP, HB⟩
      case round =>
       clear HP HB
       obtain ⟨t, rfl, rfl, ht0, ht1, HP, HB⟩ := hrel
       by_cases ht2 : 0 ≤ t
       · have htb : decide (t ≥ 0) = true := decide_eq_true ht2
         have hlt : t < (L.length : Int) := by omega
         have ktm : wrap64 (t - 1) = t - 1 := w64 (by omega) (by omega)
         obtain ⟨ad, ea, hx0, -, -, -, hx4, -⟩ := at_T49 HL.out t ht2 hlt
         subst ea
         replace hx0 := (HB.out.cell (World.block_lt_of_cell? _ _ hx0)).trans hx0
         replace hx4 := (HB.out.cell (World.block_lt_of_cell? _ _ hx4)).trans hx4
         have hcb : wr.cell? ⟨gm, 6, none⟩ = some (.slice (some ⟨b17, 0, none⟩) (L.length + 2) c17_) := by have h := (PM.cells HP.out).2.2.2; rwa [show (begT L t).length = L.length + 2 from Lib.tab_length _ _] at h
         obtain ⟨hq, hqf⟩ := PM.at17 HP.out t ht2 (by rw [show (begT L t).length = L.length + 2 from Lib.tab_length _ _]; omega)
         have hlt2 : t < (L.length : Int) + 2 := by omega
         have hN : nextD L ((L.length : Int) - t).toNat = if boxP (rd_T49 L t) = true then t else nextD L ((L.length : Int) - t - 1).toNat := by
          rw [show ((L.length : Int) - t).toNat = ((L.length : Int) - t - 1).toNat + 1 by omega, nextD, show (L.length : Int) - (((L.length : Int) - t - 1).toNat : Nat) - 1 = t by omega]
         obtain ⟨nx, hnx⟩ : ∃ q, nextD L ((L.length : Int) - t - 1).toNat = q := ⟨_, rfl⟩
         obtain ⟨pp, hpp⟩ : ∃ q, rd_T49 L t = q := ⟨_, rfl⟩
         rw [hnx, hpp] at hN
         rw [hnx]
         rw [hpp] at hx0 hx4
         clear hnx hpp
         by_cases e0 : pp.f0 = 0
         · have e0b : (pp.f0 == 0) = true := beq_iff_eq.2 e0
           have HX : Aside0 (nextD L ((L.length : Int) - t).toNat = t) := ⟨by rw [hN, if_pos (by simp [boxP, e0b])]⟩
           clear hN e0
           skip
           go_wp2
           have hp := PM.set17 HP.out t (t)
           have hbb := below_set (j := t.toNat) (v := .int .i64 (t)) HB.out HP.out.2.2.1.2.2.2
           rw [show (begT L t).set t.toNat t = begT L (t - 1) from by rw [← begT_set L t ht2 (by omega), HX.out]] at hp
           clear HP hq hqf hcb
           go_roundw
           case rel => exact ⟨t - 1, by first | rfl | rw [ktm], by rw [show (L.length : Int) - (t - 1) - 1 = (L.length : Int) - t by omega, HX.out], by omega, by omega, ⟨hp⟩, ⟨hbb⟩⟩
           case measure => first | (simp [intOf]; omega) | (rw [ktm]; simp [intOf]; omega)
         · have e0b : (pp.f0 == 0) = false := beq_eq_false_iff_ne.2 e0
           by_cases e2 : pp.f0 = 2
           · have e2b : (pp.f0 == 2) = true := beq_iff_eq.2 e2
             by_cases e4 : pp.f4 = -10000
             · have e4b : (pp.f4 == -10000) = true := beq_iff_eq.2 e4
               have HX : Aside0 (nextD L ((L.length : Int) - t).toNat = t) := ⟨by rw [hN, if_pos (by simp [boxP, e0b, e2b, e4b])]⟩
               clear hN e0 e2 e4
               skip
               go_wp2
               have hp := PM.set17 HP.out t (t)
               have hbb := below_set (j := t.toNat) (v := .int .i64 (t)) HB.out HP.out.2.2.1.2.2.2
               rw [show (begT L t).set t.toNat t = begT L (t - 1) from by rw [← begT_set L t ht2 (by omega), HX.out]] at hp
               clear HP hq hqf hcb
               go_roundw
               case rel => exact ⟨t - 1, by first | rfl | rw [ktm], by rw [show (L.length : Int) - (t - 1) - 1 = (L.length : Int) - t by omega, HX.out], by omega, by omega, ⟨hp⟩, ⟨hbb⟩⟩
               case measure => first | (simp [intOf]; omega) | (rw [ktm]; simp [intOf]; omega)
             · have e4b : (pp.f4 == -10000) = false := beq_eq_false_iff_ne.2 e4
               have HX : Aside0 (nextD L ((L.length : Int) - t).toNat = nx) := ⟨by rw [hN, if_neg (by simp [boxP, e0b, e2b, e4b])]⟩
               clear hN e0 e2 e4
               skip
               go_wp2
               have hp := PM.set17 HP.out t (nx)
               have hbb := below_set (j := t.toNat) (v := .int .i64 (nx)) HB.out HP.out.2.2.1.2.2.2
               rw [show (begT L t).set t.toNat nx = begT L (t - 1) from by rw [← begT_set L t ht2 (by omega), HX.out]] at hp
               clear HP hq hqf hcb
               go_roundw
               case rel => exact ⟨t - 1, by first | rfl | rw [ktm], by rw [show (L.length : Int) - (t - 1) - 1 = (L.length : Int) - t by omega, HX.out], by omega, by omega, ⟨hp⟩, ⟨hbb⟩⟩
               case measure => first | (simp [intOf]; omega) | (rw [ktm]; simp [intOf]; omega)
           · have e2b : (pp.f0 == 2) = false := beq_eq_false_iff_ne.2 e2
             have HX : Aside0 (nextD L ((L.length : Int) - t).toNat = nx) := ⟨by rw [hN, if_neg (by simp [boxP, e0b, e2b])]⟩
             clear hN e0 e2
             skip
             go_wp2
             have hp := PM.set17 HP.out t (nx)
             have hbb := below_set (j := t.toNat) (v := .int .i64 (nx)) HB.out HP.out.2.2.1.2.2.2
             rw [show (begT L t).set t.toNat nx = begT L (t - 1) from by rw [← begT_set L t ht2 (by omega), HX.out]] at hp
             clear HP hq hqf hcb
             go_roundw
             case rel => exact ⟨t - 1, by first | rfl | rw [ktm], by rw [show (L.length : Int) - (t - 1) - 1 = (L.length : Int) - t by omega, HX.out], by omega, by omega, ⟨hp⟩, ⟨hbb⟩⟩
             case measure => first | (simp [intOf]; omega) | (rw [ktm]; simp [intOf]; omega)
       · have htb : decide (t ≥ 0) = false := decide_eq_false ht2
         obtain rfl : t = -1 := by omega
         have HM := Aside0.mk (PM.mk_ HP.out (Kd.C_below HL.out HB.out) (Kd.C_below HW.out HB.out))
         go_wp2
         go_ret
         exact ⟨gm, rfl, HM.out, HP.out.2.1, HB.out⟩
end Go.Proofs.Ythapclmfkjldaaa.HandLN
