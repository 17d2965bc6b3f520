import Derived.Test.YthapclmfkjldaaaHandLNi
import Derived.Test.YthapclmfkjldaaaPureLNd
namespace Go.Proofs.Ythapclmfkjldaaa.HandLN
set_option linter.unusedSectionVars false
set_option linter.unusedVariables false
set_option linter.unusedSimpArgs false
open Go.Proofs.Ythapclmfkjldaaa.Lib (w64)
open Go.RowKit Go.Proofs.YthapclmfkjldaaaW.PrintWords Go.Proofs.YthapclmfkjldaaaW.PrintLast Go.Proofs.YthapclmfkjldaaaW.PrintMore Go.Proofs.Ythapclmfkjldaaa.QLN Go.Proofs.Ythapclmfkjldaaa.LinesP
attribute [local go_sem] max2_int min2_int max_two min_two
theorem info59 : (Try.prog.info? 59).map (fun i => (i.zero, i.size, i.bytes)) = some (some (.agg #[.bool false, .int .i64 0, .int .i64 0, .int .i64 0]), 4, 32) := by kernel_rfl
def planB (L : List S49) (W : List Int) (D : Int) (i key : Nat) : S59 := ⟨true, (bestP L W D (i : Int) ((key / 2 : Nat) : Int) (key % 2 == 1)).1, (bestP L W D (i : Int) ((key / 2 : Nat) : Int) (key % 2 == 1)).2.1, (bestP L W D (i : Int) ((key / 2 : Nat) : Int) (key % 2 == 1)).2.2⟩
def keyOf (num : Int) (fl : Bool) : Int := 2 * num + if fl = true then 1 else 0
theorem planB_key (L : List S49) (W : List Int) (D f num : Int) (fl : Bool) (f0 : 0 ≤ f) (n0 : 0 ≤ num) : planB L W D f.toNat (keyOf num fl).toNat = ⟨true, (bestP L W D f num fl).1, (bestP L W D f num fl).2.1, (bestP L W D f num fl).2.2⟩ := by
 have e1 : ((f.toNat : Nat) : Int) = f := by omega
 have e2 : (((keyOf num fl).toNat / 2 : Nat) : Int) = num := by unfold keyOf; cases fl <;> simp <;> omega
 have e3 : ((keyOf num fl).toNat % 2 == 1) = fl := by
  unfold keyOf
  cases fl
  · rw [beq_eq_false_iff_ne]; simp; omega
  · rw [beq_iff_eq]; simp; omega
 unfold planB
 rw [e1, e2, e3]
theorem MK.cells {w : World} {g : Nat} {L : List S49} {W : List Int} {D : Int} {wi gr yi be : List Int} (h : MK w g L W D wi gr yi be) : ∃ A1 c1, w.cell? ⟨g, 1, none⟩ = some (.slice A1 W.length c1) ∧ w.cell? ⟨g, 2, none⟩ = some (.int .i64 D) := by
 obtain ⟨A0, c0, A1, c1, A2, c2, A3, c3, A4, c4, A5, c5, hbk, _⟩ := h
 exact ⟨A1, c1, (blk_cell hbk 1).trans rfl, (blk_cell hbk 2).trans rfl⟩
theorem KN.cells {w : World} {base g gw gk ck n m : Nat} {B : Nat → Nat → S59} {rs : List (Option (Nat × Nat))} (h : KN w base g gw gk ck n m B rs) : w.cell? ⟨gw, 0, none⟩ = some (.pointer (some ⟨g, 0, none⟩)) ∧ w.cell? ⟨gw, 1, none⟩ = some (.slice (some ⟨gk, 0, none⟩) (n + 1) ck) :=
 ⟨(blk_cell h.wk 0).trans rfl, (blk_cell h.wk 1).trans rfl⟩
theorem R_max {α : Type} {d : Kd α} {e base : Nat} {ok : Nat → Prop} {w : World} {v : Value} {xs : List α} (h : d.R e w base ok v xs) : xs.length ≤ 9223372036854775807 := by
 obtain ⟨inner, ho⟩ := Kd.R_own h
 rcases ho.2 with ⟨_, h0⟩ | ⟨b, c, _, _, _, _, h1, h2, _⟩
 · omega
 · exact Nat.le_trans h1 h2
theorem R_form {α : Type} {d : Kd α} {e base : Nat} {ok : Nat → Prop} {w : World} {v : Value} {xs : List α} (h : d.R e w base ok v xs) (hl : 0 < xs.length) : ∃ b c, v = .slice (some ⟨b, 0, none⟩) xs.length c := by
 obtain ⟨inner, ho⟩ := Kd.R_own h
 rcases ho.2 with ⟨_, h0⟩ | ⟨b, c, _, rfl, _⟩
 · omega
 · exact ⟨b, c, rfl⟩
section
variable {P : Program} {ops : Array Oper} {o : Oper} {a : Act} {Q : Exit → Act → World → Prop} {K : Act → World → Prop}
theorem seg_step {W : World} (hw : Region.wanted o (yielded ops a.tmps) = true) (hN : o.dst = none) (t : TypeId) (p x : Operand) (ho : o.op = .store t p x) {g q : Nat} {e : TypeId} {cur : Array Value} (u : Value) (seg : List Value)
    (haddr : a.eval p = .pointer (some ⟨g, q, none⟩)) (hx : a.eval x = u) (hu : u.cells.toList = seg) (ht : (P.info? t).map (·.size) = some seg.length) (hh : W.heap[g]? = some (.cells cur e (0, 0))) (hfit : q + seg.length ≤ cur.size) (h1 : ∀ v ∈ seg, v.oneCell' = true)
    (h : K a (W.setCells g q seg)) : if Region.wanted o (yielded ops a.tmps) = true then Oper.wp P o a W K Q else K (a.put none undef) W := by
 have hrun : (Instr.storeAt t (.pointer (some ⟨g, q, none⟩)) u).run P W = .ok () (W.setCells g q seg) := run_store_run t u seg hh hu ht hfit h1
 refine skip_ hw hN (w1 := W.setCells g q seg) ?_ h
 unfold execOp
 simp only [ho, haddr, hx, Sem.run_bind, Sem.run_pure, Result.andThen_ok, hrun]
end
def bestT18 : Bool × List (List Nat × List Nat) := (true, [([], []), ([], []), ([1], [1]), ([2], [2]), ([3], [3]), ([], []), ([5], [5]), ([4, 6], [4, 6]), ([], []), ([8], [8]), ([], []), ([10], [10]), ([11], [11]), ([12], [12]), ([], []), ([14], [14]), ([13, 15, 7], [13, 15]), ([0, 7, 9, 16, 16], [0, 7, 9, 16]), ([], []), ([18, 17, 17, 0, 1, 2, 3, 4, 5, 6, 7, 8, 9, 10, 11, 12, 13, 14, 15, 16, 17, 18], [17, 18])])
def bestB18 : List Nat := [0, 0, 2, 6, 14, 0, 32, 126, 0, 256, 0, 1024, 3072, 7168, 0, 16384, 64766, 131071, 0, 524287]
theorem best_tab18 : rtab .any (opsOf Try.f23 18) = bestT18 := by kernel_rfl
theorem best_bits18 : waitsOk bestT18.2 bestB18 = true := by kernel_rfl
theorem eqGuard_O (x y : Operand) (m : Nat) (o : Option (Nat × Nat)) (w : World) : Sem.run Try.prog (eqGuard BinOp.eql 71 x y (encO m o) (.slice none 0 0)) w = .ok () w := by
 cases o
 all_goals (unfold encO; go_simp; try rfl)
theorem binOp_O (m : Nat) (o : Option (Nat × Nat)) (w : World) : Sem.run Try.prog (binOp BinOp.eql 71 (encO m o) (.slice none 0 0)) w = .ok (.bool o.isNone) w := by
 cases o
 all_goals (unfold encO; go_simp; try rfl)
attribute [local go_sem] eqGuard_O binOp_O
section
variable (WB : World) (g gw gk ck : Nat) (L : List S49) (W : List Int) (D : Int) (hF : Fine L) (hD : 0 ≤ D ∧ D ≤ 1000000) (w1 : 1 ≤ W.length) (w2 : W.length ≤ 20) (hW : ∀ i : Int, 0 ≤ i → i < W.length → 1 ≤ rd W i ∧ rd W i ≤ 100000)
 (hM : MK WB g L W D (fillT hW1 L (L.length : Int)) (fillT (·.f2) L (L.length : Int)) (fillT (·.f3) L (L.length : Int)) (begT L (-1)))
include hF hD w1 w2 hW hM
set_option maxHeartbeats 100000000 in
set_option maxRecDepth 100000 in
theorem best_ok (d : Nat) : ∀ (f num : Int) (fl : Bool) (w : World) (rs : List (Option (Nat × Nat))), 0 ≤ f → f ≤ L.length → 0 ≤ num → num ≤ 1000000 → (L.length : Int) - f < d → Below WB.heap.size WB w → KN w WB.heap.size g gw gk ck L.length W.length (planB L W D) rs →
    Calls Try.prog 23 #[.pointer (some ⟨gw, 0, none⟩), .int .i64 f, .int .i64 num, .bool fl] w fun e w' => ∃ rs', e = .returned (.agg #[.bool true, .int .i64 (bestP L W D f (capN W num) fl).1, .int .i64 (bestP L W D f (capN W num) fl).2.1, .int .i64 (bestP L W D f (capN W num) fl).2.2]) ∧ ST WB g gw gk ck L.length W.length (planB L W D) w rs w' rs' := by
 induction d with
 | zero => intro f num fl w rs f0 f1 n0 n1 hd; omega
 | succ d ih =>
 intro f num fl w rs f0 f1 n0 n1 hd hBW hKN
 have hu57 := Try.underlying57
 have hu55 := Try.underlying55
 have hu59 := Try.underlying59
 have hu25 := Try.underlying25
 have hu53 := Try.underlying53
 have hu71 := Try.underlying71
 have hu41 := Try.underlying41
 have hn := hF.1
 have hin : L.length ≤ 1000000 := by omega
 have HDd := Aside0.mk hd
 have IH := Aside0.mk ih
 have HM := Aside0.mk hM
 have HS := Aside0.mk (ST.refl hBW hKN)
 have HF := Aside0.mk hF
 have HWd := Aside0.mk hW
 obtain ⟨A1, c1, hma1, hma2⟩ := MK.cells hM
 have HBD := Aside0.mk (bd_of L W hF w1 w2 hW)
 have HBL : Aside0 ((begT L (-1)).length = L.length + 2) := ⟨Lib.tab_length _ _⟩
 have HMA1 := Aside0.mk hma1
 have HMA2 := Aside0.mk hma2
 have HB0 := Aside0.mk hBW.size
 clear hBW hKN ih hM hF hW hd hma1 hma2
 obtain ⟨nm, hnm⟩ : ∃ q, capN W num = q := ⟨_, rfl⟩
 have hnm0 : 0 ≤ nm ∧ nm < (W.length : Int) ∧ nm ≤ num := by rw [← hnm]; unfold capN mn; split <;> omega
 rw [hnm]
 have hm_ : (if (W.length : Int) - 1 < num then (W.length : Int) - 1 else num) = nm := hnm
 have HCAP := Aside0.mk hnm
 clear hnm
 obtain ⟨hnm1, hnm2, hnm3⟩ := hnm0
 obtain ⟨key, hkey⟩ : ∃ q, keyOf nm fl = q := ⟨_, rfl⟩
 have hk0 : 0 ≤ key ∧ key < 2 * (W.length : Int) := by rw [← hkey]; unfold keyOf; split <;> omega
 have HPB := Aside0.mk (planB_key L W D f nm fl f0 hnm1)
 rw [hkey] at HPB
 have y4 : wrap64 ((W.length : Int) - 1) = (W.length : Int) - 1 := w64 (by omega) (by omega)
 have y4' := (i64_w ((W.length : Int) - 1)).trans y4
 have y5 : wrap64 (2 * nm) = 2 * nm := w64 (by omega) (by omega)
 have y5' := (i64_w (2 * nm)).trans y5
 have y6 : wrap64 (2 * nm + 1) = 2 * nm + 1 := w64 (by omega) (by omega)
 have y6' := (i64_w (2 * nm + 1)).trans y6
 have y7 : wrap64 (2 * (W.length : Int)) = 2 * (W.length : Int) := w64 (by omega) (by omega)
 have y7' := (i64_w (2 * (W.length : Int))).trans y7
 go_enter Try.func23, Try.ntmps23
 go_upto_region 1 with ((with_reducible refine gate_dst (N := 8) rfl ?_); refine box_event ?hg (N := 8) ?hd (cs := #[.bool false, .int .i64 0, .int .i64 0, .int .i64 0]) (t := 59) ?hr ?_; (case hd => rfl); (case hg => rfl); (case hr => first | (go_simp; done) | (go_simp; rfl)); intro g8 hg wa hbox hb; (have hss := ST.step HS.out hb); (have hge : w.heap.size ≤ g8 := Nat.le_of_eq hg.symm); (have hbx := Bx.new HS.out (Nat.le_of_eq hg.symm) hbox); clear HS; (have HS := Aside0.mk hss); (have H8 := Aside0.mk hbx); (have G8 := Aside0.mk hge); clear hg hbox hb hge hss hbx)
 (try simp only [Act.put, List.setIfInBounds_toArray, List.set_cons_zero, List.set_cons_succ])
 have hma1 := (HS.out.below.cell (World.block_lt_of_cell? _ _ HMA1.out)).trans HMA1.out
 obtain ⟨hka0, hka1⟩ := KN.cells HS.out.kn
 go_upto_if 31 with (fail)
 (try simp only [Act.put, List.setIfInBounds_toArray, List.set_cons_zero, List.set_cons_succ])
 go_cut [2, 9] (fun v2 v9 wc => v2 = .int .i64 nm ∧ v9 = .int .i64 key ∧ Aside0 (ST WB g gw gk ck L.length W.length (planB L W D) w rs wc rs) ∧ Aside0 (Bx gk rs wc g8 #[.bool false, .int .i64 0, .int .i64 0, .int .i64 0] 59))
 case first => as_aux_lemma =>
  have hk2 : keyOf nm fl = key := hkey
  unfold keyOf at hk2
  cases fl
  all_goals go_wp2
  all_goals go_meet
  · exact ⟨rfl, by rw [← hk2]; simp, HS, H8⟩
  · exact ⟨rfl, by rw [← hk2]; simp, HS, H8⟩
 case rest =>
  clear hma1 hka0 hka1 HS H8
  obtain ⟨rfl, rfl, HS, H8⟩ := hcut
  obtain ⟨hka0, hka1⟩ := KN.cells HS.out.kn
  obtain ⟨hkt, hkf⟩ := KN.cellTop HS.out.kn f f0 f1
  have hlen := HS.out.kn.len
  have hfl : f < ((L.length + 1 : Nat) : Int) := by omega
  have hfl' : f < (L.length : Int) + 1 := by omega
  obtain ⟨o, ho⟩ : ∃ o, rs.getD f.toNat none = o := ⟨_, rfl⟩
  rw [ho] at hkt
  have ho' : rs[f.toNat]? = some o := by
   rw [List.getD_eq_getElem?_getD, List.getElem?_eq_getElem (by omega), Option.getD_some] at ho
   rw [List.getElem?_eq_getElem (by omega), ho]
  clear ho
  have HO' := Aside0.mk ho'
  clear ho'
  go_upto_if 41 with (fail)
  (try simp only [Act.put, List.setIfInBounds_toArray, List.set_cons_zero, List.set_cons_succ])
  go_cut [] (fun wc => ∃ rs1 b c, rs1[f.toNat]? = some (some (b, c)) ∧ Aside0 (ST WB g gw gk ck L.length W.length (planB L W D) w rs wc rs1) ∧ Aside0 (Bx gk rs1 wc g8 #[.bool false, .int .i64 0, .int .i64 0, .int .i64 0] 59))
  case first => as_aux_lemma =>
   cases o with
   | some bc =>
    obtain ⟨b, c⟩ := bc
    go_wp2
    go_meet
    exact ⟨rs, b, c, HO'.out, HS, H8⟩
   | none =>
    have hz : Aside0 (0 < 2 * W.length) := ⟨by omega⟩
    go_upto_region 6 with (fail)
    (try simp only [Act.put, List.setIfInBounds_toArray, List.set_cons_zero, List.set_cons_succ])
    have HS0 := Aside0.mk (ST.step HS.out (below_drew1 (Below.refl wc.heap.size wc)))
    have H80 := Aside0.mk (Bx.below H8.out (below_drew1 (Below.refl wc.heap.size wc)))
    clear hkt hkf hka0 hka1
    refine start_ (n := 18) (S := fun w' => w'.cell? ⟨gw, 0, none⟩ = some (.pointer (some ⟨g, 0, none⟩)) ∧ w'.cell? ⟨gw, 1, none⟩ = some (.slice (some ⟨gk, 0, none⟩) (L.length + 1) ck) ∧ w'.cell? ⟨g, 1, none⟩ = some (.slice A1 W.length c1)) (ds := [17]) #[false, false, false, false, false, false, false, false, false, false, false, false, false, false, false, false, false, false] (by kernel_rfl) rfl rfl ⟨(KN.cells HS0.out.kn).1, (KN.cells HS0.out.kn).2, (HS0.out.below.cell (World.block_lt_of_cell? _ _ HMA1.out)).trans HMA1.out⟩ (fun hHeld => ?_)
    generalize wc.drew = wd at HS0 H80 hHeld ⊢
    clear HS H8
    have HS := HS0
    have H8 := H80
    clear HS0 H80
    refine pure_ (i := 0) (N := some 42) (v := ?_) (a' := ?_) #[true, false, false, false, false, false, false, false, false, false, false, false, false, false, false, false, false, false] rfl rfl (by kernel_rfl) (fun _ _ _ h => h) (Or.inl ⟨by rfl, ?_⟩) ?_ ?_
    rotate_left
    · intro w'
      go_simp
      with_reducible rfl
    rotate_left
    · simp only [Act.put, List.setIfInBounds_toArray, List.set_cons_zero, List.set_cons_succ, i64_w, i32_w]
      rfl
    refine pure_ (i := 1) (N := some 43) (v := ?_) (a' := ?_) #[true, true, false, false, false, false, false, false, false, false, false, false, false, false, false, false, false, false] rfl rfl (by kernel_rfl) (fun _ _ _ h => h) (Or.inl ⟨by rfl, ?_⟩) ?_ ?_
    rotate_left
    · intro w'
      go_simp
      with_reducible rfl
    rotate_left
    · simp only [Act.put, List.setIfInBounds_toArray, List.set_cons_zero, List.set_cons_succ, i64_w, i32_w]
      rfl
    refine pure_ (i := 2) (N := some 44) (v := ?_) (a' := ?_) #[true, true, true, false, false, false, false, false, false, false, false, false, false, false, false, false, false, false] rfl rfl (by kernel_rfl) (fun _ _ _ h => h) (Or.inl ⟨by rfl, ?_⟩) ?_ ?_
    rotate_left
    · intro w'
      go_simp
      with_reducible rfl
    rotate_left
    · simp only [Act.put, List.setIfInBounds_toArray, List.set_cons_zero, List.set_cons_succ, i64_w, i32_w]
      rfl
    refine pure_ (i := 4) (N := some 46) (v := ?_) (a' := ?_) #[true, true, true, false, true, false, false, false, false, false, false, false, false, false, false, false, false, false] rfl rfl (by kernel_rfl) (fun _ _ _ h => h) (Or.inl ⟨by rfl, ?_⟩) ?_ ?_
    rotate_left
    · intro w'
      go_simp
      with_reducible rfl
    rotate_left
    · simp only [Act.put, List.setIfInBounds_toArray, List.set_cons_zero, List.set_cons_succ, i64_w, i32_w]
      rfl
    refine pure_ (i := 5) (N := some 47) (v := ?_) (a' := ?_) #[true, true, true, false, true, true, false, false, false, false, false, false, false, false, false, false, false, false] rfl rfl (by kernel_rfl) (fun _ _ _ h => h) (Or.inl ⟨by rfl, ?_⟩) ?_ ?_
    rotate_left
    · intro w'
      go_simp
      with_reducible rfl
    rotate_left
    · simp only [Act.put, List.setIfInBounds_toArray, List.set_cons_zero, List.set_cons_succ, i64_w, i32_w]
      rfl
    refine pure_ (i := 6) (N := some 48) (v := ?_) (a' := ?_) #[true, true, true, false, true, true, true, false, false, false, false, false, false, false, false, false, false, false] rfl rfl (by kernel_rfl) (fun _ _ _ h => h) (Or.inl ⟨by rfl, ?_⟩) ?_ ?_
    rotate_left
    · intro w'
      go_simp
      with_reducible rfl
    rotate_left
    · simp only [Act.put, List.setIfInBounds_toArray, List.set_cons_zero, List.set_cons_succ, i64_w, i32_w]
      rfl
    refine pure_ (i := 7) (N := some 49) (v := ?_) (a' := ?_) #[true, true, true, false, true, true, true, true, false, false, false, false, false, false, false, false, false, false] rfl rfl (by kernel_rfl) (fun _ _ _ h => h) (Or.inl ⟨by rfl, ?_⟩) ?_ ?_
    rotate_left
    · intro w'
      go_simp
      with_reducible rfl
    rotate_left
    · simp only [Act.put, List.setIfInBounds_toArray, List.set_cons_zero, List.set_cons_succ, i64_w, i32_w]
      rfl
    refine take_ (i := 3) (N := some 45) (v := ?_) (a' := ?_) #[true, true, true, true, true, true, true, true, false, false, false, false, false, false, false, false, false, false] rfl rfl (by kernel_rfl) (fun _ _ _ h => h) (Or.inl ⟨by rfl, ?_⟩) hHeld ?_ ?_
    rotate_left
    · rintro w' ⟨s0, s1, s2⟩
      go_simp
      with_reducible rfl
    rotate_left
    · simp only [Act.put, List.setIfInBounds_toArray, List.set_cons_zero, List.set_cons_succ, i64_w, i32_w]
      rfl
    refine take_ (i := 8) (N := some 50) (v := ?_) (a' := ?_) #[true, true, true, true, true, true, true, true, true, false, false, false, false, false, false, false, false, false] rfl rfl (by kernel_rfl) (fun _ _ _ h => h) (Or.inl ⟨by rfl, ?_⟩) hHeld ?_ ?_
    rotate_left
    · rintro w' ⟨s0, s1, s2⟩
      go_simp
      with_reducible rfl
    rotate_left
    · simp only [Act.put, List.setIfInBounds_toArray, List.set_cons_zero, List.set_cons_succ, i64_w, i32_w]
      rfl
    refine pure_ (i := 9) (N := some 51) (v := ?_) (a' := ?_) #[true, true, true, true, true, true, true, true, true, true, false, false, false, false, false, false, false, false] rfl rfl (by kernel_rfl) (fun _ _ _ h => h) (Or.inl ⟨by rfl, ?_⟩) ?_ ?_
    rotate_left
    · intro w'
      go_simp
      with_reducible rfl
    rotate_left
    · simp only [Act.put, List.setIfInBounds_toArray, List.set_cons_zero, List.set_cons_succ, i64_w, i32_w]
      rfl
    refine pure_ (i := 10) (N := some 52) (v := ?_) (a' := ?_) #[true, true, true, true, true, true, true, true, true, true, true, false, false, false, false, false, false, false] rfl rfl (by kernel_rfl) (fun _ _ _ h => h) (Or.inl ⟨by rfl, ?_⟩) ?_ ?_
    rotate_left
    · intro w'
      go_simp
      with_reducible rfl
    rotate_left
    · simp only [Act.put, List.setIfInBounds_toArray, List.set_cons_zero, List.set_cons_succ, i64_w, i32_w]
      rfl
    refine pure_ (i := 11) (N := some 53) (v := ?_) (a' := ?_) #[true, true, true, true, true, true, true, true, true, true, true, true, false, false, false, false, false, false] rfl rfl (by kernel_rfl) (fun _ _ _ h => h) (Or.inl ⟨by rfl, ?_⟩) ?_ ?_
    rotate_left
    · intro w'
      go_simp
      with_reducible rfl
    rotate_left
    · simp only [Act.put, List.setIfInBounds_toArray, List.set_cons_zero, List.set_cons_succ, i64_w, i32_w]
      rfl
    refine take_ (i := 12) (N := some 54) (v := ?_) (a' := ?_) #[true, true, true, true, true, true, true, true, true, true, true, true, true, false, false, false, false, false] rfl rfl (by kernel_rfl) (fun _ _ _ h => h) (Or.inl ⟨by rfl, ?_⟩) hHeld ?_ ?_
    rotate_left
    · rintro w' ⟨s0, s1, s2⟩
      go_simp
      with_reducible rfl
    rotate_left
    · simp only [Act.put, List.setIfInBounds_toArray, List.set_cons_zero, List.set_cons_succ, i64_w, i32_w]
      rfl
    refine pure_ (i := 13) (N := some 55) (v := ?_) (a' := ?_) #[true, true, true, true, true, true, true, true, true, true, true, true, true, true, false, false, false, false] rfl rfl (by kernel_rfl) (fun _ _ _ h => h) (Or.inl ⟨by rfl, ?_⟩) ?_ ?_
    rotate_left
    · intro w'
      go_simp
      with_reducible rfl
    rotate_left
    · simp only [Act.put, List.setIfInBounds_toArray, List.set_cons_zero, List.set_cons_succ, i64_w, i32_w]
      rfl
    refine pure_ (i := 14) (N := some 56) (v := ?_) (a' := ?_) #[true, true, true, true, true, true, true, true, true, true, true, true, true, true, true, false, false, false] rfl rfl (by kernel_rfl) (fun _ _ _ h => h) (Or.inl ⟨by rfl, ?_⟩) ?_ ?_
    rotate_left
    · intro w'
      go_simp
      with_reducible rfl
    rotate_left
    · simp only [Act.put, List.setIfInBounds_toArray, List.set_cons_zero, List.set_cons_succ, i64_w, i32_w]
      rfl
    refine one_ (i := 15) (N := some 57) #[true, true, true, true, true, true, true, true, true, true, true, true, true, true, true, true, false, false] rfl rfl (by kernel_rfl) (by decide) (fun K hK => ?_)
    refine Kd.R_make_step k59 (w0 := WB) WB.heap.size 59 (by rfl) (N := 57) rfl 71 (.tmp 56) (.tmp 56) rfl (2 * (W.length : Int)) (by rfl) (by rfl) Try.underlying71 (.agg #[.bool false, .int .i64 0, .int .i64 0, .int .i64 0]) 32 info59 rfl (by decide) (by omega) z59 (ok := fun _ => True) (okp := fun _ => False) (k59_mkM _ _ _ _) (fun _ h => h.elim) trivial (by omega) (by omega) HS.out.below HS.out.below.size ?_
    intro v57 wm hr hb hgr hat
    rw [show (2 * (W.length : Int)).toNat = 2 * W.length by omega] at hr
    obtain ⟨b, c, hv⟩ := R_form hr (by rw [List.length_replicate]; exact hz.out)
    rw [List.length_replicate] at hv
    subst hv
    have hfb : wd.heap.size ≤ b := by obtain ⟨b', e, hl⟩ := hat; simp [Value.ownBlock] at e; omega
    have hbm : Below wd.heap.size wd wm := ⟨hgr.os, hgr.tape, hgr.output, hgr.size, fun k hk => hgr.block k hk (by simp)⟩
    clear hb hgr hat
    refine hK.out _ _ ⟨(KN.cells (ST.step HS.out hbm).kn).1, (KN.cells (ST.step HS.out hbm).kn).2, ((ST.step HS.out hbm).below.cell (World.block_lt_of_cell? _ _ HMA1.out)).trans HMA1.out⟩ (fun hHeld => ?_)
    clear hK K
    refine norm_ (a' := ?_) ?_ ?_
    rotate_left
    · show Act.put _ (some 57) _ = _
      simp only [Act.put, List.setIfInBounds_toArray, List.set_cons_zero, List.set_cons_succ, i64_w, i32_w]
      rfl
    refine pure_ (i := 16) (N := some 58) (v := ?_) (a' := ?_) #[true, true, true, true, true, true, true, true, true, true, true, true, true, true, true, true, true, false] rfl rfl (by kernel_rfl) (fun _ _ _ h => h) (Or.inl ⟨by rfl, ?_⟩) ?_ ?_
    rotate_left
    · intro w'
      go_simp
      with_reducible rfl
    rotate_left
    · simp only [Act.put, List.setIfInBounds_toArray, List.set_cons_zero, List.set_cons_succ, i64_w, i32_w]
      rfl
    refine last_ (i := 17) (N := none) #[true, true, true, true, true, true, true, true, true, true, true, true, true, true, true, true, true, true] rfl rfl (by kernel_rfl) (by decide) (fun K hK => ?_)
    obtain ⟨hq1, hq2⟩ := KN.cellTop (ST.step HS.out hbm).kn f f0 f1
    replace hq1 : wm.cell? ⟨gk, f.toNat, none⟩ = some (.slice none 0 0) := by rw [hq1, List.getD_eq_getElem?_getD, HO'.out]; rfl
    refine skip_ (w1 := ?_) (by rfl) rfl ?_ ?_
    rotate_left
    · go_simp
      rfl
    refine hK.out _ _ ?_
    clear hK K
    refine done_ (by kernel_rfl) ?_
    have hnew := (ST.new HS.out HO'.out hbm hr hfb).1
    have h8n := Bx.newrow (u := .slice (some ⟨b, 0, none⟩) (2 * W.length) c) (i := f.toNat) (c := c) H8.out hbm hfb
    go_wp2
    go_meet
    exact ⟨rs.set f.toNat (some (b, c)), b, c, by rw [List.getElem?_set_self (by omega)], ⟨hnew⟩, ⟨h8n⟩⟩
  case rest =>
   clear hka0 hka1 hkt hkf HS H8 HO'
   obtain ⟨rs1, br, cr, hrow, HS, H8⟩ := hcut
   have HRW := Aside0.mk hrow
   obtain ⟨hka0, hka1⟩ := KN.cells HS.out.kn
   have hma1 := (HS.out.below.cell (World.block_lt_of_cell? _ _ HMA1.out)).trans HMA1.out
   obtain ⟨hkt, hkf⟩ := KN.cellTop HS.out.kn f f0 f1
   have hlen1 := HS.out.kn.len
   have hq : rs1.getD f.toNat none = some (br, cr) := by rw [List.getD_eq_getElem?_getD, hrow]; rfl
   rw [hq] at hkt
   replace hkt : wc.cell? ⟨gk, f.toNat, none⟩ = some (.slice (some ⟨br, 0, none⟩) (2 * W.length) cr) := hkt
   obtain ⟨p, hp, ⟨hp0, hp1, hp2, hp3⟩, hpf⟩ := KN.cellRow HS.out.kn hrow key hk0.1 hk0.2
   rw [HPB.out] at hp
   have HP := Aside0.mk hp
   clear hp hrow hq hpf
   have hkl : key < ((2 * W.length : Nat) : Int) := by omega
   have hkl0 : 0 ≤ key := hk0.1
   have G8B : Aside0 (WB.heap.size ≤ g8) := ⟨by have := HB0.out; have := G8.out; omega⟩
   have GB8 := G8B
   clear G8B
   obtain ⟨q0, q1, q2, q3⟩ := p
   cases q0 with
   | true =>
    rcases HP.out with h | h
    · cases h
    clear HP
    injection h with _ h1 h2 h3
    subst h1; subst h2; subst h3
    go_upto_region 8 with (first
     | ((with_reducible refine gate_dst (N := 10) rfl ?_); refine box_event ?hg (N := 10) ?hd (cs := #[.bool false, .int .i64 0, .int .i64 0, .int .i64 0]) (t := 59) ?hr ?_; (case hd => rfl); (case hg => rfl); (case hr => first | (go_simp; done) | (go_simp; rfl)); intro g10 hg wb10 hbox hb; (have hbx := Bx.new HS.out (Nat.le_of_eq hg.symm) hbox); (have hge : w.heap.size ≤ g10 := by rw [hg]; exact HS.out.kept.1); (have hgb : WB.heap.size ≤ g10 := by rw [hg]; exact HS.out.below.size); (have NE8_10 : Aside0 (g8 ≠ g10) := ⟨by have := blk_lt H8.out.1; omega⟩); (have hss := ST.step HS.out hb); (have hx8 := Bx.below H8.out hb); clear HS H8; (have HS := Aside0.mk hss); (have H8 := Aside0.mk hx8); clear hss hx8; (have H10 := Aside0.mk hbx); (have G10 := Aside0.mk hge); (have GB10 := Aside0.mk hgb); clear hbx hge hgb hg hbox hb)
     | ((with_reducible refine gate_store (t := 59) (p := 10) rfl ?_); refine agg_event (w0 := WB) rfl rfl 59 (.tmp 10) (.tmp 68) rfl (g := g10) (e := 59) (.agg #[.bool true, .int .i64 (bestP L W D f nm fl).1, .int .i64 (bestP L W D f nm fl).2.1, .int .i64 (bestP L W D f nm fl).2.2]) [.bool true, .int .i64 (bestP L W D f nm fl).1, .int .i64 (bestP L W D f nm fl).2.1, .int .i64 (bestP L W D f nm fl).2.2] rfl rfl rfl (by kernel_rfl) H10.out.1 rfl (by simp only [List.mem_cons, List.not_mem_nil, or_false, forall_eq_or_imp, forall_eq]; exact ⟨rfl, rfl, rfl, rfl⟩) HS.out.below GB10.out ?_; intro ws10 hbox hb hgr; (have hss := ST.far HS.out hgr H10.out.2 (Bx.ne_gw H10.out HS.out (by decide)) G10.out GB10.out); (have hbx : Bx gk _ ws10 g10 #[.bool true, .int .i64 (bestP L W D f nm fl).1, .int .i64 (bestP L W D f nm fl).2.1, .int .i64 (bestP L W D f nm fl).2.2] 59 := ⟨hbox, H10.out.2⟩); (have hx8 := Bx.grown H8.out hgr NE8_10.out); clear HS H8; (have HS := Aside0.mk hss); (have H8 := Aside0.mk hx8); clear hss hx8; clear H10; (have H10 := Aside0.mk hbx); clear hbx hbox hb hgr))
    clear hp0 hp1 hp2 hp3
    obtain ⟨hc10_0, hc10_1, hc10_2, hc10_3⟩ := Go.Proofs.Ythapclmfkjldaaa.Cells.cells4 H10.out.1
    go_wp2_with (((with_reducible refine gate_store (t := 59) (p := 8) rfl ?_); refine agg_event (w0 := WB) rfl rfl 59 (.tmp 8) (.tmp 71) rfl (g := g8) (e := 59) (.agg #[.bool true, .int .i64 (bestP L W D f nm fl).1, .int .i64 (bestP L W D f nm fl).2.1, .int .i64 (bestP L W D f nm fl).2.2]) [.bool true, .int .i64 (bestP L W D f nm fl).1, .int .i64 (bestP L W D f nm fl).2.1, .int .i64 (bestP L W D f nm fl).2.2] rfl rfl rfl (by kernel_rfl) H8.out.1 rfl (by simp only [List.mem_cons, List.not_mem_nil, or_false, forall_eq_or_imp, forall_eq]; exact ⟨rfl, rfl, rfl, rfl⟩) HS.out.below GB8.out ?_; intro ws8 hbox hb hgr; (have hss := ST.far HS.out hgr H8.out.2 (Bx.ne_gw H8.out HS.out (by decide)) G8.out GB8.out); (have hbx : Bx gk _ ws8 g8 #[.bool true, .int .i64 (bestP L W D f nm fl).1, .int .i64 (bestP L W D f nm fl).2.1, .int .i64 (bestP L W D f nm fl).2.2] 59 := ⟨hbox, H8.out.2⟩); clear HS; (have HS := Aside0.mk hss); clear hss; clear H8; (have H8 := Aside0.mk hbx); clear hbx hbox hb hgr))
    refine bodyPost_ret (results_cell_row rfl _ _ g8 59 #[.bool true, .int .i64 (bestP L W D f nm fl).1, .int .i64 (bestP L W D f nm fl).2.1, .int .i64 (bestP L W D f nm fl).2.2] (0, 0) _ rfl H8.out.1 Try.underlying59 rfl (by kernel_rfl)) rfl ?_
    exact ⟨rfl, rs1, HS.out⟩
   | false =>
    clear HP
    go_upto_region 8 with (first
     | ((with_reducible refine gate_dst (N := 10) rfl ?_); refine box_event ?hg (N := 10) ?hd (cs := #[.bool false, .int .i64 0, .int .i64 0, .int .i64 0]) (t := 59) ?hr ?_; (case hd => rfl); (case hg => rfl); (case hr => first | (go_simp; done) | (go_simp; rfl)); intro g10 hg wb10 hbox hb; (have hbx := Bx.new HS.out (Nat.le_of_eq hg.symm) hbox); (have hge : w.heap.size ≤ g10 := by rw [hg]; exact HS.out.kept.1); (have hgb : WB.heap.size ≤ g10 := by rw [hg]; exact HS.out.below.size); (have NE8_10 : Aside0 (g8 ≠ g10) := ⟨by have := blk_lt H8.out.1; omega⟩); (have hss := ST.step HS.out hb); (have hx8 := Bx.below H8.out hb); clear HS H8; (have HS := Aside0.mk hss); (have H8 := Aside0.mk hx8); clear hss hx8; (have H10 := Aside0.mk hbx); (have G10 := Aside0.mk hge); (have GB10 := Aside0.mk hgb); clear hbx hge hgb hg hbox hb)
     | ((with_reducible refine gate_store (t := 59) (p := 10) rfl ?_); refine agg_event (w0 := WB) rfl rfl 59 (.tmp 10) (.tmp 68) rfl (g := g10) (e := 59) (.agg #[.bool false, .int .i64 q1, .int .i64 q2, .int .i64 q3]) [.bool false, .int .i64 q1, .int .i64 q2, .int .i64 q3] rfl rfl rfl (by kernel_rfl) H10.out.1 rfl (by simp only [List.mem_cons, List.not_mem_nil, or_false, forall_eq_or_imp, forall_eq]; exact ⟨rfl, rfl, rfl, rfl⟩) HS.out.below GB10.out ?_; intro ws10 hbox hb hgr; (have hss := ST.far HS.out hgr H10.out.2 (Bx.ne_gw H10.out HS.out (by decide)) G10.out GB10.out); (have hbx : Bx gk _ ws10 g10 #[.bool false, .int .i64 q1, .int .i64 q2, .int .i64 q3] 59 := ⟨hbox, H10.out.2⟩); (have hx8 := Bx.grown H8.out hgr NE8_10.out); clear HS H8; (have HS := Aside0.mk hss); (have H8 := Aside0.mk hx8); clear hss hx8; clear H10; (have H10 := Aside0.mk hbx); clear hbx hbox hb hgr))
    obtain ⟨hc10_0, hc10_1, hc10_2, hc10_3⟩ := Go.Proofs.Ythapclmfkjldaaa.Cells.cells4 H10.out.1
    clear hp0 hp1 hp2 hp3
    go_upto_region 11 with (first
     | ((with_reducible refine gate_dst (N := 11) rfl ?_); refine box_event ?hg (N := 11) ?hd (cs := #[.bool false, .int .i64 0, .int .i64 0, .int .i64 0]) (t := 59) ?hr ?_; (case hd => rfl); (case hg => rfl); (case hr => first | (go_simp; done) | (go_simp; rfl)); intro g11 hg wb11 hbox hb; (have hbx := Bx.new HS.out (Nat.le_of_eq hg.symm) hbox); (have hge : w.heap.size ≤ g11 := by rw [hg]; exact HS.out.kept.1); (have hgb : WB.heap.size ≤ g11 := by rw [hg]; exact HS.out.below.size); (have NE8_11 : Aside0 (g8 ≠ g11) := ⟨by have := blk_lt H8.out.1; omega⟩); (have hss := ST.step HS.out hb); (have hx8 := Bx.below H8.out hb); clear HS H8; (have HS := Aside0.mk hss); (have H8 := Aside0.mk hx8); clear hss hx8; (have H11 := Aside0.mk hbx); (have G11 := Aside0.mk hge); (have GB11 := Aside0.mk hgb); clear hbx hge hgb hg hbox hb)
     | ((with_reducible refine gate_store (t := 59) (p := 11) rfl ?_); refine agg_event (w0 := WB) rfl rfl 59 (.tmp 11) (.tmp 72) rfl (g := g11) (e := 59) (.agg #[.bool true, .int .i64 (-1), .int .i64 0, .int .i64 0]) [.bool true, .int .i64 (-1), .int .i64 0, .int .i64 0] rfl rfl rfl (by kernel_rfl) H11.out.1 rfl (by simp only [List.mem_cons, List.not_mem_nil, or_false, forall_eq_or_imp, forall_eq]; exact ⟨rfl, rfl, rfl, rfl⟩) HS.out.below GB11.out ?_; intro ws11 hbox hb hgr; (have hss := ST.far HS.out hgr H11.out.2 (Bx.ne_gw H11.out HS.out (by decide)) G11.out GB11.out); (have hbx : Bx gk _ ws11 g11 #[.bool true, .int .i64 (-1), .int .i64 0, .int .i64 0] 59 := ⟨hbox, H11.out.2⟩); (have hx8 := Bx.grown H8.out hgr NE8_11.out); clear HS H8; (have HS := Aside0.mk hss); (have H8 := Aside0.mk hx8); clear hss hx8; clear H11; (have H11 := Aside0.mk hbx); clear hbx hbox hb hgr))
    obtain ⟨hka0, hka1⟩ := KN.cells HS.out.kn
    obtain ⟨E, hE⟩ : ∃ E, endsE L W f nm = E := ⟨_, rfl⟩
    have HEE := Aside0.mk hE
    clear hE
    go_wp2_with (go_at_call 30; refine (ends_ok _ g L W D _ _ _ _ (MK.below HM.out HS.out.below) HBD.out f nm f0 f1 hnm1 (by omega)).mono ?_; rintro e wE ⟨v79, rfl, ho, hb⟩; (have hoo : Kd.R k41 41 wE _ (fun _ => True) v79 (endsE L W f nm) := ho); rw [HEE.out] at hoo; obtain ⟨Ao, co, rfl⟩ := Kd.R_slice hoo; (have HO := Aside0.mk hoo); clear ho hoo; (have hss := ST.step HS.out hb); (have hx8 := Bx.below H8.out hb); (have hx11 := Bx.below H11.out hb); clear HS H8 H11; (have HS := Aside0.mk hss); (have H8 := Aside0.mk hx8); (have H11 := Aside0.mk hx11); clear hss hx8 hx11; clear hb)
    obtain ⟨bE, hbE⟩ : ∃ q, ws11.heap.size = q := ⟨_, rfl⟩
    rw [hbE] at HO
    clear hbE
    obtain ⟨r, hr⟩ : ∃ r : S41 → Int × Int × Int, (fun x => bestP L W D (nxt L x.f1) (capN W (nm + 1)) (flagP L x.f1)) = r := ⟨_, rfl⟩
    have HBE := Aside0.mk (bestP_eq L W D f nm fl f0 f1)
    have HBB := Aside0.mk (fun k (s : Int × Int × Int) => fold_bd L W D HF.out hD w1 HWd.out f nm fl f0 f1 hnm1 r (fun x hx hl => by
     obtain ⟨t, ft, t1, e⟩ := endsE_mem L W f nm x hx
     have ex : x.f1 = t := by rw [e]; rfl
     have hb := nxt_lt L x.f1 (by omega) (by omega) hl
     rw [← hr]
     exact bestP_bd L W D HF.out hD w1 HWd.out _ _ _ (by omega) (by omega) (capN_nn L W D HF.out hD w1 HWd.out _ (by omega))) ((endsE L W f nm).take k) s (fun x hx => List.mem_of_mem_take hx))
    have HEM := Aside0.mk (endsE_mem L W f nm)
    rw [hr] at HBE
    have HR := Aside0.mk hr
    clear hr
    rw [HEE.out] at HBE HEM HBB
    go_loopw [81] (fun v81 w' => ∃ (i : Nat) (rs2 : List (Option (Nat × Nat))), v81 = .int .i64 (i : Int) ∧ i ≤ E.length ∧ Aside0 (ST WB g gw gk ck L.length W.length (planB L W D) w rs w' rs2) ∧ Aside0 (rs2[f.toNat]? = some (some (br, cr))) ∧ Aside0 (Bx gk rs2 w' g8 #[.bool false, .int .i64 0, .int .i64 0, .int .i64 0] 59) ∧ Aside0 (Bx gk rs2 w' g11 #[.bool true, .int .i64 ((E.take i).foldl (LinesP.stepG L D fl r) (-1, 0, 0)).1, .int .i64 ((E.take i).foldl (LinesP.stepG L D fl r) (-1, 0, 0)).2.1, .int .i64 ((E.take i).foldl (LinesP.stepG L D fl r) (-1, 0, 0)).2.2] 59) ∧ Aside0 (Kd.R k41 41 w' bE (fun _ => True) (.slice Ao E.length co) E)) (fun v81 _ => E.length - (intOf v81).toNat)
    case atStart => exact ⟨0, rs1, rfl, Nat.zero_le _, HS, HRW, H8, H11, HO⟩
    case round => as_aux_lemma =>
     clear HS HRW H8 H11 HO hka0 hka1
     obtain ⟨i, rs2, rfl, hi, HS, HRW, H8, H11, HO⟩ := hrel
     obtain ⟨s, hs⟩ : ∃ s, (E.take i).foldl (LinesP.stepG L D fl r) (-1, 0, 0) = s := ⟨_, rfl⟩
     have hsb := HBB.out i (-1, 0, 0) (by unfold Bnd; dsimp only; omega)
     rw [hs] at hsb
     rw [hs] at H11
     have HFO := Aside0.mk hs
     clear hs
     obtain ⟨s0, s1, s2⟩ := s
     have H11' := Aside0.mk (show Bx gk rs2 wr g11 #[.bool true, .int .i64 s0, .int .i64 s1, .int .i64 s2] 59 from H11.out)
     clear H11
     have H11 := H11'
     clear H11'
     by_cases hlt : (i : Int) < (E.length : Int)
     · have hil : i < E.length := Int.ofNat_lt.1 hlt
       have hi1 : i + 1 ≤ E.length := hil
       have hms : E.length - (i + 1) < E.length - i := Nat.sub_lt_sub_left hil (Nat.lt_succ_self i)
       have hel : E.length ≤ 9223372036854775807 := R_max HO.out
       have wi : wrap64 ((i : Int) + 1) = (i : Int) + 1 := w64 (Int.le_trans (by decide) (Int.add_nonneg (Int.natCast_nonneg i) (by decide))) (Int.le_trans (Int.ofNat_le.2 hi1) (Int.ofNat_le.2 hel))
       have wi' := (i64_w ((i : Int) + 1)).trans wi
       have HIL := Aside0.mk hi1
       have HMS := Aside0.mk hms
       have HWI := Aside0.mk (And.intro wi wi')
       clear hil hi1 hms hel wi wi'
       obtain ⟨⟨sb1, sb2⟩, ⟨sb3, sb4⟩, sb5, sb6⟩ := hsb
       dsimp only at sb1 sb2 sb3 sb4 sb5 sb6
       have hltb : decide ((i : Int) < (E.length : Int)) = true := decide_eq_true hlt
       obtain ⟨hln, hlc, hC⟩ := Kd.R_reads' HO.out
       obtain ⟨ad, ea, hx0, hx1, hx2, hx3, hx4, hx5⟩ := at_T41 hC (i : Int) (by omega) hlt
       subst ea
       clear hln hlc hC
       obtain ⟨x, hx⟩ : ∃ x, rd_T41 E (i : Int) = x := ⟨_, rfl⟩
       have hxm : x ∈ E := by rw [← hx]; exact Lib.getD_mem (by omega) hlt
       have hget : E[i]'(by omega) = x := by
        rw [← hx]
        unfold rd_T41
        rw [Int.toNat_natCast, List.getD_eq_getElem?_getD, List.getElem?_eq_getElem (by omega), Option.getD_some]
       have HNX : Aside0 ((E.take (i + 1)).foldl (LinesP.stepG L D fl r) (-1, 0, 0) = LinesP.stepG L D fl r (s0, s1, s2) x) := ⟨by rw [List.take_succ_eq_append_getElem (by omega), List.foldl_append, HFO.out, hget]; rfl⟩
       simp only [hx, Int.toNat_natCast] at hx0 hx1 hx2 hx3 hx4 hx5
       obtain ⟨t, ht0, ht1, hxt⟩ := HEM.out x hxm
       have hxb := ln_bd L W HF.out w1 HWd.out f nm t f0 ht0 ht1 hnm1
       rw [← hxt] at hxb
       have hx1t : x.f1 = t := by rw [hxt]; rfl
       have xt0 : 0 ≤ x.f1 := by omega
       have xtf : f ≤ x.f1 := by omega
       have xt1 : x.f1 ≤ (L.length : Int) := by omega
       obtain ⟨hcb1, hcb2⟩ := costR_bd L D HF.out hD x fl xt0 hxb.1 hxb.2.1.1 hxb.2.2.1 hxb.2.2.2
       have HXB := Aside0.mk hxb
       clear hx hxm hget hxt hxb hx1t ht0 ht1 t
       obtain ⟨cp, hcp⟩ : ∃ q, costP L (begT L (-1)) x = q := ⟨_, rfl⟩
       rw [hcp] at hcb1
       obtain ⟨fb, hfb⟩ : ∃ b, (fl && flagP L x.f1) = b := ⟨_, rfl⟩
       obtain ⟨cc, hcc⟩ : ∃ q, costR L D x fl = q := ⟨_, rfl⟩
       rw [hcc] at hcb2
       have HCC := Aside0.mk hcc
       unfold costR at hcc
       rw [hcp, hfb] at hcc
       have HCV := Aside0.mk hcc
       have HCP := Aside0.mk hcp
       have HFB := Aside0.mk hfb
       obtain ⟨la, hla⟩ : ∃ b, lastP L x.f1 = b := ⟨_, rfl⟩
       have HLA := Aside0.mk hla
       clear hcc hcp hfb hla
       have hMK : ∀ W2, Below WB.heap.size WB W2 → MK W2 g L W D (fillT hW1 L (L.length : Int)) (fillT (·.f2) L (L.length : Int)) (fillT (·.f3) L (L.length : Int)) (begT L (-1)) := fun W2 h => MK.below HM.out h
       have HMK := Aside0.mk hMK
       clear hMK
       have hL25 : ∀ W2, Below WB.heap.size WB W2 → Calls Try.prog 25 #[.pointer (some ⟨g, 0, none⟩), .int .i64 x.f1] W2 fun e w' => e = .returned (.bool la) ∧ Below W2.heap.size W2 w' := fun W2 h => (last_ok W2 g L W D _ _ _ _ x.f1 (HMK.out W2 h) xt0 xt1 hin HBL.out).mono fun e w' ⟨h1, h2⟩ => ⟨h1.trans (by rw [show (afterP L (begT L (-1)) x.f1 == (L.length : Int)) = la from HLA.out]), h2⟩
       have HL25 := Aside0.mk hL25
       have hL26 : ∀ W2, Below WB.heap.size WB W2 → Calls Try.prog 26 #[.pointer (some ⟨g, 0, none⟩), .int .i64 x.f1] W2 fun e w' => e = .returned (.int .i64 (nxt L x.f1)) ∧ w' = W2 := fun W2 h => after_ok W2 g L W D _ _ _ _ x.f1 (HMK.out W2 h) xt0 xt1 hin HBL.out
       have HL26 := Aside0.mk hL26
       have hL27 : ∀ W2, Below WB.heap.size WB W2 → Calls Try.prog 27 #[.pointer (some ⟨g, 0, none⟩), .int .i64 x.f1] W2 fun e w' => e = .returned (.bool (flagP L x.f1)) ∧ w' = W2 := fun W2 h => flag_ok W2 g L W D _ _ _ _ x.f1 (HMK.out W2 h) xt0 xt1 hin
       have HL27 := Aside0.mk hL27
       have hL31 : ∀ W2, Below WB.heap.size WB W2 → Calls Try.prog 31 #[.pointer (some ⟨g, 0, none⟩), .agg #[.int .i64 x.f0, .int .i64 x.f1, .int .i64 x.f2, .int .i64 x.f3, .int .i64 x.f4, .int .i64 x.f5]] W2 fun e w' => e = .returned (.int .i64 cp) ∧ Below W2.heap.size W2 w' := fun W2 h => (cost_ok W2 g L W D _ _ _ _ (HMK.out W2 h) HBD.out x.f0 x.f1 x.f2 x.f3 x.f4 x.f5 xt0 xt1 HXB.out.1 HXB.out.2.1 HXB.out.2.2.1 HXB.out.2.2.2).mono fun e w' ⟨h1, h2⟩ => ⟨h1.trans (by rw [show costP L (begT L (-1)) ⟨x.f0, x.f1, x.f2, x.f3, x.f4, x.f5⟩ = cp from HCP.out]), h2⟩
       have HL31 := Aside0.mk hL31
       clear hL25 hL26 hL27 hL31
       go_upto_region 14 with (first
        | ((with_reducible refine gate_dst (N := 13) rfl ?_); refine box_event ?hg (N := 13) ?hd (cs := #[.int .i64 0, .int .i64 0, .int .i64 0, .int .i64 0, .int .i64 0, .int .i64 0]) (t := 41) ?hr ?_; (case hd => rfl); (case hg => rfl); (case hr => first | (go_simp; done) | (go_simp; rfl)); intro g13 hg wb13 hbox hb; (have hbx := Bx.new HS.out (Nat.le_of_eq hg.symm) hbox); (have hge : w.heap.size ≤ g13 := by rw [hg]; exact HS.out.kept.1); (have hgb : WB.heap.size ≤ g13 := by rw [hg]; exact HS.out.below.size); (have NE8_13 : Aside0 (g8 ≠ g13) := ⟨by have := blk_lt H8.out.1; omega⟩); (have NE11_13 : Aside0 (g11 ≠ g13) := ⟨by have := blk_lt H11.out.1; omega⟩); (have hss := ST.step HS.out hb); (have hx8 := Bx.below H8.out hb); (have hx11 := Bx.below H11.out hb); (have hoo := Kd.R_below (Kd.R_elderB HO.out g13 (Nat.le_of_eq hg.symm)) hb); clear HS H8 H11 HO; (have HS := Aside0.mk hss); (have H8 := Aside0.mk hx8); (have H11 := Aside0.mk hx11); (have HO := Aside0.mk hoo); clear hss hx8 hx11 hoo; (have H13 := Aside0.mk hbx); (have G13 := Aside0.mk hge); (have GB13 := Aside0.mk hgb); clear hbx hge hgb hg hbox hb)
        | ((with_reducible refine gate_store (t := 41) (p := 13) rfl ?_); refine agg_event (w0 := WB) rfl rfl 41 (.tmp 13) (.tmp 84) rfl (g := g13) (e := 41) (.agg #[.int .i64 x.f0, .int .i64 x.f1, .int .i64 x.f2, .int .i64 x.f3, .int .i64 x.f4, .int .i64 x.f5]) [.int .i64 x.f0, .int .i64 x.f1, .int .i64 x.f2, .int .i64 x.f3, .int .i64 x.f4, .int .i64 x.f5] rfl rfl rfl (by kernel_rfl) H13.out.1 rfl (by simp only [List.mem_cons, List.not_mem_nil, or_false, forall_eq_or_imp, forall_eq]; exact ⟨rfl, rfl, rfl, rfl, rfl, rfl⟩) HS.out.below GB13.out ?_; intro ws13 hbox hb hgr; (have hss := ST.far HS.out hgr H13.out.2 (Bx.ne_gw H13.out HS.out (by decide)) G13.out GB13.out); (have hbx : Bx gk _ ws13 g13 #[.int .i64 x.f0, .int .i64 x.f1, .int .i64 x.f2, .int .i64 x.f3, .int .i64 x.f4, .int .i64 x.f5] 41 := ⟨hbox, H13.out.2⟩); (have hx8 := Bx.grown H8.out hgr NE8_13.out); (have hx11 := Bx.grown H11.out hgr NE11_13.out); (have hoo := Kd.R_grown HO.out hgr (fun k hk e => hk.2 (by injection e))); clear HS H8 H11 HO; (have HS := Aside0.mk hss); (have H8 := Aside0.mk hx8); (have H11 := Aside0.mk hx11); (have HO := Aside0.mk hoo); clear hss hx8 hx11 hoo; clear H13; (have H13 := Aside0.mk hbx); clear hbx hbox hb hgr))
       clear hx0 hx1 hx2 hx3 hx4 hx5
       obtain ⟨hc13_0, hc13_1, hc13_2, hc13_3, hc13_4, hc13_5⟩ := Go.Proofs.Ythapclmfkjldaaa.Cells.cells6 H13.out.1
       obtain ⟨hka0, hka1⟩ := KN.cells HS.out.kn
       (try simp only [Act.put, List.setIfInBounds_toArray, List.set_cons_zero, List.set_cons_succ])
       go_cut [14, 15] (fun v14 v15 wc => v14 = .int .i64 cp ∧ v15 = .int .i64 1 ∧ Aside0 (ST WB g gw gk ck L.length W.length (planB L W D) w rs wc rs2) ∧ Aside0 (Bx gk rs2 wc g8 #[.bool false, .int .i64 0, .int .i64 0, .int .i64 0] 59) ∧ Aside0 (Bx gk rs2 wc g11 #[.bool true, .int .i64 s0, .int .i64 s1, .int .i64 s2] 59) ∧ Aside0 (Bx gk rs2 wc g13 #[.int .i64 x.f0, .int .i64 x.f1, .int .i64 x.f2, .int .i64 x.f3, .int .i64 x.f4, .int .i64 x.f5] 41) ∧ Aside0 (Kd.R k41 41 wc bE (fun k => True ∧ k ≠ g13) (.slice (some ad) E.length co) E))
       case first => as_aux_lemma =>
        go_region_with (go_at_call 31; refine (HL31.out _ ?hq).mono ?_; (case hq => exact below_drew1 HS.out.below); rintro e w31_ ⟨rfl, hb⟩; (have hb := below_step (below_drew1 (Below.refl ws13.heap.size ws13)) hb); (have hss := ST.step HS.out hb); (have hx8 := Bx.below H8.out hb); (have hx11 := Bx.below H11.out hb); (have hx13 := Bx.below H13.out hb); (have hoo := Kd.R_below HO.out hb); clear HS H8 H11 H13 HO; (have HS := Aside0.mk hss); (have H8 := Aside0.mk hx8); (have H11 := Aside0.mk hx11); (have H13 := Aside0.mk hx13); (have HO := Aside0.mk hoo); clear hss hx8 hx11 hx13 hoo; clear hb)
        all_goals go_wp2
        all_goals go_meet
        all_goals exact ⟨rfl, rfl, HS, H8, H11, H13, HO⟩
       case rest =>
        clear HS H8 H11 H13 HO hka0 hka1 hc13_0 hc13_1 hc13_2 hc13_3 hc13_4 hc13_5
        obtain ⟨rfl, rfl, HS, H8, H11, H13, HO⟩ := hcut
        obtain ⟨hka0, hka1⟩ := KN.cells HS.out.kn
        obtain ⟨hc13_0, hc13_1, hc13_2, hc13_3, hc13_4, hc13_5⟩ := Go.Proofs.Ythapclmfkjldaaa.Cells.cells6 H13.out.1
        go_upto_region 15 with (fail)
        (try simp only [Act.put, List.setIfInBounds_toArray, List.set_cons_zero, List.set_cons_succ])
        go_cut [100] (fun v100 wc => v100 = .bool fb ∧ Aside0 (ST WB g gw gk ck L.length W.length (planB L W D) w rs wc rs2) ∧ Aside0 (Bx gk rs2 wc g8 #[.bool false, .int .i64 0, .int .i64 0, .int .i64 0] 59) ∧ Aside0 (Bx gk rs2 wc g11 #[.bool true, .int .i64 s0, .int .i64 s1, .int .i64 s2] 59) ∧ Aside0 (Bx gk rs2 wc g13 #[.int .i64 x.f0, .int .i64 x.f1, .int .i64 x.f2, .int .i64 x.f3, .int .i64 x.f4, .int .i64 x.f5] 41) ∧ Aside0 (Kd.R k41 41 wc bE (fun k => True ∧ k ≠ g13) (.slice (some ad) E.length co) E))
        case first => as_aux_lemma =>
         have hfb := HFB.out
         clear HFB HCC
         have HSD := Aside0.mk (ST.step HS.out (below_drew1 (Below.refl wc.heap.size wc)))
         have H13D := Aside0.mk (Bx.below H13.out (below_drew1 (Below.refl wc.heap.size wc)))
         have H8D := Aside0.mk (Bx.below H8.out (below_drew1 (Below.refl wc.heap.size wc)))
         have H11D := Aside0.mk (Bx.below H11.out (below_drew1 (Below.refl wc.heap.size wc)))
         have HOD := Aside0.mk (Kd.R_below HO.out (below_drew1 (Below.refl wc.heap.size wc)))
         clear hka0 hka1 hc13_0 hc13_1 hc13_2 hc13_3 hc13_4 hc13_5
         cases fl with
         | false =>
          refine start_ (n := 10) (S := fun w' => w'.cell? ⟨gw, 0, none⟩ = some (.pointer (some ⟨g, 0, none⟩)) ∧ w'.cell? ⟨g13, 1, none⟩ = some (.int .i64 x.f1)) (ds := []) #[false, false, false, false, false, false, false, false, false, false] (by kernel_rfl) rfl rfl ⟨(KN.cells HSD.out.kn).1, (blk_cell H13D.out.1 1).trans rfl⟩ (fun hHeld => ?_)
          generalize wc.drew = wd at HSD H8D H11D H13D HOD hHeld ⊢
          clear HS H8 H11 H13 HO
          have HS := HSD
          have H8 := H8D
          have H11 := H11D
          have H13 := H13D
          have HO := HOD
          clear HSD H8D H11D H13D HOD
          refine pure_ (i := 0) (N := some 91) (v := ?_) (a' := ?_) #[true, false, false, false, false, false, false, false, false, false] rfl rfl (by kernel_rfl) (fun _ _ _ h => h) (Or.inl ⟨by rfl, ?_⟩) ?_ ?_
          rotate_left
          · intro w'
            go_simp
            with_reducible rfl
          rotate_left
          · simp only [Act.put, List.setIfInBounds_toArray, List.set_cons_zero, List.set_cons_succ, i64_w, i32_w]
            rfl
          refine pure_ (i := 1) (N := some 92) (v := ?_) (a' := ?_) #[true, true, false, false, false, false, false, false, false, false] rfl rfl (by kernel_rfl) (fun _ _ _ h => h) (Or.inl ⟨by rfl, ?_⟩) ?_ ?_
          rotate_left
          · intro w'
            go_simp
            with_reducible rfl
          rotate_left
          · simp only [Act.put, List.setIfInBounds_toArray, List.set_cons_zero, List.set_cons_succ, i64_w, i32_w]
            rfl
          refine pure_ (i := 2) (N := some 93) (v := undef) (a' := ?_) #[true, true, true, false, false, false, false, false, false, false] rfl rfl (by kernel_rfl) (fun _ _ _ h => h) (Or.inr ⟨by rfl, rfl⟩) ?_ ?_
          rotate_left
          · simp only [Act.put, List.setIfInBounds_toArray, List.set_cons_zero, List.set_cons_succ, i64_w, i32_w]
            rfl
          refine pure_ (i := 3) (N := some 94) (v := undef) (a' := ?_) #[true, true, true, true, false, false, false, false, false, false] rfl rfl (by kernel_rfl) (fun _ _ _ h => h) (Or.inr ⟨by rfl, rfl⟩) ?_ ?_
          rotate_left
          · simp only [Act.put, List.setIfInBounds_toArray, List.set_cons_zero, List.set_cons_succ, i64_w, i32_w]
            rfl
          refine pure_ (i := 4) (N := some 95) (v := undef) (a' := ?_) #[true, true, true, true, true, false, false, false, false, false] rfl rfl (by kernel_rfl) (fun _ _ _ h => h) (Or.inr ⟨by rfl, rfl⟩) ?_ ?_
          rotate_left
          · simp only [Act.put, List.setIfInBounds_toArray, List.set_cons_zero, List.set_cons_succ, i64_w, i32_w]
            rfl
          refine pure_ (i := 5) (N := some 96) (v := undef) (a' := ?_) #[true, true, true, true, true, true, false, false, false, false] rfl rfl (by kernel_rfl) (fun _ _ _ h => h) (Or.inr ⟨by rfl, rfl⟩) ?_ ?_
          rotate_left
          · simp only [Act.put, List.setIfInBounds_toArray, List.set_cons_zero, List.set_cons_succ, i64_w, i32_w]
            rfl
          refine pure_ (i := 6) (N := some 97) (v := undef) (a' := ?_) #[true, true, true, true, true, true, true, false, false, false] rfl rfl (by kernel_rfl) (fun _ _ _ h => h) (Or.inr ⟨by rfl, rfl⟩) ?_ ?_
          rotate_left
          · simp only [Act.put, List.setIfInBounds_toArray, List.set_cons_zero, List.set_cons_succ, i64_w, i32_w]
            rfl
          refine pure_ (i := 7) (N := some 98) (v := undef) (a' := ?_) #[true, true, true, true, true, true, true, true, false, false] rfl rfl (by kernel_rfl) (fun _ _ _ h => h) (Or.inr ⟨by rfl, rfl⟩) ?_ ?_
          rotate_left
          · simp only [Act.put, List.setIfInBounds_toArray, List.set_cons_zero, List.set_cons_succ, i64_w, i32_w]
            rfl
          refine pure_ (i := 8) (N := some 99) (v := undef) (a' := ?_) #[true, true, true, true, true, true, true, true, true, false] rfl rfl (by kernel_rfl) (fun _ _ _ h => h) (Or.inr ⟨by rfl, rfl⟩) ?_ ?_
          rotate_left
          · simp only [Act.put, List.setIfInBounds_toArray, List.set_cons_zero, List.set_cons_succ, i64_w, i32_w]
            rfl
          refine pure_ (i := 9) (N := some 100) (v := ?_) (a' := ?_) #[true, true, true, true, true, true, true, true, true, true] rfl rfl (by kernel_rfl) (fun _ _ _ h => h) (Or.inl ⟨by rfl, ?_⟩) ?_ ?_
          rotate_left
          · intro w'
            go_simp
            with_reducible rfl
          rotate_left
          · simp only [Act.put, List.setIfInBounds_toArray, List.set_cons_zero, List.set_cons_succ, i64_w, i32_w]
            rfl
          refine done_ (by kernel_rfl) ?_
          go_wp2
          go_meet
          exact ⟨by (rw [← hfb]) <;> simp, HS, H8, H11, H13, HO⟩
         | true =>
          refine start_ (n := 10) (S := fun w' => w'.cell? ⟨gw, 0, none⟩ = some (.pointer (some ⟨g, 0, none⟩)) ∧ w'.cell? ⟨g13, 1, none⟩ = some (.int .i64 x.f1)) (ds := []) #[false, false, false, false, false, false, false, false, false, false] (by kernel_rfl) rfl rfl ⟨(KN.cells HSD.out.kn).1, (blk_cell H13D.out.1 1).trans rfl⟩ (fun hHeld => ?_)
          generalize wc.drew = wd at HSD H8D H11D H13D HOD hHeld ⊢
          clear HS H8 H11 H13 HO
          have HS := HSD
          have H8 := H8D
          have H11 := H11D
          have H13 := H13D
          have HO := HOD
          clear HSD H8D H11D H13D HOD
          refine pure_ (i := 0) (N := some 91) (v := ?_) (a' := ?_) #[true, false, false, false, false, false, false, false, false, false] rfl rfl (by kernel_rfl) (fun _ _ _ h => h) (Or.inl ⟨by rfl, ?_⟩) ?_ ?_
          rotate_left
          · intro w'
            go_simp
            with_reducible rfl
          rotate_left
          · simp only [Act.put, List.setIfInBounds_toArray, List.set_cons_zero, List.set_cons_succ, i64_w, i32_w]
            rfl
          refine pure_ (i := 1) (N := some 92) (v := ?_) (a' := ?_) #[true, true, false, false, false, false, false, false, false, false] rfl rfl (by kernel_rfl) (fun _ _ _ h => h) (Or.inl ⟨by rfl, ?_⟩) ?_ ?_
          rotate_left
          · intro w'
            go_simp
            with_reducible rfl
          rotate_left
          · simp only [Act.put, List.setIfInBounds_toArray, List.set_cons_zero, List.set_cons_succ, i64_w, i32_w]
            rfl
          refine pure_ (i := 2) (N := some 93) (v := ?_) (a' := ?_) #[true, true, true, false, false, false, false, false, false, false] rfl rfl (by kernel_rfl) (fun _ _ _ h => h) (Or.inl ⟨by rfl, ?_⟩) ?_ ?_
          rotate_left
          · intro w'
            go_simp
            with_reducible rfl
          rotate_left
          · simp only [Act.put, List.setIfInBounds_toArray, List.set_cons_zero, List.set_cons_succ, i64_w, i32_w]
            rfl
          refine pure_ (i := 3) (N := some 94) (v := ?_) (a' := ?_) #[true, true, true, true, false, false, false, false, false, false] rfl rfl (by kernel_rfl) (fun _ _ _ h => h) (Or.inl ⟨by rfl, ?_⟩) ?_ ?_
          rotate_left
          · intro w'
            go_simp
            with_reducible rfl
          rotate_left
          · simp only [Act.put, List.setIfInBounds_toArray, List.set_cons_zero, List.set_cons_succ, i64_w, i32_w]
            rfl
          refine pure_ (i := 4) (N := some 95) (v := ?_) (a' := ?_) #[true, true, true, true, true, false, false, false, false, false] rfl rfl (by kernel_rfl) (fun _ _ _ h => h) (Or.inl ⟨by rfl, ?_⟩) ?_ ?_
          rotate_left
          · intro w'
            go_simp
            with_reducible rfl
          rotate_left
          · simp only [Act.put, List.setIfInBounds_toArray, List.set_cons_zero, List.set_cons_succ, i64_w, i32_w]
            rfl
          refine pure_ (i := 6) (N := some 97) (v := ?_) (a' := ?_) #[true, true, true, true, true, false, true, false, false, false] rfl rfl (by kernel_rfl) (fun _ _ _ h => h) (Or.inl ⟨by rfl, ?_⟩) ?_ ?_
          rotate_left
          · intro w'
            go_simp
            with_reducible rfl
          rotate_left
          · simp only [Act.put, List.setIfInBounds_toArray, List.set_cons_zero, List.set_cons_succ, i64_w, i32_w]
            rfl
          refine take_ (i := 5) (N := some 96) (v := ?_) (a' := ?_) #[true, true, true, true, true, true, true, false, false, false] rfl rfl (by kernel_rfl) (fun _ _ _ h => h) (Or.inl ⟨by rfl, ?_⟩) hHeld ?_ ?_
          rotate_left
          · rintro w' ⟨s0, s1⟩
            go_simp
            with_reducible rfl
          rotate_left
          · simp only [Act.put, List.setIfInBounds_toArray, List.set_cons_zero, List.set_cons_succ, i64_w, i32_w]
            rfl
          refine take_ (i := 7) (N := some 98) (v := ?_) (a' := ?_) #[true, true, true, true, true, true, true, true, false, false] rfl rfl (by kernel_rfl) (fun _ _ _ h => h) (Or.inl ⟨by rfl, ?_⟩) hHeld ?_ ?_
          rotate_left
          · rintro w' ⟨s0, s1⟩
            go_simp
            with_reducible rfl
          rotate_left
          · simp only [Act.put, List.setIfInBounds_toArray, List.set_cons_zero, List.set_cons_succ, i64_w, i32_w]
            rfl
          refine one_ (i := 8) (N := some 99) #[true, true, true, true, true, true, true, true, true, false] rfl rfl (by kernel_rfl) (by decide) (fun K hK => ?_)
          refine goes_ Try.func27 (by kernel_rfl) rfl #[.pointer (some ⟨g, 0, none⟩), .int .i64 x.f1] (by rfl) rfl rfl (by simp only [List.map_toArray, List.map_cons, List.map_nil]; rfl) ?_
          with_reducible refine (HL27.out _ HS.out.below).mono ?_
          rintro e w3 ⟨rfl, rfl⟩
          refine ⟨_, rfl, ?_⟩
          refine hK.out _ _ ⟨(KN.cells HS.out.kn).1, (blk_cell H13.out.1 1).trans rfl⟩ (fun hHeld => ?_)
          clear hK K
          refine norm_ (a' := ?_) ?_ ?_
          rotate_left
          · show Act.put _ (some 99) _ = _
            simp only [Act.put, List.setIfInBounds_toArray, List.set_cons_zero, List.set_cons_succ, i64_w, i32_w]
            rfl
          refine pure_ (i := 9) (N := some 100) (v := ?_) (a' := ?_) #[true, true, true, true, true, true, true, true, true, true] rfl rfl (by kernel_rfl) (fun _ _ _ h => h) (Or.inl ⟨by rfl, ?_⟩) ?_ ?_
          rotate_left
          · intro w'
            go_simp
            with_reducible rfl
          rotate_left
          · simp only [Act.put, List.setIfInBounds_toArray, List.set_cons_zero, List.set_cons_succ, i64_w, i32_w]
            rfl
          refine done_ (by kernel_rfl) ?_
          go_wp2
          go_meet
          exact ⟨by (rw [← hfb]) <;> simp, HS, H8, H11, H13, HO⟩
        case rest =>
         clear HS H8 H11 H13 HO hka0 hka1 hc13_0 hc13_1 hc13_2 hc13_3 hc13_4 hc13_5
         obtain ⟨rfl, HS, H8, H11, H13, HO⟩ := hcut
         obtain ⟨hka0, hka1⟩ := KN.cells HS.out.kn
         have hma2 := (HS.out.below.cell (World.block_lt_of_cell? _ _ HMA2.out)).trans HMA2.out
         go_upto_if 100 with (fail)
         (try simp only [Act.put, List.setIfInBounds_toArray, List.set_cons_zero, List.set_cons_succ])
         go_cut [14] (fun v14 wc => v14 = .int .i64 cc ∧ Aside0 (ST WB g gw gk ck L.length W.length (planB L W D) w rs wc rs2) ∧ Aside0 (Bx gk rs2 wc g8 #[.bool false, .int .i64 0, .int .i64 0, .int .i64 0] 59) ∧ Aside0 (Bx gk rs2 wc g11 #[.bool true, .int .i64 s0, .int .i64 s1, .int .i64 s2] 59) ∧ Aside0 (Bx gk rs2 wc g13 #[.int .i64 x.f0, .int .i64 x.f1, .int .i64 x.f2, .int .i64 x.f3, .int .i64 x.f4, .int .i64 x.f5] 41) ∧ Aside0 (Kd.R k41 41 wc bE (fun k => True ∧ k ≠ g13) (.slice (some ad) E.length co) E))
         case first => as_aux_lemma =>
          have hcv := HCV.out
          clear HCV HFB
          cases fb with
          | false =>
           rw [if_neg (by decide), Int.add_zero] at hcv
           have HCV := Aside0.mk hcv
           clear hcv
           go_wp2
           go_meet
           exact ⟨by rw [HCV.out], HS, H8, H11, H13, HO⟩
          | true =>
           rw [if_pos rfl] at hcv
           have yd : wrap64 (cp + D) = cp + D := w64 (by omega) (by omega)
           have yd' := (i64_w (cp + D)).trans yd
           have HCV := Aside0.mk hcv
           clear hcv
           go_wp2
           go_meet
           exact ⟨by rw [← HCV.out], HS, H8, H11, H13, HO⟩
         case rest =>
          clear HS H8 H11 H13 HO hka0 hka1 hma2
          obtain ⟨rfl, HS, H8, H11, H13, HO⟩ := hcut
          obtain ⟨hka0, hka1⟩ := KN.cells HS.out.kn
          obtain ⟨hc13_0, hc13_1, hc13_2, hc13_3, hc13_4, hc13_5⟩ := Go.Proofs.Ythapclmfkjldaaa.Cells.cells6 H13.out.1
          go_upto_region 17 with (fail)
          (try simp only [Act.put, List.setIfInBounds_toArray, List.set_cons_zero, List.set_cons_succ])
          go_cut [118] (fun v118 wc => v118 = .bool (!la) ∧ Aside0 (ST WB g gw gk ck L.length W.length (planB L W D) w rs wc rs2) ∧ Aside0 (Bx gk rs2 wc g8 #[.bool false, .int .i64 0, .int .i64 0, .int .i64 0] 59) ∧ Aside0 (Bx gk rs2 wc g11 #[.bool true, .int .i64 s0, .int .i64 s1, .int .i64 s2] 59) ∧ Aside0 (Bx gk rs2 wc g13 #[.int .i64 x.f0, .int .i64 x.f1, .int .i64 x.f2, .int .i64 x.f3, .int .i64 x.f4, .int .i64 x.f5] 41) ∧ Aside0 (Kd.R k41 41 wc bE (fun k => True ∧ k ≠ g13) (.slice (some ad) E.length co) E))
          case first => as_aux_lemma =>
           go_region_with (go_at_call 25; refine (HL25.out _ ?hq).mono ?_; (case hq => exact below_drew1 HS.out.below); rintro e w25_ ⟨rfl, hb⟩; (have hb := below_step (below_drew1 (Below.refl wc.heap.size wc)) hb); (have hss := ST.step HS.out hb); (have hx8 := Bx.below H8.out hb); (have hx11 := Bx.below H11.out hb); (have hx13 := Bx.below H13.out hb); (have hoo := Kd.R_below HO.out hb); clear HS H8 H11 H13 HO; (have HS := Aside0.mk hss); (have H8 := Aside0.mk hx8); (have H11 := Aside0.mk hx11); (have H13 := Aside0.mk hx13); (have HO := Aside0.mk hoo); clear hss hx8 hx11 hx13 hoo; clear hb)
           all_goals go_wp2
           all_goals go_meet
           all_goals exact ⟨rfl, HS, H8, H11, H13, HO⟩
          case rest =>
           clear HS H8 H11 H13 HO hka0 hka1 hc13_0 hc13_1 hc13_2 hc13_3 hc13_4 hc13_5
           obtain ⟨rfl, HS, H8, H11, H13, HO⟩ := hcut
           obtain ⟨d1, hd1⟩ : ∃ q : Int, (if la = true then 0 else (r x).2.1) = q := ⟨_, rfl⟩
           obtain ⟨d2, hd2⟩ : ∃ q : Int, (if la = true then 0 else (r x).2.2) = q := ⟨_, rfl⟩
           have hrb : la = false → (r x).2.1 + 2300000000000 * ((L.length : Int) - nxt L x.f1 + 1) ≥ 0 ∧ (r x).2.1 ≤ 2300000000000 * ((L.length : Int) - nxt L x.f1 + 1) ∧ 0 ≤ (r x).2.2 ∧ (r x).2.2 ≤ (L.length : Int) - nxt L x.f1 + 1 ∧ x.f1 < nxt L x.f1 ∧ nxt L x.f1 < L.length := by
            intro hl
            have hb := nxt_lt L x.f1 xt0 xt1 (HLA.out.trans hl)
            have := bestP_bd L W D HF.out hD w1 HWd.out (nxt L x.f1) (capN W (nm + 1)) (flagP L x.f1) (by omega) (by omega) (capN_nn L W D HF.out hD w1 HWd.out _ (by omega))
            rw [show bestP L W D (nxt L x.f1) (capN W (nm + 1)) (flagP L x.f1) = r x from by rw [← HR.out]] at this
            obtain ⟨_, q1, q2⟩ := this
            omega
           have hdb : -(2300000000000 * 8000) ≤ d1 ∧ d1 ≤ 2300000000000 * 8000 ∧ 0 ≤ d2 ∧ d2 ≤ 8000 := by
            rw [← hd1, ← hd2]
            cases la with
            | true => simp
            | false =>
             have := hrb rfl
             simp only [Bool.false_eq_true, if_false]
             omega
           have HD1 := Aside0.mk hd1
           have HD2 := Aside0.mk hd2
           have HRB := Aside0.mk hrb
           clear hd1 hd2 hrb
           obtain ⟨hdb1, hdb2, hdb3, hdb4⟩ := hdb
           have z1 : wrap64 (cc + d1) = cc + d1 := w64 (by omega) (by omega)
           have z1' := (i64_w (cc + d1)).trans z1
           have z2 : wrap64 (1 + d2) = 1 + d2 := w64 (by omega) (by omega)
           have z2' := (i64_w (1 + d2)).trans z2
           go_upto_if 118 with (fail)
           (try simp only [Act.put, List.setIfInBounds_toArray, List.set_cons_zero, List.set_cons_succ])
           go_cut [14, 15] (fun v14 v15 wc => ∃ rs3, v14 = .int .i64 (cc + d1) ∧ v15 = .int .i64 (1 + d2) ∧ Aside0 (rs3[f.toNat]? = some (some (br, cr))) ∧ Aside0 (ST WB g gw gk ck L.length W.length (planB L W D) w rs wc rs3) ∧ Aside0 (Bx gk rs3 wc g8 #[.bool false, .int .i64 0, .int .i64 0, .int .i64 0] 59) ∧ Aside0 (Bx gk rs3 wc g11 #[.bool true, .int .i64 s0, .int .i64 s1, .int .i64 s2] 59) ∧ Aside0 (Bx gk rs3 wc g13 #[.int .i64 x.f0, .int .i64 x.f1, .int .i64 x.f2, .int .i64 x.f3, .int .i64 x.f4, .int .i64 x.f5] 41) ∧ Aside0 (Kd.R k41 41 wc bE (fun k => True ∧ k ≠ g13) (.slice (some ad) E.length co) E))
           case first => as_aux_lemma =>
            have hd1 := HD1.out
            have hd2 := HD2.out
            have hrb := HRB.out
            have hla := HLA.out
            clear HD1 HD2 HRB HLA
            cases la with
            | true =>
             rw [if_pos rfl] at hd1 hd2
             subst hd1
             subst hd2
             go_wp2
             go_meet
             exact ⟨rs2, by simp, by simp, HRW, HS, H8, H11, H13, HO⟩
            | false =>
             rw [if_neg (by decide)] at hd1 hd2
             have hrb := hrb rfl
             have nx0 : 0 ≤ nxt L x.f1 := by omega
             have nx1 : nxt L x.f1 ≤ (L.length : Int) := by omega
             have nx2 : (L.length : Int) - nxt L x.f1 < d := by have := HDd.out; omega
             have HDV1 := Aside0.mk ((congrArg (fun z => z.2.1) (congrFun HR.out x)).trans hd1)
             have HDV2 := Aside0.mk ((congrArg (fun z => z.2.2) (congrFun HR.out x)).trans hd2)
             clear hd1 hd2 hrb hla
             have wn : wrap64 (nm + 1) = nm + 1 := w64 (by omega) (by omega)
             have wn' := (i64_w (nm + 1)).trans wn
             go_upto_region 18 with (fail)
             (try simp only [Act.put, List.setIfInBounds_toArray, List.set_cons_zero, List.set_cons_succ])
             have qS := ST.step HS.out (below_drew1 (Below.refl wc.heap.size wc))
             have q8 := Bx.below H8.out (below_drew1 (Below.refl wc.heap.size wc))
             have q11 := Bx.below H11.out (below_drew1 (Below.refl wc.heap.size wc))
             have q13 := Bx.below H13.out (below_drew1 (Below.refl wc.heap.size wc))
             have qO := Kd.R_below HO.out (below_drew1 (Below.refl wc.heap.size wc))
             have qW := HRW.out
             clear HS H8 H11 H13 HO HRW
             have HS := qS
             have H8 := q8
             have H11 := q11
             have H13 := q13
             have HO := qO
             have HRW := qW
             clear qS q8 q11 q13 qO qW
             refine start_ (n := 20) (S := fun w' => True) (ds := []) #[false, false, false, false, false, false, false, false, false, false, false, false, false, false, false, false, false, false, false, false] (by kernel_rfl) rfl rfl trivial (fun hHeld => ?_)
             refine with_tabW best_tab18 best_bits18 (fun HT_ HW_ => ?_)
             generalize wc.drew = wd at HS H8 H11 H13 HO ⊢
             refine pure_ (i := 0) (N := some 119) (v := ?_) (a' := ?_) #[true, false, false, false, false, false, false, false, false, false, false, false, false, false, false, false, false, false, false, false] rfl rfl (any_of HT_.out (by kernel_rfl)) (fun _ _ _ h => h) (Or.inl ⟨by rfl, ?_⟩) ?_ ?_
             rotate_left
             · intro w'
               go_simp
               with_reducible rfl
             rotate_left
             · simp only [Act.put, List.setIfInBounds_toArray, List.set_cons_zero, List.set_cons_succ, i64_w, i32_w]
               rfl
             refine pure_ (i := 1) (N := some 120) (v := ?_) (a' := ?_) #[true, true, false, false, false, false, false, false, false, false, false, false, false, false, false, false, false, false, false, false] rfl rfl (any_of HT_.out (by kernel_rfl)) (fun _ _ _ h => h) (Or.inl ⟨by rfl, ?_⟩) ?_ ?_
             rotate_left
             · intro w'
               go_simp
               with_reducible rfl
             rotate_left
             · simp only [Act.put, List.setIfInBounds_toArray, List.set_cons_zero, List.set_cons_succ, i64_w, i32_w]
               rfl
             refine pure_ (i := 2) (N := some 121) (v := ?_) (a' := ?_) #[true, true, true, false, false, false, false, false, false, false, false, false, false, false, false, false, false, false, false, false] rfl rfl (any_of HT_.out (by kernel_rfl)) (fun _ _ _ h => h) (Or.inl ⟨by rfl, ?_⟩) ?_ ?_
             rotate_left
             · intro w'
               go_simp
               with_reducible rfl
             rotate_left
             · simp only [Act.put, List.setIfInBounds_toArray, List.set_cons_zero, List.set_cons_succ, i64_w, i32_w]
               rfl
             refine pure_ (i := 3) (N := some 122) (v := ?_) (a' := ?_) #[true, true, true, true, false, false, false, false, false, false, false, false, false, false, false, false, false, false, false, false] rfl rfl (any_of HT_.out (by kernel_rfl)) (fun _ _ _ h => h) (Or.inl ⟨by rfl, ?_⟩) ?_ ?_
             rotate_left
             · intro w'
               go_simp
               with_reducible rfl
             rotate_left
             · simp only [Act.put, List.setIfInBounds_toArray, List.set_cons_zero, List.set_cons_succ, i64_w, i32_w]
               rfl
             refine pure_ (i := 5) (N := some 124) (v := ?_) (a' := ?_) #[true, true, true, true, false, true, false, false, false, false, false, false, false, false, false, false, false, false, false, false] rfl rfl (any_of HT_.out (by kernel_rfl)) (fun _ _ _ h => h) (Or.inl ⟨by rfl, ?_⟩) ?_ ?_
             rotate_left
             · intro w'
               go_simp
               with_reducible rfl
             rotate_left
             · simp only [Act.put, List.setIfInBounds_toArray, List.set_cons_zero, List.set_cons_succ, i64_w, i32_w]
               rfl
             refine pure_ (i := 8) (N := some 127) (v := ?_) (a' := ?_) #[true, true, true, true, false, true, false, false, true, false, false, false, false, false, false, false, false, false, false, false] rfl rfl (any_of HT_.out (by kernel_rfl)) (fun _ _ _ h => h) (Or.inl ⟨by rfl, ?_⟩) ?_ ?_
             rotate_left
             · intro w'
               go_simp
               with_reducible rfl
             rotate_left
             · simp only [Act.put, List.setIfInBounds_toArray, List.set_cons_zero, List.set_cons_succ, i64_w, i32_w]
               rfl
             refine pure_ (i := 9) (N := some 128) (v := ?_) (a' := ?_) #[true, true, true, true, false, true, false, false, true, true, false, false, false, false, false, false, false, false, false, false] rfl rfl (any_of HT_.out (by kernel_rfl)) (fun _ _ _ h => h) (Or.inl ⟨by rfl, ?_⟩) ?_ ?_
             rotate_left
             · intro w'
               go_simp
               with_reducible rfl
             rotate_left
             · simp only [Act.put, List.setIfInBounds_toArray, List.set_cons_zero, List.set_cons_succ, i64_w, i32_w]
               rfl
             refine pure_ (i := 10) (N := some 129) (v := ?_) (a' := ?_) #[true, true, true, true, false, true, false, false, true, true, true, false, false, false, false, false, false, false, false, false] rfl rfl (any_of HT_.out (by kernel_rfl)) (fun _ _ _ h => h) (Or.inl ⟨by rfl, ?_⟩) ?_ ?_
             rotate_left
             · intro w'
               go_simp
               with_reducible rfl
             rotate_left
             · simp only [Act.put, List.setIfInBounds_toArray, List.set_cons_zero, List.set_cons_succ, i64_w, i32_w]
               rfl
             refine pure_ (i := 11) (N := some 130) (v := ?_) (a' := ?_) #[true, true, true, true, false, true, false, false, true, true, true, true, false, false, false, false, false, false, false, false] rfl rfl (any_of HT_.out (by kernel_rfl)) (fun _ _ _ h => h) (Or.inl ⟨by rfl, ?_⟩) ?_ ?_
             rotate_left
             · intro w'
               go_simp
               with_reducible rfl
             rotate_left
             · simp only [Act.put, List.setIfInBounds_toArray, List.set_cons_zero, List.set_cons_succ, i64_w, i32_w]
               rfl
             refine pure_ (i := 12) (N := some 131) (v := ?_) (a' := ?_) #[true, true, true, true, false, true, false, false, true, true, true, true, true, false, false, false, false, false, false, false] rfl rfl (any_of HT_.out (by kernel_rfl)) (fun _ _ _ h => h) (Or.inl ⟨by rfl, ?_⟩) ?_ ?_
             rotate_left
             · intro w'
               go_simp
               with_reducible rfl
             rotate_left
             · simp only [Act.put, List.setIfInBounds_toArray, List.set_cons_zero, List.set_cons_succ, i64_w, i32_w]
               rfl
             refine pure_ (i := 14) (N := some 133) (v := ?_) (a' := ?_) #[true, true, true, true, false, true, false, false, true, true, true, true, true, false, true, false, false, false, false, false] rfl rfl (any_of HT_.out (by kernel_rfl)) (fun _ _ _ h => h) (Or.inl ⟨by rfl, ?_⟩) ?_ ?_
             rotate_left
             · intro w'
               go_simp
               with_reducible rfl
             rotate_left
             · simp only [Act.put, List.setIfInBounds_toArray, List.set_cons_zero, List.set_cons_succ, i64_w, i32_w]
               rfl
             refine inv_at [4, 6, 7, 13, 15, 16, 17, 18, 19] (fun a0_ b a w' => ∃ (rs3 : List (Option (Nat × Nat))) (g16 : Nat) (m18_ : Value), a = putSel a0_ b [(4, 123, .pointer (some ⟨g, 0, none⟩)), (6, 125, .int .i64 x.f1), (7, 126, .int .i64 (nxt L x.f1)), (13, 132, .pointer (some ⟨g, 0, none⟩)), (15, 134, .int .i64 x.f1), (16, 135, .bool (flagP L x.f1)), (17, 136, .agg #[.bool true, .int .i64 (bestP L W D (nxt L x.f1) (capN W (nm + 1)) (flagP L x.f1)).1, .int .i64 (bestP L W D (nxt L x.f1) (capN W (nm + 1)) (flagP L x.f1)).2.1, .int .i64 (bestP L W D (nxt L x.f1) (capN W (nm + 1)) (flagP L x.f1)).2.2]), (18, 16, m18_)] ∧ (ST WB g gw gk ck L.length W.length (planB L W D) w rs w' rs3) ∧ (rs3[f.toNat]? = some (some (br, cr))) ∧ (Bx gk rs3 w' g8 #[.bool false, .int .i64 0, .int .i64 0, .int .i64 0] 59) ∧ (Bx gk rs3 w' g11 #[.bool true, .int .i64 s0, .int .i64 s1, .int .i64 s2] 59) ∧ (Bx gk rs3 w' g13 #[.int .i64 x.f0, .int .i64 x.f1, .int .i64 x.f2, .int .i64 x.f3, .int .i64 x.f4, .int .i64 x.f5] 41) ∧ (Kd.R k41 41 w' bE (fun k => True ∧ k ≠ g13) (.slice (some ad) E.length co) E) ∧ (b 18 = true → b 19 = false → Bx gk rs3 w' g16 #[.bool false, .int .i64 0, .int .i64 0, .int .i64 0] 59 ∧ w.heap.size ≤ g16 ∧ WB.heap.size ≤ g16 ∧ g8 ≠ g16 ∧ g11 ≠ g16 ∧ g13 ≠ g16) ∧ (b 19 = true → Bx gk rs3 w' g16 #[.bool true, .int .i64 (bestP L W D (nxt L x.f1) (capN W (nm + 1)) (flagP L x.f1)).1, .int .i64 (bestP L W D (nxt L x.f1) (capN W (nm + 1)) (flagP L x.f1)).2.1, .int .i64 (bestP L W D (nxt L x.f1) (capN W (nm + 1)) (flagP L x.f1)).2.2] 59) ∧ (b 18 = true → (m18_ : Value) = .pointer (some ⟨g16, 0, none⟩))) HT_.out HW_.out (by kernel_rfl) (by kernel_rfl) ?_ ?_ ?_
             · exact ⟨rs2, 0, .bool false, by simp only [putSel, Bool.false_eq_true, if_false], HS, HRW, H8, H11, H13, HO, fun h_ => absurd h_ (by decide), fun h_ => absurd h_ (by decide), fun h_ => absurd h_ (by decide)⟩
             · skip
               clear H11 H13 H8 HO HRW HS
               refine steps_cons ?_ ?_
               · rintro b a w' ⟨rs3, g16, m18_, ha, Q_HS, Q_HRW, Q_H8, Q_H11, Q_H13, Q_HO, Q_B16, Q_C16, Q_X18_⟩ hb_ hon hoff
                 refine ⟨_, rfl, fun K hK => ?_⟩
                 have e122 : a.tmps[122]? = some (.pointer (some ⟨gw, 0, none⟩)) := by rw [ha]; exact (putSel_off rfl).trans rfl
                 replace ha := Aside0.mk ha
                 have HS := Aside0.mk Q_HS
                 have HRW := Aside0.mk Q_HRW
                 have H8 := Aside0.mk Q_H8
                 have H11 := Aside0.mk Q_H11
                 have H13 := Aside0.mk Q_H13
                 have HO := Aside0.mk Q_HO
                 have hka0 := (KN.cells HS.out.kn).1
                 refine value_ (w1 := w') (v := .pointer (some ⟨g, 0, none⟩)) (by rfl) rfl ?_ ?_
                 · go_simp
                   (try simp only [i64_w])
                   try rfl
                 refine hK.out _ _ ⟨rs3, g16, m18_, (by rw [ha.out]; exact putSel_upk 0 hb_ rfl rfl rfl), Q_HS, Q_HRW, Q_H8, Q_H11, Q_H13, Q_HO, Q_B16, fun h0_ => absurd ((hoff 19 (by kernel_rfl)).symm.trans h0_) (by decide), Q_X18_⟩
               refine steps_cons ?_ ?_
               · rintro b a w' ⟨rs3, g16, m18_, ha, Q_HS, Q_HRW, Q_H8, Q_H11, Q_H13, Q_HO, Q_B16, Q_C16, Q_X18_⟩ hb_ hon hoff
                 refine ⟨_, rfl, fun K hK => ?_⟩
                 have e124 : a.tmps[124]? = some (.pointer (some ⟨g13, 1, none⟩)) := by rw [ha]; exact (putSel_off rfl).trans rfl
                 replace ha := Aside0.mk ha
                 have HS := Aside0.mk Q_HS
                 have HRW := Aside0.mk Q_HRW
                 have H8 := Aside0.mk Q_H8
                 have H11 := Aside0.mk Q_H11
                 have H13 := Aside0.mk Q_H13
                 have HO := Aside0.mk Q_HO
                 have hc13_1 : w'.cell? ⟨g13, 1, none⟩ = some (.int .i64 x.f1) := (blk_cell H13.out.1 1).trans rfl
                 refine value_ (w1 := w') (v := .int .i64 x.f1) (by rfl) rfl ?_ ?_
                 · go_simp
                   (try simp only [i64_w])
                   try rfl
                 refine hK.out _ _ ⟨rs3, g16, m18_, (by rw [ha.out]; exact putSel_upk 1 hb_ rfl rfl rfl), Q_HS, Q_HRW, Q_H8, Q_H11, Q_H13, Q_HO, Q_B16, fun h0_ => absurd ((hoff 19 (by kernel_rfl)).symm.trans h0_) (by decide), Q_X18_⟩
               refine steps_cons ?_ ?_
               · rintro b a w' ⟨rs3, g16, m18_, ha, Q_HS, Q_HRW, Q_H8, Q_H11, Q_H13, Q_HO, Q_B16, Q_C16, Q_X18_⟩ hb_ hon hoff
                 refine ⟨_, rfl, fun K hK => ?_⟩
                 have e123 : a.tmps[123]? = some (.pointer (some ⟨g, 0, none⟩)) := by rw [ha]; exact putSel_on (e := (4, 123, .pointer (some ⟨g, 0, none⟩))) 0 rfl rfl (hon 4 (by kernel_rfl)) rfl
                 have e125 : a.tmps[125]? = some (.int .i64 x.f1) := by rw [ha]; exact putSel_on (e := (6, 125, .int .i64 x.f1)) 1 rfl rfl (hon 6 (by kernel_rfl)) rfl
                 replace ha := Aside0.mk ha
                 have HS := Aside0.mk Q_HS
                 have HRW := Aside0.mk Q_HRW
                 have H8 := Aside0.mk Q_H8
                 have H11 := Aside0.mk Q_H11
                 have H13 := Aside0.mk Q_H13
                 have HO := Aside0.mk Q_HO
                 refine goes_ Try.func26 (by kernel_rfl) rfl #[.pointer (some ⟨g, 0, none⟩), .int .i64 x.f1] (by rfl) rfl rfl (by first | (simp only [List.map_toArray, List.map_cons, List.map_nil, Act.eval, Array.getD_eq_getD_getElem?, Option.getD_some, e123, e125]; done) | (simp only [List.map_toArray, List.map_cons, List.map_nil, Act.eval, Array.getD_eq_getD_getElem?, Option.getD_some, e123, e125]; rfl)) ?_
                 with_reducible refine (HL26.out _ HS.out.below).mono ?_
                 rintro e w3 ⟨rfl, rfl⟩
                 refine ⟨_, rfl, ?_⟩
                 refine hK.out _ _ ⟨rs3, g16, m18_, (by rw [ha.out]; exact putSel_upk 2 hb_ rfl rfl rfl), HS.out, HRW.out, H8.out, H11.out, H13.out, HO.out, fun h0_ h1_ => (Q_B16 h0_ h1_), fun h0_ => absurd ((hoff 19 (by kernel_rfl)).symm.trans h0_) (by decide), Q_X18_⟩
               refine steps_cons ?_ ?_
               · rintro b a w' ⟨rs3, g16, m18_, ha, Q_HS, Q_HRW, Q_H8, Q_H11, Q_H13, Q_HO, Q_B16, Q_C16, Q_X18_⟩ hb_ hon hoff
                 refine ⟨_, rfl, fun K hK => ?_⟩
                 have e131 : a.tmps[131]? = some (.pointer (some ⟨gw, 0, none⟩)) := by rw [ha]; exact (putSel_off rfl).trans rfl
                 replace ha := Aside0.mk ha
                 have HS := Aside0.mk Q_HS
                 have HRW := Aside0.mk Q_HRW
                 have H8 := Aside0.mk Q_H8
                 have H11 := Aside0.mk Q_H11
                 have H13 := Aside0.mk Q_H13
                 have HO := Aside0.mk Q_HO
                 have hka0 := (KN.cells HS.out.kn).1
                 refine value_ (w1 := w') (v := .pointer (some ⟨g, 0, none⟩)) (by rfl) rfl ?_ ?_
                 · go_simp
                   (try simp only [i64_w])
                   try rfl
                 refine hK.out _ _ ⟨rs3, g16, m18_, (by rw [ha.out]; exact putSel_upk 3 hb_ rfl rfl rfl), Q_HS, Q_HRW, Q_H8, Q_H11, Q_H13, Q_HO, Q_B16, fun h0_ => absurd ((hoff 19 (by kernel_rfl)).symm.trans h0_) (by decide), Q_X18_⟩
               refine steps_cons ?_ ?_
               · rintro b a w' ⟨rs3, g16, m18_, ha, Q_HS, Q_HRW, Q_H8, Q_H11, Q_H13, Q_HO, Q_B16, Q_C16, Q_X18_⟩ hb_ hon hoff
                 refine ⟨_, rfl, fun K hK => ?_⟩
                 have e133 : a.tmps[133]? = some (.pointer (some ⟨g13, 1, none⟩)) := by rw [ha]; exact (putSel_off rfl).trans rfl
                 replace ha := Aside0.mk ha
                 have HS := Aside0.mk Q_HS
                 have HRW := Aside0.mk Q_HRW
                 have H8 := Aside0.mk Q_H8
                 have H11 := Aside0.mk Q_H11
                 have H13 := Aside0.mk Q_H13
                 have HO := Aside0.mk Q_HO
                 have hc13_1 : w'.cell? ⟨g13, 1, none⟩ = some (.int .i64 x.f1) := (blk_cell H13.out.1 1).trans rfl
                 refine value_ (w1 := w') (v := .int .i64 x.f1) (by rfl) rfl ?_ ?_
                 · go_simp
                   (try simp only [i64_w])
                   try rfl
                 refine hK.out _ _ ⟨rs3, g16, m18_, (by rw [ha.out]; exact putSel_upk 4 hb_ rfl rfl rfl), Q_HS, Q_HRW, Q_H8, Q_H11, Q_H13, Q_HO, Q_B16, fun h0_ => absurd ((hoff 19 (by kernel_rfl)).symm.trans h0_) (by decide), Q_X18_⟩
               refine steps_cons ?_ ?_
               · rintro b a w' ⟨rs3, g16, m18_, ha, Q_HS, Q_HRW, Q_H8, Q_H11, Q_H13, Q_HO, Q_B16, Q_C16, Q_X18_⟩ hb_ hon hoff
                 refine ⟨_, rfl, fun K hK => ?_⟩
                 have e132 : a.tmps[132]? = some (.pointer (some ⟨g, 0, none⟩)) := by rw [ha]; exact putSel_on (e := (13, 132, .pointer (some ⟨g, 0, none⟩))) 3 rfl rfl (hon 13 (by kernel_rfl)) rfl
                 have e134 : a.tmps[134]? = some (.int .i64 x.f1) := by rw [ha]; exact putSel_on (e := (15, 134, .int .i64 x.f1)) 4 rfl rfl (hon 15 (by kernel_rfl)) rfl
                 replace ha := Aside0.mk ha
                 have HS := Aside0.mk Q_HS
                 have HRW := Aside0.mk Q_HRW
                 have H8 := Aside0.mk Q_H8
                 have H11 := Aside0.mk Q_H11
                 have H13 := Aside0.mk Q_H13
                 have HO := Aside0.mk Q_HO
                 refine goes_ Try.func27 (by kernel_rfl) rfl #[.pointer (some ⟨g, 0, none⟩), .int .i64 x.f1] (by rfl) rfl rfl (by first | (simp only [List.map_toArray, List.map_cons, List.map_nil, Act.eval, Array.getD_eq_getD_getElem?, Option.getD_some, e132, e134]; done) | (simp only [List.map_toArray, List.map_cons, List.map_nil, Act.eval, Array.getD_eq_getD_getElem?, Option.getD_some, e132, e134]; rfl)) ?_
                 with_reducible refine (HL27.out _ HS.out.below).mono ?_
                 rintro e w3 ⟨rfl, rfl⟩
                 refine ⟨_, rfl, ?_⟩
                 refine hK.out _ _ ⟨rs3, g16, m18_, (by rw [ha.out]; exact putSel_upk 5 hb_ rfl rfl rfl), HS.out, HRW.out, H8.out, H11.out, H13.out, HO.out, fun h0_ h1_ => (Q_B16 h0_ h1_), fun h0_ => absurd ((hoff 19 (by kernel_rfl)).symm.trans h0_) (by decide), Q_X18_⟩
               refine steps_cons ?_ ?_
               · rintro b a w' ⟨rs3, g16, m18_, ha, Q_HS, Q_HRW, Q_H8, Q_H11, Q_H13, Q_HO, Q_B16, Q_C16, Q_X18_⟩ hb_ hon hoff
                 refine ⟨_, rfl, fun K hK => ?_⟩
                 have e119 : a.tmps[119]? = some (.pointer (some ⟨gw, 0, none⟩)) := by rw [ha]; exact (putSel_off rfl).trans rfl
                 have e126 : a.tmps[126]? = some (.int .i64 (nxt L x.f1)) := by rw [ha]; exact putSel_on (e := (7, 126, .int .i64 (nxt L x.f1))) 2 rfl rfl (hon 7 (by kernel_rfl)) rfl
                 have e128 : a.tmps[128]? = some (.int .i64 (nm + 1)) := by rw [ha]; exact (putSel_off rfl).trans rfl
                 have e135 : a.tmps[135]? = some (.bool (flagP L x.f1)) := by rw [ha]; exact putSel_on (e := (16, 135, .bool (flagP L x.f1))) 5 rfl rfl (hon 16 (by kernel_rfl)) rfl
                 replace ha := Aside0.mk ha
                 have HS := Aside0.mk Q_HS
                 have HRW := Aside0.mk Q_HRW
                 have H8 := Aside0.mk Q_H8
                 have H11 := Aside0.mk Q_H11
                 have H13 := Aside0.mk Q_H13
                 have HO := Aside0.mk Q_HO
                 refine goes_ Try.func23 (by kernel_rfl) rfl #[.pointer (some ⟨gw, 0, none⟩), .int .i64 (nxt L x.f1), .int .i64 (nm + 1), .bool (flagP L x.f1)] (by rfl) rfl rfl (by first | (simp only [List.map_toArray, List.map_cons, List.map_nil, Act.eval, Array.getD_eq_getD_getElem?, Option.getD_some, e119, e126, e128, e135]; done) | (simp only [List.map_toArray, List.map_cons, List.map_nil, Act.eval, Array.getD_eq_getD_getElem?, Option.getD_some, e119, e126, e128, e135]; rfl)) ?_
                 with_reducible refine (IH.out (nxt L x.f1) (nm + 1) (flagP L x.f1) _ rs3 nx0 nx1 (by omega) (by omega) nx2 HS.out.below HS.out.kn).mono ?_
                 rintro e w3 ⟨rs4, rfl, hst⟩
                 refine ⟨_, rfl, ?_⟩
                 refine hK.out _ _ ⟨rs4, g16, m18_, (by rw [ha.out]; exact putSel_upk 6 hb_ rfl rfl rfl), (ST.trans HS.out hst), (hst.stay _ _ HRW.out), (Bx.call H8.out hst), (Bx.call H11.out hst), (Bx.call H13.out hst), (R41_call HO.out HS.out.kn hst), fun h0_ h1_ => ⟨Bx.call ((Q_B16 h0_ h1_)).1 hst, ((Q_B16 h0_ h1_)).2⟩, fun h0_ => absurd ((hoff 19 (by kernel_rfl)).symm.trans h0_) (by decide), Q_X18_⟩
               refine steps_cons ?_ ?_
               · rintro b a w' ⟨rs3, g16, m18_, ha, Q_HS, Q_HRW, Q_H8, Q_H11, Q_H13, Q_HO, Q_B16, Q_C16, Q_X18_⟩ hb_ hon hoff
                 refine ⟨_, rfl, fun K hK => ?_⟩
                 replace ha := Aside0.mk ha
                 have HS := Aside0.mk Q_HS
                 have HRW := Aside0.mk Q_HRW
                 have H8 := Aside0.mk Q_H8
                 have H11 := Aside0.mk Q_H11
                 have H13 := Aside0.mk Q_H13
                 have HO := Aside0.mk Q_HO
                 refine value_ (w1 := w'.alloc (.cells #[.bool false, .int .i64 0, .int .i64 0, .int .i64 0] 59 (0, 0))) (v := .pointer (some ⟨w'.heap.size, 0, none⟩)) (by rfl) rfl ?_ ?_
                 · go_simp
                   try rfl
                 have hb1 := below_alloc (Below.refl w'.heap.size w') (Obj.cells #[.bool false, .int .i64 0, .int .i64 0, .int .i64 0] 59 (0, 0))
                 refine hK.out _ _ ⟨rs3, w'.heap.size, (.pointer (some ⟨w'.heap.size, 0, none⟩)), (by rw [ha.out]; exact putSel_upk 7 hb_ rfl rfl rfl), (ST.step HS.out hb1), HRW.out, (Bx.below H8.out hb1), (Bx.below H11.out hb1), (Bx.below H13.out hb1), (Kd.R_below HO.out hb1), fun _ _ => ⟨Bx.new HS.out (Nat.le_refl _) (blk_new w' _), HS.out.kept.1, HS.out.below.size, by have := blk_lt H8.out.1; omega, by have := blk_lt H11.out.1; omega, by have := blk_lt H13.out.1; omega⟩, fun h0_ => absurd ((hoff 19 (by kernel_rfl)).symm.trans h0_) (by decide), fun _ => rfl⟩
               refine steps_cons ?_ ?_
               · rintro b a w' ⟨rs3, g16, m18_, ha, Q_HS, Q_HRW, Q_H8, Q_H11, Q_H13, Q_HO, Q_B16, Q_C16, Q_X18_⟩ hb_ hon hoff
                 refine ⟨_, rfl, fun K hK => ?_⟩
                 have e16 : a.tmps[16]? = some (m18_) := by rw [ha]; exact putSel_on (e := (18, 16, m18_)) 7 rfl rfl (hon 18 (by kernel_rfl)) rfl
                 rw [Q_X18_ (hon 18 (by kernel_rfl))] at e16
                 have e136 : a.tmps[136]? = some (.agg #[.bool true, .int .i64 (bestP L W D (nxt L x.f1) (capN W (nm + 1)) (flagP L x.f1)).1, .int .i64 (bestP L W D (nxt L x.f1) (capN W (nm + 1)) (flagP L x.f1)).2.1, .int .i64 (bestP L W D (nxt L x.f1) (capN W (nm + 1)) (flagP L x.f1)).2.2]) := by rw [ha]; exact putSel_on (e := (17, 136, .agg #[.bool true, .int .i64 (bestP L W D (nxt L x.f1) (capN W (nm + 1)) (flagP L x.f1)).1, .int .i64 (bestP L W D (nxt L x.f1) (capN W (nm + 1)) (flagP L x.f1)).2.1, .int .i64 (bestP L W D (nxt L x.f1) (capN W (nm + 1)) (flagP L x.f1)).2.2])) 6 rfl rfl (hon 17 (by kernel_rfl)) rfl
                 replace ha := Aside0.mk ha
                 have HS := Aside0.mk Q_HS
                 have HRW := Aside0.mk Q_HRW
                 have H8 := Aside0.mk Q_H8
                 have H11 := Aside0.mk Q_H11
                 have H13 := Aside0.mk Q_H13
                 have HO := Aside0.mk Q_HO
                 have B16 := Aside0.mk (Q_B16 (hon 18 (by kernel_rfl)) hb_)
                 refine agg_step (w0 := WB) (by rfl) rfl 59 (.tmp 16) (.tmp 136) rfl (g := g16) (e := 59) (.agg #[.bool true, .int .i64 (bestP L W D (nxt L x.f1) (capN W (nm + 1)) (flagP L x.f1)).1, .int .i64 (bestP L W D (nxt L x.f1) (capN W (nm + 1)) (flagP L x.f1)).2.1, .int .i64 (bestP L W D (nxt L x.f1) (capN W (nm + 1)) (flagP L x.f1)).2.2]) [.bool true, .int .i64 (bestP L W D (nxt L x.f1) (capN W (nm + 1)) (flagP L x.f1)).1, .int .i64 (bestP L W D (nxt L x.f1) (capN W (nm + 1)) (flagP L x.f1)).2.1, .int .i64 (bestP L W D (nxt L x.f1) (capN W (nm + 1)) (flagP L x.f1)).2.2] (by simp only [Act.eval, Array.getD_eq_getD_getElem?, e16, Option.getD_some]) (by simp only [Act.eval, Array.getD_eq_getD_getElem?, e136, Option.getD_some]) rfl (by kernel_rfl) B16.out.1.1 rfl (by simp only [List.mem_cons, List.not_mem_nil, or_false, forall_eq_or_imp, forall_eq]; exact ⟨rfl, rfl, rfl, rfl⟩) HS.out.below B16.out.2.2.1 ?_
                 intro w3 hbox hb hgr
                 refine hK.out _ _ ⟨rs3, g16, m18_, (by rw [ha.out]; exact putSel_none (v := undef) rfl), (ST.far HS.out hgr B16.out.1.2 (Bx.ne_gw B16.out.1 HS.out (by decide)) B16.out.2.1 B16.out.2.2.1), HRW.out, (Bx.grown H8.out hgr B16.out.2.2.2.1), (Bx.grown H11.out hgr B16.out.2.2.2.2.1), (Bx.grown H13.out hgr B16.out.2.2.2.2.2), (Kd.R_mono (Kd.R_grown (Kd.R_types HO.out B16.out.1.1 (by decide)) hgr (fun k hk e => hk.2 (by injection e))) (fun _ h => h.1)), fun _ h1_ => absurd ((up_self b 19).symm.trans h1_) (by decide), fun _ => ⟨hbox, B16.out.1.2⟩, Q_X18_⟩
               exact steps_nil
             · rintro b a w' hall ⟨rs3, g16, m18_, ha, Q_HS, Q_HRW, Q_H8, Q_H11, Q_H13, Q_HO, Q_B16, Q_C16, Q_X18_⟩
               clear H11 H13 H8 HO HRW HS
               have hb4_ := hall 4 (by kernel_rfl)
               have hb6_ := hall 6 (by kernel_rfl)
               have hb7_ := hall 7 (by kernel_rfl)
               have hb13_ := hall 13 (by kernel_rfl)
               have hb15_ := hall 15 (by kernel_rfl)
               have hb16_ := hall 16 (by kernel_rfl)
               have hb17_ := hall 17 (by kernel_rfl)
               have hb18_ := hall 18 (by kernel_rfl)
               have hb19_ := hall 19 (by kernel_rfl)
               subst ha
               obtain rfl := Q_X18_ hb18_
               simp only [putSel, hb4_, hb6_, hb7_, hb13_, hb15_, hb16_, hb17_, hb18_, hb19_, if_true, Act.put, List.setIfInBounds_toArray, List.set_cons_zero, List.set_cons_succ]
               have HS := Aside0.mk Q_HS
               clear Q_HS
               have HRW := Aside0.mk Q_HRW
               clear Q_HRW
               have H8 := Aside0.mk Q_H8
               clear Q_H8
               have H11 := Aside0.mk Q_H11
               clear Q_H11
               have H13 := Aside0.mk Q_H13
               clear Q_H13
               have HO := Aside0.mk Q_HO
               clear Q_HO
               clear Q_B16
               have C16 := Aside0.mk (Q_C16 hb19_)
               clear Q_C16
               clear hall hb4_ hb6_ hb7_ hb13_ hb15_ hb16_ hb17_ hb18_ hb19_
               go_upto_region 19 with (fail)
               obtain ⟨hc16_0, hc16_1, hc16_2, hc16_3⟩ := Go.Proofs.Ythapclmfkjldaaa.Cells.cells4 C16.out.1
               (try simp only [Act.put, List.setIfInBounds_toArray, List.set_cons_zero, List.set_cons_succ])
               rw [HDV1.out] at hc16_2
               rw [HDV2.out] at hc16_3
               go_region_with (fail)
               all_goals go_wp2
               all_goals go_meet
               all_goals exact ⟨rs3, rfl, rfl, HRW, ⟨ST.step HS.out (below_drew1 (Below.refl _ _))⟩, ⟨Bx.below H8.out (below_drew1 (Below.refl _ _))⟩, ⟨Bx.below H11.out (below_drew1 (Below.refl _ _))⟩, ⟨Bx.below H13.out (below_drew1 (Below.refl _ _))⟩, ⟨Kd.R_below HO.out (below_drew1 (Below.refl _ _))⟩⟩
           case rest =>
            clear HS H8 H11 H13 HO HRW
            obtain ⟨rs3, rfl, rfl, HRW, HS, H8, H11, H13, HO⟩ := hcut
            obtain ⟨c, hc⟩ : ∃ q, cc + d1 = q := ⟨_, rfl⟩
            obtain ⟨k, hk⟩ : ∃ q, 1 + d2 = q := ⟨_, rfl⟩
            rw [hc, hk]
            have HST : Aside0 (LinesP.stepG L D fl r (s0, s1, s2) x = LinesP.pick (s0, s1, s2) x.f1 c k) := ⟨by
             unfold LinesP.stepG
             rw [HCC.out, HLA.out, HD1.out, HD2.out, hc, hk]⟩
            clear hc hk z1 z1' z2 z2'
            obtain ⟨b0, hb0⟩ : ∃ q, decide (s0 < 0) = q := ⟨_, rfl⟩
            obtain ⟨b1, hb1⟩ : ∃ q, decide (c < s1) = q := ⟨_, rfl⟩
            obtain ⟨b2, hb2⟩ : ∃ q, (c == s1) = q := ⟨_, rfl⟩
            obtain ⟨b3, hb3⟩ : ∃ q, decide (k ≤ s2) = q := ⟨_, rfl⟩
            obtain ⟨pb, hpb⟩ : ∃ q, (b0 || (b1 || (b2 && b3))) = q := ⟨_, rfl⟩
            have HPK : Aside0 (LinesP.pick (s0, s1, s2) x.f1 c k = if pb = true then (x.f1, c, k) else (s0, s1, s2)) := ⟨by
             have : (s0 < 0 ∨ c < s1 ∨ (c = s1 ∧ k ≤ s2)) ↔ pb = true := by
              rw [← hpb, ← hb0, ← hb1, ← hb2, ← hb3]
              simp only [Bool.or_eq_true, Bool.and_eq_true, decide_eq_true_eq, beq_iff_eq]
             unfold LinesP.pick
             dsimp only
             by_cases q : pb = true
             · rw [if_pos q, if_pos (this.2 q)]
             · rw [if_neg q, if_neg (fun h => q (this.1 h))]⟩
            have HPB2 := Aside0.mk hpb
            clear hpb
            obtain ⟨hc11_0, hc11_1, hc11_2, hc11_3⟩ := Go.Proofs.Ythapclmfkjldaaa.Cells.cells4 H11.out.1
            go_upto_region 20 with (fail)
            (try simp only [Act.put, List.setIfInBounds_toArray, List.set_cons_zero, List.set_cons_succ])
            go_cut [165] (fun v165 wc => v165 = .bool pb ∧ Aside0 (ST WB g gw gk ck L.length W.length (planB L W D) w rs wc rs3) ∧ Aside0 (Bx gk rs3 wc g8 #[.bool false, .int .i64 0, .int .i64 0, .int .i64 0] 59) ∧ Aside0 (Bx gk rs3 wc g11 #[.bool true, .int .i64 s0, .int .i64 s1, .int .i64 s2] 59) ∧ Aside0 (Bx gk rs3 wc g13 #[.int .i64 x.f0, .int .i64 x.f1, .int .i64 x.f2, .int .i64 x.f3, .int .i64 x.f4, .int .i64 x.f5] 41) ∧ Aside0 (Kd.R k41 41 wc bE (fun k => True ∧ k ≠ g13) (.slice (some ad) E.length co) E))
            case first => as_aux_lemma =>
             have hpb := HPB2.out
             clear HPB2
             cases b0 with
             | true =>
              go_wp2
              go_meet
              exact ⟨by rw [← hpb]; rfl, HS, H8, H11, H13, HO⟩
             | false =>
              cases b1 with
              | true =>
               go_wp2
               go_meet
               exact ⟨by rw [← hpb]; rfl, HS, H8, H11, H13, HO⟩
              | false =>
               cases b2 with
               | false =>
                go_wp2
                go_meet
                exact ⟨by rw [← hpb]; rfl, HS, H8, H11, H13, HO⟩
               | true =>
                cases b3
                all_goals go_wp2
                all_goals go_meet
                all_goals exact ⟨by rw [← hpb]; rfl, HS, H8, H11, H13, HO⟩
            case rest =>
             clear HS H8 H11 H13 HO hb0 hb1 hb2 hb3 hc11_0 hc11_1 hc11_2 hc11_3
             obtain ⟨rfl, HS, H8, H11, H13, HO⟩ := hcut
             have hpk := HPK.out
             clear HPK
             obtain ⟨wi, wi'⟩ := HWI.out
             cases pb with
             | false =>
              rw [if_neg (by decide)] at hpk
              have HFI := Aside0.mk (HNX.out.trans (HST.out.trans hpk))
              clear hpk
              go_wp2
              go_roundw
              case rel => exact ⟨i + 1, rs3, rfl, HIL.out, HS, HRW, H8, ⟨by rw [HFI.out]; exact H11.out⟩, ⟨Kd.R_mono HO.out (fun _ _ => trivial)⟩⟩
              case measure => exact HMS.out
             | true =>
              rw [if_pos rfl] at hpk
              have HFI := Aside0.mk (HNX.out.trans (HST.out.trans hpk))
              clear hpk
              obtain ⟨hc11_0, hc11_1, hc11_2, hc11_3⟩ := Go.Proofs.Ythapclmfkjldaaa.Cells.cells4 H11.out.1
              obtain ⟨hc13_0, hc13_1, hc13_2, hc13_3, hc13_4, hc13_5⟩ := Go.Proofs.Ythapclmfkjldaaa.Cells.cells6 H13.out.1
              have hf11 := fun j => blk_frozen H11.out.1 j
              have hf1 := hf11 1
              have hf2 := hf11 2
              have hf3 := hf11 3
              clear hf11
              go_upto_region 22 with (fail)
              have hs1 := ST.set HS.out H11.out (by decide) G11.out GB11.out 1 (.int .i64 x.f1)
              have h11a := Bx.set H11.out 1 (.int .i64 x.f1)
              have hs2 := ST.set hs1 h11a (by decide) G11.out GB11.out 2 (.int .i64 c)
              have h11b := Bx.set h11a 2 (.int .i64 c)
              have hs3 := ST.set hs2 h11b (by decide) G11.out GB11.out 3 (.int .i64 k)
              have h11c := Bx.set h11b 3 (.int .i64 k)
              have h8c := Bx.off (Bx.off (Bx.off H8.out NE8_11.out 1 (.int .i64 x.f1)) NE8_11.out 2 (.int .i64 c)) NE8_11.out 3 (.int .i64 k)
              have hoc := Kd.R_set (Kd.R_set (Kd.R_set HO.out H11.out.1 (by decide) 1 (.int .i64 x.f1)) h11a.1 (by decide) 2 (.int .i64 c)) h11b.1 (by decide) 3 (.int .i64 k)
              replace h11c : Bx gk rs3 (((wc.setCell ⟨g11, 1, none⟩ (.int .i64 x.f1)).setCell ⟨g11, 2, none⟩ (.int .i64 c)).setCell ⟨g11, 3, none⟩ (.int .i64 k)) g11 #[.bool true, .int .i64 x.f1, .int .i64 c, .int .i64 k] 59 := h11c
              clear HS H8 H11 H13 HO hs1 hs2 h11a h11b hf1 hf2 hf3 hc11_0 hc11_1 hc11_2 hc11_3 hc13_0 hc13_1 hc13_2 hc13_3 hc13_4 hc13_5
              generalize ((wc.setCell ⟨g11, 1, none⟩ (.int .i64 x.f1)).setCell ⟨g11, 2, none⟩ (.int .i64 c)).setCell ⟨g11, 3, none⟩ (.int .i64 k) = wz at hs3 h11c h8c hoc ⊢
              have HS := Aside0.mk hs3
              have H8 := Aside0.mk h8c
              have H11 := Aside0.mk h11c
              have HO := Aside0.mk hoc
              clear hs3 h8c h11c hoc
              go_wp2
              go_roundw
              case rel => exact ⟨i + 1, rs3, rfl, HIL.out, HS, HRW, H8, ⟨by rw [HFI.out]; exact H11.out⟩, ⟨Kd.R_mono HO.out (fun _ _ => trivial)⟩⟩
              case measure => exact HMS.out
     · have hltb : decide ((i : Int) < (E.length : Int)) = false := decide_eq_false hlt
       as_aux_lemma =>
        have hiE : i = E.length := by omega
        have HBV : Aside0 (bestP L W D f nm fl = (s0, s1, s2)) := ⟨by rw [HBE.out, ← HFO.out, hiE, List.take_length]⟩
        go_upto_region 23 with (fail)
        (try simp only [Act.put, List.setIfInBounds_toArray, List.set_cons_zero, List.set_cons_succ])
        have HS0 := Aside0.mk (ST.step HS.out (below_drew1 (Below.refl wr.heap.size wr)))
        have H80 := Aside0.mk (Bx.below H8.out (below_drew1 (Below.refl wr.heap.size wr)))
        have H110 := Aside0.mk (Bx.below H11.out (below_drew1 (Below.refl wr.heap.size wr)))
        refine start_ (n := 11) (S := fun w' => w'.cell? ⟨gw, 1, none⟩ = some (.slice (some ⟨gk, 0, none⟩) (L.length + 1) ck) ∧ w'.cell? ⟨gk, f.toNat, none⟩ = some (.slice (some ⟨br, 0, none⟩) (2 * W.length) cr) ∧ w'.cell? ⟨g11, 0, none⟩ = some (.bool true) ∧ w'.cell? ⟨g11, 1, none⟩ = some (.int .i64 s0) ∧ w'.cell? ⟨g11, 2, none⟩ = some (.int .i64 s1) ∧ w'.cell? ⟨g11, 3, none⟩ = some (.int .i64 s2)) (ds := [10]) #[false, false, false, false, false, false, false, false, false, false, false] (by kernel_rfl) rfl rfl ⟨(KN.cells HS0.out.kn).2, by have h := (KN.cellTop HS0.out.kn f f0 f1).1; rw [List.getD_eq_getElem?_getD, HRW.out] at h; exact h, (blk_cell H110.out.1 0).trans rfl, (blk_cell H110.out.1 1).trans rfl, (blk_cell H110.out.1 2).trans rfl, (blk_cell H110.out.1 3).trans rfl⟩ (fun hHeld => ?_)
        generalize wr.drew = wd at HS0 H80 H110 hHeld ⊢
        clear HS H8 H11
        have HS := HS0
        have H8 := H80
        have H11 := H110
        clear HS0 H80 H110
        refine pure_ (i := 0) (N := some 174) (v := ?_) (a' := ?_) #[true, false, false, false, false, false, false, false, false, false, false] rfl rfl (by kernel_rfl) (fun _ _ _ h => h) (Or.inl ⟨by rfl, ?_⟩) ?_ ?_
        rotate_left
        · intro w'
          go_simp
          with_reducible rfl
        rotate_left
        · simp only [Act.put, List.setIfInBounds_toArray, List.set_cons_zero, List.set_cons_succ, i64_w, i32_w]
          rfl
        refine pure_ (i := 1) (N := some 175) (v := ?_) (a' := ?_) #[true, true, false, false, false, false, false, false, false, false, false] rfl rfl (by kernel_rfl) (fun _ _ _ h => h) (Or.inl ⟨by rfl, ?_⟩) ?_ ?_
        rotate_left
        · intro w'
          go_simp
          with_reducible rfl
        rotate_left
        · simp only [Act.put, List.setIfInBounds_toArray, List.set_cons_zero, List.set_cons_succ, i64_w, i32_w]
          rfl
        refine pure_ (i := 2) (N := some 176) (v := ?_) (a' := ?_) #[true, true, true, false, false, false, false, false, false, false, false] rfl rfl (by kernel_rfl) (fun _ _ _ h => h) (Or.inl ⟨by rfl, ?_⟩) ?_ ?_
        rotate_left
        · intro w'
          go_simp
          with_reducible rfl
        rotate_left
        · simp only [Act.put, List.setIfInBounds_toArray, List.set_cons_zero, List.set_cons_succ, i64_w, i32_w]
          rfl
        refine pure_ (i := 4) (N := some 178) (v := ?_) (a' := ?_) #[true, true, true, false, true, false, false, false, false, false, false] rfl rfl (by kernel_rfl) (fun _ _ _ h => h) (Or.inl ⟨by rfl, ?_⟩) ?_ ?_
        rotate_left
        · intro w'
          go_simp
          with_reducible rfl
        rotate_left
        · simp only [Act.put, List.setIfInBounds_toArray, List.set_cons_zero, List.set_cons_succ, i64_w, i32_w]
          rfl
        refine pure_ (i := 7) (N := some 181) (v := ?_) (a' := ?_) #[true, true, true, false, true, false, false, true, false, false, false] rfl rfl (by kernel_rfl) (fun _ _ _ h => h) (Or.inl ⟨by rfl, ?_⟩) ?_ ?_
        rotate_left
        · intro w'
          go_simp
          with_reducible rfl
        rotate_left
        · simp only [Act.put, List.setIfInBounds_toArray, List.set_cons_zero, List.set_cons_succ, i64_w, i32_w]
          rfl
        refine take_ (i := 3) (N := some 177) (v := ?_) (a' := ?_) #[true, true, true, true, true, false, false, true, false, false, false] rfl rfl (by kernel_rfl) (fun _ _ _ h => h) (Or.inl ⟨by rfl, ?_⟩) hHeld ?_ ?_
        rotate_left
        · rintro w' ⟨s0, s1, s2, s3, s4, s5⟩
          go_simp
          with_reducible rfl
        rotate_left
        · simp only [Act.put, List.setIfInBounds_toArray, List.set_cons_zero, List.set_cons_succ, i64_w, i32_w]
          rfl
        refine pure_ (i := 5) (N := some 179) (v := ?_) (a' := ?_) #[true, true, true, true, true, true, false, true, false, false, false] rfl rfl (by kernel_rfl) (fun _ _ _ h => h) (Or.inl ⟨by rfl, ?_⟩) ?_ ?_
        rotate_left
        · intro w'
          go_simp
          with_reducible rfl
        rotate_left
        · simp only [Act.put, List.setIfInBounds_toArray, List.set_cons_zero, List.set_cons_succ, i64_w, i32_w]
          rfl
        refine take_ (i := 6) (N := some 180) (v := ?_) (a' := ?_) #[true, true, true, true, true, true, true, true, false, false, false] rfl rfl (by kernel_rfl) (fun _ _ _ h => h) (Or.inl ⟨by rfl, ?_⟩) hHeld ?_ ?_
        rotate_left
        · rintro w' ⟨s0, s1, s2, s3, s4, s5⟩
          go_simp
          with_reducible rfl
        rotate_left
        · simp only [Act.put, List.setIfInBounds_toArray, List.set_cons_zero, List.set_cons_succ, i64_w, i32_w]
          rfl
        refine take_ (i := 8) (N := some 182) (v := ?_) (a' := ?_) #[true, true, true, true, true, true, true, true, true, false, false] rfl rfl (by kernel_rfl) (fun _ _ _ h => h) (Or.inl ⟨by rfl, ?_⟩) hHeld ?_ ?_
        rotate_left
        · rintro w' ⟨s0, s1, s2, s3, s4, s5⟩
          go_simp
          with_reducible rfl
        rotate_left
        · simp only [Act.put, List.setIfInBounds_toArray, List.set_cons_zero, List.set_cons_succ, i64_w, i32_w]
          rfl
        refine pure_ (i := 9) (N := some 183) (v := ?_) (a' := ?_) #[true, true, true, true, true, true, true, true, true, true, false] rfl rfl (by kernel_rfl) (fun _ _ _ h => h) (Or.inl ⟨by rfl, ?_⟩) ?_ ?_
        rotate_left
        · intro w'
          go_simp
          with_reducible rfl
        rotate_left
        · simp only [Act.put, List.setIfInBounds_toArray, List.set_cons_zero, List.set_cons_succ, i64_w, i32_w]
          rfl
        refine last_ (i := 10) (N := none) #[true, true, true, true, true, true, true, true, true, true, true] rfl rfl (by kernel_rfl) (by decide) (fun K hK => ?_)
        obtain ⟨cur, hcb, hfit⟩ := KN.blk HS.out.kn HRW.out key hk0.1 hk0.2
        refine seg_step (by rfl) rfl 59 (.tmp 183) (.tmp 182) rfl (g := br) (q := key.toNat * 4) (e := 59) (.agg #[.bool true, .int .i64 s0, .int .i64 s1, .int .i64 s2]) [.bool true, .int .i64 s0, .int .i64 s1, .int .i64 s2] (by rfl) (by rfl) rfl (by kernel_rfl) hcb hfit (by simp only [List.mem_cons, List.not_mem_nil, or_false, forall_eq_or_imp, forall_eq]; exact ⟨rfl, rfl, rfl, rfl⟩) ?_
        refine hK.out _ _ ?_
        clear hK K
        refine done_ (by kernel_rfl) ?_
        have hput := (ST.put HS.out HRW.out key hk0.1 hk0.2)
        rw [HPB.out, HBV.out] at hput
        obtain ⟨hss, hgr⟩ := hput
        have hx8 := Bx.grown H8.out hgr (fun e => H8.out.2 (e ▸ .inr ⟨_, _, HRW.out⟩))
        have hx11 := Bx.grown H11.out hgr (fun e => H11.out.2 (e ▸ .inr ⟨_, _, HRW.out⟩))
        replace hss : ST WB g gw gk ck L.length W.length (planB L W D) w rs (wd.setCells br (key.toNat * 4) [.bool true, .int .i64 s0, .int .i64 s1, .int .i64 s2]) rs2 := hss
        replace hx8 : Bx gk rs2 (wd.setCells br (key.toNat * 4) [.bool true, .int .i64 s0, .int .i64 s1, .int .i64 s2]) g8 #[.bool false, .int .i64 0, .int .i64 0, .int .i64 0] 59 := hx8
        replace hx11 : Bx gk rs2 (wd.setCells br (key.toNat * 4) [.bool true, .int .i64 s0, .int .i64 s1, .int .i64 s2]) g11 #[.bool true, .int .i64 s0, .int .i64 s1, .int .i64 s2] 59 := hx11
        clear hgr HS H8 H11 hcb
        generalize wd.setCells br (key.toNat * 4) [.bool true, .int .i64 s0, .int .i64 s1, .int .i64 s2] = we at hss hx8 hx11 ⊢
        have HS := Aside0.mk hss
        have H8 := Aside0.mk hx8
        have H11 := Aside0.mk hx11
        clear hss hx8 hx11
        obtain ⟨hc11_0, hc11_1, hc11_2, hc11_3⟩ := Go.Proofs.Ythapclmfkjldaaa.Cells.cells4 H11.out.1
        go_wp2_with (((with_reducible refine gate_store (t := 59) (p := 8) rfl ?_); refine agg_event (w0 := WB) rfl rfl 59 (.tmp 8) (.tmp 184) rfl (g := g8) (e := 59) (.agg #[.bool true, .int .i64 s0, .int .i64 s1, .int .i64 s2]) [.bool true, .int .i64 s0, .int .i64 s1, .int .i64 s2] rfl rfl rfl (by kernel_rfl) H8.out.1 rfl (by simp only [List.mem_cons, List.not_mem_nil, or_false, forall_eq_or_imp, forall_eq]; exact ⟨rfl, rfl, rfl, rfl⟩) HS.out.below GB8.out ?_; intro ws8 hbox hb hgr; (have hss := ST.far HS.out hgr H8.out.2 (Bx.ne_gw H8.out HS.out (by decide)) G8.out GB8.out); (have hbx : Bx gk _ ws8 g8 #[.bool true, .int .i64 s0, .int .i64 s1, .int .i64 s2] 59 := ⟨hbox, H8.out.2⟩); clear HS; (have HS := Aside0.mk hss); clear hss; clear H8; (have H8 := Aside0.mk hbx); clear hbx hbox hb hgr))
        refine bodyPost_ret (results_cell_row rfl _ _ g8 59 #[.bool true, .int .i64 s0, .int .i64 s1, .int .i64 s2] (0, 0) _ rfl H8.out.1 Try.underlying59 rfl (by kernel_rfl)) rfl ?_
        exact ⟨by rw [HBV.out], rs2, HS.out⟩
end
end Go.Proofs.Ythapclmfkjldaaa.HandLN
