/- Walked by hand: balance.needs over each of its two numbers; the sums' closed forms; spread and deal in the printed contracts' form. Printed by wip/gen_bl.py. -/
import Derived.Test.YtihmbddneapooaaHandBLa
import Derived.Test.YtihmbddneapooaaQBAx1
import Derived.Test.YtihmbddneapooaaQBAx2
namespace Go.Proofs.Ytihmbddneapooaa.HandBL
open Go.Proofs.Ytihmbddneapooaa.Lib (w64 rd_set tdiv_nn tmod_nn ext_rd drop_rd)
open Go.RowKit Go.Proofs.YtihmbddneapooaaW.PrintWords Go.Proofs.YtihmbddneapooaaW.PrintLast Go.Proofs.YtihmbddneapooaaW.PrintMore Go.Proofs.Ytihmbddneapooaa.QBA
set_option linter.unusedVariables false
attribute [local go_sem] max2_int min2_int max_two min_two
theorem info3 : (Try.prog.info? 3).map (fun i => (i.zero, i.size, i.bytes)) = some (some (.int .i64 0), 1, 8) := by kernel_rfl
/-- The sum, as the machine counts it. -/
def tot (xs : List Int) : Int := xs.foldl (fun a x => wrap64 (a + x)) 0
theorem sum_l0 (xs : List Int) (hx : xs.length ≤ 1000000) : ∀ (d : Nat) (i acc : Int), 0 ≤ i → i + d = xs.length → balance_sum.l0 (d + 1) acc xs (xs.length : Int) i = some ((xs.drop i.toNat).foldl (fun a x => wrap64 (a + x)) acc)
  | 0, i, acc, h0, h => by
    rw [balance_sum.l0, if_neg (by omega), List.drop_eq_nil_of_le (by omega)]; rfl
  | d + 1, i, acc, h0, h => by
    rw [balance_sum.l0, if_pos (by omega), if_pos h0, if_pos (by omega), w64 (n := i + 1) (by omega) (by omega), sum_l0 xs hx d (i + 1) _ (by omega) (by omega), drop_rd (xs := xs) h0 (by omega)]; rfl
theorem sum_ok (xs : List Int) (hx : xs.length ≤ 1000000) : balance_sum.f (xs.length + 1) xs = some (tot xs) := sum_l0 xs hx xs.length 0 0 (by omega) (by omega)
theorem total_l0 (xs : List Int) (hx : xs.length ≤ 1000000) : ∀ (d : Nat) (i acc : Int), 0 ≤ i → i + d = xs.length → chanceryref3_total.l0 (d + 1) acc xs (xs.length : Int) i = some ((xs.drop i.toNat).foldl (fun a x => wrap64 (a + x)) acc)
  | 0, i, acc, h0, h => by
    rw [chanceryref3_total.l0, if_neg (by omega), List.drop_eq_nil_of_le (by omega)]; rfl
  | d + 1, i, acc, h0, h => by
    rw [chanceryref3_total.l0, if_pos (by omega), if_pos h0, if_pos (by omega), w64 (n := i + 1) (by omega) (by omega), total_l0 xs hx d (i + 1) _ (by omega) (by omega), drop_rd (xs := xs) h0 (by omega)]; rfl
theorem total_ok (xs : List Int) (hx : xs.length ≤ 1000000) : chanceryref3_total.f (xs.length + 1) xs = some (tot xs) := total_l0 xs hx xs.length 0 0 (by omega) (by omega)
def balance_spread.f (l0 : List Int) (a1 : Int) : Option (List Int) := if 0 < l0.length ∧ 0 ≤ a1 ∧ a1 ≤ 9223372036854775807 then some (addTo l0 0 l0.length a1) else none
def chanceryref3_deal.f (l0 : List Int) (a1 : Int) : Option (List Int) := balance_spread.f l0 a1
theorem of_seg {F : Nat} (hF : ∀ (g off m cap cap0 base : Nat) (ok : Nat → Prop) (xs : List Int) (n : Int) (w : World), Kd.R (Kd.int .i64) 3 w base ok (.slice (some ⟨g, 0, none⟩) xs.length cap0) xs → 0 < m → off + m ≤ xs.length → 0 ≤ n → n ≤ 9223372036854775807 →
    Calls Try.prog F #[.slice (some ⟨g, off, none⟩) m cap, .int .i64 n] w fun e w' => e = .returned (.tuple #[]) ∧ Kd.R (Kd.int .i64) 3 w' base ok (.slice (some ⟨g, 0, none⟩) xs.length cap0) (addTo xs off m n) ∧ Below g w w' ∧ KeepBut w w' g none)
    (P0_ : Nat → Prop) (u9000_ : Value) (l0 : List Int) (a1 : Int) (r : List Int) (w0 w : World) (hB : Below w0.heap.size w0 w) (ho0 : Kd.R (Kd.int .i64) 3 w w0.heap.size P0_ u9000_ l0) (h : balance_spread.f l0 a1 = some r) :
    Calls Try.prog F #[u9000_, .int .i64 a1] w fun e w' => e = .returned (.tuple #[]) ∧ Kd.R (Kd.int .i64) 3 w' w0.heap.size (fun k_ => (P0_ k_ ∨ w.heap.size ≤ k_)) u9000_ r ∧ Below w0.heap.size w0 w' ∧ Kept w w' (fun k_ => P0_ k_) := by
  unfold balance_spread.f at h
  by_cases c : 0 < l0.length ∧ 0 ≤ a1 ∧ a1 ≤ 9223372036854775807
  · rw [if_pos c] at h
    obtain rfl := Option.some.inj h
    obtain ⟨g, cap, rfl, hg, hgl, _⟩ := Kd.R_form ho0 c.1
    refine (hF g 0 l0.length cap cap w0.heap.size P0_ l0 a1 w ho0 c.1 (by omega) c.2.1 c.2.2).mono ?_
    rintro e w' ⟨rfl, hR, hb, hk⟩
    refine ⟨rfl, Kd.R_mono hR (fun _ h => .inl h), below_weaken hB hg hb, hk.1, fun i hi hn => hk.2 i hi (fun e => hn ?_) (by simp)⟩
    subst e
    exact ho0.1 _ rfl
  · rw [if_neg c] at h
    exact absurd h (by simp)
theorem balance_spread.calls (P0_ : Nat → Prop) (u9000_ : Value) (l0 : List Int) (a1 : Int) (r : List Int) (w0 w : World) (hB : Below w0.heap.size w0 w) (ho0 : Kd.R (Kd.int .i64) 3 w w0.heap.size P0_ u9000_ l0) (h : balance_spread.f l0 a1 = some r) :
    Calls Try.prog 59 #[u9000_, .int .i64 a1] w fun e w' => e = .returned (.tuple #[]) ∧ Kd.R (Kd.int .i64) 3 w' w0.heap.size (fun k_ => (P0_ k_ ∨ w.heap.size ≤ k_)) u9000_ r ∧ Below w0.heap.size w0 w' ∧ Kept w w' (fun k_ => P0_ k_) :=
  of_seg (fun g off m cap cap0 base ok xs n w ho hm hx _ _ => spread_seg g off m cap cap0 base ok xs n w ho hm hx) P0_ u9000_ l0 a1 r w0 w hB ho0 h
theorem chanceryref3_deal.calls (P0_ : Nat → Prop) (u9000_ : Value) (l0 : List Int) (a1 : Int) (r : List Int) (w0 w : World) (hB : Below w0.heap.size w0 w) (ho0 : Kd.R (Kd.int .i64) 3 w w0.heap.size P0_ u9000_ l0) (h : chanceryref3_deal.f l0 a1 = some r) :
    Calls Try.prog 55 #[u9000_, .int .i64 a1] w fun e w' => e = .returned (.tuple #[]) ∧ Kd.R (Kd.int .i64) 3 w' w0.heap.size (fun k_ => (P0_ k_ ∨ w.heap.size ≤ k_)) u9000_ r ∧ Below w0.heap.size w0 w' ∧ Kept w w' (fun k_ => P0_ k_) :=
  of_seg (fun g off m cap cap0 base ok xs n w ho hm hx hn hn2 => deal_seg g off m cap cap0 base ok xs n w ho hm hx hn hn2) P0_ u9000_ l0 a1 r w0 w hB ho0 h
def numA (x : S94) : Int := x.f2
def numB (x : S94) : Int := if x.f2 < x.f3 then x.f3 else x.f2
def seg (xs : List Int) (off m : Nat) : List Int := (xs.take (off + m)).drop off
/-- One cell's need, in the columns of a span. -/
def stepN (num : S94 → Int) (s : Int) (xs : List Int) (c : S94) : List Int :=
  if c.f1 = s then (if 0 < wrap64 (num c - tot (seg xs c.f0.toNat s.toNat)) then addTo xs c.f0.toNat s.toNat (wrap64 (num c - tot (seg xs c.f0.toNat s.toNat))) else xs) else xs
def cellsN (num : S94 → Int) (s : Int) (l : List S94) (xs : List Int) (j : Nat) : List Int := (l.take j).foldl (stepN num s) xs
def rowsN (num : S94 → Int) (l : List S94) (cols : Nat) : Nat → List Int
  | 0 => List.replicate cols 0
  | s + 1 => cellsN num ((s : Int) + 1) l (rowsN num l cols s) l.length
theorem stepN_length (num : S94 → Int) (s : Int) (xs : List Int) (c : S94) : (stepN num s xs c).length = xs.length := by
  unfold stepN
  split
  · split
    · exact addTo_length _ _ _ _
    · rfl
  · rfl
theorem foldN_length (num : S94 → Int) (s : Int) : ∀ (l : List S94) (xs : List Int), (l.foldl (stepN num s) xs).length = xs.length
  | [], xs => rfl
  | c :: l, xs => by rw [List.foldl_cons, foldN_length num s l, stepN_length]
theorem cellsN_length (num : S94 → Int) (s : Int) (l : List S94) (xs : List Int) (j : Nat) : (cellsN num s l xs j).length = xs.length := foldN_length _ _ _ _
theorem rowsN_length (num : S94 → Int) (l : List S94) (cols : Nat) : ∀ s, (rowsN num l cols s).length = cols
  | 0 => List.length_replicate
  | s + 1 => by rw [rowsN, cellsN_length, rowsN_length num l cols s]
theorem cellsN_succ (num : S94 → Int) (s : Int) (l : List S94) (xs : List Int) (j : Int) (h0 : 0 ≤ j) (h : j < l.length) : cellsN num s l xs (j + 1).toNat = stepN num s (cellsN num s l xs j.toNat) (rd_T94 l j) := by
  unfold cellsN rd_T94
  rw [show (j + 1).toNat = j.toNat + 1 by omega, List.take_succ_eq_append_getElem (by omega), List.foldl_append, List.getD_eq_getElem?_getD, List.getElem?_eq_getElem (by omega)]
  rfl
def good (cols : Int) (l : List S94) : Prop := ∀ c ∈ l, 0 ≤ c.f0 ∧ 1 ≤ c.f1 ∧ c.f1 ≤ cols - c.f0
instance (cols : Int) (l : List S94) : Decidable (good cols l) := by unfold good; infer_instance
theorem good_at {cols : Int} {l : List S94} (h : good cols l) {j : Int} (h0 : 0 ≤ j) (h1 : j < l.length) : 0 ≤ (rd_T94 l j).f0 ∧ 1 ≤ (rd_T94 l j).f1 ∧ (rd_T94 l j).f1 ≤ cols - (rd_T94 l j).f0 := h _ (by
  unfold rd_T94
  rw [List.getD_eq_getElem?_getD, List.getElem?_eq_getElem (by omega)]
  exact List.getElem_mem _)
theorem seg_length {xs : List Int} {off m : Nat} (h : off + m ≤ xs.length) : (seg xs off m).length = m := by unfold seg; rw [List.length_drop, List.length_take]; omega
/-- A part of a row, read. -/
theorem seg_reads {w : World} {base g cap : Nat} {ok : Nat → Prop} {xs : List Int} (ho : Kd.R (Kd.int .i64) 3 w base ok (.slice (some ⟨g, 0, none⟩) xs.length cap) xs) {off m : Nat} (hm : 0 < m) (h : off + m ≤ xs.length) :
    Kd.C (Kd.int .i64) w (some ⟨g, off, none⟩) (seg xs off m).length (seg xs off m) := by
  obtain ⟨_, hc, hC⟩ := Kd.R_reads' ho
  have := Kd.C_mid (k := Kd.int .i64) (lo := off) (hi := off + m) (c := cap) hC (by omega) h hc
  rw [if_neg (by omega)] at this
  have e : (some (⟨g, 0, none⟩ : Addr)).map (fun x => x.add (off * (Kd.int .i64).sz)) = some ⟨g, off, none⟩ := by
    simp [Addr.add, Kd.int, Kd.scalar]
    omega
  rw [e] at this
  exact this
/-- The expression out[col : col+span]. -/
theorem seg_cut (g n cap : Nat) (lo s : Int) (h0 : 0 ≤ lo) (h1 : 0 < s) (h2 : lo + s ≤ n) (hc : n ≤ cap) (hn : n ≤ 64) (W : World) :
    (Instr.slice 34 (.slice (some ⟨g, 0, none⟩) n cap) (some (.int .i64 lo)) (some (.int .i64 (wrap64 (lo + s)))) none).run Try.prog W = .ok (.slice (some ⟨g, lo.toNat, none⟩) s.toNat (cap - lo.toNat)) W := by
  obtain ⟨i0, hi, _, hsz, _⟩ := info_parts info3
  rw [w64 (n := lo + s) (by omega) (by omega)]
  rw [cut_mid 34 3 .i64 .i64 Try.underlying34 hi 1 hsz (some ⟨g, 0, none⟩) n cap lo (lo + s) h0 (by omega) h2 hc W, if_neg (by omega), show (lo + s).toNat - lo.toNat = s.toNat by omega]
  simp [Addr.add]
  omega
set_option maxHeartbeats 1000000 in
set_option maxRecDepth 100000 in
theorem numA_ok (x : S94) (w : World) : Calls Try.prog 52 #[.agg #[.int .i64 x.f0, .int .i64 x.f1, .int .i64 x.f2, .int .i64 x.f3]] w fun e w' => e = .returned (.int .i64 (numA x)) ∧ Below w.heap.size w w' := by
  have hu94 := Try.underlying94
  have HB := Aside0.mk (Below.refl w.heap.size w)
  go_enter Try.func52, Try.ntmps52
  go_wp2
  go_ret
  exact ⟨rfl, by repeat (first | (with_reducible first | exact HB.out | apply below_alloc) | refine below_set ?_ (by simp))⟩
set_option maxHeartbeats 1000000 in
set_option maxRecDepth 100000 in
theorem numB_ok (x : S94) (w : World) : Calls Try.prog 53 #[.agg #[.int .i64 x.f0, .int .i64 x.f1, .int .i64 x.f2, .int .i64 x.f3]] w fun e w' => e = .returned (.int .i64 (numB x)) ∧ Below w.heap.size w w' := by
  have hu94 := Try.underlying94
  have HB := Aside0.mk (Below.refl w.heap.size w)
  by_cases h : x.f2 < x.f3
  · rw [show numB x = x.f3 from if_pos h]
    go_enter Try.func53, Try.ntmps53
    go_wp2
    go_ret
    exact ⟨rfl, by repeat (first | (with_reducible first | exact HB.out | apply below_alloc) | refine below_set ?_ (by simp))⟩
  · rw [show numB x = x.f2 from if_neg h]
    go_enter Try.func53, Try.ntmps53
    go_wp2
    go_ret
    exact ⟨rfl, by repeat (first | (with_reducible first | exact HB.out | apply below_alloc) | refine below_set ?_ (by simp))⟩
set_option maxHeartbeats 8000000 in
set_option maxRecDepth 100000 in
theorem needs_numA (cols : Int) (A : Option Addr) (c : Nat) (l : List S94) (w : World) (hr : Kd.C k94 w A l.length l) (hc : l.length ≤ c) (h1 : 1 ≤ cols) (h2 : cols ≤ 64) (hl : l.length ≤ 4000) (hg : good cols l) :
    Calls Try.prog 51 #[.int .i64 cols, .slice A l.length c, .func (.func 52) #[] #[]] w fun e w' => ∃ v : Value, e = .returned v ∧ Kd.R (Kd.int .i64) 3 w' w.heap.size (fun _ => True) v (rowsN numA l cols.toNat cols.toNat) ∧ Below w.heap.size w w' := by
  have hu94 := Try.underlying94
  have HR := Aside0.mk hr
  have HC := Aside0.mk hc
  have HG := Aside0.mk hg
  have HB := Aside0.mk (Below.refl w.heap.size w)
  clear hr hc hg
  have hcb : (0 : Int) ≤ cols := by omega
  go_enter Try.func51, Try.ntmps51
  go_wp2_with (first | ((with_reducible refine gate_dst (N := 14) rfl ?_); refine Kd.R_make (Kd.int .i64) _ 3 rfl (N := 14) rfl 34 _ _ rfl cols rfl rfl Try.underlying34 (.int .i64 0) 8 info3 rfl (by decide) (by omega) 0 (ok := fun _ => True) (okp := fun _ => True) rfl (fun _ hk => hk) trivial hcb (by omega) (Below.refl _ _) (Nat.le_refl _) ?_; intro v14 w14 ho hb hg_ hnew_; clear hg_ hnew_; have HO := Aside0.mk (Kd.R_lower ho (below_size HB.out)); have HB1 := Aside0.mk (below_step HB.out hb); clear HB; have HB := HB1; clear HB1 hb ho; obtain ⟨g, cap, ev, hgb, _, _⟩ := Kd.R_form HO.out (by rw [List.length_replicate]; omega); rw [List.length_replicate] at ev; subst ev; have HCAP := Aside0.mk (show cols.toNat ≤ cap from (List.length_replicate (n := cols.toNat) (a := (0 : Int))) ▸ (Kd.R_reads' HO.out).2.1)))
  go_loopw [8] (fun v8 w' => ∃ s : Int, v8 = .int .i64 s ∧ 1 ≤ s ∧ s ≤ cols + 1 ∧ Aside0 (Kd.R (Kd.int .i64) 3 w' w.heap.size (fun _ => True) (.slice (some ⟨g, 0, none⟩) cols.toNat cap) (rowsN numA l cols.toNat (s - 1).toNat)) ∧ Aside0 (Below w.heap.size w w')) (fun v8 _ => (cols + 1).toNat - (intOf v8).toNat)
  case atStart => exact ⟨1, rfl, by omega, by omega, HO, HB⟩
  case round =>
    clear HO HB
    obtain ⟨s, rfl, hs1, hs2, HO, HB⟩ := hrel
    by_cases hsc : s ≤ cols
    · go_wp2
      go_loopw [22] (fun v22 w' => ∃ j : Int, v22 = .int .i64 j ∧ 0 ≤ j ∧ j ≤ l.length ∧ Aside0 (Kd.R (Kd.int .i64) 3 w' w.heap.size (fun _ => True) (.slice (some ⟨g, 0, none⟩) cols.toNat cap) (cellsN numA s l (rowsN numA l cols.toNat (s - 1).toNat) j.toNat)) ∧ Aside0 (Below w.heap.size w w')) (fun v22 _ => l.length - (intOf v22).toNat)
      case atStart => exact ⟨0, rfl, by omega, by omega, HO, HB⟩
      case round =>
        clear HO HB
        obtain ⟨j, rfl, hj0, hj1, HO, HB⟩ := hrel
        have hxl := (cellsN_length numA s l (rowsN numA l cols.toNat (s - 1).toNat) j.toNat).trans (rowsN_length numA l cols.toNat (s - 1).toNat)
        by_cases hjl : j < (l.length : Int)
        · have hst := cellsN_succ numA s l (rowsN numA l cols.toNat (s - 1).toNat) j hj0 hjl
          obtain ⟨hgd0, hgd1, hgd2⟩ := good_at HG.out hj0 hjl
          obtain ⟨ad, eA, hx0, hx1, hx2, hx3⟩ := at_T94 HR.out j hj0 hjl
          cases eA
          replace hx0 := (HB.out.cell (World.block_lt_of_cell? w _ hx0)).trans hx0
          replace hx1 := (HB.out.cell (World.block_lt_of_cell? w _ hx1)).trans hx1
          replace hx2 := (HB.out.cell (World.block_lt_of_cell? w _ hx2)).trans hx2
          replace hx3 := (HB.out.cell (World.block_lt_of_cell? w _ hx3)).trans hx3
          generalize rd_T94 l j = x at hst hgd0 hgd1 hgd2 hx0 hx1 hx2 hx3
          generalize cellsN numA s l (rowsN numA l cols.toNat (s - 1).toNat) j.toNat = xs at hst hxl HO
          have HST := Aside0.mk hst
          clear hst
          by_cases hsp : x.f1 = s
          · have hspb : (x.f1 != s) = false := bne_eq_false_iff_eq.2 hsp
            have hspc : (x.f1 == s) = true := beq_iff_eq.2 hsp
            have HSP := Aside0.mk hsp
            have hend : x.f0.toNat + s.toNat ≤ xs.length := by omega
            have hc1 : 0 ≤ x.f0 + s ∧ x.f0 + s ≤ (cap : Int) := ⟨by omega, by have := HCAP.out; omega⟩
            have hsub : (x.f0 + s).toNat - x.f0.toNat = s.toNat := by omega
            have hsl := seg_length hend
            have hargs : (#[.slice (some ⟨g, x.f0.toNat, none⟩) (seg xs x.f0.toNat s.toNat).length (cap - x.f0.toNat)] : Array Value) = #[.slice (some ⟨g, x.f0.toNat, none⟩) s.toNat (cap - x.f0.toNat)] := by rw [hsl]
            have HARG := Aside0.mk hargs
            clear hargs
            have hc2 : 0 ≤ x.f0 ∧ x.f0 ≤ x.f0 + s := ⟨hgd0, by omega⟩
            obtain ⟨T, hT⟩ : ∃ T, T = tot (seg xs x.f0.toNat s.toNat) := ⟨_, rfl⟩
            have HT := Aside0.mk hT
            clear hT hsp
            rw [← hxl] at HO
            by_cases hlk : 0 < wrap64 (numA x - T)
            · go_wp2_with (first | (go_at_call 52; refine (numA_ok x _).mono ?_; rintro e w2 ⟨rfl, hb⟩; have n0 : Aside0 (Below w.heap.size w w2) := ⟨by refine below_step ?_ hb; repeat (first | (with_reducible first | exact HB.out | apply below_alloc | apply pw_below_drewN | apply below_drew1) | exact HB.out)⟩; have n1 : Aside0 (Kd.R (Kd.int .i64) 3 w2 w.heap.size (fun _ => True) (.slice (some ⟨g, 0, none⟩) xs.length cap) xs) := ⟨by refine Kd.R_below ?_ hb; (with_reducible repeat (first | apply Kd.R_alloc | apply Kd.R_drewN | apply Kd.R_drew)); exact HO.out⟩; clear HO HB hb; have HO := n1; have HB := n0; clear n0 n1) | (go_at_call 56; with_reducible refine calls_of_args HARG.out.symm ?_; refine (balance_sum.calls _ _ _ (seg xs x.f0.toNat s.toNat) T _ (seg_reads HO.out (by omega) hend) (by rw [hsl]; have := HCAP.out; omega) (by rw [HT.out]; exact sum_ok _ (by rw [hsl]; omega))).mono ?_; rintro e w2 ⟨rfl, ⟨nd, rfl⟩⟩; have n0 := Aside0.mk (pw_below_drewN HB.out nd); have n1 := Aside0.mk (Kd.R_drewN HO.out nd); clear HO HB; have HO := n1; have HB := n0; clear n0 n1) | (go_at_call 59; refine (spread_seg g x.f0.toNat s.toNat _ cap _ _ xs _ _ HO.out (by omega) hend).mono ?_; rintro e w2 ⟨rfl, hR, hb, hk⟩; have n0 := Aside0.mk (below_weaken HB.out (Kd.R_base HO.out g rfl) hb); have n1 := Aside0.mk hR; clear HO HB hR hb hk; have HO := n1; have HB := n0; clear n0 n1))
              go_roundw
              case rel =>
                refine ⟨j + 1, by first | rfl | rw [w64 (by omega) (by omega)], by omega, by omega, ⟨?_⟩, HB⟩
                rw [HST.out, stepN, if_pos HSP.out, ← HT.out, if_pos hlk, ← hxl]
                exact HO.out
              case measure => first | (simp [intOf]; omega) | (rw [w64 (by omega) (by omega)]; simp [intOf]; omega)
            · go_wp2_with (first | (go_at_call 52; refine (numA_ok x _).mono ?_; rintro e w2 ⟨rfl, hb⟩; have n0 : Aside0 (Below w.heap.size w w2) := ⟨by refine below_step ?_ hb; repeat (first | (with_reducible first | exact HB.out | apply below_alloc | apply pw_below_drewN | apply below_drew1) | exact HB.out)⟩; have n1 : Aside0 (Kd.R (Kd.int .i64) 3 w2 w.heap.size (fun _ => True) (.slice (some ⟨g, 0, none⟩) xs.length cap) xs) := ⟨by refine Kd.R_below ?_ hb; (with_reducible repeat (first | apply Kd.R_alloc | apply Kd.R_drewN | apply Kd.R_drew)); exact HO.out⟩; clear HO HB hb; have HO := n1; have HB := n0; clear n0 n1) | (go_at_call 56; with_reducible refine calls_of_args HARG.out.symm ?_; refine (balance_sum.calls _ _ _ (seg xs x.f0.toNat s.toNat) T _ (seg_reads HO.out (by omega) hend) (by rw [hsl]; have := HCAP.out; omega) (by rw [HT.out]; exact sum_ok _ (by rw [hsl]; omega))).mono ?_; rintro e w2 ⟨rfl, ⟨nd, rfl⟩⟩; have n0 := Aside0.mk (pw_below_drewN HB.out nd); have n1 := Aside0.mk (Kd.R_drewN HO.out nd); clear HO HB; have HO := n1; have HB := n0; clear n0 n1) | (go_at_call 59; refine (spread_seg g x.f0.toNat s.toNat _ cap _ _ xs _ _ HO.out (by omega) hend).mono ?_; rintro e w2 ⟨rfl, hR, hb, hk⟩; have n0 := Aside0.mk (below_weaken HB.out (Kd.R_base HO.out g rfl) hb); have n1 := Aside0.mk hR; clear HO HB hR hb hk; have HO := n1; have HB := n0; clear n0 n1))
              go_roundw
              case rel =>
                refine ⟨j + 1, by first | rfl | rw [w64 (by omega) (by omega)], by omega, by omega, ⟨?_⟩, HB⟩
                rw [HST.out, stepN, if_pos HSP.out, ← HT.out, if_neg (by first | exact hlk | omega), ← hxl]
                exact HO.out
              case measure => first | (simp [intOf]; omega) | (rw [w64 (by omega) (by omega)]; simp [intOf]; omega)
          · have hspb : (x.f1 != s) = true := bne_iff_ne.2 hsp
            have hspc : (x.f1 == s) = false := beq_eq_false_iff_ne.2 hsp
            have HSP := Aside0.mk hsp
            clear hsp
            go_wp2
            go_roundw
            case rel =>
              refine ⟨j + 1, by first | rfl | rw [w64 (by omega) (by omega)], by omega, by omega, ⟨?_⟩, ⟨?_⟩⟩
              · rw [HST.out, stepN, if_neg HSP.out]
                with_reducible repeat (first | apply Kd.R_alloc | apply Kd.R_drewN | apply Kd.R_drew)
                exact HO.out
              · repeat (first | (with_reducible first | exact HB.out | apply below_alloc | apply pw_below_drewN | apply below_drew1) | exact HB.out)
            case measure => first | (simp [intOf]; omega) | (rw [w64 (by omega) (by omega)]; simp [intOf]; omega)
        · have hje : j.toNat = l.length := by omega
          rw [hje] at HO
          go_wp2
          go_roundw
          case rel =>
            refine ⟨s + 1, by first | rfl | rw [w64 (by omega) (by omega)], by omega, by omega, ⟨?_⟩, HB⟩
            rw [show (s + 1 - 1).toNat = (s - 1).toNat + 1 by omega, rowsN, show (((s - 1).toNat : Nat) : Int) + 1 = s by omega]
            exact HO.out
          case measure => first | (simp [intOf]; omega) | (rw [w64 (by omega) (by omega)]; simp [intOf]; omega)
    · go_wp2
      have hse : (s - 1).toNat = cols.toNat := by omega
      rw [hse] at HO
      go_ret
      exact ⟨_, rfl, HO.out, HB.out⟩
set_option maxHeartbeats 8000000 in
set_option maxRecDepth 100000 in
theorem needs_numB (cols : Int) (A : Option Addr) (c : Nat) (l : List S94) (w : World) (hr : Kd.C k94 w A l.length l) (hc : l.length ≤ c) (h1 : 1 ≤ cols) (h2 : cols ≤ 64) (hl : l.length ≤ 4000) (hg : good cols l) :
    Calls Try.prog 51 #[.int .i64 cols, .slice A l.length c, .func (.func 53) #[] #[]] w fun e w' => ∃ v : Value, e = .returned v ∧ Kd.R (Kd.int .i64) 3 w' w.heap.size (fun _ => True) v (rowsN numB l cols.toNat cols.toNat) ∧ Below w.heap.size w w' := by
  have hu94 := Try.underlying94
  have HR := Aside0.mk hr
  have HC := Aside0.mk hc
  have HG := Aside0.mk hg
  have HB := Aside0.mk (Below.refl w.heap.size w)
  clear hr hc hg
  have hcb : (0 : Int) ≤ cols := by omega
  go_enter Try.func51, Try.ntmps51
  go_wp2_with (first | ((with_reducible refine gate_dst (N := 14) rfl ?_); refine Kd.R_make (Kd.int .i64) _ 3 rfl (N := 14) rfl 34 _ _ rfl cols rfl rfl Try.underlying34 (.int .i64 0) 8 info3 rfl (by decide) (by omega) 0 (ok := fun _ => True) (okp := fun _ => True) rfl (fun _ hk => hk) trivial hcb (by omega) (Below.refl _ _) (Nat.le_refl _) ?_; intro v14 w14 ho hb hg_ hnew_; clear hg_ hnew_; have HO := Aside0.mk (Kd.R_lower ho (below_size HB.out)); have HB1 := Aside0.mk (below_step HB.out hb); clear HB; have HB := HB1; clear HB1 hb ho; obtain ⟨g, cap, ev, hgb, _, _⟩ := Kd.R_form HO.out (by rw [List.length_replicate]; omega); rw [List.length_replicate] at ev; subst ev; have HCAP := Aside0.mk (show cols.toNat ≤ cap from (List.length_replicate (n := cols.toNat) (a := (0 : Int))) ▸ (Kd.R_reads' HO.out).2.1)))
  go_loopw [8] (fun v8 w' => ∃ s : Int, v8 = .int .i64 s ∧ 1 ≤ s ∧ s ≤ cols + 1 ∧ Aside0 (Kd.R (Kd.int .i64) 3 w' w.heap.size (fun _ => True) (.slice (some ⟨g, 0, none⟩) cols.toNat cap) (rowsN numB l cols.toNat (s - 1).toNat)) ∧ Aside0 (Below w.heap.size w w')) (fun v8 _ => (cols + 1).toNat - (intOf v8).toNat)
  case atStart => exact ⟨1, rfl, by omega, by omega, HO, HB⟩
  case round =>
    clear HO HB
    obtain ⟨s, rfl, hs1, hs2, HO, HB⟩ := hrel
    by_cases hsc : s ≤ cols
    · go_wp2
      go_loopw [22] (fun v22 w' => ∃ j : Int, v22 = .int .i64 j ∧ 0 ≤ j ∧ j ≤ l.length ∧ Aside0 (Kd.R (Kd.int .i64) 3 w' w.heap.size (fun _ => True) (.slice (some ⟨g, 0, none⟩) cols.toNat cap) (cellsN numB s l (rowsN numB l cols.toNat (s - 1).toNat) j.toNat)) ∧ Aside0 (Below w.heap.size w w')) (fun v22 _ => l.length - (intOf v22).toNat)
      case atStart => exact ⟨0, rfl, by omega, by omega, HO, HB⟩
      case round =>
        clear HO HB
        obtain ⟨j, rfl, hj0, hj1, HO, HB⟩ := hrel
        have hxl := (cellsN_length numB s l (rowsN numB l cols.toNat (s - 1).toNat) j.toNat).trans (rowsN_length numB l cols.toNat (s - 1).toNat)
        by_cases hjl : j < (l.length : Int)
        · have hst := cellsN_succ numB s l (rowsN numB l cols.toNat (s - 1).toNat) j hj0 hjl
          obtain ⟨hgd0, hgd1, hgd2⟩ := good_at HG.out hj0 hjl
          obtain ⟨ad, eA, hx0, hx1, hx2, hx3⟩ := at_T94 HR.out j hj0 hjl
          cases eA
          replace hx0 := (HB.out.cell (World.block_lt_of_cell? w _ hx0)).trans hx0
          replace hx1 := (HB.out.cell (World.block_lt_of_cell? w _ hx1)).trans hx1
          replace hx2 := (HB.out.cell (World.block_lt_of_cell? w _ hx2)).trans hx2
          replace hx3 := (HB.out.cell (World.block_lt_of_cell? w _ hx3)).trans hx3
          generalize rd_T94 l j = x at hst hgd0 hgd1 hgd2 hx0 hx1 hx2 hx3
          generalize cellsN numB s l (rowsN numB l cols.toNat (s - 1).toNat) j.toNat = xs at hst hxl HO
          have HST := Aside0.mk hst
          clear hst
          by_cases hsp : x.f1 = s
          · have hspb : (x.f1 != s) = false := bne_eq_false_iff_eq.2 hsp
            have hspc : (x.f1 == s) = true := beq_iff_eq.2 hsp
            have HSP := Aside0.mk hsp
            have hend : x.f0.toNat + s.toNat ≤ xs.length := by omega
            have hc1 : 0 ≤ x.f0 + s ∧ x.f0 + s ≤ (cap : Int) := ⟨by omega, by have := HCAP.out; omega⟩
            have hsub : (x.f0 + s).toNat - x.f0.toNat = s.toNat := by omega
            have hsl := seg_length hend
            have hargs : (#[.slice (some ⟨g, x.f0.toNat, none⟩) (seg xs x.f0.toNat s.toNat).length (cap - x.f0.toNat)] : Array Value) = #[.slice (some ⟨g, x.f0.toNat, none⟩) s.toNat (cap - x.f0.toNat)] := by rw [hsl]
            have HARG := Aside0.mk hargs
            clear hargs
            have hc2 : 0 ≤ x.f0 ∧ x.f0 ≤ x.f0 + s := ⟨hgd0, by omega⟩
            obtain ⟨T, hT⟩ : ∃ T, T = tot (seg xs x.f0.toNat s.toNat) := ⟨_, rfl⟩
            have HT := Aside0.mk hT
            clear hT hsp
            rw [← hxl] at HO
            by_cases hlk : 0 < wrap64 (numB x - T)
            · go_wp2_with (first | (go_at_call 53; refine (numB_ok x _).mono ?_; rintro e w2 ⟨rfl, hb⟩; have n0 : Aside0 (Below w.heap.size w w2) := ⟨by refine below_step ?_ hb; repeat (first | (with_reducible first | exact HB.out | apply below_alloc | apply pw_below_drewN | apply below_drew1) | exact HB.out)⟩; have n1 : Aside0 (Kd.R (Kd.int .i64) 3 w2 w.heap.size (fun _ => True) (.slice (some ⟨g, 0, none⟩) xs.length cap) xs) := ⟨by refine Kd.R_below ?_ hb; (with_reducible repeat (first | apply Kd.R_alloc | apply Kd.R_drewN | apply Kd.R_drew)); exact HO.out⟩; clear HO HB hb; have HO := n1; have HB := n0; clear n0 n1) | (go_at_call 56; with_reducible refine calls_of_args HARG.out.symm ?_; refine (balance_sum.calls _ _ _ (seg xs x.f0.toNat s.toNat) T _ (seg_reads HO.out (by omega) hend) (by rw [hsl]; have := HCAP.out; omega) (by rw [HT.out]; exact sum_ok _ (by rw [hsl]; omega))).mono ?_; rintro e w2 ⟨rfl, ⟨nd, rfl⟩⟩; have n0 := Aside0.mk (pw_below_drewN HB.out nd); have n1 := Aside0.mk (Kd.R_drewN HO.out nd); clear HO HB; have HO := n1; have HB := n0; clear n0 n1) | (go_at_call 59; refine (spread_seg g x.f0.toNat s.toNat _ cap _ _ xs _ _ HO.out (by omega) hend).mono ?_; rintro e w2 ⟨rfl, hR, hb, hk⟩; have n0 := Aside0.mk (below_weaken HB.out (Kd.R_base HO.out g rfl) hb); have n1 := Aside0.mk hR; clear HO HB hR hb hk; have HO := n1; have HB := n0; clear n0 n1))
              go_roundw
              case rel =>
                refine ⟨j + 1, by first | rfl | rw [w64 (by omega) (by omega)], by omega, by omega, ⟨?_⟩, HB⟩
                rw [HST.out, stepN, if_pos HSP.out, ← HT.out, if_pos hlk, ← hxl]
                exact HO.out
              case measure => first | (simp [intOf]; omega) | (rw [w64 (by omega) (by omega)]; simp [intOf]; omega)
            · go_wp2_with (first | (go_at_call 53; refine (numB_ok x _).mono ?_; rintro e w2 ⟨rfl, hb⟩; have n0 : Aside0 (Below w.heap.size w w2) := ⟨by refine below_step ?_ hb; repeat (first | (with_reducible first | exact HB.out | apply below_alloc | apply pw_below_drewN | apply below_drew1) | exact HB.out)⟩; have n1 : Aside0 (Kd.R (Kd.int .i64) 3 w2 w.heap.size (fun _ => True) (.slice (some ⟨g, 0, none⟩) xs.length cap) xs) := ⟨by refine Kd.R_below ?_ hb; (with_reducible repeat (first | apply Kd.R_alloc | apply Kd.R_drewN | apply Kd.R_drew)); exact HO.out⟩; clear HO HB hb; have HO := n1; have HB := n0; clear n0 n1) | (go_at_call 56; with_reducible refine calls_of_args HARG.out.symm ?_; refine (balance_sum.calls _ _ _ (seg xs x.f0.toNat s.toNat) T _ (seg_reads HO.out (by omega) hend) (by rw [hsl]; have := HCAP.out; omega) (by rw [HT.out]; exact sum_ok _ (by rw [hsl]; omega))).mono ?_; rintro e w2 ⟨rfl, ⟨nd, rfl⟩⟩; have n0 := Aside0.mk (pw_below_drewN HB.out nd); have n1 := Aside0.mk (Kd.R_drewN HO.out nd); clear HO HB; have HO := n1; have HB := n0; clear n0 n1) | (go_at_call 59; refine (spread_seg g x.f0.toNat s.toNat _ cap _ _ xs _ _ HO.out (by omega) hend).mono ?_; rintro e w2 ⟨rfl, hR, hb, hk⟩; have n0 := Aside0.mk (below_weaken HB.out (Kd.R_base HO.out g rfl) hb); have n1 := Aside0.mk hR; clear HO HB hR hb hk; have HO := n1; have HB := n0; clear n0 n1))
              go_roundw
              case rel =>
                refine ⟨j + 1, by first | rfl | rw [w64 (by omega) (by omega)], by omega, by omega, ⟨?_⟩, HB⟩
                rw [HST.out, stepN, if_pos HSP.out, ← HT.out, if_neg (by first | exact hlk | omega), ← hxl]
                exact HO.out
              case measure => first | (simp [intOf]; omega) | (rw [w64 (by omega) (by omega)]; simp [intOf]; omega)
          · have hspb : (x.f1 != s) = true := bne_iff_ne.2 hsp
            have hspc : (x.f1 == s) = false := beq_eq_false_iff_ne.2 hsp
            have HSP := Aside0.mk hsp
            clear hsp
            go_wp2
            go_roundw
            case rel =>
              refine ⟨j + 1, by first | rfl | rw [w64 (by omega) (by omega)], by omega, by omega, ⟨?_⟩, ⟨?_⟩⟩
              · rw [HST.out, stepN, if_neg HSP.out]
                with_reducible repeat (first | apply Kd.R_alloc | apply Kd.R_drewN | apply Kd.R_drew)
                exact HO.out
              · repeat (first | (with_reducible first | exact HB.out | apply below_alloc | apply pw_below_drewN | apply below_drew1) | exact HB.out)
            case measure => first | (simp [intOf]; omega) | (rw [w64 (by omega) (by omega)]; simp [intOf]; omega)
        · have hje : j.toNat = l.length := by omega
          rw [hje] at HO
          go_wp2
          go_roundw
          case rel =>
            refine ⟨s + 1, by first | rfl | rw [w64 (by omega) (by omega)], by omega, by omega, ⟨?_⟩, HB⟩
            rw [show (s + 1 - 1).toNat = (s - 1).toNat + 1 by omega, rowsN, show (((s - 1).toNat : Nat) : Int) + 1 = s by omega]
            exact HO.out
          case measure => first | (simp [intOf]; omega) | (rw [w64 (by omega) (by omega)]; simp [intOf]; omega)
    · go_wp2
      have hse : (s - 1).toNat = cols.toNat := by omega
      rw [hse] at HO
      go_ret
      exact ⟨_, rfl, HO.out, HB.out⟩
end Go.Proofs.Ytihmbddneapooaa.HandBL
