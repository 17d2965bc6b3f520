/- Walked by hand: clock.pass and clock.show, which change a report behind a pointer; slices.Clone at events. -/
import Derived.Test.YtihmbddneapooaaPClockLeftx2
import Derived.Test.YtihmbddneapooaaLib
import Derived.Outline
import Derived.Laws.EntriesVeiled
namespace Go.Proofs.Ytihmbddneapooaa.HandCK
open Go.Proofs.Ytihmbddneapooaa.Lib (w64)
open Go.RowKit Go.Proofs.YtihmbddneapooaaW.PrintWords Go.Proofs.YtihmbddneapooaaW.PrintLast Go.Proofs.YtihmbddneapooaaW.PrintMore Go.Proofs.Ytihmbddneapooaa.PClockLeft
set_option linter.unusedVariables false
theorem info74 : (Try.prog.info? 74).map (fun i => (i.zero, i.size, i.bytes)) = some (some (.agg #[.int .i64 0, .int .i64 0, .int .i64 0]), 3, 24) := by kernel_rfl
structure Rep where
  run : Bool
  tot : Int
  sl : Int
  sls : List S74
/-- A report lies at block g. -/
def St (base : Nat) (w : World) (g : Nat) (s : Rep) : Prop :=
  ∃ v : Value, w.heap[g]? = some (.cells #[.bool s.run, .int .i64 s.tot, .int .i64 s.sl, v] 67 (0, 0)) ∧ base ≤ g ∧ Kd.R k74 74 w base (fun _ => True) v s.sls
/-- All blocks but those of slides, and g, are as they were. -/
def TK (g : Nat) (w w' : World) : Prop := ∀ k cells q f, w.heap[k]? = some (.cells cells q f) → q ≠ 74 → k ≠ g → w'.heap[k]? = some (.cells cells q f)
theorem TK.refl (g : Nat) (w : World) : TK g w w := fun _ _ _ _ h _ _ => h
theorem TK.trans {g : Nat} {w w1 w2 : World} (h : TK g w w1) (k : TK g w1 w2) : TK g w w2 := fun j c q f hj hq hg => k j c q f (h j c q f hj hq hg) hq hg
theorem TK.drewN {g : Nat} {w w1 : World} (h : TK g w w1) (n : Nat) : TK g w (w1.drewN n) := h
theorem TK.drew {g : Nat} {w w1 : World} (h : TK g w w1) : TK g w w1.drew := h
theorem TK.set {g i : Nat} {w w1 : World} (h : TK g w w1) (u : Value) : TK g w (w1.setCell ⟨g, i, none⟩ u) := fun j c q f hj hq hg => (Below.heap_setCell w1 ⟨g, i, none⟩ u j hg).trans (h j c q f hj hq hg)
theorem TK.row {g : Nat} {w w1 w2 : World} (h : TK g w w1) {row : Option Nat} (hg : w1.grownBy w2 row) (hty : ∀ k, row = some k → ∃ cells, w1.heap[k]? = some (.cells cells 74 (0, 0))) : TK g w w2 := fun j c q f hj hq hne => by
  have h1 := h j c q f hj hq hne
  refine (hg.block j (blk_lt h1) fun e => ?_).trans h1
  obtain ⟨cells, hc⟩ := hty j e.symm
  rw [h1] at hc
  injection hc with hc
  injection hc with _ hc
  exact hq hc
def passX (sl t : Int) (x : S74) : S74 := if x.f0 = sl then ⟨x.f0, wrap64 (x.f1 + t), x.f2⟩ else x
def passF (s : Rep) (t : Int) : Rep := if s.run = true then ⟨true, wrap64 (s.tot + t), s.sl, s.sls.map (passX s.sl t)⟩ else s
/-- The first i ones changed. -/
def mapTo {α : Type} (f : α → α) (xs : List α) (i : Nat) : List α := (xs.take i).map f ++ xs.drop i
theorem mapTo_length {α : Type} (f : α → α) (xs : List α) (i : Nat) : (mapTo f xs i).length = xs.length := by simp [mapTo]; omega
theorem mapTo_zero {α : Type} (f : α → α) (xs : List α) : mapTo f xs 0 = xs := by simp [mapTo]
theorem mapTo_all {α : Type} (f : α → α) (xs : List α) : mapTo f xs xs.length = xs.map f := by simp [mapTo]
theorem mapTo_at {α : Type} (f : α → α) (xs : List α) (i : Nat) (z : α) : (mapTo f xs i).getD i z = xs.getD i z := by
  unfold mapTo
  by_cases h : i < xs.length
  · rw [List.getD_eq_getElem?_getD, List.getD_eq_getElem?_getD, List.getElem?_append_right (by simp; omega), List.getElem?_drop]
    congr 2
    simp; omega
  · rw [List.drop_eq_nil_of_le (by omega), List.append_nil, List.take_of_length_le (by omega), List.getD_eq_getElem?_getD, List.getD_eq_getElem?_getD, List.getElem?_eq_none (by simp; omega), List.getElem?_eq_none (by omega)]
theorem mapTo_succ {α : Type} (f : α → α) (xs : List α) (i : Nat) (h : i < xs.length) (z : α) : mapTo f xs (i + 1) = (mapTo f xs i).set i (f (xs.getD i z)) := by
  have e : xs.getD i z = xs[i] := by rw [List.getD_eq_getElem?_getD, List.getElem?_eq_getElem h]; rfl
  unfold mapTo
  rw [e, List.set_append_right _ _ (by simp; omega), List.take_succ_eq_append_getElem h, List.map_append, List.append_assoc, List.drop_eq_getElem_cons h]
  have : i - ((xs.take i).map f).length = 0 := by simp; omega
  rw [this]
  rfl
theorem mapTo_same {α : Type} (f : α → α) (xs : List α) (i : Nat) (h : i < xs.length) (z : α) (hf : f (xs.getD i z) = xs.getD i z) : mapTo f xs (i + 1) = mapTo f xs i := by
  rw [mapTo_succ f xs i h z, hf]
  have e := mapTo_at f xs i z
  have hl : i < (mapTo f xs i).length := by rw [mapTo_length]; exact h
  rw [← e, List.getD_eq_getElem?_getD, List.getElem?_eq_getElem hl]
  exact List.set_getElem_self hl
def Pass (w0 : World) (g : Nat) (s : Rep) (t : Int) (w : World) : Prop :=
  Calls Try.prog 49 #[.pointer (some ⟨g, 0, none⟩), .int .i64 t] w fun e w' => e = .returned (.tuple #[]) ∧ St w0.heap.size w' g (passF s t) ∧ Below w0.heap.size w0 w' ∧ TK g w w'
set_option maxHeartbeats 4000000 in
set_option maxRecDepth 100000 in
theorem pass_off (w0 : World) (g : Nat) (tot sl : Int) (xs : List S74) (t : Int) (w : World) (hS : St w0.heap.size w g ⟨false, tot, sl, xs⟩) (hB : Below w0.heap.size w0 w) : Pass w0 g ⟨false, tot, sl, xs⟩ t w := by
  obtain ⟨v, hb, hg, hR⟩ := hS
  have hc0 : w.cell? ⟨g, 0, none⟩ = some (.bool false) := (blk_cell hb 0).trans rfl
  have HS := Aside0.mk (show St w0.heap.size w g ⟨false, tot, sl, xs⟩ from ⟨v, hb, hg, hR⟩)
  have HB := Aside0.mk hB
  clear hb hg hR hB
  unfold Pass
  go_enter Try.func49, Try.ntmps49
  go_wp2
  refine bodyPost_ret (results_none rfl _ _ _) rfl ?_
  exact ⟨rfl, HS.out, HB.out, TK.refl _ _⟩
set_option maxHeartbeats 4000000 in
set_option maxRecDepth 100000 in
theorem pass_on (w0 : World) (g : Nat) (tot sl : Int) (xs : List S74) (t : Int) (w : World) (hS : St w0.heap.size w g ⟨true, tot, sl, xs⟩) (hB : Below w0.heap.size w0 w) : Pass w0 g ⟨true, tot, sl, xs⟩ t w := by
  have hu67 := Try.underlying67
  have hu74 := Try.underlying74
  obtain ⟨v, hb, hg, hR⟩ := hS
  obtain ⟨A, c, rfl⟩ := Kd.R_slice hR
  have HN : Aside0 ((xs.length : Int) ≤ 9223372036854775807) := ⟨by have h9 : xs.length ≤ 9223372036854775807 := (Kd.R_reads' hR).2.2.2.1; omega⟩
  have hc0 : w.cell? ⟨g, 0, none⟩ = some (.bool true) := (blk_cell hb 0).trans rfl
  have hc1 : w.cell? ⟨g, 1, none⟩ = some (.int .i64 tot) := (blk_cell hb 1).trans rfl
  have hc2 : w.cell? ⟨g, 2, none⟩ = some (.int .i64 sl) := (blk_cell hb 2).trans rfl
  have hc3 : w.cell? ⟨g, 3, none⟩ = some (.slice A xs.length c) := (blk_cell hb 3).trans rfl
  have hf1 : w.frozen? ⟨g, 1, none⟩ = false := blk_frozen hb 1
  have HBK := Aside0.mk hb
  have HG := Aside0.mk hg
  have HR := Aside0.mk hR
  have HB := Aside0.mk hB
  clear hb hg hR hB
  unfold Pass
  go_enter Try.func49, Try.ntmps49
  go_wp2
  go_loopw [23] (fun v23 w' => ∃ i : Int, v23 = .int .i64 i ∧ 0 ≤ i ∧ i ≤ xs.length ∧ Aside0 (w'.heap[g]? = some (.cells #[.bool true, .int .i64 (wrap64 (tot + t)), .int .i64 sl, .slice A xs.length c] 67 (0, 0))) ∧ Aside0 (Kd.R k74 74 w' w0.heap.size (fun _ => True) (.slice A xs.length c) (mapTo (passX sl t) xs i.toNat)) ∧ Aside0 (Below w0.heap.size w0 w') ∧ Aside0 (TK g w w')) (fun v23 _ => xs.length - (intOf v23).toNat)
  case atStart =>
    refine ⟨0, rfl, by omega, by omega, ⟨blk_set HBK.out 1 _⟩, ⟨?_⟩, ⟨below_set HB.out HG.out⟩, ⟨TK.set (TK.refl _ _) _⟩⟩
    rw [show (0 : Int).toNat = 0 from rfl, mapTo_zero]
    exact Kd.R_mono (Kd.R_far (Kd.R_types HR.out HBK.out (by decide)) (fun _ hk => hk.2) _) (fun _ _ => trivial)
  case round =>
    clear HBK HR HB hc0 hc1 hc2 hc3 hf1
    obtain ⟨i, rfl, hi0, hi1, HBK, HO, HB, HT⟩ := hrel
    have hc2 : wr.cell? ⟨g, 2, none⟩ = some (.int .i64 sl) := (blk_cell HBK.out 2).trans rfl
    have hc3 : wr.cell? ⟨g, 3, none⟩ = some (.slice A xs.length c) := (blk_cell HBK.out 3).trans rfl
    by_cases hlt : i < (xs.length : Int)
    · obtain ⟨gr, cc, e, hrb, hrl, hrt⟩ := Kd.R_form HO.out (by rw [mapTo_length]; omega)
      injection e with e1 e2 e3
      subst e1 e3
      clear e2
      have HRT := Aside0.mk (And.intro hrb (And.intro hrl hrt))
      clear hrb hrl hrt
      obtain ⟨cl, hcl, hM, hcc, hfz⟩ := Kd.R_elem HO.out z74 i hi0 hlt
      rw [mapTo_at] at hM
      generalize hx : xs.getD i.toNat z74 = x at hM
      obtain rfl := k74_openM hM
      have hx0 : wr.cell? ⟨gr, i.toNat * 3, none⟩ = some (.int .i64 x.f0) := hcc 0 _ rfl
      have hx1 : wr.cell? ⟨gr, i.toNat * 3 + 1, none⟩ = some (.int .i64 x.f1) := hcc 1 _ rfl
      have hf1 : wr.frozen? ⟨gr, i.toNat * 3 + 1, none⟩ = false := hfz 1
      have HX := Aside0.mk hx
      have HC := Aside0.mk hcc
      clear hcl hM hcc hfz hx
      by_cases hs : x.f0 = sl
      · have hsb : (x.f0 == sl) = true := beq_iff_eq.2 hs
        have HS := Aside0.mk hs
        clear hs
        go_wp2
        repeat (go_quiet (fail); try go_wp2)
        go_roundw
        case rel =>
          have G : Kd.R k74 74 ((wr.drewN nq).setCell ⟨gr, i.toNat * 3 + 1, none⟩ (.int .i64 (wrap64 (x.f1 + t)))) w0.heap.size (fun _ => True) (.slice (some ⟨gr, 0, none⟩) xs.length c) ((mapTo (passX sl t) xs i.toNat).set i.toNat (⟨x.f0, wrap64 (x.f1 + t), x.f2⟩ : S74)) ∧ (wr.drewN nq).grownBy ((wr.drewN nq).setCell ⟨gr, i.toNat * 3 + 1, none⟩ (.int .i64 (wrap64 (x.f1 + t)))) (some gr) :=
            Kd.R_seg (W := wr.drewN nq) (j := 1) (seg := [.int .i64 (wrap64 (x.f1 + t))]) (okp := fun _ => False) (Kd.R_drewN HO.out nq) i hi0 hlt (c := [.int .i64 x.f0, .int .i64 x.f1, .int .i64 x.f2]) rfl HC.out (Nat.le_succ 2) (k74_mkM _ _ _ (⟨x.f0, wrap64 (x.f1 + t), x.f2⟩ : S74)) (fun _ (h : False) => h.elim)
          refine ⟨i + 1, by rw [w64 (by omega) (by have := HN.out; omega)], by omega, by omega, ⟨?_⟩, ⟨?_⟩, ⟨?_⟩, ⟨?_⟩⟩
          · exact (G.2.block g (blk_lt HBK.out) (fun e => by
              obtain ⟨_, _, _, hct⟩ := HRT.out
              injection e with e
              subst e
              have h2 := HBK.out
              rw [hct] at h2
              injection h2 with h2
              injection h2 with _ h2
              exact absurd h2 (by decide))).trans HBK.out
          · rw [show (i + 1).toNat = i.toNat + 1 by omega, mapTo_succ _ _ _ (by omega) z74, HX.out, show passX sl t x = ⟨x.f0, wrap64 (x.f1 + t), x.f2⟩ from if_pos HS.out]
            exact G.1
          · exact pw_below_grown (pw_below_drewN HB.out nq) _ HB.out.size G.2 (fun k hk => by cases hk; exact Kd.R_base HO.out gr rfl)
          · exact TK.row (TK.drewN HT.out nq) G.2 (fun k hk => by cases hk; exact Kd.R_typed HO.out gr rfl)
        case measure => rw [w64 (by omega) (by have := HN.out; omega)]; simp [intOf]; omega
      · have hsb : (x.f0 == sl) = false := beq_eq_false_iff_ne.2 hs
        have HS := Aside0.mk hs
        clear hs
        go_wp2
        repeat (go_quiet (fail); try go_wp2)
        go_roundw
        case rel =>
          refine ⟨i + 1, by rw [w64 (by omega) (by have := HN.out; omega)], by omega, by omega, HBK, ⟨?_⟩, ⟨pw_below_drewN HB.out _⟩, HT⟩
          rw [show (i + 1).toNat = i.toNat + 1 by omega, mapTo_same _ _ _ (by omega) z74 (by rw [HX.out]; exact if_neg HS.out)]
          exact Kd.R_drewN HO.out _
        case measure => rw [w64 (by omega) (by have := HN.out; omega)]; simp [intOf]; omega
    · go_wp2
      go_end0
      obtain rfl : i = xs.length := by omega
      refine ⟨rfl, ⟨_, HBK.out, HG.out, ?_⟩, HB.out, HT.out⟩
      have := HO.out
      rw [show ((xs.length : Int)).toNat = xs.length by omega, mapTo_all] at this
      exact this
theorem pass_ok (w0 : World) (g : Nat) (s : Rep) (t : Int) (w : World) (hS : St w0.heap.size w g s) (hB : Below w0.heap.size w0 w) : Pass w0 g s t w := by
  obtain ⟨run, tot, sl, xs⟩ := s
  cases run
  · exact pass_off w0 g tot sl xs t w hS hB
  · exact pass_on w0 g tot sl xs t w hS hB
def upX (x : S74) : S74 := ⟨x.f0, x.f1, wrap64 (x.f2 + 1)⟩
def showL (again : Bool) (n : Int) : List S74 → List S74
  | [] => [⟨n, 0, 1⟩]
  | x :: l => if x.f0 = n then (if again = true then x else upX x) :: l else x :: showL again n l
theorem showL_none (again : Bool) (n : Int) : ∀ xs : List S74, (∀ j : Nat, j < xs.length → (xs.getD j z74).f0 ≠ n) → showL again n xs = xs ++ [⟨n, 0, 1⟩]
  | [], _ => rfl
  | x :: l, h => by
    have h0 : x.f0 ≠ n := h 0 (by simp)
    rw [showL, if_neg h0, showL_none again n l fun j hj => h (j + 1) (by simp; omega)]
    rfl
theorem showL_at (again : Bool) (n : Int) : ∀ (xs : List S74) (i : Nat), i < xs.length → (xs.getD i z74).f0 = n → (∀ j : Nat, j < i → (xs.getD j z74).f0 ≠ n) → showL again n xs = if again = true then xs else xs.set i (upX (xs.getD i z74))
  | [], i, h, _, _ => by simp at h
  | x :: l, 0, _, he, _ => by
    have he' : x.f0 = n := he
    rw [showL, if_pos he']
    cases again <;> rfl
  | x :: l, i + 1, h, he, hn => by
    have h0 : x.f0 ≠ n := hn 0 (by omega)
    rw [showL, if_neg h0, showL_at again n l i (by simp at h; omega) he fun j hj => hn (j + 1) (by omega)]
    cases again <;> rfl
def showF (s : Rep) (n : Int) : Rep := ⟨s.run, s.tot, n, showL (s.sl == n) n s.sls⟩
def Show (w0 : World) (g : Nat) (s : Rep) (n : Int) (w : World) : Prop :=
  Calls Try.prog 50 #[.pointer (some ⟨g, 0, none⟩), .int .i64 n] w fun e w' => e = .returned (.tuple #[]) ∧ St w0.heap.size w' g (showF s n) ∧ Below w0.heap.size w0 w' ∧ TK g w w'
set_option maxHeartbeats 8000000 in
set_option maxRecDepth 100000 in
theorem show_ok (w0 : World) (g : Nat) (s : Rep) (n : Int) (w : World) (hS : St w0.heap.size w g s) (hB : Below w0.heap.size w0 w) (hlen : s.sls.length ≤ 1000000) : Show w0 g s n w := by
  have hu67 := Try.underlying67
  have hu74 := Try.underlying74
  obtain ⟨run, tot, sl, xs⟩ := s
  obtain ⟨v, hb, hg, hR⟩ := hS
  obtain ⟨A, c, rfl⟩ := Kd.R_slice hR
  have HN : Aside0 (xs.length ≤ 1000000) := ⟨hlen⟩
  clear hlen
  have hc2 : w.cell? ⟨g, 2, none⟩ = some (.int .i64 sl) := (blk_cell hb 2).trans rfl
  have hc3 : w.cell? ⟨g, 3, none⟩ = some (.slice A xs.length c) := (blk_cell hb 3).trans rfl
  have hf2 : w.frozen? ⟨g, 2, none⟩ = false := blk_frozen hb 2
  have HBK := Aside0.mk hb
  have HG := Aside0.mk hg
  have HR := Aside0.mk hR
  have HB := Aside0.mk hB
  clear hb hg hR hB
  unfold Show
  obtain ⟨ag, hag⟩ : ∃ ag : Bool, (sl == n) = ag := ⟨_, rfl⟩
  have HAG := Aside0.mk hag
  go_enter Try.func50, Try.ntmps50
  go_wp2
  clear hag
  go_loopw [21] (fun v21 w' => ∃ i : Int, v21 = .int .i64 i ∧ 0 ≤ i ∧ i ≤ xs.length ∧ Aside0 (w'.heap[g]? = some (.cells #[.bool run, .int .i64 tot, .int .i64 n, .slice A xs.length c] 67 (0, 0))) ∧ Aside0 (Kd.R k74 74 w' w0.heap.size (fun _ => True) (.slice A xs.length c) xs) ∧ Aside0 (Below w0.heap.size w0 w') ∧ Aside0 (TK g w w') ∧ Aside0 (∀ j : Nat, (j : Int) < i → (xs.getD j z74).f0 ≠ n)) (fun v21 _ => xs.length - (intOf v21).toNat)
  case atStart =>
    exact ⟨0, rfl, by omega, by omega, ⟨blk_set HBK.out 2 _⟩, ⟨Kd.R_mono (Kd.R_far (Kd.R_types HR.out HBK.out (by decide)) (fun _ hk => hk.2) _) (fun _ _ => trivial)⟩, ⟨below_set HB.out HG.out⟩, ⟨TK.set (TK.refl _ _) _⟩, ⟨fun j hj => by omega⟩⟩
  case round =>
    clear HBK HR HB hc2 hc3 hf2
    obtain ⟨i, rfl, hi0, hi1, HBK, HO, HB, HT, HQ⟩ := hrel
    have hc3 : wr.cell? ⟨g, 3, none⟩ = some (.slice A xs.length c) := (blk_cell HBK.out 3).trans rfl
    by_cases hlt : i < (xs.length : Int)
    · obtain ⟨gr, cc, e, hrb, hrl, hrt⟩ := Kd.R_form HO.out (by omega)
      injection e with e1 e2 e3
      subst e1 e3
      clear e2
      have HRT := Aside0.mk (And.intro hrb (And.intro hrl hrt))
      clear hrb hrl hrt
      obtain ⟨cl, hcl, hM, hcc, hfz⟩ := Kd.R_elem HO.out z74 i hi0 hlt
      generalize hx : xs.getD i.toNat z74 = x at hM
      obtain rfl := k74_openM hM
      have hx0 : wr.cell? ⟨gr, i.toNat * 3, none⟩ = some (.int .i64 x.f0) := hcc 0 _ rfl
      have hx2 : wr.cell? ⟨gr, i.toNat * 3 + 2, none⟩ = some (.int .i64 x.f2) := hcc 2 _ rfl
      have hf1 : wr.frozen? ⟨gr, i.toNat * 3 + 2, none⟩ = false := hfz 2
      have HX := Aside0.mk hx
      have HC := Aside0.mk hcc
      clear hcl hM hcc hfz hx
      by_cases hs : x.f0 = n
      · have hsb : (x.f0 == n) = true := beq_iff_eq.2 hs
        have HS := Aside0.mk hs
        clear hs
        have hL := showL_at ag n xs i.toNat (by omega) (by rw [HX.out]; exact HS.out) (fun j hj => HQ.out j (by omega))
        rw [HX.out] at hL
        have HL := Aside0.mk hL
        clear hL
        cases ag
        · go_wp2
          refine bodyPost_ret (results_none rfl _ _ _) rfl ?_
          have G : Kd.R k74 74 (wr.setCell ⟨gr, i.toNat * 3 + 2, none⟩ (.int .i64 (wrap64 (x.f2 + 1)))) w0.heap.size (fun _ => True) (.slice (some ⟨gr, 0, none⟩) xs.length c) (xs.set i.toNat (upX x)) ∧ wr.grownBy (wr.setCell ⟨gr, i.toNat * 3 + 2, none⟩ (.int .i64 (wrap64 (x.f2 + 1)))) (some gr) :=
            Kd.R_seg (W := wr) (j := 2) (seg := [.int .i64 (wrap64 (x.f2 + 1))]) (okp := fun _ => False) HO.out i hi0 hlt (c := [.int .i64 x.f0, .int .i64 x.f1, .int .i64 x.f2]) rfl HC.out (Nat.le_refl 3) (k74_mkM _ _ _ (⟨x.f0, x.f1, wrap64 (x.f2 + 1)⟩ : S74)) (fun _ (h : False) => h.elim)
          refine ⟨rfl, ⟨.slice (some ⟨gr, 0, none⟩) xs.length c, ?_, HG.out, ?_⟩, ?_, ?_⟩
          · exact (G.2.block g (blk_lt HBK.out) (fun e => by
              obtain ⟨_, _, _, hct⟩ := HRT.out
              injection e with e
              subst e
              have h2 := HBK.out
              rw [hct] at h2
              injection h2 with h2
              injection h2 with _ h2
              exact absurd h2 (by decide))).trans HBK.out
          · show Kd.R k74 74 _ _ _ _ (showL (sl == n) n xs)
            rw [HAG.out, HL.out]
            exact G.1
          · exact pw_below_grown HB.out _ HB.out.size G.2 (fun k hk => by cases hk; exact Kd.R_base HO.out gr rfl)
          · exact TK.row HT.out G.2 (fun k hk => by cases hk; exact Kd.R_typed HO.out gr rfl)
        · go_wp2
          refine bodyPost_ret (results_none rfl _ _ _) rfl ?_
          refine ⟨rfl, ⟨.slice (some ⟨gr, 0, none⟩) xs.length c, HBK.out, HG.out, ?_⟩, HB.out, HT.out⟩
          show Kd.R k74 74 _ _ _ _ (showL (sl == n) n xs)
          rw [HAG.out, HL.out]
          exact HO.out
      · have hsb : (x.f0 == n) = false := beq_eq_false_iff_ne.2 hs
        have HS := Aside0.mk hs
        clear hs
        go_wp2
        go_roundw
        case rel =>
          refine ⟨i + 1, by first | rfl | rw [w64 (by omega) (by have := HN.out; omega)], by omega, by omega, HBK, HO, HB, HT, ⟨fun j hj => ?_⟩⟩
          by_cases hj2 : (j : Int) < i
          · exact HQ.out j hj2
          · rw [show j = i.toNat by omega, HX.out]; exact HS.out
        case measure => first | (simp [intOf]; omega) | (rw [w64 (by omega) (by have := HN.out; omega)]; simp [intOf]; omega)
    · have hL := showL_none ag n xs (fun j hj => HQ.out j (by omega))
      have HL := Aside0.mk hL
      have hf3 : wr.frozen? ⟨g, 3, none⟩ = false := blk_frozen HBK.out 3
      clear hL
      go_wp2_with ((with_reducible refine gate_builtin (b := .append) (xs := #[.tmp 52, .tmp 55]) rfl ?_); at_builtin; refine Kd.R_append k74 (w0 := w0) w0.heap.size rfl (.tmp 52) (.tmp 55) 65 74 (.agg #[(.int .i64 0), (.int .i64 0), (.int .i64 0)]) 24 rfl Try.underlying65 info74 rfl (by decide) (by omega) (.slice A xs.length c) xs (⟨n, 0, 1⟩ : S74) [.int .i64 n, .int .i64 0, .int .i64 1] (fun _ => True) (fun _ => False) rfl rfl ?aP (fun _ hk => hk.elim) ?aF ?aO ?aB ?aS ?aL ?_; (case aP => exact k74_mkM _ _ _ (⟨n, 0, 1⟩ : S74)); (case aB => exact HB.out); (case aF => exact (fun _ _ => trivial)); (case aO => exact HO.out); (case aS => exact Nat.le_trans HB.out.size (Nat.le_refl _)); (case aL => have := HN.out; omega); intro v4 w4 ho hb hgr hat; obtain ⟨A4, c4, rfl⟩ := Kd.R_slice ho; simp only [List.length_append, List.length_singleton] at ho; have hbk4 := blk_grown HBK.out hgr (Kd.R_ne HO.out HBK.out (by decide)); have hc4 : w4.cell? ⟨g, 3, none⟩ = some (.slice A xs.length c) := (blk_cell hbk4 3).trans rfl; have hf4 : w4.frozen? ⟨g, 3, none⟩ = false := blk_frozen hbk4 3; have HO4 := Aside0.mk ho; have HB4 := Aside0.mk hb; have HK4 := Aside0.mk hbk4; have HT4 := Aside0.mk (TK.row HT.out hgr (fun k hk => Kd.R_typed HO.out k hk)); clear ho hb hgr hat hbk4)
      go_end0
      refine ⟨rfl, ⟨.slice A4 (xs.length + 1) c4, blk_set HK4.out 3 _, HG.out, ?_⟩, below_set HB4.out HG.out, TK.set HT4.out _⟩
      show Kd.R k74 74 _ _ _ _ (showL (sl == n) n xs)
      rw [HAG.out, HL.out]
      exact Kd.R_mono (Kd.R_far (Kd.R_types HO4.out HK4.out (by decide)) (fun _ hk => hk.2) _) (fun _ _ => trivial)
end Go.Proofs.Ytihmbddneapooaa.HandCK
