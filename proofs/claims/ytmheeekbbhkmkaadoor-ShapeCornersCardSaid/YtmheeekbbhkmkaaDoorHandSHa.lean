import Derived.Test.YtmheeekbbhkmkaaDoorQSHx0
import Derived.Test.YtmheeekbbhkmkaaDoorLib
import Derived.Outline
namespace Go.Proofs.YtmheeekbbhkmkaaDoor.HandSH
open Go.Proofs.YtmheeekbbhkmkaaDoor.Lib (w64)
open Go.RowKit Go.Proofs.YtmheeekbbhkmkaaDoorW.PrintWords Go.Proofs.YtmheeekbbhkmkaaDoorW.PrintLast Go.Proofs.YtmheeekbbhkmkaaDoorW.PrintMore Go.Proofs.YtmheeekbbhkmkaaDoor.QSH
set_option linter.unusedVariables false
abbrev shapeV (x : S45) : Value := .agg #[.int .i64 x.f0, .int .i64 x.f1, .int .i64 x.f2, .int .i64 x.f3, .int .i64 x.f4, .int .i64 x.f5, .int .i64 x.f6, .int .i64 x.f7, .int .i64 x.f8, .int .i64 x.f9, .string x.f10, .string x.f11]
set_option maxHeartbeats 1000000 in
set_option maxRecDepth 100000 in
theorem same_item (x : S45) (g : Nat) (n : Int) (w : World) (hg : w.heap[g]? = some (.cells #[.int .i64 n] 3 (0, 0))) :
    Calls Tryd.prog 25 #[shapeV x, .pointer (some ⟨g, 0, none⟩)] w fun e w' => e = .returned (.bool (x.f0 == n)) ∧ Below w.heap.size w w' := by
  have hu45 := Tryd.underlying45
  have HB := Aside0.mk (Below.refl w.heap.size w)
  have hb : w.cell? ⟨g, 0, none⟩ = some (.int .i64 n) := (blk_cell hg 0).trans rfl
  have hc : ∀ o : Obj, (w.alloc o).cell? ⟨g, 0, none⟩ = some (.int .i64 n) := fun o => by
    rw [World.cell?_alloc_past _ _ _ (blk_lt hg)]; exact hb
  clear hg
  go_enter Tryd.func25, Tryd.ntmps25
  go_wp2
  go_ret
  exact ⟨rfl, below_alloc HB.out _⟩
def idx (n : Int) : List S45 → Int → Int
  | [], _ => -1
  | x :: l, i => if x.f0 = n then i else idx n l (i + 1)
theorem idx_drop (n : Int) (l : List S45) (i : Nat) (h : i < l.length) : idx n (l.drop i) i = if (rd_T45 l (i : Int)).f0 = n then (i : Int) else idx n (l.drop (i + 1)) ((i : Int) + 1) := by
  rw [List.drop_eq_getElem_cons h, idx]
  have e : rd_T45 l (i : Int) = l[i] := by
    unfold rd_T45; rw [List.getD_eq_getElem?_getD, Int.toNat_natCast, List.getElem?_eq_getElem h]; rfl
  rw [e]
set_option maxHeartbeats 4000000 in
set_option maxRecDepth 100000 in
theorem indexFunc_ok (A : Option Addr) (c : Nat) (l : List S45) (g : Nat) (n : Int) (w : World) (hr : Kd.C k45 w A l.length l) (hc : l.length ≤ c) (hg : w.heap[g]? = some (.cells #[.int .i64 n] 3 (0, 0))) (hn : l.length ≤ 9223372036854775806) :
    Calls Tryd.prog 24 #[.slice A l.length c, .func (.func 25) #[] #[.pointer (some ⟨g, 0, none⟩)]] w fun e w' => e = .returned (.int .i64 (idx n l 0)) ∧ Below w.heap.size w w' := by
  have hu45 := Tryd.underlying45
  have HR := Aside0.mk hr
  have HN := Aside0.mk hn
  have HG := Aside0.mk hg
  have HB := Aside0.mk (Below.refl w.heap.size w)
  clear hr hn hg
  go_enter Tryd.func24, Tryd.ntmps24
  go_wp2
  go_loopw [8] (fun v8 w' => ∃ i : Nat, v8 = .int .i64 i ∧ i ≤ l.length ∧ Aside0 (idx n l 0 = idx n (l.drop i) i) ∧ Aside0 (Below w.heap.size w w')) (fun v8 _ => l.length - (intOf v8).toNat)
  case atStart => exact ⟨0, rfl, by omega, ⟨rfl⟩, HB⟩
  case round =>
    clear HB
    obtain ⟨i, rfl, hi, HI, HB⟩ := hrel
    by_cases hlt : i < l.length
    · obtain ⟨ad, e, hx0, hx1, hx2, hx3, hx4, hx5, hx6, hx7, hx8, hx9, hx10, hx11⟩ := at_T45 HR.out (i : Int) (by omega) (by omega)
      cases e
      simp only [Int.toNat_natCast] at hx0 hx1 hx2 hx3 hx4 hx5 hx6 hx7 hx8 hx9 hx10 hx11
      replace hx0 := (HB.out.cell (World.block_lt_of_cell? w _ hx0)).trans hx0
      replace hx1 := (HB.out.cell (World.block_lt_of_cell? w _ hx1)).trans hx1
      replace hx2 := (HB.out.cell (World.block_lt_of_cell? w _ hx2)).trans hx2
      replace hx3 := (HB.out.cell (World.block_lt_of_cell? w _ hx3)).trans hx3
      replace hx4 := (HB.out.cell (World.block_lt_of_cell? w _ hx4)).trans hx4
      replace hx5 := (HB.out.cell (World.block_lt_of_cell? w _ hx5)).trans hx5
      replace hx6 := (HB.out.cell (World.block_lt_of_cell? w _ hx6)).trans hx6
      replace hx7 := (HB.out.cell (World.block_lt_of_cell? w _ hx7)).trans hx7
      replace hx8 := (HB.out.cell (World.block_lt_of_cell? w _ hx8)).trans hx8
      replace hx9 := (HB.out.cell (World.block_lt_of_cell? w _ hx9)).trans hx9
      replace hx10 := (HB.out.cell (World.block_lt_of_cell? w _ hx10)).trans hx10
      replace hx11 := (HB.out.cell (World.block_lt_of_cell? w _ hx11)).trans hx11
      have hs := idx_drop n l i hlt
      rw [← HI.out] at hs
      have HS := Aside0.mk hs
      clear hs HI
      have hd : decide ((i : Int) < (l.length : Int)) = true := decide_eq_true (by omega)
      by_cases hq : (rd_T45 l (i : Int)).f0 = n
      · have hqb : ((rd_T45 l (i : Int)).f0 == n) = true := beq_iff_eq.2 hq
        have HQ := Aside0.mk hq
        clear hq
        go_wp2_with (go_at_call 25; refine (same_item (rd_T45 l (i : Int)) g n _ (HB.out.block g (blk_lt HG.out) |>.trans HG.out)).mono ?_; rintro e w2 ⟨rfl, hb⟩; have HB2 := Aside0.mk (below_step HB.out hb); clear hb HB; have HB := HB2; clear HB2)
        go_ret
        exact ⟨by rw [HS.out, if_pos HQ.out]; rfl, HB.out⟩
      · have hqb : ((rd_T45 l (i : Int)).f0 == n) = false := beq_eq_false_iff_ne.2 hq
        have HQ := Aside0.mk hq
        clear hq
        go_wp2_with (go_at_call 25; refine (same_item (rd_T45 l (i : Int)) g n _ (HB.out.block g (blk_lt HG.out) |>.trans HG.out)).mono ?_; rintro e w2 ⟨rfl, hb⟩; have HB2 := Aside0.mk (below_step HB.out hb); clear hb HB; have HB := HB2; clear HB2)
        have hw : wrap64 ((i : Int) + 1) = (i : Int) + 1 := w64 (by omega) (by have := HN.out; omega)
        go_roundw
        case rel => exact ⟨i + 1, by rw [hw]; go_num, by omega, ⟨by rw [HS.out, if_neg HQ.out]; rfl⟩, HB⟩
        case measure => rw [hw]; simp [intOf]; omega
    · have hd : decide ((i : Int) < (l.length : Int)) = false := decide_eq_false (by omega)
      go_wp2
      go_ret
      exact ⟨by rw [HI.out, List.drop_eq_nil_of_le (by omega)]; rfl, HB.out⟩
def shape_find.f (l0 : List S45) (a1 : Int) : Option Int := if l0.length ≤ 1000000 then some (idx a1 l0 0) else none
set_option maxHeartbeats 4000000 in
set_option maxRecDepth 100000 in
theorem shape_find.calls (A0 : Option Addr) (c0 : Nat) (l0 : List S45) (a1 : Int) (r : Int) (w : World) (hr0 : Kd.C k45 w A0 l0.length l0) (hc0 : l0.length ≤ c0) (h : shape_find.f l0 a1 = some r) :
    Calls Tryd.prog 16 #[.slice A0 l0.length c0, .int .i64 a1] w fun e w' => e = .returned (.int .i64 r) ∧ Below w.heap.size w w' := by
  unfold shape_find.f at h
  by_cases hl : l0.length ≤ 1000000
  · rw [if_pos hl] at h
    obtain rfl := Option.some.inj h
    have hmf : ∀ (fn : Fn) (first cap : Array Value) (w : World), (Instr.makeFunc fn first cap).run Tryd.prog w = .ok (.func fn first cap) w := fun _ _ _ _ => rfl
    have HR := Aside0.mk hr0
    have HC := Aside0.mk hc0
    have HL := Aside0.mk hl
    have HB := Aside0.mk (Below.refl w.heap.size w)
    clear hr0 hc0 hl h
    go_enter Tryd.func16, Tryd.ntmps16
    go_wp2_with (go_at_call 24; refine (indexFunc_ok A0 c0 l0 w.heap.size a1 _ (Kd.C_alloc HR.out _) HC.out (blk_new _ _) (Nat.le_trans HL.out (by decide))).mono ?_; rintro e w2 ⟨rfl, hb⟩; have HB2 := Aside0.mk (below_step (below_alloc HB.out _) hb); clear hb HB; have HB := HB2; clear HB2)
    go_ret
    exact ⟨rfl, HB.out⟩
  · rw [if_neg hl] at h; cases h
end Go.Proofs.YtmheeekbbhkmkaaDoor.HandSH
