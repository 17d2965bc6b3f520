import Derived.Test.YtmheeekbbhkmkaaDoorQSHx1
import Derived.Test.YtmheeekbbhkmkaaDoorHandSHa
namespace Go.Proofs.YtmheeekbbhkmkaaDoor.HandSH
open Go.Proofs.YtmheeekbbhkmkaaDoor.Lib (w64)
open Go.RowKit Go.Proofs.YtmheeekbbhkmkaaDoorW.PrintWords Go.Proofs.YtmheeekbbhkmkaaDoorW.PrintLast Go.Proofs.YtmheeekbbhkmkaaDoorW.PrintMore Go.Proofs.YtmheeekbbhkmkaaDoor.QSH
set_option linter.unusedVariables false
set_option linter.unusedSimpArgs false
theorem ret_i {a b : Int} (h : a = b) : Ending.returned (.int .i64 a) = .returned (.int .i64 b) := by rw [h]
def fieldErr (x : S45) : Int :=
  if x.f2 < 0 ∨ x.f2 > 7 then 8
  else if x.f0 < 1 ∨ x.f0 > 1073741824 ∨ x.f1 < 0 ∨ x.f1 > 1073741824 ∨ x.f8 < 0 ∨ x.f8 > 1073741824 ∨ x.f9 < 0 ∨ x.f9 > 1073741824 then 2
  else if x.f3 < -1048576 ∨ x.f3 > 1048576 ∨ x.f4 < -1048576 ∨ x.f4 > 1048576 ∨ x.f5 < 0 ∨ x.f5 > 1048576 ∨ x.f6 < 0 ∨ x.f6 > 1048576 ∨ x.f7 < 0 ∨ x.f7 ≥ 3600 then 2
  else if x.f2 ≠ 6 ∧ (x.f8 ≠ 0 ∨ x.f9 ≠ 0) then 4 else 0
theorem fieldErr_zero {x : S45} (h : fieldErr x = 0) : (0 ≤ x.f2 ∧ x.f2 ≤ 7) ∧ (1 ≤ x.f0 ∧ x.f0 ≤ 1073741824 ∧ 0 ≤ x.f1 ∧ x.f1 ≤ 1073741824 ∧ 0 ≤ x.f8 ∧ x.f8 ≤ 1073741824 ∧ 0 ≤ x.f9 ∧ x.f9 ≤ 1073741824) ∧
    (-1048576 ≤ x.f3 ∧ x.f3 ≤ 1048576 ∧ -1048576 ≤ x.f4 ∧ x.f4 ≤ 1048576 ∧ 0 ≤ x.f5 ∧ x.f5 ≤ 1048576 ∧ 0 ≤ x.f6 ∧ x.f6 ≤ 1048576 ∧ 0 ≤ x.f7 ∧ x.f7 < 3600) ∧ (x.f2 = 6 ∨ (x.f8 = 0 ∧ x.f9 = 0)) := by
  unfold fieldErr at h
  repeat' split at h
  · cases h
  · cases h
  · cases h
  · cases h
  · omega
abbrev par (k : Nat) (l : List S45) (x : S45) : Option Int := shape_parents.f k l x.f0 x.f1 x.f2 x.f3 x.f4 x.f5 x.f6 x.f7 x.f8 x.f9 x.f10 x.f11
def checkAt (k : Nat) (l : List S45) (i : Nat) : Option Int :=
  if fieldErr (rd_T45 l i) ≠ 0 then some (fieldErr (rd_T45 l i))
  else if 0 ≤ idx (rd_T45 l i).f0 (l.take i) 0 then some 6
  else par k (l.take i) (rd_T45 l i)
def checkL (k : Nat) (l : List S45) : Nat → Nat → Option Int
  | 0, _ => some 0
  | d + 1, i => (checkAt k l i).bind fun e => if e = 0 then checkL k l d (i + 1) else some e
def shape_Check.f (k : Nat) (l : List S45) : Option Int := if l.length > 1000 then some 3 else checkL k l l.length 0
theorem checkAt.mono (l : List S45) (i : Nat) (k : Nat) : LeO (checkAt k l i) (checkAt (k + 1) l i) := by
  unfold checkAt
  exact LeO.ite (LeO.refl _) (LeO.ite (LeO.refl _) (shape_parents.mono _ _ _ _ _ _ _ _ _ _ _ _ _ k))
theorem checkL.mono (l : List S45) (k : Nat) : ∀ (d : Nat) (i : Nat), LeO (checkL k l d i) (checkL (k + 1) l d i)
  | 0, _ => LeO.refl _
  | d + 1, i => LeO.bind (checkAt.mono l i k) fun e => LeO.ite (checkL.mono l k d (i + 1)) (LeO.refl _)
theorem shape_Check.mono (l : List S45) (k : Nat) : LeO (shape_Check.f k l) (shape_Check.f (k + 1) l) := by
  unfold shape_Check.f
  exact LeO.ite (LeO.refl _) (checkL.mono l k _ _)
abbrev boxOf (x : S45) : Array Value := #[.int .i64 x.f0, .int .i64 x.f1, .int .i64 x.f2, .int .i64 x.f3, .int .i64 x.f4, .int .i64 x.f5, .int .i64 x.f6, .int .i64 x.f7, .int .i64 x.f8, .int .i64 x.f9, .string x.f10, .string x.f11]
theorem idx_below (n : Int) : ∀ (l : List S45) (i : Int), 0 ≤ i → idx n l i = -1 ∨ i ≤ idx n l i
  | [], _, _ => .inl rfl
  | x :: l, i, h => by
    rw [idx]
    split
    · exact .inr (Int.le_refl _)
    · rcases idx_below n l (i + 1) (by omega) with h1 | h1
      · exact .inl h1
      · exact .inr (by omega)
set_option maxHeartbeats 8000000 in
set_option maxRecDepth 100000 in
theorem shape_Check.calls (k : Nat) (A0 : Option Addr) (c0 : Nat) (l0 : List S45) (r : Int) (w : World) (hr0 : Kd.C k45 w A0 l0.length l0) (hc0 : l0.length ≤ c0) (h : shape_Check.f k l0 = some r) :
    Calls Tryd.prog 10 #[.slice A0 l0.length c0] w fun e w' => e = .returned (.int .i64 r) ∧ Below w.heap.size w w' := by
  have hu45 := Tryd.underlying45
  have HR := Aside0.mk hr0
  have HC := Aside0.mk hc0
  have HB := Aside0.mk (Below.refl w.heap.size w)
  clear hr0 hc0
  unfold shape_Check.f at h
  by_cases hl : l0.length > 1000
  · rw [if_pos hl] at h
    obtain rfl := Option.some.inj h
    have hd : decide ((1000 : Int) < (l0.length : Int)) = true := decide_eq_true (by omega)
    go_enter Tryd.func10, Tryd.ntmps10
    go_wp2
    go_ret
    exact ⟨rfl, HB.out⟩
  rw [if_neg hl] at h
  have hd : decide ((1000 : Int) < (l0.length : Int)) = false := decide_eq_false (by omega)
  have HN : Aside0 (l0.length ≤ 1000) := ⟨by omega⟩
  have H' := Aside0.mk h
  clear h hl
  go_enter Tryd.func10, Tryd.ntmps10
  go_wp2
  clear hd
  go_loopw [13] (fun v13 w' => ∃ i : Nat, v13 = .int .i64 i ∧ i ≤ l0.length ∧ Aside0 (checkL k l0 (l0.length - i) i = some r) ∧ Aside0 (Below w.heap.size w w')) (fun v13 _ => l0.length - (intOf v13).toNat)
  case atStart => exact ⟨0, rfl, by omega, H', HB⟩
  case round =>
    clear HB H'
    obtain ⟨i, rfl, hi1, HX, HB⟩ := hrel
    rename World => w1
    by_cases hlt : i < l0.length
    · have hd : decide ((i : Int) < (l0.length : Int)) = true := decide_eq_true (by omega)
      have h1 := HX.out
      rw [show l0.length - i = (l0.length - (i + 1)) + 1 by omega, checkL, checkAt] at h1
      have HX1 := Aside0.mk h1
      clear h1 HX
      obtain ⟨ad, e, hx0, hx1, hx2, hx3, hx4, hx5, hx6, hx7, hx8, hx9, hx10, hx11⟩ := at_T45 HR.out (i : Int) (by omega) (by omega)
      cases e
      simp only [Int.toNat_natCast] at hx0 hx1 hx2 hx3 hx4 hx5 hx6 hx7 hx8 hx9 hx10 hx11
      replace hx0 := (HB.out.cell (World.block_lt_of_cell? w _ hx0)).trans hx0
      replace hx1 := (HB.out.cell (World.block_lt_of_cell? w _ hx1)).trans hx1
      replace hx2 := (HB.out.cell (World.block_lt_of_cell? w _ hx2)).trans hx2
      replace hx3 := (HB.out.cell (World.block_lt_of_cell? w _ hx3)).trans hx3
      replace hx4 := (HB.out.cell (World.block_lt_of_cell? w _ hx4)).trans hx4
      replace hx5 := (HB.out.cell (World.block_lt_of_cell? w _ hx5)).trans hx5
      replace hx6 := (HB.out.cell (World.block_lt_of_cell? w _ hx6)).trans hx6
      replace hx7 := (HB.out.cell (World.block_lt_of_cell? w _ hx7)).trans hx7
      replace hx8 := (HB.out.cell (World.block_lt_of_cell? w _ hx8)).trans hx8
      replace hx9 := (HB.out.cell (World.block_lt_of_cell? w _ hx9)).trans hx9
      replace hx10 := (HB.out.cell (World.block_lt_of_cell? w _ hx10)).trans hx10
      replace hx11 := (HB.out.cell (World.block_lt_of_cell? w _ hx11)).trans hx11
      generalize hx : rd_T45 l0 (i : Int) = x at hx0 hx1 hx2 hx3 hx4 hx5 hx6 hx7 hx8 hx9 hx10 hx11 HX1
      have HXE := Aside0.mk hx
      clear hx
      by_cases hf : fieldErr x = 0
      · have h1 := HX1.out
        rw [if_neg (by omega)] at h1
        have HX := Aside0.mk h1
        clear h1 HX1
        obtain ⟨⟨f20, f21⟩, ⟨f00, f01, f10, f11, f80, f81, f90, f91⟩, ⟨f30, f31, f40, f41, f50, f51, f60, f61, f70, f71⟩, hor⟩ := fieldErr_zero hf
        clear hf
        have g0 : decide (x.f2 < 0) = false := decide_eq_false (by omega)
        have g1 : decide (7 < x.f2) = false := decide_eq_false (by omega)
        have g2 : decide (x.f0 < 1) = false := decide_eq_false (by omega)
        have g3 : decide (1073741824 < x.f0) = false := decide_eq_false (by omega)
        have g4 : decide (x.f1 < 0) = false := decide_eq_false (by omega)
        have g5 : decide (1073741824 < x.f1) = false := decide_eq_false (by omega)
        have g6 : decide (x.f8 < 0) = false := decide_eq_false (by omega)
        have g7 : decide (1073741824 < x.f8) = false := decide_eq_false (by omega)
        have g8 : decide (x.f9 < 0) = false := decide_eq_false (by omega)
        have g9 : decide (1073741824 < x.f9) = false := decide_eq_false (by omega)
        have g10 : decide (x.f3 < -1048576) = false := decide_eq_false (by omega)
        have g11 : decide (1048576 < x.f3) = false := decide_eq_false (by omega)
        have g12 : decide (x.f4 < -1048576) = false := decide_eq_false (by omega)
        have g13 : decide (1048576 < x.f4) = false := decide_eq_false (by omega)
        have g14 : decide (x.f5 < 0) = false := decide_eq_false (by omega)
        have g15 : decide (1048576 < x.f5) = false := decide_eq_false (by omega)
        have g16 : decide (x.f6 < 0) = false := decide_eq_false (by omega)
        have g17 : decide (1048576 < x.f6) = false := decide_eq_false (by omega)
        have g18 : decide (x.f7 < 0) = false := decide_eq_false (by omega)
        have g19 : decide (3600 ≤ x.f7) = false := decide_eq_false (by omega)
        obtain ⟨b6, hb6⟩ : ∃ b6 : Bool, (x.f2 != 6) = b6 := ⟨_, rfl⟩
        obtain ⟨b8, hb8⟩ : ∃ b8 : Bool, (x.f8 != 0) = b8 := ⟨_, rfl⟩
        obtain ⟨b9, hb9⟩ : ∃ b9 : Bool, (x.f9 != 0) = b9 := ⟨_, rfl⟩
        have hbb : (b6 && (b8 || b9)) = false := by
          rcases hor with h | ⟨h, h'⟩
          · rw [← hb6]; simp [h]
          · rw [← hb8, ← hb9]; simp [h, h']
        clear hor f20 f21 f00 f01 f10 f11 f80 f81 f90 f91 f30 f31 f40 f41 f50 f51 f60 f61 f70 f71
        have hb : b6 = false ∨ (b6 = true ∧ b8 = false ∧ b9 = false) := by
          cases b6
          · exact .inl rfl
          · exact .inr ⟨rfl, by cases b8 <;> simp_all, by cases b9 <;> simp_all⟩
        clear hbb
        obtain ⟨i0, hi0, _, _, _⟩ := info_parts info45
        have hcut : ∀ W : World, (Instr.slice 22 (.slice (some ad) l0.length c0) none (some (.int .i64 (i : Int))) none).run Tryd.prog W = .ok (.slice (some ad) (l0.take i).length c0) W := fun W => by
          have h := cut_to (P := Tryd.prog) 22 45 .i64 Tryd.underlying22 hi0 (some ad) l0.length c0 (i : Int) (by omega) (by omega) HC.out W
          rw [Int.toNat_natCast] at h
          rw [List.length_take, Nat.min_eq_left (by omega)]
          exact h
        clear hi0
        obtain ⟨y, hy⟩ : ∃ y, l0.take i = y := ⟨_, rfl⟩
        rw [hy] at hcut
        have HX2 := HX.out
        rw [hy] at HX2
        clear HX
        have HX := Aside0.mk HX2
        clear HX2
        have hyl : y.length = i := by rw [← hy, List.length_take]; omega
        have HYR : Aside0 (Kd.C k45 w (some ad) y.length y) := ⟨by
          have h := Kd.C_take (m := i) HR.out (by omega)
          rw [hy] at h
          exact h⟩
        have HYC : Aside0 (y.length ≤ c0) := ⟨by have := HC.out; omega⟩
        have hyn : (y.length : Int) ≤ 1000 := by have := HN.out; omega
        have HY := Aside0.mk hyl
        clear hyl hy
        rcases hb with rfl | ⟨rfl, rfl, rfl⟩
        all_goals
          go_wp2
          go_loopw [129] (fun v129 w' => ∃ j : Nat, v129 = .int .i64 j ∧ j ≤ y.length ∧ Aside0 (idx x.f0 y 0 = idx x.f0 (y.drop j) j) ∧ Aside0 (w'.heap[w1.heap.size]? = some (.cells (boxOf x) 45 (0, 0))) ∧ Aside0 (Below w.heap.size w w')) (fun v129 _ => y.length - (intOf v129).toNat)
          case atStart => exact ⟨0, rfl, by omega, ⟨rfl⟩, ⟨blk_new w1 _⟩, ⟨below_alloc HB.out _⟩⟩
          case round =>
            clear HB hx0 hx1 hx2 hx3 hx4 hx5 hx6 hx7 hx8 hx9 hx10 hx11 hd
            obtain ⟨j, rfl, hj, HI, HK, HB⟩ := hrel
            by_cases hjl : j < y.length
            · obtain ⟨ad', e, hx0, hx1, hx2, hx3, hx4, hx5, hx6, hx7, hx8, hx9, hx10, hx11⟩ := at_T45 HYR.out (j : Int) (by omega) (by omega)
              cases e
              simp only [Int.toNat_natCast] at hx0 hx1 hx2 hx3 hx4 hx5 hx6 hx7 hx8 hx9 hx10 hx11
              replace hx0 := (HB.out.cell (World.block_lt_of_cell? w _ hx0)).trans hx0
              replace hx1 := (HB.out.cell (World.block_lt_of_cell? w _ hx1)).trans hx1
              replace hx2 := (HB.out.cell (World.block_lt_of_cell? w _ hx2)).trans hx2
              replace hx3 := (HB.out.cell (World.block_lt_of_cell? w _ hx3)).trans hx3
              replace hx4 := (HB.out.cell (World.block_lt_of_cell? w _ hx4)).trans hx4
              replace hx5 := (HB.out.cell (World.block_lt_of_cell? w _ hx5)).trans hx5
              replace hx6 := (HB.out.cell (World.block_lt_of_cell? w _ hx6)).trans hx6
              replace hx7 := (HB.out.cell (World.block_lt_of_cell? w _ hx7)).trans hx7
              replace hx8 := (HB.out.cell (World.block_lt_of_cell? w _ hx8)).trans hx8
              replace hx9 := (HB.out.cell (World.block_lt_of_cell? w _ hx9)).trans hx9
              replace hx10 := (HB.out.cell (World.block_lt_of_cell? w _ hx10)).trans hx10
              replace hx11 := (HB.out.cell (World.block_lt_of_cell? w _ hx11)).trans hx11
              have hcB : ∀ o : Obj, (wr.alloc o).cell? ⟨w1.heap.size, 0, none⟩ = some (.int .i64 x.f0) := fun o => by
                rw [World.cell?_alloc_past _ _ _ (blk_lt HK.out)]; exact (blk_cell HK.out 0).trans rfl
              have hs := idx_drop x.f0 y j hjl
              rw [← HI.out] at hs
              have HS := Aside0.mk hs
              clear hs HI
              have hd : decide ((j : Int) < (y.length : Int)) = true := decide_eq_true (by omega)
              by_cases hq : (rd_T45 y (j : Int)).f0 = x.f0
              · have hqb : ((rd_T45 y (j : Int)).f0 == x.f0) = true := beq_iff_eq.2 hq
                have h1 := HX.out
                rw [if_pos (by rw [HS.out, if_pos hq]; omega), Option.bind_some, if_neg (by decide)] at h1
                obtain rfl := Option.some.inj h1
                clear h1 hq
                go_wp2
                go_ret
                exact ⟨rfl, below_alloc HB.out _⟩
              · have hqb : ((rd_T45 y (j : Int)).f0 == x.f0) = false := beq_eq_false_iff_ne.2 hq
                have HQ := Aside0.mk hq
                clear hq
                go_wp2
                go_roundw
                case rel => exact ⟨j + 1, by go_num, by omega, ⟨by rw [HS.out, if_neg HQ.out]; rfl⟩, ⟨blk_alloc HK.out _⟩, ⟨below_alloc HB.out _⟩⟩
                case measure => simp [intOf]; omega
            · obtain rfl : j = y.length := by omega
              have h1 := HX.out
              rw [if_neg (by rw [HI.out, List.drop_length]; show ¬ (0 : Int) ≤ -1; omega)] at h1
              obtain ⟨e0, he0, h1⟩ := Option.bind_eq_some_iff.1 h1
              have HP := Aside0.mk he0
              have HX2 := Aside0.mk h1
              clear h1 he0 HX HI
              have hd : decide ((y.length : Int) < (y.length : Int)) = false := decide_eq_false (by omega)
              go_wp2
              refine start_ (n := 6) (S := fun w' => w'.cell? ⟨w1.heap.size, 0, none⟩ = some (.int .i64 x.f0) ∧ w'.cell? ⟨w1.heap.size, 1, none⟩ = some (.int .i64 x.f1) ∧ w'.cell? ⟨w1.heap.size, 2, none⟩ = some (.int .i64 x.f2) ∧ w'.cell? ⟨w1.heap.size, 3, none⟩ = some (.int .i64 x.f3) ∧ w'.cell? ⟨w1.heap.size, 4, none⟩ = some (.int .i64 x.f4) ∧ w'.cell? ⟨w1.heap.size, 5, none⟩ = some (.int .i64 x.f5) ∧ w'.cell? ⟨w1.heap.size, 6, none⟩ = some (.int .i64 x.f6) ∧ w'.cell? ⟨w1.heap.size, 7, none⟩ = some (.int .i64 x.f7) ∧ w'.cell? ⟨w1.heap.size, 8, none⟩ = some (.int .i64 x.f8) ∧ w'.cell? ⟨w1.heap.size, 9, none⟩ = some (.int .i64 x.f9) ∧ w'.cell? ⟨w1.heap.size, 10, none⟩ = some (.string x.f10) ∧ w'.cell? ⟨w1.heap.size, 11, none⟩ = some (.string x.f11)) (ds := []) #[false, false, false, false, false, false] (by kernel_rfl) rfl rfl ⟨(blk_cell HK.out 0).trans rfl, (blk_cell HK.out 1).trans rfl, (blk_cell HK.out 2).trans rfl, (blk_cell HK.out 3).trans rfl, (blk_cell HK.out 4).trans rfl, (blk_cell HK.out 5).trans rfl, (blk_cell HK.out 6).trans rfl, (blk_cell HK.out 7).trans rfl, (blk_cell HK.out 8).trans rfl, (blk_cell HK.out 9).trans rfl, (blk_cell HK.out 10).trans rfl, (blk_cell HK.out 11).trans rfl⟩ (fun hHeld => ?_)
              have HK2 := Aside0.mk (blk_drew HK.out)
              have HB2 := Aside0.mk (below_drew1 HB.out)
              clear HK HB
              generalize wr.drew = w77 at HK2 HB2 hHeld ⊢
              refine pure_ (i := 0) (N := some 139) (v := ?_) (a' := ?_) #[true, false, false, false, false, false] rfl rfl (by kernel_rfl) (fun _ _ _ h => h) (Or.inl ⟨by rfl, ?_⟩) ?_ ?_
              rotate_left
              · intro w'
                go_simp
                with_reducible rfl
              rotate_left
              · simp only [Act.put, List.setIfInBounds_toArray, List.set_cons_zero, List.set_cons_succ]
                rfl
              refine pure_ (i := 1) (N := some 140) (v := ?_) (a' := ?_) #[true, true, false, false, false, false] rfl rfl (by kernel_rfl) (fun _ _ _ h => h) (Or.inl ⟨by rfl, ?_⟩) ?_ ?_
              rotate_left
              · intro w'
                go_simp
                with_reducible rfl
              rotate_left
              · simp only [Act.put, List.setIfInBounds_toArray, List.set_cons_zero, List.set_cons_succ]
                rfl
              refine pure_ (i := 2) (N := some 141) (v := ?_) (a' := ?_) #[true, true, true, false, false, false] rfl rfl (by kernel_rfl) (fun _ _ _ h => h) (Or.inl ⟨by rfl, ?_⟩) ?_ ?_
              rotate_left
              · intro w'
                go_simp
                with_reducible rfl
              rotate_left
              · simp only [Act.put, List.setIfInBounds_toArray, List.set_cons_zero, List.set_cons_succ]
                rfl
              refine take_ (i := 3) (N := some 142) (v := ?_) (a' := ?_) #[true, true, true, true, false, false] rfl rfl (by kernel_rfl) (fun _ _ _ h => h) (Or.inl ⟨by rfl, ?_⟩) hHeld ?_ ?_
              rotate_left
              · rintro w' ⟨s0, s1, s2, s3, s4, s5, s6, s7, s8, s9, s10, s11⟩
                go_simp
                with_reducible rfl
              rotate_left
              · simp only [Act.put, List.setIfInBounds_toArray, List.set_cons_zero, List.set_cons_succ]
                rfl
              refine one_ (i := 4) (N := some 143) #[true, true, true, true, true, false] rfl rfl (by kernel_rfl) (by decide) (fun K hK => ?_)
              refine goes_ Tryd.func18 (by kernel_rfl) rfl #[.slice (some ad) y.length c0, shapeV x] (by rfl) rfl rfl (by (try simp only [List.map_toArray, List.map_cons, List.map_nil]); first | done | rfl) ?_
              with_reducible refine (shape_parents.calls k _ _ y x.f0 x.f1 x.f2 x.f3 x.f4 x.f5 x.f6 x.f7 x.f8 x.f9 x.f10 x.f11 e0 _ (Kd.C_below HYR.out HB2.out) HYC.out HP.out).mono ?_
              rintro e w79 ⟨rfl, hb⟩
              refine ⟨_, rfl, ?_⟩
              have HK3 := Aside0.mk (blk_below HK2.out hb)
              have HB3 := Aside0.mk (below_step HB2.out hb)
              clear HK2 HB2 hb
              refine hK.out _ _ ⟨(blk_cell HK3.out 0).trans rfl, (blk_cell HK3.out 1).trans rfl, (blk_cell HK3.out 2).trans rfl, (blk_cell HK3.out 3).trans rfl, (blk_cell HK3.out 4).trans rfl, (blk_cell HK3.out 5).trans rfl, (blk_cell HK3.out 6).trans rfl, (blk_cell HK3.out 7).trans rfl, (blk_cell HK3.out 8).trans rfl, (blk_cell HK3.out 9).trans rfl, (blk_cell HK3.out 10).trans rfl, (blk_cell HK3.out 11).trans rfl⟩ (fun hHeld => ?_)
              clear hK K
              refine norm_ (a' := ?_) ?_ ?_
              rotate_left
              · show Act.put _ (some 143) _ = _
                simp only [Act.put, List.setIfInBounds_toArray, List.set_cons_zero, List.set_cons_succ]
                rfl
              refine pure_ (i := 5) (N := some 7) (v := ?_) (a' := ?_) #[true, true, true, true, true, true] rfl rfl (by kernel_rfl) (fun _ _ _ h => h) (Or.inl ⟨by rfl, ?_⟩) ?_ ?_
              rotate_left
              · intro w'
                go_simp
                with_reducible rfl
              rotate_left
              · simp only [Act.put, List.setIfInBounds_toArray, List.set_cons_zero, List.set_cons_succ]
                rfl
              refine done_ (by kernel_rfl) ?_
              by_cases hz : e0 = 0
              · subst hz
                have h1 := HX2.out
                rw [if_pos rfl] at h1
                have HX := Aside0.mk h1
                clear h1
                have hil : i + 1 ≤ l0.length := by omega
                have hiw : (i : Int) ≤ 1000 := by have := HN.out; omega
                go_wp2
                go_roundw
                case rel => exact ⟨i + 1, by go_num, hil, HX, HB3⟩
                case measure => simp [intOf]; omega
              · have h1 := HX2.out
                rw [if_neg hz] at h1
                obtain rfl := Option.some.inj h1
                have hzb : (e0 != 0) = true := bne_iff_ne.2 hz
                clear h1 hz
                go_wp2
                go_ret
                exact ⟨rfl, HB3.out⟩
      · have h1 := HX1.out
        rw [if_pos (by omega), Option.bind_some, if_neg (by omega)] at h1
        obtain rfl := Option.some.inj h1
        clear h1 HX1
        have HF := Aside0.mk hf
        clear hf
        go_wp2
        all_goals try simp only [beq_iff_eq, bne_iff_ne, beq_eq_false_iff_ne, bne_eq_false_iff_eq, ne_eq, Bool.not_eq_true] at *
        all_goals first | (go_ret; exact ⟨ret_i (by unfold fieldErr; (repeat' split) <;> first | rfl | omega), below_alloc HB.out _⟩) | (exfalso; have hf := HF.out; unfold fieldErr at hf; (repeat' split at hf) <;> omega)
    · obtain rfl : i = l0.length := by omega
      have h1 := HX.out
      rw [Nat.sub_self, checkL] at h1
      obtain rfl := Option.some.inj h1
      clear h1 HX
      have hd : decide ((l0.length : Int) < (l0.length : Int)) = false := decide_eq_false (by omega)
      go_wp2
      go_ret
      exact ⟨rfl, HB.out⟩
end Go.Proofs.YtmheeekbbhkmkaaDoor.HandSH
