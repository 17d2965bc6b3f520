import Derived.Test.YtmheeekbbhkmkaaDoorQSHx1
import Derived.Test.YtmheeekbbhkmkaaDoorHandSHd
import Derived.Test.YtmheeekbbhkmkaaDoorHandSHc
namespace Go.Proofs.YtmheeekbbhkmkaaDoor.HandSH
open Go.Proofs.YtmheeekbbhkmkaaDoor.Lib (w64)
open Go.RowKit Go.Proofs.YtmheeekbbhkmkaaDoorW.PrintWords Go.Proofs.YtmheeekbbhkmkaaDoorW.PrintLast Go.Proofs.YtmheeekbbhkmkaaDoorW.PrintMore Go.Proofs.YtmheeekbbhkmkaaDoor.QSH
set_option linter.unusedVariables false
set_option linter.unusedSimpArgs false
def cornerF (k : Nat) (l : List S45) (x : S45) (px py : Int) : Option (Int × Int) :=
  (shape_turned.f px py (wrap64 (wrap64 (2 * x.f3) + x.f5)) (wrap64 (wrap64 (2 * x.f4) + x.f6)) x.f7).bind fun p => shape_out.f k l x.f1 p.1 p.2
theorem cornerF.mono (l : List S45) (x : S45) (px py : Int) (k : Nat) : LeO (cornerF k l x px py) (cornerF (k + 1) l x px py) := by
  unfold cornerF
  exact LeO.bind (LeO.refl _) fun _ => shape_out.mono _ _ _ _ k
def arrAt (X0 Y0 X1 Y1 X2 Y2 X3 Y3 : Int) (i : Int) : Array Value :=
  if i = 0 then #[.int .i64 0, .int .i64 0, .int .i64 0, .int .i64 0, .int .i64 0, .int .i64 0, .int .i64 0, .int .i64 0]
  else if i = 1 then #[.int .i64 X0, .int .i64 Y0, .int .i64 0, .int .i64 0, .int .i64 0, .int .i64 0, .int .i64 0, .int .i64 0]
  else if i = 2 then #[.int .i64 X0, .int .i64 Y0, .int .i64 X1, .int .i64 Y1, .int .i64 0, .int .i64 0, .int .i64 0, .int .i64 0]
  else if i = 3 then #[.int .i64 X0, .int .i64 Y0, .int .i64 X1, .int .i64 Y1, .int .i64 X2, .int .i64 Y2, .int .i64 0, .int .i64 0]
  else #[.int .i64 X0, .int .i64 Y0, .int .i64 X1, .int .i64 Y1, .int .i64 X2, .int .i64 Y2, .int .i64 X3, .int .i64 Y3]
theorem blk_alloc' {w : World} {g : Nat} {cs : Array Value} {t : TypeId} (h : w.heap[g]? = some (.cells cs t (0, 0))) (o : Obj) : (w.alloc o).heap[g]? = some (.cells cs t (0, 0)) :=
  ((below_alloc (Below.refl w.heap.size w) o).block g (blk_lt h)).trans h
theorem blk_put2 {w : World} {g : Nat} {cs cs' : Array Value} {t : TypeId} (h : w.heap[g]? = some (.cells cs t (0, 0))) (i j : Nat) (u v : Value) (e : (cs.setIfInBounds i u).setIfInBounds j v = cs') : ((w.setCell ⟨g, i, none⟩ u).setCell ⟨g, j, none⟩ v).heap[g]? = some (.cells cs' t (0, 0)) := by
  subst e; exact blk_set (blk_set h i u) j v
theorem blk_far2 {w : World} {g g' : Nat} {cs : Array Value} {t : TypeId} (h : w.heap[g]? = some (.cells cs t (0, 0))) (hne : g ≠ g') (i j : Nat) (u v : Value) : ((w.setCell ⟨g', i, none⟩ u).setCell ⟨g', j, none⟩ v).heap[g]? = some (.cells cs t (0, 0)) :=
  blk_far (blk_far h hne u) hne v
set_option maxHeartbeats 16000000 in
set_option maxRecDepth 100000 in
theorem corners_ok (k : Nat) (A0 : Option Addr) (c0 : Nat) (l0 : List S45) (x : S45) (w : World) (hr0 : Kd.C k45 w A0 l0.length l0) (hc0 : l0.length ≤ c0) (hL : LaidW w)
    (X0 Y0 X1 Y1 X2 Y2 X3 Y3 : Int) (h0 : cornerF k l0 x x.f3 x.f4 = some (X0, Y0)) (h1 : cornerF k l0 x (wrap64 (x.f3 + x.f5)) x.f4 = some (X1, Y1)) (h2 : cornerF k l0 x (wrap64 (x.f3 + x.f5)) (wrap64 (x.f4 + x.f6)) = some (X2, Y2)) (h3 : cornerF k l0 x x.f3 (wrap64 (x.f4 + x.f6)) = some (X3, Y3)) :
    Calls Tryd.prog 17 #[.slice A0 l0.length c0, shapeV x] w fun e w' => e = .returned (.agg #[.int .i64 X0, .int .i64 Y0, .int .i64 X1, .int .i64 Y1, .int .i64 X2, .int .i64 Y2, .int .i64 X3, .int .i64 Y3]) ∧ Below w.heap.size w w' := by
  obtain ⟨⟨a0, b0⟩, t0, h0⟩ := Option.bind_eq_some_iff.1 h0
  have HT0 := Aside0.mk t0
  have HO0 := Aside0.mk h0
  clear t0 h0
  obtain ⟨⟨a1, b1⟩, t1, h1⟩ := Option.bind_eq_some_iff.1 h1
  have HT1 := Aside0.mk t1
  have HO1 := Aside0.mk h1
  clear t1 h1
  obtain ⟨⟨a2, b2⟩, t2, h2⟩ := Option.bind_eq_some_iff.1 h2
  have HT2 := Aside0.mk t2
  have HO2 := Aside0.mk h2
  clear t2 h2
  obtain ⟨⟨a3, b3⟩, t3, h3⟩ := Option.bind_eq_some_iff.1 h3
  have HT3 := Aside0.mk t3
  have HO3 := Aside0.mk h3
  clear t3 h3
  have hu45 := Tryd.underlying45
  have hu46 := Tryd.underlying46
  have hu57 := Tryd.underlying57
  have hu58 := Tryd.underlying58
  have i0 : ∀ W : World, (Instr.index 58 (.agg #[.int .i64 x.f3, .int .i64 x.f4, .int .i64 (wrap64 (x.f3 + x.f5)), .int .i64 x.f4, .int .i64 (wrap64 (x.f3 + x.f5)), .int .i64 (wrap64 (x.f4 + x.f6)), .int .i64 x.f3, .int .i64 (wrap64 (x.f4 + x.f6))]) (.int .i64 0)).run Tryd.prog W = .ok (.agg #[.int .i64 x.f3, .int .i64 x.f4]) W := fun _ => by kernel_rfl
  have i1 : ∀ W : World, (Instr.index 58 (.agg #[.int .i64 x.f3, .int .i64 x.f4, .int .i64 (wrap64 (x.f3 + x.f5)), .int .i64 x.f4, .int .i64 (wrap64 (x.f3 + x.f5)), .int .i64 (wrap64 (x.f4 + x.f6)), .int .i64 x.f3, .int .i64 (wrap64 (x.f4 + x.f6))]) (.int .i64 1)).run Tryd.prog W = .ok (.agg #[.int .i64 (wrap64 (x.f3 + x.f5)), .int .i64 x.f4]) W := fun _ => by kernel_rfl
  have i2 : ∀ W : World, (Instr.index 58 (.agg #[.int .i64 x.f3, .int .i64 x.f4, .int .i64 (wrap64 (x.f3 + x.f5)), .int .i64 x.f4, .int .i64 (wrap64 (x.f3 + x.f5)), .int .i64 (wrap64 (x.f4 + x.f6)), .int .i64 x.f3, .int .i64 (wrap64 (x.f4 + x.f6))]) (.int .i64 2)).run Tryd.prog W = .ok (.agg #[.int .i64 (wrap64 (x.f3 + x.f5)), .int .i64 (wrap64 (x.f4 + x.f6))]) W := fun _ => by kernel_rfl
  have i3 : ∀ W : World, (Instr.index 58 (.agg #[.int .i64 x.f3, .int .i64 x.f4, .int .i64 (wrap64 (x.f3 + x.f5)), .int .i64 x.f4, .int .i64 (wrap64 (x.f3 + x.f5)), .int .i64 (wrap64 (x.f4 + x.f6)), .int .i64 x.f3, .int .i64 (wrap64 (x.f4 + x.f6))]) (.int .i64 3)).run Tryd.prog W = .ok (.agg #[.int .i64 x.f3, .int .i64 (wrap64 (x.f4 + x.f6))]) W := fun _ => by kernel_rfl
  have HR := Aside0.mk hr0
  have HC := Aside0.mk hc0
  have HL := Aside0.mk hL
  have HB := Aside0.mk (Below.refl w.heap.size w)
  clear hr0 hc0 hL
  go_enter Tryd.func17, Tryd.ntmps17
  go_wp2
  go_loopw [43] (fun v43 w' => ∃ i : Int, v43 = .int .i64 i ∧ 0 ≤ i ∧ i ≤ 4 ∧ Aside0 (w'.heap[w.heap.size]? = some (.cells (boxOf x) 45 (0, 0))) ∧ Aside0 (w'.heap[w.heap.size + 1]? = some (.cells (arrAt X0 Y0 X1 Y1 X2 Y2 X3 Y3 0) 46 (0, 0))) ∧ Aside0 (w'.heap[w.heap.size + 1 + 1]? = some (.cells (arrAt X0 Y0 X1 Y1 X2 Y2 X3 Y3 i) 46 (0, 0))) ∧ Aside0 (Below w.heap.size w w')) (fun v43 _ => (4 - intOf v43).toNat)
  case atStart =>
    refine ⟨0, rfl, by omega, by omega, ⟨blk_alloc' (blk_alloc' (blk_new w _) _) _⟩, ⟨?_⟩, ⟨?_⟩, ⟨below_alloc (below_alloc (below_alloc HB.out _) _) _⟩⟩
    · have h := blk_new (w.alloc (.cells (boxOf x) 45)) (.cells (arrAt X0 Y0 X1 Y1 X2 Y2 X3 Y3 0) 46)
      rw [show (w.alloc (.cells (boxOf x) 45)).heap.size = w.heap.size + 1 by simp] at h
      exact blk_alloc' h _
    · have h := blk_new ((w.alloc (.cells (boxOf x) 45)).alloc (.cells (arrAt X0 Y0 X1 Y1 X2 Y2 X3 Y3 0) 46)) (.cells (arrAt X0 Y0 X1 Y1 X2 Y2 X3 Y3 0) 46)
      rw [show ((w.alloc (.cells (boxOf x) 45)).alloc (.cells (arrAt X0 Y0 X1 Y1 X2 Y2 X3 Y3 0) 46)).heap.size = w.heap.size + 1 + 1 by simp] at h
      exact h
  case round =>
    clear HB
    obtain ⟨i, rfl, hi0, hi1, HK3, HK4, HK5, HB⟩ := hrel
    by_cases e0 : i = 0
    · subst e0
      have hd : decide ((0 : Int) < 4) = true := by decide
      have hc3 : ∀ o : Obj, (wr.alloc o).cell? ⟨w.heap.size, 3, none⟩ = some (.int .i64 x.f3) := fun o => (blk_cell (blk_alloc' HK3.out o) 3).trans rfl
      have hc4 : ∀ o : Obj, (wr.alloc o).cell? ⟨w.heap.size, 4, none⟩ = some (.int .i64 x.f4) := fun o => (blk_cell (blk_alloc' HK3.out o) 4).trans rfl
      have hc5 : ∀ o : Obj, (wr.alloc o).cell? ⟨w.heap.size, 5, none⟩ = some (.int .i64 x.f5) := fun o => (blk_cell (blk_alloc' HK3.out o) 5).trans rfl
      have hc6 : ∀ o : Obj, (wr.alloc o).cell? ⟨w.heap.size, 6, none⟩ = some (.int .i64 x.f6) := fun o => (blk_cell (blk_alloc' HK3.out o) 6).trans rfl
      have hc7 : ∀ o : Obj, (wr.alloc o).cell? ⟨w.heap.size, 7, none⟩ = some (.int .i64 x.f7) := fun o => (blk_cell (blk_alloc' HK3.out o) 7).trans rfl
      go_wp2_with (first | (go_at_call 26; (with_reducible refine (shape_turned.calls x.f3 x.f4 (wrap64 (wrap64 (2 * x.f3) + x.f5)) (wrap64 (wrap64 (2 * x.f4) + x.f6)) x.f7 a0 b0 _ HT0.out (LaidW.now HL.out (below_alloc HB.out _))).mono ?_); rintro e w2 ⟨rfl, hb⟩; have k3 := blk_below (blk_alloc' HK3.out _) hb; have k4 := blk_below (blk_alloc' HK4.out _) hb; have k5 := blk_below (blk_alloc' HK5.out _) hb; have hB2 := below_step (below_alloc HB.out _) hb; clear hb HK3 HK4 HK5 HB; have hd1 : w2.cell? ⟨w.heap.size, 1, none⟩ = some (.int .i64 x.f1) := (blk_cell k3 1).trans rfl; have HK3 := Aside0.mk k3; have HK4 := Aside0.mk k4; have HK5 := Aside0.mk k5; have HB := Aside0.mk hB2; clear k3 k4 k5 hB2) | (go_at_call 27; (with_reducible refine (shape_out.calls k A0 c0 l0 x.f1 a0 b0 X0 Y0 _ (Kd.C_below HR.out HB.out) HC.out HO0.out (LaidW.now HL.out HB.out)).mono ?_); rintro e w3 ⟨rfl, hb⟩; have k3 := blk_below HK3.out hb; have k4 := blk_below HK4.out hb; have k5 := blk_below HK5.out hb; have hB2 := below_step HB.out hb; clear hb HK3 HK4 HK5 HB; have hf5 : ∀ j, w3.frozen? ⟨w.heap.size + 1 + 1, j, none⟩ = false := fun j => blk_frozen k5 j; have he0 : w3.cell? ⟨w.heap.size + 1 + 1, 0, none⟩ = some (.int .i64 0) := (blk_cell k5 0).trans rfl; have he1 : w3.cell? ⟨w.heap.size + 1 + 1, 1, none⟩ = some (.int .i64 0) := (blk_cell k5 1).trans rfl; have HK3 := Aside0.mk k3; have HK4 := Aside0.mk k4; have HK5 := Aside0.mk k5; have HB := Aside0.mk hB2; clear k3 k4 k5 hB2))
      go_roundw
      case rel => exact ⟨1, rfl, by omega, by omega, ⟨blk_far2 HK3.out (by omega) _ _ _ _⟩, ⟨blk_far2 HK4.out (by omega) _ _ _ _⟩, ⟨blk_put2 HK5.out _ _ _ _ rfl⟩, ⟨below_set (below_set HB.out (by omega)) (by omega)⟩⟩
      case measure => simp [intOf]
    by_cases e1 : i = 1
    · subst e1
      have hd : decide ((1 : Int) < 4) = true := by decide
      have hc3 : ∀ o : Obj, (wr.alloc o).cell? ⟨w.heap.size, 3, none⟩ = some (.int .i64 x.f3) := fun o => (blk_cell (blk_alloc' HK3.out o) 3).trans rfl
      have hc4 : ∀ o : Obj, (wr.alloc o).cell? ⟨w.heap.size, 4, none⟩ = some (.int .i64 x.f4) := fun o => (blk_cell (blk_alloc' HK3.out o) 4).trans rfl
      have hc5 : ∀ o : Obj, (wr.alloc o).cell? ⟨w.heap.size, 5, none⟩ = some (.int .i64 x.f5) := fun o => (blk_cell (blk_alloc' HK3.out o) 5).trans rfl
      have hc6 : ∀ o : Obj, (wr.alloc o).cell? ⟨w.heap.size, 6, none⟩ = some (.int .i64 x.f6) := fun o => (blk_cell (blk_alloc' HK3.out o) 6).trans rfl
      have hc7 : ∀ o : Obj, (wr.alloc o).cell? ⟨w.heap.size, 7, none⟩ = some (.int .i64 x.f7) := fun o => (blk_cell (blk_alloc' HK3.out o) 7).trans rfl
      go_wp2_with (first | (go_at_call 26; (with_reducible refine (shape_turned.calls (wrap64 (x.f3 + x.f5)) x.f4 (wrap64 (wrap64 (2 * x.f3) + x.f5)) (wrap64 (wrap64 (2 * x.f4) + x.f6)) x.f7 a1 b1 _ HT1.out (LaidW.now HL.out (below_alloc HB.out _))).mono ?_); rintro e w2 ⟨rfl, hb⟩; have k3 := blk_below (blk_alloc' HK3.out _) hb; have k4 := blk_below (blk_alloc' HK4.out _) hb; have k5 := blk_below (blk_alloc' HK5.out _) hb; have hB2 := below_step (below_alloc HB.out _) hb; clear hb HK3 HK4 HK5 HB; have hd1 : w2.cell? ⟨w.heap.size, 1, none⟩ = some (.int .i64 x.f1) := (blk_cell k3 1).trans rfl; have HK3 := Aside0.mk k3; have HK4 := Aside0.mk k4; have HK5 := Aside0.mk k5; have HB := Aside0.mk hB2; clear k3 k4 k5 hB2) | (go_at_call 27; (with_reducible refine (shape_out.calls k A0 c0 l0 x.f1 a1 b1 X1 Y1 _ (Kd.C_below HR.out HB.out) HC.out HO1.out (LaidW.now HL.out HB.out)).mono ?_); rintro e w3 ⟨rfl, hb⟩; have k3 := blk_below HK3.out hb; have k4 := blk_below HK4.out hb; have k5 := blk_below HK5.out hb; have hB2 := below_step HB.out hb; clear hb HK3 HK4 HK5 HB; have hf5 : ∀ j, w3.frozen? ⟨w.heap.size + 1 + 1, j, none⟩ = false := fun j => blk_frozen k5 j; have he0 : w3.cell? ⟨w.heap.size + 1 + 1, 2, none⟩ = some (.int .i64 0) := (blk_cell k5 2).trans rfl; have he1 : w3.cell? ⟨w.heap.size + 1 + 1, 3, none⟩ = some (.int .i64 0) := (blk_cell k5 3).trans rfl; have HK3 := Aside0.mk k3; have HK4 := Aside0.mk k4; have HK5 := Aside0.mk k5; have HB := Aside0.mk hB2; clear k3 k4 k5 hB2))
      go_roundw
      case rel => exact ⟨2, rfl, by omega, by omega, ⟨blk_far2 HK3.out (by omega) _ _ _ _⟩, ⟨blk_far2 HK4.out (by omega) _ _ _ _⟩, ⟨blk_put2 HK5.out _ _ _ _ rfl⟩, ⟨below_set (below_set HB.out (by omega)) (by omega)⟩⟩
      case measure => simp [intOf]
    by_cases e2 : i = 2
    · subst e2
      have hd : decide ((2 : Int) < 4) = true := by decide
      have hc3 : ∀ o : Obj, (wr.alloc o).cell? ⟨w.heap.size, 3, none⟩ = some (.int .i64 x.f3) := fun o => (blk_cell (blk_alloc' HK3.out o) 3).trans rfl
      have hc4 : ∀ o : Obj, (wr.alloc o).cell? ⟨w.heap.size, 4, none⟩ = some (.int .i64 x.f4) := fun o => (blk_cell (blk_alloc' HK3.out o) 4).trans rfl
      have hc5 : ∀ o : Obj, (wr.alloc o).cell? ⟨w.heap.size, 5, none⟩ = some (.int .i64 x.f5) := fun o => (blk_cell (blk_alloc' HK3.out o) 5).trans rfl
      have hc6 : ∀ o : Obj, (wr.alloc o).cell? ⟨w.heap.size, 6, none⟩ = some (.int .i64 x.f6) := fun o => (blk_cell (blk_alloc' HK3.out o) 6).trans rfl
      have hc7 : ∀ o : Obj, (wr.alloc o).cell? ⟨w.heap.size, 7, none⟩ = some (.int .i64 x.f7) := fun o => (blk_cell (blk_alloc' HK3.out o) 7).trans rfl
      go_wp2_with (first | (go_at_call 26; (with_reducible refine (shape_turned.calls (wrap64 (x.f3 + x.f5)) (wrap64 (x.f4 + x.f6)) (wrap64 (wrap64 (2 * x.f3) + x.f5)) (wrap64 (wrap64 (2 * x.f4) + x.f6)) x.f7 a2 b2 _ HT2.out (LaidW.now HL.out (below_alloc HB.out _))).mono ?_); rintro e w2 ⟨rfl, hb⟩; have k3 := blk_below (blk_alloc' HK3.out _) hb; have k4 := blk_below (blk_alloc' HK4.out _) hb; have k5 := blk_below (blk_alloc' HK5.out _) hb; have hB2 := below_step (below_alloc HB.out _) hb; clear hb HK3 HK4 HK5 HB; have hd1 : w2.cell? ⟨w.heap.size, 1, none⟩ = some (.int .i64 x.f1) := (blk_cell k3 1).trans rfl; have HK3 := Aside0.mk k3; have HK4 := Aside0.mk k4; have HK5 := Aside0.mk k5; have HB := Aside0.mk hB2; clear k3 k4 k5 hB2) | (go_at_call 27; (with_reducible refine (shape_out.calls k A0 c0 l0 x.f1 a2 b2 X2 Y2 _ (Kd.C_below HR.out HB.out) HC.out HO2.out (LaidW.now HL.out HB.out)).mono ?_); rintro e w3 ⟨rfl, hb⟩; have k3 := blk_below HK3.out hb; have k4 := blk_below HK4.out hb; have k5 := blk_below HK5.out hb; have hB2 := below_step HB.out hb; clear hb HK3 HK4 HK5 HB; have hf5 : ∀ j, w3.frozen? ⟨w.heap.size + 1 + 1, j, none⟩ = false := fun j => blk_frozen k5 j; have he0 : w3.cell? ⟨w.heap.size + 1 + 1, 4, none⟩ = some (.int .i64 0) := (blk_cell k5 4).trans rfl; have he1 : w3.cell? ⟨w.heap.size + 1 + 1, 5, none⟩ = some (.int .i64 0) := (blk_cell k5 5).trans rfl; have HK3 := Aside0.mk k3; have HK4 := Aside0.mk k4; have HK5 := Aside0.mk k5; have HB := Aside0.mk hB2; clear k3 k4 k5 hB2))
      go_roundw
      case rel => exact ⟨3, rfl, by omega, by omega, ⟨blk_far2 HK3.out (by omega) _ _ _ _⟩, ⟨blk_far2 HK4.out (by omega) _ _ _ _⟩, ⟨blk_put2 HK5.out _ _ _ _ rfl⟩, ⟨below_set (below_set HB.out (by omega)) (by omega)⟩⟩
      case measure => simp [intOf]
    by_cases e3 : i = 3
    · subst e3
      have hd : decide ((3 : Int) < 4) = true := by decide
      have hc3 : ∀ o : Obj, (wr.alloc o).cell? ⟨w.heap.size, 3, none⟩ = some (.int .i64 x.f3) := fun o => (blk_cell (blk_alloc' HK3.out o) 3).trans rfl
      have hc4 : ∀ o : Obj, (wr.alloc o).cell? ⟨w.heap.size, 4, none⟩ = some (.int .i64 x.f4) := fun o => (blk_cell (blk_alloc' HK3.out o) 4).trans rfl
      have hc5 : ∀ o : Obj, (wr.alloc o).cell? ⟨w.heap.size, 5, none⟩ = some (.int .i64 x.f5) := fun o => (blk_cell (blk_alloc' HK3.out o) 5).trans rfl
      have hc6 : ∀ o : Obj, (wr.alloc o).cell? ⟨w.heap.size, 6, none⟩ = some (.int .i64 x.f6) := fun o => (blk_cell (blk_alloc' HK3.out o) 6).trans rfl
      have hc7 : ∀ o : Obj, (wr.alloc o).cell? ⟨w.heap.size, 7, none⟩ = some (.int .i64 x.f7) := fun o => (blk_cell (blk_alloc' HK3.out o) 7).trans rfl
      go_wp2_with (first | (go_at_call 26; (with_reducible refine (shape_turned.calls x.f3 (wrap64 (x.f4 + x.f6)) (wrap64 (wrap64 (2 * x.f3) + x.f5)) (wrap64 (wrap64 (2 * x.f4) + x.f6)) x.f7 a3 b3 _ HT3.out (LaidW.now HL.out (below_alloc HB.out _))).mono ?_); rintro e w2 ⟨rfl, hb⟩; have k3 := blk_below (blk_alloc' HK3.out _) hb; have k4 := blk_below (blk_alloc' HK4.out _) hb; have k5 := blk_below (blk_alloc' HK5.out _) hb; have hB2 := below_step (below_alloc HB.out _) hb; clear hb HK3 HK4 HK5 HB; have hd1 : w2.cell? ⟨w.heap.size, 1, none⟩ = some (.int .i64 x.f1) := (blk_cell k3 1).trans rfl; have HK3 := Aside0.mk k3; have HK4 := Aside0.mk k4; have HK5 := Aside0.mk k5; have HB := Aside0.mk hB2; clear k3 k4 k5 hB2) | (go_at_call 27; (with_reducible refine (shape_out.calls k A0 c0 l0 x.f1 a3 b3 X3 Y3 _ (Kd.C_below HR.out HB.out) HC.out HO3.out (LaidW.now HL.out HB.out)).mono ?_); rintro e w3 ⟨rfl, hb⟩; have k3 := blk_below HK3.out hb; have k4 := blk_below HK4.out hb; have k5 := blk_below HK5.out hb; have hB2 := below_step HB.out hb; clear hb HK3 HK4 HK5 HB; have hf5 : ∀ j, w3.frozen? ⟨w.heap.size + 1 + 1, j, none⟩ = false := fun j => blk_frozen k5 j; have he0 : w3.cell? ⟨w.heap.size + 1 + 1, 6, none⟩ = some (.int .i64 0) := (blk_cell k5 6).trans rfl; have he1 : w3.cell? ⟨w.heap.size + 1 + 1, 7, none⟩ = some (.int .i64 0) := (blk_cell k5 7).trans rfl; have HK3 := Aside0.mk k3; have HK4 := Aside0.mk k4; have HK5 := Aside0.mk k5; have HB := Aside0.mk hB2; clear k3 k4 k5 hB2))
      go_roundw
      case rel => exact ⟨4, rfl, by omega, by omega, ⟨blk_far2 HK3.out (by omega) _ _ _ _⟩, ⟨blk_far2 HK4.out (by omega) _ _ _ _⟩, ⟨blk_put2 HK5.out _ _ _ _ rfl⟩, ⟨below_set (below_set HB.out (by omega)) (by omega)⟩⟩
      case measure => simp [intOf]
    obtain rfl : i = 4 := by omega
    have hd : decide ((4 : Int) < 4) = false := by decide
    have hp0 : wr.cell? ⟨w.heap.size + 1 + 1, 0, none⟩ = some (.int .i64 X0) := (blk_cell HK5.out 0).trans rfl
    have hq0 : wr.cell? ⟨w.heap.size + 1, 0, none⟩ = some (.int .i64 0) := (blk_cell HK4.out 0).trans rfl
    have hp1 : wr.cell? ⟨w.heap.size + 1 + 1, 1, none⟩ = some (.int .i64 Y0) := (blk_cell HK5.out 1).trans rfl
    have hq1 : wr.cell? ⟨w.heap.size + 1, 1, none⟩ = some (.int .i64 0) := (blk_cell HK4.out 1).trans rfl
    have hp2 : wr.cell? ⟨w.heap.size + 1 + 1, 2, none⟩ = some (.int .i64 X1) := (blk_cell HK5.out 2).trans rfl
    have hq2 : wr.cell? ⟨w.heap.size + 1, 2, none⟩ = some (.int .i64 0) := (blk_cell HK4.out 2).trans rfl
    have hp3 : wr.cell? ⟨w.heap.size + 1 + 1, 3, none⟩ = some (.int .i64 Y1) := (blk_cell HK5.out 3).trans rfl
    have hq3 : wr.cell? ⟨w.heap.size + 1, 3, none⟩ = some (.int .i64 0) := (blk_cell HK4.out 3).trans rfl
    have hp4 : wr.cell? ⟨w.heap.size + 1 + 1, 4, none⟩ = some (.int .i64 X2) := (blk_cell HK5.out 4).trans rfl
    have hq4 : wr.cell? ⟨w.heap.size + 1, 4, none⟩ = some (.int .i64 0) := (blk_cell HK4.out 4).trans rfl
    have hp5 : wr.cell? ⟨w.heap.size + 1 + 1, 5, none⟩ = some (.int .i64 Y2) := (blk_cell HK5.out 5).trans rfl
    have hq5 : wr.cell? ⟨w.heap.size + 1, 5, none⟩ = some (.int .i64 0) := (blk_cell HK4.out 5).trans rfl
    have hp6 : wr.cell? ⟨w.heap.size + 1 + 1, 6, none⟩ = some (.int .i64 X3) := (blk_cell HK5.out 6).trans rfl
    have hq6 : wr.cell? ⟨w.heap.size + 1, 6, none⟩ = some (.int .i64 0) := (blk_cell HK4.out 6).trans rfl
    have hp7 : wr.cell? ⟨w.heap.size + 1 + 1, 7, none⟩ = some (.int .i64 Y3) := (blk_cell HK5.out 7).trans rfl
    have hq7 : wr.cell? ⟨w.heap.size + 1, 7, none⟩ = some (.int .i64 0) := (blk_cell HK4.out 7).trans rfl
    have hf4 : ∀ j, wr.frozen? ⟨w.heap.size + 1, j, none⟩ = false := fun j => blk_frozen HK4.out j
    go_wp2
    refine bodyPost_ret (v := .agg #[.int .i64 X0, .int .i64 Y0, .int .i64 X1, .int .i64 Y1, .int .i64 X2, .int .i64 Y2, .int .i64 X3, .int .i64 Y3]) (by simp [results, Tryd.results17, go_sem, *]) rfl ⟨rfl, ?_⟩
    repeat (first | (with_reducible exact HB.out) | refine below_set ?_ (by omega))
theorem lit4 (W : World) (base : Nat) (hb : base ≤ W.heap.size) (X0 Y0 X1 Y1 X2 Y2 X3 Y3 : Int) :
    Kd.R k37 46 (W.alloc (.cells #[.int .i64 X0, .int .i64 Y0, .int .i64 X1, .int .i64 Y1, .int .i64 X2, .int .i64 Y2, .int .i64 X3, .int .i64 Y3] 46)) base (fun _ => True) (.slice (some ⟨W.heap.size, 0, none⟩) 4 4) [⟨X0, Y0⟩, ⟨X1, Y1⟩, ⟨X2, Y2⟩, ⟨X3, Y3⟩] := by
  have hr : ∀ (W' : World) (ok : Nat → Prop), Reps (k37.M W' base ok) k37.sz ([⟨X0, Y0⟩, ⟨X1, Y1⟩, ⟨X2, Y2⟩, ⟨X3, Y3⟩] : List S37) [.int .i64 X0, .int .i64 Y0, .int .i64 X1, .int .i64 Y1, .int .i64 X2, .int .i64 Y2, .int .i64 X3, .int .i64 Y3] := fun W' ok =>
    ((((Reps.none _ _).snoc (k37_mkM W' base ok (⟨X0, Y0⟩ : S37)) rfl).snoc (k37_mkM W' base ok (⟨X1, Y1⟩ : S37)) rfl).snoc (k37_mkM W' base ok (⟨X2, Y2⟩ : S37)) rfl).snoc (k37_mkM W' base ok (⟨X3, Y3⟩ : S37)) rfl
  refine ⟨fun _ _ => trivial, [.int .i64 X0, .int .i64 Y0, .int .i64 X1, .int .i64 Y1, .int .i64 X2, .int .i64 Y2, .int .i64 X3, .int .i64 Y3], ?_, hr _ _⟩
  have h := World.ownsRow_lit (base := base) (e := 46) (size := k37.sz) W #[.int .i64 X0, .int .i64 Y0, .int .i64 X1, .int .i64 Y1, .int .i64 X2, .int .i64 Y2, .int .i64 X3, .int .i64 Y3] 4 hb (by decide) rfl
  exact h
def corners4 (k : Nat) (l : List S45) (x : S45) : Option (List S37) :=
  (cornerF k l x x.f3 x.f4).bind fun c0 => (cornerF k l x (wrap64 (x.f3 + x.f5)) x.f4).bind fun c1 => (cornerF k l x (wrap64 (x.f3 + x.f5)) (wrap64 (x.f4 + x.f6))).bind fun c2 => (cornerF k l x x.f3 (wrap64 (x.f4 + x.f6))).bind fun c3 => some [⟨c0.1, c0.2⟩, ⟨c1.1, c1.2⟩, ⟨c2.1, c2.2⟩, ⟨c3.1, c3.2⟩]
def shape_Corners.f (k : Nat) (l : List S45) (item : Int) : Option (List S37 × Int) :=
  (shape_Check.f k l).bind fun e => if e = 0 then ((shape_find.f l item).bind fun i => if i < 0 then some ([], 7) else if i < l.length then (corners4 k l (rd_T45 l i)).bind fun c => some (c, 0) else none) else some ([], e)
theorem shape_Corners.mono (l : List S45) (item : Int) (k : Nat) : LeO (shape_Corners.f k l item) (shape_Corners.f (k + 1) l item) := by
  unfold shape_Corners.f
  refine LeO.bind (shape_Check.mono l k) fun e => LeO.ite (LeO.bind (LeO.refl _) fun i => LeO.ite (LeO.refl _) (LeO.ite (LeO.bind ?_ fun _ => LeO.refl _) (LeO.refl _))) (LeO.refl _)
  unfold corners4
  exact LeO.bind (cornerF.mono _ _ _ _ k) fun _ => LeO.bind (cornerF.mono _ _ _ _ k) fun _ => LeO.bind (cornerF.mono _ _ _ _ k) fun _ => LeO.bind (cornerF.mono _ _ _ _ k) fun _ => LeO.refl _
set_option maxHeartbeats 8000000 in
set_option maxRecDepth 100000 in
theorem shape_Corners.calls (k : Nat) (A0 : Option Addr) (c0 : Nat) (l0 : List S45) (a1 : Int) (r1 : List S37) (r2 : Int) (w : World) (hr0 : Kd.C k45 w A0 l0.length l0) (hc0 : l0.length ≤ c0) (h : shape_Corners.f k l0 a1 = some (r1, r2)) (hL : LaidW w) :
    Calls Tryd.prog 7 #[.slice A0 l0.length c0, .int .i64 a1] w fun e w' => ∃ v0_ : Value, e = .returned (.tuple #[v0_, .int .i64 r2]) ∧ Kd.R k37 46 w' w.heap.size (fun _ => True) v0_ r1 ∧ Below w.heap.size w w' := by
  have hu45 := Tryd.underlying45
  have hu46 := Tryd.underlying46
  have HR := Aside0.mk hr0
  have HC := Aside0.mk hc0
  have HL := Aside0.mk hL
  have HB := Aside0.mk (Below.refl w.heap.size w)
  unfold shape_Corners.f at h
  obtain ⟨e, he, h⟩ := Option.bind_eq_some_iff.1 h
  have HE := Aside0.mk he
  clear hr0 hc0 hL he
  by_cases e0 : e = 0
  · subst e0
    rw [if_pos rfl] at h
    obtain ⟨i, hi, h⟩ := Option.bind_eq_some_iff.1 h
    have HI := Aside0.mk hi
    clear hi
    by_cases i0 : i < 0
    · rw [if_pos i0] at h
      simp only [Option.some.injEq, Prod.mk.injEq] at h
      obtain ⟨rfl, rfl⟩ := h
      have i0b : decide (i < 0) = true := decide_eq_true i0
      clear i0
      go_enter Tryd.func7, Tryd.ntmps7
      go_wp2_with (first | (go_at_call 10; (with_reducible refine (shape_Check.calls k A0 c0 l0 _ _ (Kd.C_below HR.out HB.out) HC.out HE.out).mono ?_); rintro e w2 ⟨rfl, hb⟩; have hB2 := below_step HB.out hb; clear hb HB; have HB := Aside0.mk hB2; clear hB2) | (go_at_call 16; (with_reducible refine (shape_find.calls A0 c0 l0 a1 i _ (Kd.C_below HR.out HB.out) HC.out HI.out).mono ?_); rintro e w3 ⟨rfl, hb⟩; have hB2 := below_step HB.out hb; clear hb HB; have HB := Aside0.mk hB2; clear hB2))
      go_ret2
      exact ⟨_, rfl, Kd.R_nil _ _ _ _ _, HB.out⟩
    · rw [if_neg i0] at h
      by_cases i1 : i < (l0.length : Int)
      · rw [if_pos i1] at h
        obtain ⟨c, hc, h⟩ := Option.bind_eq_some_iff.1 h
        simp only [Option.some.injEq, Prod.mk.injEq] at h
        obtain ⟨rfl, rfl⟩ := h
        obtain ⟨ad, e, hx0, hx1, hx2, hx3, hx4, hx5, hx6, hx7, hx8, hx9, hx10, hx11⟩ := at_T45 HR.out i (by omega) i1
        cases e
        generalize hx : rd_T45 l0 i = x at hc hx0 hx1 hx2 hx3 hx4 hx5 hx6 hx7 hx8 hx9 hx10 hx11
        clear hx
        unfold corners4 at hc
        obtain ⟨⟨X0, Y0⟩, hc0, hc⟩ := Option.bind_eq_some_iff.1 hc
        obtain ⟨⟨X1, Y1⟩, hc1, hc⟩ := Option.bind_eq_some_iff.1 hc
        obtain ⟨⟨X2, Y2⟩, hc2, hc⟩ := Option.bind_eq_some_iff.1 hc
        obtain ⟨⟨X3, Y3⟩, hc3, hc⟩ := Option.bind_eq_some_iff.1 hc
        obtain rfl := Option.some.inj hc
        have HX := Aside0.mk (And.intro hx0 (And.intro hx1 (And.intro hx2 (And.intro hx3 (And.intro hx4 (And.intro hx5 (And.intro hx6 (And.intro hx7 (And.intro hx8 (And.intro hx9 (And.intro hx10 hx11)))))))))))
        have H0 := Aside0.mk hc0
        have H1 := Aside0.mk hc1
        have H2 := Aside0.mk hc2
        have H3 := Aside0.mk hc3
        clear hc hc0 hc1 hc2 hc3 hx0 hx1 hx2 hx3 hx4 hx5 hx6 hx7 hx8 hx9 hx10 hx11
        have i0b : decide (i < 0) = false := decide_eq_false i0
        have i2 : 0 ≤ i := by omega
        clear i0
        go_enter Tryd.func7, Tryd.ntmps7
        go_wp2_with (first | (go_at_call 10; (with_reducible refine (shape_Check.calls k (some ad) c0 l0 _ _ (Kd.C_below HR.out HB.out) HC.out HE.out).mono ?_); rintro e w2 ⟨rfl, hb⟩; have hB2 := below_step HB.out hb; clear hb HB; have HB := Aside0.mk hB2; clear hB2) | (go_at_call 16; (with_reducible refine (shape_find.calls (some ad) c0 l0 a1 i _ (Kd.C_below HR.out HB.out) HC.out HI.out).mono ?_); rintro e w3 ⟨rfl, hb⟩; have hB2 := below_step HB.out hb; clear hb HB; have HB := Aside0.mk hB2; clear hB2; obtain ⟨hx0, hx1, hx2, hx3, hx4, hx5, hx6, hx7, hx8, hx9, hx10, hx11⟩ := HX.out; replace hx0 := (HB.out.cell (World.block_lt_of_cell? w _ hx0)).trans hx0; replace hx1 := (HB.out.cell (World.block_lt_of_cell? w _ hx1)).trans hx1; replace hx2 := (HB.out.cell (World.block_lt_of_cell? w _ hx2)).trans hx2; replace hx3 := (HB.out.cell (World.block_lt_of_cell? w _ hx3)).trans hx3; replace hx4 := (HB.out.cell (World.block_lt_of_cell? w _ hx4)).trans hx4; replace hx5 := (HB.out.cell (World.block_lt_of_cell? w _ hx5)).trans hx5; replace hx6 := (HB.out.cell (World.block_lt_of_cell? w _ hx6)).trans hx6; replace hx7 := (HB.out.cell (World.block_lt_of_cell? w _ hx7)).trans hx7; replace hx8 := (HB.out.cell (World.block_lt_of_cell? w _ hx8)).trans hx8; replace hx9 := (HB.out.cell (World.block_lt_of_cell? w _ hx9)).trans hx9; replace hx10 := (HB.out.cell (World.block_lt_of_cell? w _ hx10)).trans hx10; replace hx11 := (HB.out.cell (World.block_lt_of_cell? w _ hx11)).trans hx11) | (go_at_call 17; (with_reducible refine (corners_ok k (some ad) c0 l0 x _ (Kd.C_below HR.out HB.out) HC.out (LaidW.now HL.out HB.out) X0 Y0 X1 Y1 X2 Y2 X3 Y3 H0.out H1.out H2.out H3.out).mono ?_); rintro e w4 ⟨rfl, hb⟩; have hB2 := below_step HB.out hb; clear hb HB hx0 hx1 hx2 hx3 hx4 hx5 hx6 hx7 hx8 hx9 hx10 hx11; have HB := Aside0.mk hB2; clear hB2))
        go_ret2
        exact ⟨_, rfl, lit4 _ _ (below_size HB.out) _ _ _ _ _ _ _ _, below_alloc HB.out _⟩
      · rw [if_neg i1] at h; cases h
  · rw [if_neg e0] at h
    simp only [Option.some.injEq, Prod.mk.injEq] at h
    obtain ⟨rfl, rfl⟩ := h
    have e0b : (e != 0) = true := bne_iff_ne.2 e0
    clear e0
    go_enter Tryd.func7, Tryd.ntmps7
    go_wp2_with (go_at_call 10; (with_reducible refine (shape_Check.calls k A0 c0 l0 e _ (Kd.C_below HR.out HB.out) HC.out HE.out).mono ?_); rintro e w2 ⟨rfl, hb⟩; have hB2 := below_step HB.out hb; clear hb HB; have HB := Aside0.mk hB2; clear hB2)
    go_ret2
    exact ⟨_, rfl, Kd.R_nil _ _ _ _ _, HB.out⟩
end Go.Proofs.YtmheeekbbhkmkaaDoor.HandSH
