-- WRITTEN BY wip/print2.py, a program of this session, over contracts of this session's own; no print of print.sh
import Derived.Test.YtihmbddneapooaaDoorQBCx0
import Derived.Test.YtihmbddneapooaaDoorQBCx1
namespace Go.Proofs.YtihmbddneapooaaDoor.QBC
open Go.RowKit Go.Proofs.YtihmbddneapooaaDoor.HandBC Go.Proofs.YtihmbddneapooaaDoorW.PrintWords Go.Proofs.YtihmbddneapooaaDoorW.PrintLast Go.Proofs.YtihmbddneapooaaDoorW.PrintMore
attribute [local go_sem] max2_int min2_int max_two min_two max_three min_three max_four min_four   -- for this text's walks alone
set_option linter.unusedVariables false
set_option linter.unusedSimpArgs false

/-! ### chanceryref3_Direction: function 15 -/
mutual
def chanceryref3_Direction.l0 : Nat → Int → List (S51) → Int → Int → Option (Int)
  | 0, _, _, _, _ => none
  | k + 1, x0, x24, x25, x26 => if x26 < x25 then (if 0 ≤ x26 then (if x26 < (x24.length : Int) then ((chanceryref3_In.f x0 ((rd_T51 x24 x26).f0) ((rd_T51 x24 x26).f1)).bind fun t115 => (if t115 = true then (some ((rd_T51 x24 x26).f2)) else (chanceryref3_Direction.l0 k x0 x24 x25 (wrap64 (x26 + 1))))) else (none)) else (none)) else (if x0 = 170 then (chanceryref3_Direction.j1 k x0 (x0 == 170)) else (if x0 = 181 then (chanceryref3_Direction.j1 k x0 (x0 == 181)) else (chanceryref3_Direction.j1 k x0 (x0 == 186))))
def chanceryref3_Direction.j1 : Nat → Int → Bool → Option (Int)
  | 0, _, _ => none
  | k + 1, x0, x39 => if x39 = true then (some 0) else ((chanceryref3_In.f x0 161 191).bind fun t116 => (if t116 = true then (chanceryref3_Direction.j2 k x0 t116) else (if x0 = 215 then (chanceryref3_Direction.j2 k x0 (x0 == 215)) else (chanceryref3_Direction.j2 k x0 (x0 == 247)))))
def chanceryref3_Direction.j2 : Nat → Int → Bool → Option (Int)
  | 0, _, _ => none
  | k + 1, x0, x46 => if x46 = true then (some 13) else ((chanceryref3_In.f x0 768 879).bind fun t117 => (if t117 = true then (chanceryref3_Direction.j3 k x0 t117) else ((chanceryref3_In.f x0 1425 1469).bind fun t118 => (if t118 = true then (chanceryref3_Direction.j3 k x0 t118) else (if x0 = 1471 then (chanceryref3_Direction.j3 k x0 (x0 == 1471)) else (if x0 = 1473 then (chanceryref3_Direction.j3 k x0 (x0 == 1473)) else (if x0 = 1474 then (chanceryref3_Direction.j3 k x0 (x0 == 1474)) else ((chanceryref3_In.f x0 1552 1562).bind fun t119 => (if t119 = true then (chanceryref3_Direction.j3 k x0 t119) else ((chanceryref3_In.f x0 1611 1631).bind fun t120 => (if t120 = true then (chanceryref3_Direction.j3 k x0 t120) else ((chanceryref3_In.f x0 65024 65039).bind fun t121 => (chanceryref3_Direction.j3 k x0 t121)))))))))))))
def chanceryref3_Direction.j3 : Nat → Int → Bool → Option (Int)
  | 0, _, _ => none
  | k + 1, x0, x53 => if x53 = true then (some 8) else ((chanceryref3_In.f x0 1424 1535).bind fun t122 => (if t122 = true then (chanceryref3_Direction.j4 k x0 t122) else ((chanceryref3_In.f x0 1984 2143).bind fun t123 => (if t123 = true then (chanceryref3_Direction.j4 k x0 t123) else (if x0 = 8207 then (chanceryref3_Direction.j4 k x0 (x0 == 8207)) else ((chanceryref3_In.f x0 64285 64335).bind fun t124 => (chanceryref3_Direction.j4 k x0 t124)))))))
def chanceryref3_Direction.j4 : Nat → Int → Bool → Option (Int)
  | 0, _, _ => none
  | k + 1, x0, x70 => if x70 = true then (some 1) else ((chanceryref3_In.f x0 1632 1641).bind fun t125 => (if t125 = true then (chanceryref3_Direction.j5 k x0 t125) else (if x0 = 1643 then (chanceryref3_Direction.j5 k x0 (x0 == 1643)) else (chanceryref3_Direction.j5 k x0 (x0 == 1644)))))
def chanceryref3_Direction.j5 : Nat → Int → Bool → Option (Int)
  | 0, _, _ => none
  | k + 1, x0, x79 => if x79 = true then (some 6) else ((chanceryref3_In.f x0 1776 1785).bind fun t126 => (if t126 = true then (some 3) else ((chanceryref3_In.f x0 1536 1983).bind fun t127 => (if t127 = true then (chanceryref3_Direction.j6 k x0 t127) else ((chanceryref3_In.f x0 2144 2303).bind fun t128 => (if t128 = true then (chanceryref3_Direction.j6 k x0 t128) else ((chanceryref3_In.f x0 64336 65023).bind fun t129 => (if t129 = true then (chanceryref3_Direction.j6 k x0 t129) else ((chanceryref3_In.f x0 65136 65278).bind fun t130 => (chanceryref3_Direction.j6 k x0 t130))))))))))
def chanceryref3_Direction.j6 : Nat → Int → Bool → Option (Int)
  | 0, _, _ => none
  | k + 1, x0, x89 => if x89 = true then (some 2) else ((chanceryref3_In.f x0 8192 8202).bind fun t131 => (if t131 = true then (chanceryref3_Direction.j7 k x0 t131) else (chanceryref3_Direction.j7 k x0 (x0 == 12288))))
def chanceryref3_Direction.j7 : Nat → Int → Bool → Option (Int)
  | 0, _, _ => none
  | k + 1, x0, x98 => if x98 = true then (some 12) else ((chanceryref3_In.f x0 8203 8205).bind fun t132 => (if t132 = true then (chanceryref3_Direction.j8 k x0 t132) else ((chanceryref3_In.f x0 8288 8293).bind fun t133 => (if t133 = true then (chanceryref3_Direction.j8 k x0 t133) else (chanceryref3_Direction.j8 k x0 (x0 == 65279))))))
def chanceryref3_Direction.j8 : Nat → Int → Bool → Option (Int)
  | 0, _, _ => none
  | k + 1, x0, x103 => if x103 = true then (some 9) else (if x0 = 8234 then (some 14) else (if x0 = 8235 then (some 15) else (if x0 = 8236 then (some 18) else (if x0 = 8237 then (some 16) else (if x0 = 8238 then (some 17) else (if x0 = 8239 then (some 7) else (if x0 = 8294 then (some 19) else (if x0 = 8295 then (some 20) else (if x0 = 8296 then (some 21) else (if x0 = 8297 then (some 22) else ((chanceryref3_In.f x0 8352 8399).bind fun t134 => (if t134 = true then (some 5) else ((chanceryref3_In.f x0 8208 8287).bind fun t135 => (if t135 = true then (some 13) else ((chanceryref3_In.f x0 8592 11263).bind fun t136 => (if t136 = true then (some 13) else ((chanceryref3_In.f x0 12289 12292).bind fun t137 => (if t137 = true then (some 13) else ((chanceryref3_In.f x0 12296 12320).bind fun t138 => (if t138 = true then (some 13) else ((chanceryref3_In.f x0 65529 65533).bind fun t139 => (if t139 = true then (some 13) else (some 0)))))))))))))))))))))))
end
def chanceryref3_Direction.f (k : Nat) (a0 : Int) : Option (Int) := (some (([(⟨9, 9, 11⟩ : S51), (⟨10, 10, 10⟩ : S51), (⟨0, 31, 9⟩ : S51), (⟨32, 32, 12⟩ : S51), (⟨35, 37, 5⟩ : S51), (⟨43, 43, 4⟩ : S51), (⟨45, 45, 4⟩ : S51), (⟨44, 44, 7⟩ : S51), (⟨46, 47, 7⟩ : S51), (⟨58, 58, 7⟩ : S51), (⟨48, 57, 3⟩ : S51), (⟨33, 64, 13⟩ : S51), (⟨91, 96, 13⟩ : S51), (⟨123, 126, 13⟩ : S51), (⟨127, 159, 9⟩ : S51), (⟨160, 160, 7⟩ : S51), (⟨162, 165, 5⟩ : S51), (⟨173, 173, 9⟩ : S51), (⟨176, 177, 5⟩ : S51)] : List (S51)) : List (S51))).bind fun y110 => (chanceryref3_Direction.l0 k a0 y110 (y110.length : Int) 0)
theorem chanceryref3_Direction.mono_l : ∀ k, (∀ y0 y1 y2 y3, LeO (chanceryref3_Direction.l0 k y0 y1 y2 y3) (chanceryref3_Direction.l0 (k + 1) y0 y1 y2 y3)) ∧ (∀ y0 y1, LeO (chanceryref3_Direction.j1 k y0 y1) (chanceryref3_Direction.j1 (k + 1) y0 y1)) ∧ (∀ y0 y1, LeO (chanceryref3_Direction.j2 k y0 y1) (chanceryref3_Direction.j2 (k + 1) y0 y1)) ∧ (∀ y0 y1, LeO (chanceryref3_Direction.j3 k y0 y1) (chanceryref3_Direction.j3 (k + 1) y0 y1)) ∧ (∀ y0 y1, LeO (chanceryref3_Direction.j4 k y0 y1) (chanceryref3_Direction.j4 (k + 1) y0 y1)) ∧ (∀ y0 y1, LeO (chanceryref3_Direction.j5 k y0 y1) (chanceryref3_Direction.j5 (k + 1) y0 y1)) ∧ (∀ y0 y1, LeO (chanceryref3_Direction.j6 k y0 y1) (chanceryref3_Direction.j6 (k + 1) y0 y1)) ∧ (∀ y0 y1, LeO (chanceryref3_Direction.j7 k y0 y1) (chanceryref3_Direction.j7 (k + 1) y0 y1)) ∧ (∀ y0 y1, LeO (chanceryref3_Direction.j8 k y0 y1) (chanceryref3_Direction.j8 (k + 1) y0 y1))
  | 0 => ⟨fun _ _ _ _ r h => by simp [chanceryref3_Direction.l0] at h, fun _ _ r h => by simp [chanceryref3_Direction.j1] at h, fun _ _ r h => by simp [chanceryref3_Direction.j2] at h, fun _ _ r h => by simp [chanceryref3_Direction.j3] at h, fun _ _ r h => by simp [chanceryref3_Direction.j4] at h, fun _ _ r h => by simp [chanceryref3_Direction.j5] at h, fun _ _ r h => by simp [chanceryref3_Direction.j6] at h, fun _ _ r h => by simp [chanceryref3_Direction.j7] at h, fun _ _ r h => by simp [chanceryref3_Direction.j8] at h⟩
  | k + 1 => by
    obtain ⟨ih0, ih1, ih2, ih3, ih4, ih5, ih6, ih7, ih8⟩ := chanceryref3_Direction.mono_l k
    refine ⟨?_, ?_, ?_, ?_, ?_, ?_, ?_, ?_, ?_⟩
    · intro y0 y1 y2 y3
      unfold chanceryref3_Direction.l0
      repeat' first
      | (with_reducible exact ih0 _ _ _ _)
      | (with_reducible exact ih1 _ _)
      | (with_reducible exact ih2 _ _)
      | (with_reducible exact ih3 _ _)
      | (with_reducible exact ih4 _ _)
      | (with_reducible exact ih5 _ _)
      | (with_reducible exact ih6 _ _)
      | (with_reducible exact ih7 _ _)
      | (with_reducible exact ih8 _ _)
      | (with_reducible exact LeO.refl _)
      | (with_reducible exact LeO.none _)
      | (with_reducible refine LeO.ite ?_ ?_)
      | (with_reducible refine LeO.bind ?_ (fun _ => ?_))
      | exact ih0 _ _ _ _
      | exact ih1 _ _
      | exact ih2 _ _
      | exact ih3 _ _
      | exact ih4 _ _
      | exact ih5 _ _
      | exact ih6 _ _
      | exact ih7 _ _
      | exact ih8 _ _
      | exact LeO.none _
      | refine LeO.ite ?_ ?_
      | refine LeO.bind ?_ (fun _ => ?_)
    · intro y0 y1
      unfold chanceryref3_Direction.j1
      repeat' first
      | (with_reducible exact ih0 _ _ _ _)
      | (with_reducible exact ih1 _ _)
      | (with_reducible exact ih2 _ _)
      | (with_reducible exact ih3 _ _)
      | (with_reducible exact ih4 _ _)
      | (with_reducible exact ih5 _ _)
      | (with_reducible exact ih6 _ _)
      | (with_reducible exact ih7 _ _)
      | (with_reducible exact ih8 _ _)
      | (with_reducible exact LeO.refl _)
      | (with_reducible exact LeO.none _)
      | (with_reducible refine LeO.ite ?_ ?_)
      | (with_reducible refine LeO.bind ?_ (fun _ => ?_))
      | exact ih0 _ _ _ _
      | exact ih1 _ _
      | exact ih2 _ _
      | exact ih3 _ _
      | exact ih4 _ _
      | exact ih5 _ _
      | exact ih6 _ _
      | exact ih7 _ _
      | exact ih8 _ _
      | exact LeO.none _
      | refine LeO.ite ?_ ?_
      | refine LeO.bind ?_ (fun _ => ?_)
    · intro y0 y1
      unfold chanceryref3_Direction.j2
      repeat' first
      | (with_reducible exact ih0 _ _ _ _)
      | (with_reducible exact ih1 _ _)
      | (with_reducible exact ih2 _ _)
      | (with_reducible exact ih3 _ _)
      | (with_reducible exact ih4 _ _)
      | (with_reducible exact ih5 _ _)
      | (with_reducible exact ih6 _ _)
      | (with_reducible exact ih7 _ _)
      | (with_reducible exact ih8 _ _)
      | (with_reducible exact LeO.refl _)
      | (with_reducible exact LeO.none _)
      | (with_reducible refine LeO.ite ?_ ?_)
      | (with_reducible refine LeO.bind ?_ (fun _ => ?_))
      | exact ih0 _ _ _ _
      | exact ih1 _ _
      | exact ih2 _ _
      | exact ih3 _ _
      | exact ih4 _ _
      | exact ih5 _ _
      | exact ih6 _ _
      | exact ih7 _ _
      | exact ih8 _ _
      | exact LeO.none _
      | refine LeO.ite ?_ ?_
      | refine LeO.bind ?_ (fun _ => ?_)
    · intro y0 y1
      unfold chanceryref3_Direction.j3
      repeat' first
      | (with_reducible exact ih0 _ _ _ _)
      | (with_reducible exact ih1 _ _)
      | (with_reducible exact ih2 _ _)
      | (with_reducible exact ih3 _ _)
      | (with_reducible exact ih4 _ _)
      | (with_reducible exact ih5 _ _)
      | (with_reducible exact ih6 _ _)
      | (with_reducible exact ih7 _ _)
      | (with_reducible exact ih8 _ _)
      | (with_reducible exact LeO.refl _)
      | (with_reducible exact LeO.none _)
      | (with_reducible refine LeO.ite ?_ ?_)
      | (with_reducible refine LeO.bind ?_ (fun _ => ?_))
      | exact ih0 _ _ _ _
      | exact ih1 _ _
      | exact ih2 _ _
      | exact ih3 _ _
      | exact ih4 _ _
      | exact ih5 _ _
      | exact ih6 _ _
      | exact ih7 _ _
      | exact ih8 _ _
      | exact LeO.none _
      | refine LeO.ite ?_ ?_
      | refine LeO.bind ?_ (fun _ => ?_)
    · intro y0 y1
      unfold chanceryref3_Direction.j4
      repeat' first
      | (with_reducible exact ih0 _ _ _ _)
      | (with_reducible exact ih1 _ _)
      | (with_reducible exact ih2 _ _)
      | (with_reducible exact ih3 _ _)
      | (with_reducible exact ih4 _ _)
      | (with_reducible exact ih5 _ _)
      | (with_reducible exact ih6 _ _)
      | (with_reducible exact ih7 _ _)
      | (with_reducible exact ih8 _ _)
      | (with_reducible exact LeO.refl _)
      | (with_reducible exact LeO.none _)
      | (with_reducible refine LeO.ite ?_ ?_)
      | (with_reducible refine LeO.bind ?_ (fun _ => ?_))
      | exact ih0 _ _ _ _
      | exact ih1 _ _
      | exact ih2 _ _
      | exact ih3 _ _
      | exact ih4 _ _
      | exact ih5 _ _
      | exact ih6 _ _
      | exact ih7 _ _
      | exact ih8 _ _
      | exact LeO.none _
      | refine LeO.ite ?_ ?_
      | refine LeO.bind ?_ (fun _ => ?_)
    · intro y0 y1
      unfold chanceryref3_Direction.j5
      repeat' first
      | (with_reducible exact ih0 _ _ _ _)
      | (with_reducible exact ih1 _ _)
      | (with_reducible exact ih2 _ _)
      | (with_reducible exact ih3 _ _)
      | (with_reducible exact ih4 _ _)
      | (with_reducible exact ih5 _ _)
      | (with_reducible exact ih6 _ _)
      | (with_reducible exact ih7 _ _)
      | (with_reducible exact ih8 _ _)
      | (with_reducible exact LeO.refl _)
      | (with_reducible exact LeO.none _)
      | (with_reducible refine LeO.ite ?_ ?_)
      | (with_reducible refine LeO.bind ?_ (fun _ => ?_))
      | exact ih0 _ _ _ _
      | exact ih1 _ _
      | exact ih2 _ _
      | exact ih3 _ _
      | exact ih4 _ _
      | exact ih5 _ _
      | exact ih6 _ _
      | exact ih7 _ _
      | exact ih8 _ _
      | exact LeO.none _
      | refine LeO.ite ?_ ?_
      | refine LeO.bind ?_ (fun _ => ?_)
    · intro y0 y1
      unfold chanceryref3_Direction.j6
      repeat' first
      | (with_reducible exact ih0 _ _ _ _)
      | (with_reducible exact ih1 _ _)
      | (with_reducible exact ih2 _ _)
      | (with_reducible exact ih3 _ _)
      | (with_reducible exact ih4 _ _)
      | (with_reducible exact ih5 _ _)
      | (with_reducible exact ih6 _ _)
      | (with_reducible exact ih7 _ _)
      | (with_reducible exact ih8 _ _)
      | (with_reducible exact LeO.refl _)
      | (with_reducible exact LeO.none _)
      | (with_reducible refine LeO.ite ?_ ?_)
      | (with_reducible refine LeO.bind ?_ (fun _ => ?_))
      | exact ih0 _ _ _ _
      | exact ih1 _ _
      | exact ih2 _ _
      | exact ih3 _ _
      | exact ih4 _ _
      | exact ih5 _ _
      | exact ih6 _ _
      | exact ih7 _ _
      | exact ih8 _ _
      | exact LeO.none _
      | refine LeO.ite ?_ ?_
      | refine LeO.bind ?_ (fun _ => ?_)
    · intro y0 y1
      unfold chanceryref3_Direction.j7
      repeat' first
      | (with_reducible exact ih0 _ _ _ _)
      | (with_reducible exact ih1 _ _)
      | (with_reducible exact ih2 _ _)
      | (with_reducible exact ih3 _ _)
      | (with_reducible exact ih4 _ _)
      | (with_reducible exact ih5 _ _)
      | (with_reducible exact ih6 _ _)
      | (with_reducible exact ih7 _ _)
      | (with_reducible exact ih8 _ _)
      | (with_reducible exact LeO.refl _)
      | (with_reducible exact LeO.none _)
      | (with_reducible refine LeO.ite ?_ ?_)
      | (with_reducible refine LeO.bind ?_ (fun _ => ?_))
      | exact ih0 _ _ _ _
      | exact ih1 _ _
      | exact ih2 _ _
      | exact ih3 _ _
      | exact ih4 _ _
      | exact ih5 _ _
      | exact ih6 _ _
      | exact ih7 _ _
      | exact ih8 _ _
      | exact LeO.none _
      | refine LeO.ite ?_ ?_
      | refine LeO.bind ?_ (fun _ => ?_)
    · intro y0 y1
      unfold chanceryref3_Direction.j8
      repeat' first
      | (with_reducible exact ih0 _ _ _ _)
      | (with_reducible exact ih1 _ _)
      | (with_reducible exact ih2 _ _)
      | (with_reducible exact ih3 _ _)
      | (with_reducible exact ih4 _ _)
      | (with_reducible exact ih5 _ _)
      | (with_reducible exact ih6 _ _)
      | (with_reducible exact ih7 _ _)
      | (with_reducible exact ih8 _ _)
      | (with_reducible exact LeO.refl _)
      | (with_reducible exact LeO.none _)
      | (with_reducible refine LeO.ite ?_ ?_)
      | (with_reducible refine LeO.bind ?_ (fun _ => ?_))
      | exact ih0 _ _ _ _
      | exact ih1 _ _
      | exact ih2 _ _
      | exact ih3 _ _
      | exact ih4 _ _
      | exact ih5 _ _
      | exact ih6 _ _
      | exact ih7 _ _
      | exact ih8 _ _
      | exact LeO.none _
      | refine LeO.ite ?_ ?_
      | refine LeO.bind ?_ (fun _ => ?_)
theorem chanceryref3_Direction.mono : ∀ a0 k, LeO (chanceryref3_Direction.f k a0) (chanceryref3_Direction.f (k + 1) a0) := by
  intro a0 k
  obtain ⟨ih0, ih1, ih2, ih3, ih4, ih5, ih6, ih7, ih8⟩ := chanceryref3_Direction.mono_l k
  unfold chanceryref3_Direction.f
  repeat' first
      | (with_reducible exact ih0 _ _ _ _)
      | (with_reducible exact ih1 _ _)
      | (with_reducible exact ih2 _ _)
      | (with_reducible exact ih3 _ _)
      | (with_reducible exact ih4 _ _)
      | (with_reducible exact ih5 _ _)
      | (with_reducible exact ih6 _ _)
      | (with_reducible exact ih7 _ _)
      | (with_reducible exact ih8 _ _)
      | (with_reducible exact LeO.refl _)
      | (with_reducible exact LeO.none _)
      | (with_reducible refine LeO.ite ?_ ?_)
      | (with_reducible refine LeO.bind ?_ (fun _ => ?_))
      | exact ih0 _ _ _ _
      | exact ih1 _ _
      | exact ih2 _ _
      | exact ih3 _ _
      | exact ih4 _ _
      | exact ih5 _ _
      | exact ih6 _ _
      | exact ih7 _ _
      | exact ih8 _ _
      | exact LeO.none _
      | refine LeO.ite ?_ ?_
      | refine LeO.bind ?_ (fun _ => ?_)
set_option maxHeartbeats 8000000 in
set_option maxRecDepth 100000 in
theorem chanceryref3_Direction.calls (k : Nat) (a0 : Int) (r : Int) (w : World) (h : chanceryref3_Direction.f k a0 = some r) :
    Calls Tryd.prog 15 #[.int .i64 a0] w fun e w' => e = .returned (.int .i64 r) ∧ Below w.heap.size w w' := by
  have hu51 := Tryd.underlying51
  have HB := Aside0.mk (Below.refl w.heap.size w)
  have H : ((some (([(⟨9, 9, 11⟩ : S51), (⟨10, 10, 10⟩ : S51), (⟨0, 31, 9⟩ : S51), (⟨32, 32, 12⟩ : S51), (⟨35, 37, 5⟩ : S51), (⟨43, 43, 4⟩ : S51), (⟨45, 45, 4⟩ : S51), (⟨44, 44, 7⟩ : S51), (⟨46, 47, 7⟩ : S51), (⟨58, 58, 7⟩ : S51), (⟨48, 57, 3⟩ : S51), (⟨33, 64, 13⟩ : S51), (⟨91, 96, 13⟩ : S51), (⟨123, 126, 13⟩ : S51), (⟨127, 159, 9⟩ : S51), (⟨160, 160, 7⟩ : S51), (⟨162, 165, 5⟩ : S51), (⟨173, 173, 9⟩ : S51), (⟨176, 177, 5⟩ : S51)] : List (S51)) : List (S51))).bind fun y110 => (chanceryref3_Direction.l0 k a0 y110 (y110.length : Int) 0)) = some r := h
  clear h
  obtain ⟨y110, hy110⟩ : ∃ y_ : List (S51), y_ = (([(⟨9, 9, 11⟩ : S51), (⟨10, 10, 10⟩ : S51), (⟨0, 31, 9⟩ : S51), (⟨32, 32, 12⟩ : S51), (⟨35, 37, 5⟩ : S51), (⟨43, 43, 4⟩ : S51), (⟨45, 45, 4⟩ : S51), (⟨44, 44, 7⟩ : S51), (⟨46, 47, 7⟩ : S51), (⟨58, 58, 7⟩ : S51), (⟨48, 57, 3⟩ : S51), (⟨33, 64, 13⟩ : S51), (⟨91, 96, 13⟩ : S51), (⟨123, 126, 13⟩ : S51), (⟨127, 159, 9⟩ : S51), (⟨160, 160, 7⟩ : S51), (⟨162, 165, 5⟩ : S51), (⟨173, 173, 9⟩ : S51), (⟨176, 177, 5⟩ : S51)] : List (S51))) := ⟨_, rfl⟩
  replace H : (chanceryref3_Direction.l0 k a0 y110 (y110.length : Int) 0) = some r := by first | (rw [hy110]; with_reducible exact H) | (have H2_ := (Option.bind_some _ _).symm.trans H; rw [hy110]; with_reducible exact H2_) | (have H2_ := (Option.bind_some _ _).symm.trans H; with_reducible exact H2_) | with_reducible exact H | (rw [hy110]; exact H) | exact H
  have Ny110 := Aside0.mk hy110
  clear hy110
  have H' := Aside0.mk H
  clear H
  go_enter Tryd.func15, Tryd.ntmps15
  go_wp2_with (first | ((with_reducible refine gate_dst (N := 24) rfl ?_); refine Kd.R_lit k51 _ 51 ?hg (N := 24) ?hd (xs := ([(⟨9, 9, 11⟩ : S51), (⟨10, 10, 10⟩ : S51), (⟨0, 31, 9⟩ : S51), (⟨32, 32, 12⟩ : S51), (⟨35, 37, 5⟩ : S51), (⟨43, 43, 4⟩ : S51), (⟨45, 45, 4⟩ : S51), (⟨44, 44, 7⟩ : S51), (⟨46, 47, 7⟩ : S51), (⟨58, 58, 7⟩ : S51), (⟨48, 57, 3⟩ : S51), (⟨33, 64, 13⟩ : S51), (⟨91, 96, 13⟩ : S51), (⟨123, 126, 13⟩ : S51), (⟨127, 159, 9⟩ : S51), (⟨160, 160, 7⟩ : S51), (⟨162, 165, 5⟩ : S51), (⟨173, 173, 9⟩ : S51), (⟨176, 177, 5⟩ : S51)] : List (S51))) (inner := [.int .i64 9, .int .i64 9, .int .i64 11, .int .i64 10, .int .i64 10, .int .i64 10, .int .i64 0, .int .i64 31, .int .i64 9, .int .i64 32, .int .i64 32, .int .i64 12, .int .i64 35, .int .i64 37, .int .i64 5, .int .i64 43, .int .i64 43, .int .i64 4, .int .i64 45, .int .i64 45, .int .i64 4, .int .i64 44, .int .i64 44, .int .i64 7, .int .i64 46, .int .i64 47, .int .i64 7, .int .i64 58, .int .i64 58, .int .i64 7, .int .i64 48, .int .i64 57, .int .i64 3, .int .i64 33, .int .i64 64, .int .i64 13, .int .i64 91, .int .i64 96, .int .i64 13, .int .i64 123, .int .i64 126, .int .i64 13, .int .i64 127, .int .i64 159, .int .i64 9, .int .i64 160, .int .i64 160, .int .i64 7, .int .i64 162, .int .i64 165, .int .i64 5, .int .i64 173, .int .i64 173, .int .i64 9, .int .i64 176, .int .i64 177, .int .i64 5]) (ok := fun _ => True) (okp := fun _ => True) ?hr ?hp (fun _ hk => hk) trivial (Below.refl _ _) (Nat.le_refl _) (by simp) ?_; (case hd => rfl); (case hg => rfl); (case hr => first | (go_simp; done) | (go_simp; rfl)); (case hp => exact (Reps.c3 (show Kd.M k51 _ _ _ (⟨9, 9, 11⟩ : S51) [.int .i64 9, .int .i64 9, .int .i64 11] from (k51_mkM _ _ _ (⟨9, 9, 11⟩ : S51) )) (Reps.c3 (show Kd.M k51 _ _ _ (⟨10, 10, 10⟩ : S51) [.int .i64 10, .int .i64 10, .int .i64 10] from (k51_mkM _ _ _ (⟨10, 10, 10⟩ : S51) )) (Reps.c3 (show Kd.M k51 _ _ _ (⟨0, 31, 9⟩ : S51) [.int .i64 0, .int .i64 31, .int .i64 9] from (k51_mkM _ _ _ (⟨0, 31, 9⟩ : S51) )) (Reps.c3 (show Kd.M k51 _ _ _ (⟨32, 32, 12⟩ : S51) [.int .i64 32, .int .i64 32, .int .i64 12] from (k51_mkM _ _ _ (⟨32, 32, 12⟩ : S51) )) (Reps.c3 (show Kd.M k51 _ _ _ (⟨35, 37, 5⟩ : S51) [.int .i64 35, .int .i64 37, .int .i64 5] from (k51_mkM _ _ _ (⟨35, 37, 5⟩ : S51) )) (Reps.c3 (show Kd.M k51 _ _ _ (⟨43, 43, 4⟩ : S51) [.int .i64 43, .int .i64 43, .int .i64 4] from (k51_mkM _ _ _ (⟨43, 43, 4⟩ : S51) )) (Reps.c3 (show Kd.M k51 _ _ _ (⟨45, 45, 4⟩ : S51) [.int .i64 45, .int .i64 45, .int .i64 4] from (k51_mkM _ _ _ (⟨45, 45, 4⟩ : S51) )) (Reps.c3 (show Kd.M k51 _ _ _ (⟨44, 44, 7⟩ : S51) [.int .i64 44, .int .i64 44, .int .i64 7] from (k51_mkM _ _ _ (⟨44, 44, 7⟩ : S51) )) (Reps.c3 (show Kd.M k51 _ _ _ (⟨46, 47, 7⟩ : S51) [.int .i64 46, .int .i64 47, .int .i64 7] from (k51_mkM _ _ _ (⟨46, 47, 7⟩ : S51) )) (Reps.c3 (show Kd.M k51 _ _ _ (⟨58, 58, 7⟩ : S51) [.int .i64 58, .int .i64 58, .int .i64 7] from (k51_mkM _ _ _ (⟨58, 58, 7⟩ : S51) )) (Reps.c3 (show Kd.M k51 _ _ _ (⟨48, 57, 3⟩ : S51) [.int .i64 48, .int .i64 57, .int .i64 3] from (k51_mkM _ _ _ (⟨48, 57, 3⟩ : S51) )) (Reps.c3 (show Kd.M k51 _ _ _ (⟨33, 64, 13⟩ : S51) [.int .i64 33, .int .i64 64, .int .i64 13] from (k51_mkM _ _ _ (⟨33, 64, 13⟩ : S51) )) (Reps.c3 (show Kd.M k51 _ _ _ (⟨91, 96, 13⟩ : S51) [.int .i64 91, .int .i64 96, .int .i64 13] from (k51_mkM _ _ _ (⟨91, 96, 13⟩ : S51) )) (Reps.c3 (show Kd.M k51 _ _ _ (⟨123, 126, 13⟩ : S51) [.int .i64 123, .int .i64 126, .int .i64 13] from (k51_mkM _ _ _ (⟨123, 126, 13⟩ : S51) )) (Reps.c3 (show Kd.M k51 _ _ _ (⟨127, 159, 9⟩ : S51) [.int .i64 127, .int .i64 159, .int .i64 9] from (k51_mkM _ _ _ (⟨127, 159, 9⟩ : S51) )) (Reps.c3 (show Kd.M k51 _ _ _ (⟨160, 160, 7⟩ : S51) [.int .i64 160, .int .i64 160, .int .i64 7] from (k51_mkM _ _ _ (⟨160, 160, 7⟩ : S51) )) (Reps.c3 (show Kd.M k51 _ _ _ (⟨162, 165, 5⟩ : S51) [.int .i64 162, .int .i64 165, .int .i64 5] from (k51_mkM _ _ _ (⟨162, 165, 5⟩ : S51) )) (Reps.c3 (show Kd.M k51 _ _ _ (⟨173, 173, 9⟩ : S51) [.int .i64 173, .int .i64 173, .int .i64 9] from (k51_mkM _ _ _ (⟨173, 173, 9⟩ : S51) )) (Reps.c3 (show Kd.M k51 _ _ _ (⟨176, 177, 5⟩ : S51) [.int .i64 176, .int .i64 177, .int .i64 5] from (k51_mkM _ _ _ (⟨176, 177, 5⟩ : S51) )) (Reps.none _ _))))))))))))))))))))); intro v111 w2 ho3 hb hg_ hnew_; clear hg_ hnew_; (first | rw [← Ny110.out] at ho3 | (simp only [Int.reduceToNat] at ho3; rw [← Ny110.out] at ho3)); have n0_ := Aside0.mk (Kd.R_lower ho3 (below_size (by repeat (first | (with_reducible first | exact HB.out | apply below_alloc | apply pw_below_drewN | apply below_drew1) | exact HB.out)))); have n1_ := Aside0.mk (below_step (by repeat (first | (with_reducible first | exact HB.out | apply below_alloc | apply pw_below_drewN | apply below_drew1) | exact HB.out)) hb); clear HB; have HO112 := n0_; have HB := n1_; clear n0_ n1_; clear hb ho3; obtain ⟨Ao4, co4, eo4⟩ := Kd.R_slice HO112.out; subst eo4))
  go_loopg [26] k (fun kq v26 w' => ∃ (x26_1 : Int), v26 = .int .i64 x26_1 ∧ Aside0 (chanceryref3_Direction.l0 kq a0 y110 (y110.length : Int) x26_1 = some r) ∧ Aside0 (kq ≤ k) ∧ Aside0 (Kd.R k51 51 w' w.heap.size (fun _ => True) (.slice Ao4 y110.length co4) y110) ∧ Aside0 (Below w.heap.size w w'))
  case atStart => exact ⟨(0), (by first | rfl | (simp; done) | (simp [*]; done)), H', ⟨Nat.le_refl _⟩, ⟨by (with_reducible repeat (first | apply Kd.R_alloc | apply Kd.R_drewN | apply Kd.R_drew)); exact HO112.out⟩, ⟨by repeat (first | (with_reducible first | exact HB.out | apply below_alloc | apply pw_below_drewN | apply below_drew1) | exact HB.out)⟩⟩
  case round => as_aux_lemma =>
    clear H'
    try clear c1
    try clear p2
    try clear c3
    obtain ⟨x26_1, rfl, HA, HK1, HO_24, HB⟩ := hrel
    cases gk with
    | zero => exact absurd HA.out (by simp [chanceryref3_Direction.l0])
    | succ k1 =>
      have H := HA.out
      clear HA
      simp only [chanceryref3_Direction.l0] at H
      by_cases c5 : x26_1 < (y110.length : Int)
      · rw [if_pos c5] at H
        have c5b0 : decide (x26_1 < (y110.length : Int)) = true := decide_eq_true c5
        clear c5
        by_cases c6 : 0 ≤ x26_1
        · rw [if_pos c6] at H
          have c6b0 : decide (0 ≤ x26_1) = true := decide_eq_true c6
          clear c6
          by_cases c7 : x26_1 < (y110.length : Int)
          · rw [if_pos c7] at H
            have c7b0 : decide (x26_1 < (y110.length : Int)) = true := decide_eq_true c7
            clear c7
            replace H := Option.bind_eq_some_iff.mp H
            obtain ⟨t115, A80, H⟩ := H
            replace H : (if t115 = true then (some ((rd_T51 y110 x26_1).f2)) else (chanceryref3_Direction.l0 k1 a0 y110 (y110.length : Int) (wrap64 (x26_1 + 1)))) = some r := H
            have A8 := Aside0.mk A80
            clear A80
            by_cases c9 : t115 = true
            · subst c9
              have H1 : (some ((rd_T51 y110 x26_1).f2)) = some r := by rw [if_pos rfl] at H; exact H
              clear H
              have H := H1
              clear H1
              obtain rfl := Option.some.inj H
              have p113 : 0 ≤ (x26_1 : Int) := of_decide_eq_true (by first | (with_reducible assumption) | assumption)
              have q113 : x26_1 < (y110.length : Int) := of_decide_eq_true (by first | (with_reducible assumption) | assumption)
              obtain ⟨ad113, e113, hx113_0, hx113_1, hx113_2⟩ := at_T51 (Kd.R_reads' HO_24.out).2.2 x26_1 p113 q113
              cases e113
              replace p113 := eq_true p113
              replace q113 := eq_true q113
              go_wp2_with (first | ((with_reducible refine gate_dst (N := 4) rfl ?_); refine box_event ?hg (N := 4) ?hd (cs := #[.int .i64 0, .int .i64 0, .int .i64 0]) (t := 51) ?hr ?_; (case hd => rfl); (case hg => rfl); (case hr => first | (go_simp; done) | (go_simp; rfl)); intro gb114 hg w10 hbox hb; have n0_ := Aside0.mk (Kd.R_below (Kd.R_elderB (by (with_reducible repeat (first | apply Kd.R_alloc | apply Kd.R_drewN | apply Kd.R_drew)); exact HO_24.out) gb114 (Nat.le_of_eq hg.symm)) hb); have n1_ := Aside0.mk (below_step (by repeat (first | (with_reducible first | exact HB.out | apply below_alloc | apply pw_below_drewN | apply below_drew1) | exact HB.out)) hb); have n2_ := Aside0.mk (hbox); have n3_ := Aside0.mk ((by rw [hg]; exact (below_size (by repeat (first | (with_reducible first | exact HB.out | apply below_alloc | apply pw_below_drewN | apply below_drew1) | exact HB.out))) : w.heap.size ≤ gb114)); have n4_ := Aside0.mk ((by rw [hg]; exact (below_size (by repeat (first | (with_reducible first | exact HB.out | apply below_alloc | apply pw_below_drewN | apply below_drew1) | exact HB.out))) : w.heap.size ≤ gb114)); clear HO_24; clear HB; have HO_24 := n0_; have HB := n1_; have BK114 := n2_; have GW114 := n3_; have GE114 := n4_; clear n0_ n1_ n2_ n3_ n4_; clear hb hbox hg; have hcz11_0 : w10.cell? ⟨gb114, 0, none⟩ = some (.int .i64 0) := (blk_cell BK114.out 0).trans rfl; have hcz11_1 : w10.cell? ⟨gb114, 1, none⟩ = some (.int .i64 0) := (blk_cell BK114.out 1).trans rfl; have hcz11_2 : w10.cell? ⟨gb114, 2, none⟩ = some (.int .i64 0) := (blk_cell BK114.out 2).trans rfl; have hfz11_0 := blk_frozen BK114.out 0; have hfz11_1 := blk_frozen BK114.out 1; have hfz11_2 := blk_frozen BK114.out 2) | ((with_reducible refine gate_callee (f := 16) rfl ?_); refine goesL_ (some 35) rfl rfl Tryd.func16 (by kernel_rfl) rfl #[.int .i64 a0, .int .i64 ((rd_T51 y110 x26_1).f0), .int .i64 ((rd_T51 y110 x26_1).f1)] rfl (by (try simp only [List.map_toArray, List.map_cons, List.map_nil]); first | done | rfl | (simp only [List.length_drop, List.length_take]; rfl)) ?_; (with_reducible refine (chanceryref3_In.calls a0 ((rd_T51 y110 x26_1).f0) ((rd_T51 y110 x26_1).f1) true _ A8.out).mono ?_); rintro e w' ⟨rfl, ⟨nd, rfl⟩⟩; refine ⟨_, rfl, ?_⟩))
              go_ret
              exact ⟨by first | rfl | (simp [errW_none, errW_some] <;> rfl) | (simp [*, errW_none, errW_some] <;> rfl), by repeat (first | (with_reducible first | exact HB.out | apply below_alloc | apply pw_below_drewN | apply below_drew1 | refine below_set ?_ GE114.out) | exact HB.out)⟩
            · replace c9 := Bool.eq_false_iff.mpr c9
              subst c9
              have H1 : (chanceryref3_Direction.l0 k1 a0 y110 (y110.length : Int) (wrap64 (x26_1 + 1))) = some r := by rw [if_neg (show ¬ (false = true) by decide)] at H; exact H
              clear H
              have H := H1
              clear H1
              have H' := Aside0.mk H
              clear H
              have p113 : 0 ≤ (x26_1 : Int) := of_decide_eq_true (by first | (with_reducible assumption) | assumption)
              have q113 : x26_1 < (y110.length : Int) := of_decide_eq_true (by first | (with_reducible assumption) | assumption)
              obtain ⟨ad113, e113, hx113_0, hx113_1, hx113_2⟩ := at_T51 (Kd.R_reads' HO_24.out).2.2 x26_1 p113 q113
              cases e113
              replace p113 := eq_true p113
              replace q113 := eq_true q113
              go_wp2_with (first | ((with_reducible refine gate_dst (N := 4) rfl ?_); refine box_event ?hg (N := 4) ?hd (cs := #[.int .i64 0, .int .i64 0, .int .i64 0]) (t := 51) ?hr ?_; (case hd => rfl); (case hg => rfl); (case hr => first | (go_simp; done) | (go_simp; rfl)); intro gb114 hg w12 hbox hb; have n0_ := Aside0.mk (Kd.R_below (Kd.R_elderB (by (with_reducible repeat (first | apply Kd.R_alloc | apply Kd.R_drewN | apply Kd.R_drew)); exact HO_24.out) gb114 (Nat.le_of_eq hg.symm)) hb); have n1_ := Aside0.mk (below_step (by repeat (first | (with_reducible first | exact HB.out | apply below_alloc | apply pw_below_drewN | apply below_drew1) | exact HB.out)) hb); have n2_ := Aside0.mk (hbox); have n3_ := Aside0.mk ((by rw [hg]; exact (below_size (by repeat (first | (with_reducible first | exact HB.out | apply below_alloc | apply pw_below_drewN | apply below_drew1) | exact HB.out))) : w.heap.size ≤ gb114)); have n4_ := Aside0.mk ((by rw [hg]; exact (below_size (by repeat (first | (with_reducible first | exact HB.out | apply below_alloc | apply pw_below_drewN | apply below_drew1) | exact HB.out))) : w.heap.size ≤ gb114)); clear HO_24; clear HB; have HO_24 := n0_; have HB := n1_; have BK114 := n2_; have GW114 := n3_; have GE114 := n4_; clear n0_ n1_ n2_ n3_ n4_; clear hb hbox hg; have hcz13_0 : w12.cell? ⟨gb114, 0, none⟩ = some (.int .i64 0) := (blk_cell BK114.out 0).trans rfl; have hcz13_1 : w12.cell? ⟨gb114, 1, none⟩ = some (.int .i64 0) := (blk_cell BK114.out 1).trans rfl; have hcz13_2 : w12.cell? ⟨gb114, 2, none⟩ = some (.int .i64 0) := (blk_cell BK114.out 2).trans rfl; have hfz13_0 := blk_frozen BK114.out 0; have hfz13_1 := blk_frozen BK114.out 1; have hfz13_2 := blk_frozen BK114.out 2) | ((with_reducible refine gate_callee (f := 16) rfl ?_); refine goesL_ (some 35) rfl rfl Tryd.func16 (by kernel_rfl) rfl #[.int .i64 a0, .int .i64 ((rd_T51 y110 x26_1).f0), .int .i64 ((rd_T51 y110 x26_1).f1)] rfl (by (try simp only [List.map_toArray, List.map_cons, List.map_nil]); first | done | rfl | (simp only [List.length_drop, List.length_take]; rfl)) ?_; (with_reducible refine (chanceryref3_In.calls a0 ((rd_T51 y110 x26_1).f0) ((rd_T51 y110 x26_1).f1) false _ A8.out).mono ?_); rintro e w' ⟨rfl, ⟨nd, rfl⟩⟩; refine ⟨_, rfl, ?_⟩))
              go_roundg k1
              case measure => have := HK1.out; omega
              case rel => exact ⟨(wrap64 (x26_1 + 1)), (by first | rfl | (simp; done) | (simp [*]; done)), H', ⟨by have := HK1.out; omega⟩, ⟨by (with_reducible repeat (first | apply Kd.R_alloc | apply Kd.R_drewN | apply Kd.R_drew)); exact Kd.R_mono (Kd.R_far (p := ⟨gb114, 2, none⟩) (Kd.R_far (p := ⟨gb114, 1, none⟩) (Kd.R_far (p := ⟨gb114, 0, none⟩) (Kd.R_mono HO_24.out (fun k_ hk => (⟨hk, hk.2⟩ : _ ∧ k_ ≠ gb114))) (fun _ hk => hk.2) (.int .i64 ((rd_T51 y110 x26_1).f0))) (fun _ hk => hk.2) (.int .i64 ((rd_T51 y110 x26_1).f1))) (fun _ hk => hk.2) (.int .i64 ((rd_T51 y110 x26_1).f2))) (fun _ hk => trivial)⟩, ⟨by repeat (first | (with_reducible first | exact HB.out | apply below_alloc | apply pw_below_drewN | apply below_drew1 | refine below_set ?_ GE114.out) | exact HB.out)⟩⟩
          · rw [if_neg c7] at H
            exact absurd H (by simp)
        · rw [if_neg c6] at H
          exact absurd H (by simp)
      · rw [if_neg c5] at H
        have c5b0 : decide (x26_1 < (y110.length : Int)) = false := decide_eq_false c5
        clear c5
        have HC14 := Aside0.mk H
        clear H
        go_upto_if 39 with (fail)
        go_cut [39] (fun v39 wc => ∃ (kq : Nat) (x39_13 : Bool), v39 = .bool x39_13 ∧ Aside0 (chanceryref3_Direction.j1 kq a0 x39_13 = some r) ∧ Aside0 (kq ≤ k1) ∧ Aside0 (Below w.heap.size w wc))
        case first => as_aux_lemma =>
          have H := HC14.out
          clear HC14
          by_cases c15 : a0 = 170
          · rw [if_pos c15] at H
            have c15b0 : (a0 == 170) = true := beq_iff_eq.mpr c15
            have c15b1 : (a0 != 170) = false := bne_eq_false_iff_eq.mpr c15
            clear c15
            (first | rw [c15b0] | (simp only [i64_w, i32_w]; rw [c15b0]) | skip)
            have H' := Aside0.mk H
            clear H
            go_wp2
            go_meet
            case rel => exact ⟨_, ((a0 == 170)), (by first | rfl | (simp; done) | (simp [*]; done)), H', ⟨by have := HK1.out; first | omega | exact Nat.le_refl _⟩, ⟨by repeat (first | (with_reducible first | exact HB.out | apply below_alloc | apply pw_below_drewN | apply below_drew1) | exact HB.out)⟩⟩
          · rw [if_neg c15] at H
            have c15b0 : (a0 == 170) = false := beq_eq_false_iff_ne.mpr c15
            have c15b1 : (a0 != 170) = true := bne_iff_ne.mpr c15
            (first | rw [c15b0] | (simp only [i64_w, i32_w]; rw [c15b0]) | skip)
            by_cases c16 : a0 = 181
            · rw [if_pos c16] at H
              have c16b0 : (a0 == 181) = true := beq_iff_eq.mpr c16
              have c16b1 : (a0 != 181) = false := bne_eq_false_iff_eq.mpr c16
              clear c16
              have H' := Aside0.mk H
              clear H
              go_wp2
              go_meet
              case rel => exact ⟨_, ((a0 == 181)), (by first | rfl | (simp; done) | (simp [*]; done)), H', ⟨by have := HK1.out; first | omega | exact Nat.le_refl _⟩, ⟨by repeat (first | (with_reducible first | exact HB.out | apply below_alloc | apply pw_below_drewN | apply below_drew1) | exact HB.out)⟩⟩
            · rw [if_neg c16] at H
              have c16b0 : (a0 == 181) = false := beq_eq_false_iff_ne.mpr c16
              have c16b1 : (a0 != 181) = true := bne_iff_ne.mpr c16
              have H' := Aside0.mk H
              clear H
              go_wp2
              go_meet
              case rel => exact ⟨_, ((a0 == 186)), (by first | rfl | (simp; done) | (simp [*]; done)), H', ⟨by have := HK1.out; first | omega | exact Nat.le_refl _⟩, ⟨by repeat (first | (with_reducible first | exact HB.out | apply below_alloc | apply pw_below_drewN | apply below_drew1) | exact HB.out)⟩⟩
        case rest => as_aux_lemma =>
          clear HC14
          try clear c1
          try clear p1
          try clear q1
          try clear hx1
          try clear p2
          try clear c3
          try clear c5
          try clear c5b0
          try clear c6
          try clear c6b0
          try clear p6
          try clear c7
          try clear c7b0
          try clear c9
          try clear p11
          try clear q11
          try clear hx11
          try clear c15
          try clear c15b0
          try clear c15b1
          try clear c16
          try clear c16b0
          try clear c16b1
          try clear hcz11_0
          try clear hcz11_1
          try clear hcz11_2
          try clear hcz13_0
          try clear hcz13_1
          try clear hcz13_2
          try clear hfz11_0
          try clear hfz11_1
          try clear hfz11_2
          try clear hfz13_0
          try clear hfz13_1
          try clear hfz13_2
          try clear hx113_0
          try clear hx113_1
          try clear hx113_2
          try clear p113
          try clear p2
          try clear q113
          obtain ⟨kq, x39_13, rfl, HA, HJ13, HB⟩ := hcut
          cases kq with
          | zero => exact absurd HA.out (by simp [chanceryref3_Direction.j1])
          | succ kj13 =>
            have H := HA.out
            clear HA
            simp only [chanceryref3_Direction.j1] at H
            by_cases c17 : x39_13 = true
            · subst c17
              have H1 : (some 0) = some r := by rw [if_pos rfl] at H; exact H
              clear H
              have H := H1
              clear H1
              obtain rfl := Option.some.inj H
              go_wp2
              go_ret
              exact ⟨by first | rfl | (simp [errW_none, errW_some] <;> rfl) | (simp [*, errW_none, errW_some] <;> rfl), by repeat (first | (with_reducible first | exact HB.out | apply below_alloc | apply pw_below_drewN | apply below_drew1) | exact HB.out)⟩
            · replace c17 := Bool.eq_false_iff.mpr c17
              subst c17
              have H1 : ((chanceryref3_In.f a0 161 191).bind fun t116 => (if t116 = true then (chanceryref3_Direction.j2 kj13 a0 t116) else (if a0 = 215 then (chanceryref3_Direction.j2 kj13 a0 (a0 == 215)) else (chanceryref3_Direction.j2 kj13 a0 (a0 == 247))))) = some r := by rw [if_neg (show ¬ (false = true) by decide)] at H; exact H
              clear H
              have H := H1
              clear H1
              replace H := Option.bind_eq_some_iff.mp H
              obtain ⟨t116, A180, H⟩ := H
              replace H : (if t116 = true then (chanceryref3_Direction.j2 kj13 a0 t116) else (if a0 = 215 then (chanceryref3_Direction.j2 kj13 a0 (a0 == 215)) else (chanceryref3_Direction.j2 kj13 a0 (a0 == 247)))) = some r := H
              have A18 := Aside0.mk A180
              clear A180
              have HC19 := Aside0.mk H
              clear H
              go_upto_if 46 with (first | ((with_reducible refine gate_callee (f := 16) rfl ?_); refine goesL_ (some 48) rfl rfl Tryd.func16 (by kernel_rfl) rfl #[.int .i64 a0, .int .i64 161, .int .i64 191] rfl (by (try simp only [List.map_toArray, List.map_cons, List.map_nil]); first | done | rfl | (simp only [List.length_drop, List.length_take]; rfl)) ?_; (with_reducible refine (chanceryref3_In.calls a0 161 191 t116 _ A18.out).mono ?_); rintro e w' ⟨rfl, ⟨nd, rfl⟩⟩; refine ⟨_, rfl, ?_⟩))
              (try simp only [Act.put, List.setIfInBounds_toArray, List.set_cons_zero, List.set_cons_succ])
              go_cut [46] (fun v46 wc => ∃ (kq : Nat) (x46_18 : Bool), v46 = .bool x46_18 ∧ Aside0 (chanceryref3_Direction.j2 kq a0 x46_18 = some r) ∧ Aside0 (kq ≤ kj13) ∧ Aside0 (Below w.heap.size w wc))
              case first => as_aux_lemma =>
                have H := HC19.out
                clear HC19
                by_cases c20 : t116 = true
                · subst c20
                  have H1 : (chanceryref3_Direction.j2 kj13 a0 true) = some r := by rw [if_pos rfl] at H; exact H
                  clear H
                  have H := H1
                  clear H1
                  have H' := Aside0.mk H
                  clear H
                  go_wp2
                  go_meet
                  case rel => exact ⟨_, (true), (by first | rfl | (simp; done) | (simp [*]; done)), H', ⟨by have := HK1.out; have := HJ13.out; first | omega | exact Nat.le_refl _⟩, ⟨by repeat (first | (with_reducible first | exact HB.out | apply below_alloc | apply pw_below_drewN | apply below_drew1) | exact HB.out)⟩⟩
                · replace c20 := Bool.eq_false_iff.mpr c20
                  subst c20
                  have H1 : (if a0 = 215 then (chanceryref3_Direction.j2 kj13 a0 (a0 == 215)) else (chanceryref3_Direction.j2 kj13 a0 (a0 == 247))) = some r := by rw [if_neg (show ¬ (false = true) by decide)] at H; exact H
                  clear H
                  have H := H1
                  clear H1
                  by_cases c21 : a0 = 215
                  · rw [if_pos c21] at H
                    have c21b0 : (a0 == 215) = true := beq_iff_eq.mpr c21
                    have c21b1 : (a0 != 215) = false := bne_eq_false_iff_eq.mpr c21
                    clear c21
                    (first | rw [c21b0] | (simp only [i64_w, i32_w]; rw [c21b0]) | skip)
                    have H' := Aside0.mk H
                    clear H
                    go_wp2
                    go_meet
                    case rel => exact ⟨_, ((a0 == 215)), (by first | rfl | (simp; done) | (simp [*]; done)), H', ⟨by have := HK1.out; have := HJ13.out; first | omega | exact Nat.le_refl _⟩, ⟨by repeat (first | (with_reducible first | exact HB.out | apply below_alloc | apply pw_below_drewN | apply below_drew1) | exact HB.out)⟩⟩
                  · rw [if_neg c21] at H
                    have c21b0 : (a0 == 215) = false := beq_eq_false_iff_ne.mpr c21
                    have c21b1 : (a0 != 215) = true := bne_iff_ne.mpr c21
                    (first | rw [c21b0] | (simp only [i64_w, i32_w]; rw [c21b0]) | skip)
                    have H' := Aside0.mk H
                    clear H
                    go_wp2
                    go_meet
                    case rel => exact ⟨_, ((a0 == 247)), (by first | rfl | (simp; done) | (simp [*]; done)), H', ⟨by have := HK1.out; have := HJ13.out; first | omega | exact Nat.le_refl _⟩, ⟨by repeat (first | (with_reducible first | exact HB.out | apply below_alloc | apply pw_below_drewN | apply below_drew1) | exact HB.out)⟩⟩
              case rest => as_aux_lemma =>
                clear HC19
                try clear c1
                try clear p1
                try clear q1
                try clear hx1
                try clear c2
                try clear p2
                try clear c3
                try clear c5
                try clear c5b0
                try clear c6
                try clear c6b0
                try clear p6
                try clear c7
                try clear c7b0
                try clear c9
                try clear p11
                try clear q11
                try clear hx11
                try clear c15
                try clear c15b0
                try clear c15b1
                try clear c16
                try clear c16b0
                try clear c16b1
                try clear c17
                try clear c20
                try clear c21
                try clear c21b0
                try clear c21b1
                try clear hcz11_0
                try clear hcz11_1
                try clear hcz11_2
                try clear hcz13_0
                try clear hcz13_1
                try clear hcz13_2
                try clear hfz11_0
                try clear hfz11_1
                try clear hfz11_2
                try clear hfz13_0
                try clear hfz13_1
                try clear hfz13_2
                try clear hx113_0
                try clear hx113_1
                try clear hx113_2
                try clear p1
                try clear p11
                try clear p113
                try clear p2
                try clear p6
                try clear q1
                try clear q11
                try clear q113
                obtain ⟨kq, x46_18, rfl, HA, HJ18, HB⟩ := hcut
                cases kq with
                | zero => exact absurd HA.out (by simp [chanceryref3_Direction.j2])
                | succ kj18 =>
                  have H := HA.out
                  clear HA
                  simp only [chanceryref3_Direction.j2] at H
                  by_cases c22 : x46_18 = true
                  · subst c22
                    have H1 : (some 13) = some r := by rw [if_pos rfl] at H; exact H
                    clear H
                    have H := H1
                    clear H1
                    obtain rfl := Option.some.inj H
                    go_wp2
                    go_ret
                    exact ⟨by first | rfl | (simp [errW_none, errW_some] <;> rfl) | (simp [*, errW_none, errW_some] <;> rfl), by repeat (first | (with_reducible first | exact HB.out | apply below_alloc | apply pw_below_drewN | apply below_drew1) | exact HB.out)⟩
                  · replace c22 := Bool.eq_false_iff.mpr c22
                    subst c22
                    have H1 : ((chanceryref3_In.f a0 768 879).bind fun t117 => (if t117 = true then (chanceryref3_Direction.j3 kj18 a0 t117) else ((chanceryref3_In.f a0 1425 1469).bind fun t118 => (if t118 = true then (chanceryref3_Direction.j3 kj18 a0 t118) else (if a0 = 1471 then (chanceryref3_Direction.j3 kj18 a0 (a0 == 1471)) else (if a0 = 1473 then (chanceryref3_Direction.j3 kj18 a0 (a0 == 1473)) else (if a0 = 1474 then (chanceryref3_Direction.j3 kj18 a0 (a0 == 1474)) else ((chanceryref3_In.f a0 1552 1562).bind fun t119 => (if t119 = true then (chanceryref3_Direction.j3 kj18 a0 t119) else ((chanceryref3_In.f a0 1611 1631).bind fun t120 => (if t120 = true then (chanceryref3_Direction.j3 kj18 a0 t120) else ((chanceryref3_In.f a0 65024 65039).bind fun t121 => (chanceryref3_Direction.j3 kj18 a0 t121))))))))))))) = some r := by rw [if_neg (show ¬ (false = true) by decide)] at H; exact H
                    clear H
                    have H := H1
                    clear H1
                    replace H := Option.bind_eq_some_iff.mp H
                    obtain ⟨t117, A230, H⟩ := H
                    replace H : (if t117 = true then (chanceryref3_Direction.j3 kj18 a0 t117) else ((chanceryref3_In.f a0 1425 1469).bind fun t118 => (if t118 = true then (chanceryref3_Direction.j3 kj18 a0 t118) else (if a0 = 1471 then (chanceryref3_Direction.j3 kj18 a0 (a0 == 1471)) else (if a0 = 1473 then (chanceryref3_Direction.j3 kj18 a0 (a0 == 1473)) else (if a0 = 1474 then (chanceryref3_Direction.j3 kj18 a0 (a0 == 1474)) else ((chanceryref3_In.f a0 1552 1562).bind fun t119 => (if t119 = true then (chanceryref3_Direction.j3 kj18 a0 t119) else ((chanceryref3_In.f a0 1611 1631).bind fun t120 => (if t120 = true then (chanceryref3_Direction.j3 kj18 a0 t120) else ((chanceryref3_In.f a0 65024 65039).bind fun t121 => (chanceryref3_Direction.j3 kj18 a0 t121)))))))))))) = some r := H
                    have A23 := Aside0.mk A230
                    clear A230
                    have HC24 := Aside0.mk H
                    clear H
                    go_upto_if 53 with (first | ((with_reducible refine gate_callee (f := 16) rfl ?_); refine goesL_ (some 55) rfl rfl Tryd.func16 (by kernel_rfl) rfl #[.int .i64 a0, .int .i64 768, .int .i64 879] rfl (by (try simp only [List.map_toArray, List.map_cons, List.map_nil]); first | done | rfl | (simp only [List.length_drop, List.length_take]; rfl)) ?_; (with_reducible refine (chanceryref3_In.calls a0 768 879 t117 _ A23.out).mono ?_); rintro e w' ⟨rfl, ⟨nd, rfl⟩⟩; refine ⟨_, rfl, ?_⟩))
                    (try simp only [Act.put, List.setIfInBounds_toArray, List.set_cons_zero, List.set_cons_succ])
                    go_cut [53] (fun v53 wc => ∃ (kq : Nat) (x53_23 : Bool), v53 = .bool x53_23 ∧ Aside0 (chanceryref3_Direction.j3 kq a0 x53_23 = some r) ∧ Aside0 (kq ≤ kj18) ∧ Aside0 (Below w.heap.size w wc))
                    case first => as_aux_lemma =>
                      have H := HC24.out
                      clear HC24
                      by_cases c25 : t117 = true
                      · subst c25
                        have H1 : (chanceryref3_Direction.j3 kj18 a0 true) = some r := by rw [if_pos rfl] at H; exact H
                        clear H
                        have H := H1
                        clear H1
                        have H' := Aside0.mk H
                        clear H
                        go_wp2
                        go_meet
                        case rel => exact ⟨_, (true), (by first | rfl | (simp; done) | (simp [*]; done)), H', ⟨by have := HK1.out; have := HJ13.out; have := HJ18.out; first | omega | exact Nat.le_refl _⟩, ⟨by repeat (first | (with_reducible first | exact HB.out | apply below_alloc | apply pw_below_drewN | apply below_drew1) | exact HB.out)⟩⟩
                      · replace c25 := Bool.eq_false_iff.mpr c25
                        subst c25
                        have H1 : ((chanceryref3_In.f a0 1425 1469).bind fun t118 => (if t118 = true then (chanceryref3_Direction.j3 kj18 a0 t118) else (if a0 = 1471 then (chanceryref3_Direction.j3 kj18 a0 (a0 == 1471)) else (if a0 = 1473 then (chanceryref3_Direction.j3 kj18 a0 (a0 == 1473)) else (if a0 = 1474 then (chanceryref3_Direction.j3 kj18 a0 (a0 == 1474)) else ((chanceryref3_In.f a0 1552 1562).bind fun t119 => (if t119 = true then (chanceryref3_Direction.j3 kj18 a0 t119) else ((chanceryref3_In.f a0 1611 1631).bind fun t120 => (if t120 = true then (chanceryref3_Direction.j3 kj18 a0 t120) else ((chanceryref3_In.f a0 65024 65039).bind fun t121 => (chanceryref3_Direction.j3 kj18 a0 t121))))))))))) = some r := by rw [if_neg (show ¬ (false = true) by decide)] at H; exact H
                        clear H
                        have H := H1
                        clear H1
                        replace H := Option.bind_eq_some_iff.mp H
                        obtain ⟨t118, A260, H⟩ := H
                        replace H : (if t118 = true then (chanceryref3_Direction.j3 kj18 a0 t118) else (if a0 = 1471 then (chanceryref3_Direction.j3 kj18 a0 (a0 == 1471)) else (if a0 = 1473 then (chanceryref3_Direction.j3 kj18 a0 (a0 == 1473)) else (if a0 = 1474 then (chanceryref3_Direction.j3 kj18 a0 (a0 == 1474)) else ((chanceryref3_In.f a0 1552 1562).bind fun t119 => (if t119 = true then (chanceryref3_Direction.j3 kj18 a0 t119) else ((chanceryref3_In.f a0 1611 1631).bind fun t120 => (if t120 = true then (chanceryref3_Direction.j3 kj18 a0 t120) else ((chanceryref3_In.f a0 65024 65039).bind fun t121 => (chanceryref3_Direction.j3 kj18 a0 t121)))))))))) = some r := H
                        have A26 := Aside0.mk A260
                        clear A260
                        by_cases c27 : t118 = true
                        · subst c27
                          have H1 : (chanceryref3_Direction.j3 kj18 a0 true) = some r := by rw [if_pos rfl] at H; exact H
                          clear H
                          have H := H1
                          clear H1
                          have H' := Aside0.mk H
                          clear H
                          go_wp2_with (first | ((with_reducible refine gate_callee (f := 16) rfl ?_); refine goesL_ (some 57) rfl rfl Tryd.func16 (by kernel_rfl) rfl #[.int .i64 a0, .int .i64 1425, .int .i64 1469] rfl (by (try simp only [List.map_toArray, List.map_cons, List.map_nil]); first | done | rfl | (simp only [List.length_drop, List.length_take]; rfl)) ?_; (with_reducible refine (chanceryref3_In.calls a0 1425 1469 true _ A26.out).mono ?_); rintro e w' ⟨rfl, ⟨nd, rfl⟩⟩; refine ⟨_, rfl, ?_⟩))
                          go_meet
                          case rel => exact ⟨_, (true), (by first | rfl | (simp; done) | (simp [*]; done)), H', ⟨by have := HK1.out; have := HJ13.out; have := HJ18.out; first | omega | exact Nat.le_refl _⟩, ⟨by repeat (first | (with_reducible first | exact HB.out | apply below_alloc | apply pw_below_drewN | apply below_drew1) | exact HB.out)⟩⟩
                        · replace c27 := Bool.eq_false_iff.mpr c27
                          subst c27
                          have H1 : (if a0 = 1471 then (chanceryref3_Direction.j3 kj18 a0 (a0 == 1471)) else (if a0 = 1473 then (chanceryref3_Direction.j3 kj18 a0 (a0 == 1473)) else (if a0 = 1474 then (chanceryref3_Direction.j3 kj18 a0 (a0 == 1474)) else ((chanceryref3_In.f a0 1552 1562).bind fun t119 => (if t119 = true then (chanceryref3_Direction.j3 kj18 a0 t119) else ((chanceryref3_In.f a0 1611 1631).bind fun t120 => (if t120 = true then (chanceryref3_Direction.j3 kj18 a0 t120) else ((chanceryref3_In.f a0 65024 65039).bind fun t121 => (chanceryref3_Direction.j3 kj18 a0 t121))))))))) = some r := by rw [if_neg (show ¬ (false = true) by decide)] at H; exact H
                          clear H
                          have H := H1
                          clear H1
                          by_cases c28 : a0 = 1471
                          · rw [if_pos c28] at H
                            have c28b0 : (a0 == 1471) = true := beq_iff_eq.mpr c28
                            have c28b1 : (a0 != 1471) = false := bne_eq_false_iff_eq.mpr c28
                            clear c28
                            (first | rw [c28b0] | (simp only [i64_w, i32_w]; rw [c28b0]) | skip)
                            have H' := Aside0.mk H
                            clear H
                            go_wp2_with (first | ((with_reducible refine gate_callee (f := 16) rfl ?_); refine goesL_ (some 57) rfl rfl Tryd.func16 (by kernel_rfl) rfl #[.int .i64 a0, .int .i64 1425, .int .i64 1469] rfl (by (try simp only [List.map_toArray, List.map_cons, List.map_nil]); first | done | rfl | (simp only [List.length_drop, List.length_take]; rfl)) ?_; (with_reducible refine (chanceryref3_In.calls a0 1425 1469 false _ A26.out).mono ?_); rintro e w' ⟨rfl, ⟨nd, rfl⟩⟩; refine ⟨_, rfl, ?_⟩))
                            go_meet
                            case rel => exact ⟨_, ((a0 == 1471)), (by first | rfl | (simp; done) | (simp [*]; done)), H', ⟨by have := HK1.out; have := HJ13.out; have := HJ18.out; first | omega | exact Nat.le_refl _⟩, ⟨by repeat (first | (with_reducible first | exact HB.out | apply below_alloc | apply pw_below_drewN | apply below_drew1) | exact HB.out)⟩⟩
                          · rw [if_neg c28] at H
                            have c28b0 : (a0 == 1471) = false := beq_eq_false_iff_ne.mpr c28
                            have c28b1 : (a0 != 1471) = true := bne_iff_ne.mpr c28
                            (first | rw [c28b0] | (simp only [i64_w, i32_w]; rw [c28b0]) | skip)
                            by_cases c29 : a0 = 1473
                            · rw [if_pos c29] at H
                              have c29b0 : (a0 == 1473) = true := beq_iff_eq.mpr c29
                              have c29b1 : (a0 != 1473) = false := bne_eq_false_iff_eq.mpr c29
                              clear c29
                              have H' := Aside0.mk H
                              clear H
                              go_wp2_with (first | ((with_reducible refine gate_callee (f := 16) rfl ?_); refine goesL_ (some 57) rfl rfl Tryd.func16 (by kernel_rfl) rfl #[.int .i64 a0, .int .i64 1425, .int .i64 1469] rfl (by (try simp only [List.map_toArray, List.map_cons, List.map_nil]); first | done | rfl | (simp only [List.length_drop, List.length_take]; rfl)) ?_; (with_reducible refine (chanceryref3_In.calls a0 1425 1469 false _ A26.out).mono ?_); rintro e w' ⟨rfl, ⟨nd, rfl⟩⟩; refine ⟨_, rfl, ?_⟩))
                              go_meet
                              case rel => exact ⟨_, ((a0 == 1473)), (by first | rfl | (simp; done) | (simp [*]; done)), H', ⟨by have := HK1.out; have := HJ13.out; have := HJ18.out; first | omega | exact Nat.le_refl _⟩, ⟨by repeat (first | (with_reducible first | exact HB.out | apply below_alloc | apply pw_below_drewN | apply below_drew1) | exact HB.out)⟩⟩
                            · rw [if_neg c29] at H
                              have c29b0 : (a0 == 1473) = false := beq_eq_false_iff_ne.mpr c29
                              have c29b1 : (a0 != 1473) = true := bne_iff_ne.mpr c29
                              by_cases c30 : a0 = 1474
                              · rw [if_pos c30] at H
                                have c30b0 : (a0 == 1474) = true := beq_iff_eq.mpr c30
                                have c30b1 : (a0 != 1474) = false := bne_eq_false_iff_eq.mpr c30
                                clear c30
                                have H' := Aside0.mk H
                                clear H
                                go_wp2_with (first | ((with_reducible refine gate_callee (f := 16) rfl ?_); refine goesL_ (some 57) rfl rfl Tryd.func16 (by kernel_rfl) rfl #[.int .i64 a0, .int .i64 1425, .int .i64 1469] rfl (by (try simp only [List.map_toArray, List.map_cons, List.map_nil]); first | done | rfl | (simp only [List.length_drop, List.length_take]; rfl)) ?_; (with_reducible refine (chanceryref3_In.calls a0 1425 1469 false _ A26.out).mono ?_); rintro e w' ⟨rfl, ⟨nd, rfl⟩⟩; refine ⟨_, rfl, ?_⟩))
                                go_meet
                                case rel => exact ⟨_, ((a0 == 1474)), (by first | rfl | (simp; done) | (simp [*]; done)), H', ⟨by have := HK1.out; have := HJ13.out; have := HJ18.out; first | omega | exact Nat.le_refl _⟩, ⟨by repeat (first | (with_reducible first | exact HB.out | apply below_alloc | apply pw_below_drewN | apply below_drew1) | exact HB.out)⟩⟩
                              · rw [if_neg c30] at H
                                have c30b0 : (a0 == 1474) = false := beq_eq_false_iff_ne.mpr c30
                                have c30b1 : (a0 != 1474) = true := bne_iff_ne.mpr c30
                                replace H := Option.bind_eq_some_iff.mp H
                                obtain ⟨t119, A310, H⟩ := H
                                replace H : (if t119 = true then (chanceryref3_Direction.j3 kj18 a0 t119) else ((chanceryref3_In.f a0 1611 1631).bind fun t120 => (if t120 = true then (chanceryref3_Direction.j3 kj18 a0 t120) else ((chanceryref3_In.f a0 65024 65039).bind fun t121 => (chanceryref3_Direction.j3 kj18 a0 t121))))) = some r := H
                                have A31 := Aside0.mk A310
                                clear A310
                                by_cases c32 : t119 = true
                                · subst c32
                                  have H1 : (chanceryref3_Direction.j3 kj18 a0 true) = some r := by rw [if_pos rfl] at H; exact H
                                  clear H
                                  have H := H1
                                  clear H1
                                  have H' := Aside0.mk H
                                  clear H
                                  go_wp2_with (first | ((with_reducible refine gate_callee (f := 16) rfl ?_); refine goesL_ (some 57) rfl rfl Tryd.func16 (by kernel_rfl) rfl #[.int .i64 a0, .int .i64 1425, .int .i64 1469] rfl (by (try simp only [List.map_toArray, List.map_cons, List.map_nil]); first | done | rfl | (simp only [List.length_drop, List.length_take]; rfl)) ?_; (with_reducible refine (chanceryref3_In.calls a0 1425 1469 false _ A26.out).mono ?_); rintro e w' ⟨rfl, ⟨nd, rfl⟩⟩; refine ⟨_, rfl, ?_⟩) | ((with_reducible refine gate_callee (f := 16) rfl ?_); refine goesL_ (some 65) rfl rfl Tryd.func16 (by kernel_rfl) rfl #[.int .i64 a0, .int .i64 1552, .int .i64 1562] rfl (by (try simp only [List.map_toArray, List.map_cons, List.map_nil]); first | done | rfl | (simp only [List.length_drop, List.length_take]; rfl)) ?_; (with_reducible refine (chanceryref3_In.calls a0 1552 1562 true _ A31.out).mono ?_); rintro e w' ⟨rfl, ⟨nd, rfl⟩⟩; refine ⟨_, rfl, ?_⟩))
                                  go_meet
                                  case rel => exact ⟨_, (true), (by first | rfl | (simp; done) | (simp [*]; done)), H', ⟨by have := HK1.out; have := HJ13.out; have := HJ18.out; first | omega | exact Nat.le_refl _⟩, ⟨by repeat (first | (with_reducible first | exact HB.out | apply below_alloc | apply pw_below_drewN | apply below_drew1) | exact HB.out)⟩⟩
                                · replace c32 := Bool.eq_false_iff.mpr c32
                                  subst c32
                                  have H1 : ((chanceryref3_In.f a0 1611 1631).bind fun t120 => (if t120 = true then (chanceryref3_Direction.j3 kj18 a0 t120) else ((chanceryref3_In.f a0 65024 65039).bind fun t121 => (chanceryref3_Direction.j3 kj18 a0 t121)))) = some r := by rw [if_neg (show ¬ (false = true) by decide)] at H; exact H
                                  clear H
                                  have H := H1
                                  clear H1
                                  replace H := Option.bind_eq_some_iff.mp H
                                  obtain ⟨t120, A330, H⟩ := H
                                  replace H : (if t120 = true then (chanceryref3_Direction.j3 kj18 a0 t120) else ((chanceryref3_In.f a0 65024 65039).bind fun t121 => (chanceryref3_Direction.j3 kj18 a0 t121))) = some r := H
                                  have A33 := Aside0.mk A330
                                  clear A330
                                  by_cases c34 : t120 = true
                                  · subst c34
                                    have H1 : (chanceryref3_Direction.j3 kj18 a0 true) = some r := by rw [if_pos rfl] at H; exact H
                                    clear H
                                    have H := H1
                                    clear H1
                                    have H' := Aside0.mk H
                                    clear H
                                    go_wp2_with (first | ((with_reducible refine gate_callee (f := 16) rfl ?_); refine goesL_ (some 57) rfl rfl Tryd.func16 (by kernel_rfl) rfl #[.int .i64 a0, .int .i64 1425, .int .i64 1469] rfl (by (try simp only [List.map_toArray, List.map_cons, List.map_nil]); first | done | rfl | (simp only [List.length_drop, List.length_take]; rfl)) ?_; (with_reducible refine (chanceryref3_In.calls a0 1425 1469 false _ A26.out).mono ?_); rintro e w' ⟨rfl, ⟨nd, rfl⟩⟩; refine ⟨_, rfl, ?_⟩) | ((with_reducible refine gate_callee (f := 16) rfl ?_); refine goesL_ (some 65) rfl rfl Tryd.func16 (by kernel_rfl) rfl #[.int .i64 a0, .int .i64 1552, .int .i64 1562] rfl (by (try simp only [List.map_toArray, List.map_cons, List.map_nil]); first | done | rfl | (simp only [List.length_drop, List.length_take]; rfl)) ?_; (with_reducible refine (chanceryref3_In.calls a0 1552 1562 false _ A31.out).mono ?_); rintro e w' ⟨rfl, ⟨nd, rfl⟩⟩; refine ⟨_, rfl, ?_⟩) | ((with_reducible refine gate_callee (f := 16) rfl ?_); refine goesL_ (some 67) rfl rfl Tryd.func16 (by kernel_rfl) rfl #[.int .i64 a0, .int .i64 1611, .int .i64 1631] rfl (by (try simp only [List.map_toArray, List.map_cons, List.map_nil]); first | done | rfl | (simp only [List.length_drop, List.length_take]; rfl)) ?_; (with_reducible refine (chanceryref3_In.calls a0 1611 1631 true _ A33.out).mono ?_); rintro e w' ⟨rfl, ⟨nd, rfl⟩⟩; refine ⟨_, rfl, ?_⟩))
                                    go_meet
                                    case rel => exact ⟨_, (true), (by first | rfl | (simp; done) | (simp [*]; done)), H', ⟨by have := HK1.out; have := HJ13.out; have := HJ18.out; first | omega | exact Nat.le_refl _⟩, ⟨by repeat (first | (with_reducible first | exact HB.out | apply below_alloc | apply pw_below_drewN | apply below_drew1) | exact HB.out)⟩⟩
                                  · replace c34 := Bool.eq_false_iff.mpr c34
                                    subst c34
                                    have H1 : ((chanceryref3_In.f a0 65024 65039).bind fun t121 => (chanceryref3_Direction.j3 kj18 a0 t121)) = some r := by rw [if_neg (show ¬ (false = true) by decide)] at H; exact H
                                    clear H
                                    have H := H1
                                    clear H1
                                    replace H := Option.bind_eq_some_iff.mp H
                                    obtain ⟨t121, A350, H⟩ := H
                                    replace H : (chanceryref3_Direction.j3 kj18 a0 t121) = some r := H
                                    have A35 := Aside0.mk A350
                                    clear A350
                                    have H' := Aside0.mk H
                                    clear H
                                    go_wp2_with (first | ((with_reducible refine gate_callee (f := 16) rfl ?_); refine goesL_ (some 57) rfl rfl Tryd.func16 (by kernel_rfl) rfl #[.int .i64 a0, .int .i64 1425, .int .i64 1469] rfl (by (try simp only [List.map_toArray, List.map_cons, List.map_nil]); first | done | rfl | (simp only [List.length_drop, List.length_take]; rfl)) ?_; (with_reducible refine (chanceryref3_In.calls a0 1425 1469 false _ A26.out).mono ?_); rintro e w' ⟨rfl, ⟨nd, rfl⟩⟩; refine ⟨_, rfl, ?_⟩) | ((with_reducible refine gate_callee (f := 16) rfl ?_); refine goesL_ (some 65) rfl rfl Tryd.func16 (by kernel_rfl) rfl #[.int .i64 a0, .int .i64 1552, .int .i64 1562] rfl (by (try simp only [List.map_toArray, List.map_cons, List.map_nil]); first | done | rfl | (simp only [List.length_drop, List.length_take]; rfl)) ?_; (with_reducible refine (chanceryref3_In.calls a0 1552 1562 false _ A31.out).mono ?_); rintro e w' ⟨rfl, ⟨nd, rfl⟩⟩; refine ⟨_, rfl, ?_⟩) | ((with_reducible refine gate_callee (f := 16) rfl ?_); refine goesL_ (some 67) rfl rfl Tryd.func16 (by kernel_rfl) rfl #[.int .i64 a0, .int .i64 1611, .int .i64 1631] rfl (by (try simp only [List.map_toArray, List.map_cons, List.map_nil]); first | done | rfl | (simp only [List.length_drop, List.length_take]; rfl)) ?_; (with_reducible refine (chanceryref3_In.calls a0 1611 1631 false _ A33.out).mono ?_); rintro e w' ⟨rfl, ⟨nd, rfl⟩⟩; refine ⟨_, rfl, ?_⟩) | ((with_reducible refine gate_callee (f := 16) rfl ?_); refine goesL_ (some 69) rfl rfl Tryd.func16 (by kernel_rfl) rfl #[.int .i64 a0, .int .i64 65024, .int .i64 65039] rfl (by (try simp only [List.map_toArray, List.map_cons, List.map_nil]); first | done | rfl | (simp only [List.length_drop, List.length_take]; rfl)) ?_; (with_reducible refine (chanceryref3_In.calls a0 65024 65039 t121 _ A35.out).mono ?_); rintro e w' ⟨rfl, ⟨nd, rfl⟩⟩; refine ⟨_, rfl, ?_⟩))
                                    go_meet
                                    case rel => exact ⟨_, (t121), (by first | rfl | (simp; done) | (simp [*]; done)), H', ⟨by have := HK1.out; have := HJ13.out; have := HJ18.out; first | omega | exact Nat.le_refl _⟩, ⟨by repeat (first | (with_reducible first | exact HB.out | apply below_alloc | apply pw_below_drewN | apply below_drew1) | exact HB.out)⟩⟩
                    case rest => as_aux_lemma =>
                      clear HC24
                      try clear c1
                      try clear p1
                      try clear q1
                      try clear hx1
                      try clear c2
                      try clear p2
                      try clear c3
                      try clear c5
                      try clear c5b0
                      try clear c6
                      try clear c6b0
                      try clear p6
                      try clear c7
                      try clear c7b0
                      try clear c9
                      try clear p11
                      try clear q11
                      try clear hx11
                      try clear c15
                      try clear c15b0
                      try clear c15b1
                      try clear c16
                      try clear c16b0
                      try clear c16b1
                      try clear c17
                      try clear c20
                      try clear c21
                      try clear c21b0
                      try clear c21b1
                      try clear c22
                      try clear c25
                      try clear c27
                      try clear c28
                      try clear c28b0
                      try clear c28b1
                      try clear c29
                      try clear c29b0
                      try clear c29b1
                      try clear c30
                      try clear c30b0
                      try clear c30b1
                      try clear c32
                      try clear c34
                      try clear hcz11_0
                      try clear hcz11_1
                      try clear hcz11_2
                      try clear hcz13_0
                      try clear hcz13_1
                      try clear hcz13_2
                      try clear hfz11_0
                      try clear hfz11_1
                      try clear hfz11_2
                      try clear hfz13_0
                      try clear hfz13_1
                      try clear hfz13_2
                      try clear hx113_0
                      try clear hx113_1
                      try clear hx113_2
                      try clear p1
                      try clear p11
                      try clear p113
                      try clear p2
                      try clear p6
                      try clear q1
                      try clear q11
                      try clear q113
                      obtain ⟨kq, x53_23, rfl, HA, HJ23, HB⟩ := hcut
                      cases kq with
                      | zero => exact absurd HA.out (by simp [chanceryref3_Direction.j3])
                      | succ kj23 =>
                        have H := HA.out
                        clear HA
                        simp only [chanceryref3_Direction.j3] at H
                        by_cases c36 : x53_23 = true
                        · subst c36
                          have H1 : (some 8) = some r := by rw [if_pos rfl] at H; exact H
                          clear H
                          have H := H1
                          clear H1
                          obtain rfl := Option.some.inj H
                          go_wp2
                          go_ret
                          exact ⟨by first | rfl | (simp [errW_none, errW_some] <;> rfl) | (simp [*, errW_none, errW_some] <;> rfl), by repeat (first | (with_reducible first | exact HB.out | apply below_alloc | apply pw_below_drewN | apply below_drew1) | exact HB.out)⟩
                        · replace c36 := Bool.eq_false_iff.mpr c36
                          subst c36
                          have H1 : ((chanceryref3_In.f a0 1424 1535).bind fun t122 => (if t122 = true then (chanceryref3_Direction.j4 kj23 a0 t122) else ((chanceryref3_In.f a0 1984 2143).bind fun t123 => (if t123 = true then (chanceryref3_Direction.j4 kj23 a0 t123) else (if a0 = 8207 then (chanceryref3_Direction.j4 kj23 a0 (a0 == 8207)) else ((chanceryref3_In.f a0 64285 64335).bind fun t124 => (chanceryref3_Direction.j4 kj23 a0 t124))))))) = some r := by rw [if_neg (show ¬ (false = true) by decide)] at H; exact H
                          clear H
                          have H := H1
                          clear H1
                          replace H := Option.bind_eq_some_iff.mp H
                          obtain ⟨t122, A370, H⟩ := H
                          replace H : (if t122 = true then (chanceryref3_Direction.j4 kj23 a0 t122) else ((chanceryref3_In.f a0 1984 2143).bind fun t123 => (if t123 = true then (chanceryref3_Direction.j4 kj23 a0 t123) else (if a0 = 8207 then (chanceryref3_Direction.j4 kj23 a0 (a0 == 8207)) else ((chanceryref3_In.f a0 64285 64335).bind fun t124 => (chanceryref3_Direction.j4 kj23 a0 t124)))))) = some r := H
                          have A37 := Aside0.mk A370
                          clear A370
                          have HC38 := Aside0.mk H
                          clear H
                          go_upto_if 70 with (first | ((with_reducible refine gate_callee (f := 16) rfl ?_); refine goesL_ (some 72) rfl rfl Tryd.func16 (by kernel_rfl) rfl #[.int .i64 a0, .int .i64 1424, .int .i64 1535] rfl (by (try simp only [List.map_toArray, List.map_cons, List.map_nil]); first | done | rfl | (simp only [List.length_drop, List.length_take]; rfl)) ?_; (with_reducible refine (chanceryref3_In.calls a0 1424 1535 t122 _ A37.out).mono ?_); rintro e w' ⟨rfl, ⟨nd, rfl⟩⟩; refine ⟨_, rfl, ?_⟩))
                          (try simp only [Act.put, List.setIfInBounds_toArray, List.set_cons_zero, List.set_cons_succ])
                          go_cut [70] (fun v70 wc => ∃ (kq : Nat) (x70_37 : Bool), v70 = .bool x70_37 ∧ Aside0 (chanceryref3_Direction.j4 kq a0 x70_37 = some r) ∧ Aside0 (kq ≤ kj23) ∧ Aside0 (Below w.heap.size w wc))
                          case first => as_aux_lemma =>
                            have H := HC38.out
                            clear HC38
                            by_cases c39 : t122 = true
                            · subst c39
                              have H1 : (chanceryref3_Direction.j4 kj23 a0 true) = some r := by rw [if_pos rfl] at H; exact H
                              clear H
                              have H := H1
                              clear H1
                              have H' := Aside0.mk H
                              clear H
                              go_wp2
                              go_meet
                              case rel => exact ⟨_, (true), (by first | rfl | (simp; done) | (simp [*]; done)), H', ⟨by have := HK1.out; have := HJ13.out; have := HJ18.out; have := HJ23.out; first | omega | exact Nat.le_refl _⟩, ⟨by repeat (first | (with_reducible first | exact HB.out | apply below_alloc | apply pw_below_drewN | apply below_drew1) | exact HB.out)⟩⟩
                            · replace c39 := Bool.eq_false_iff.mpr c39
                              subst c39
                              have H1 : ((chanceryref3_In.f a0 1984 2143).bind fun t123 => (if t123 = true then (chanceryref3_Direction.j4 kj23 a0 t123) else (if a0 = 8207 then (chanceryref3_Direction.j4 kj23 a0 (a0 == 8207)) else ((chanceryref3_In.f a0 64285 64335).bind fun t124 => (chanceryref3_Direction.j4 kj23 a0 t124))))) = some r := by rw [if_neg (show ¬ (false = true) by decide)] at H; exact H
                              clear H
                              have H := H1
                              clear H1
                              replace H := Option.bind_eq_some_iff.mp H
                              obtain ⟨t123, A400, H⟩ := H
                              replace H : (if t123 = true then (chanceryref3_Direction.j4 kj23 a0 t123) else (if a0 = 8207 then (chanceryref3_Direction.j4 kj23 a0 (a0 == 8207)) else ((chanceryref3_In.f a0 64285 64335).bind fun t124 => (chanceryref3_Direction.j4 kj23 a0 t124)))) = some r := H
                              have A40 := Aside0.mk A400
                              clear A400
                              by_cases c41 : t123 = true
                              · subst c41
                                have H1 : (chanceryref3_Direction.j4 kj23 a0 true) = some r := by rw [if_pos rfl] at H; exact H
                                clear H
                                have H := H1
                                clear H1
                                have H' := Aside0.mk H
                                clear H
                                go_wp2_with (first | ((with_reducible refine gate_callee (f := 16) rfl ?_); refine goesL_ (some 74) rfl rfl Tryd.func16 (by kernel_rfl) rfl #[.int .i64 a0, .int .i64 1984, .int .i64 2143] rfl (by (try simp only [List.map_toArray, List.map_cons, List.map_nil]); first | done | rfl | (simp only [List.length_drop, List.length_take]; rfl)) ?_; (with_reducible refine (chanceryref3_In.calls a0 1984 2143 true _ A40.out).mono ?_); rintro e w' ⟨rfl, ⟨nd, rfl⟩⟩; refine ⟨_, rfl, ?_⟩))
                                go_meet
                                case rel => exact ⟨_, (true), (by first | rfl | (simp; done) | (simp [*]; done)), H', ⟨by have := HK1.out; have := HJ13.out; have := HJ18.out; have := HJ23.out; first | omega | exact Nat.le_refl _⟩, ⟨by repeat (first | (with_reducible first | exact HB.out | apply below_alloc | apply pw_below_drewN | apply below_drew1) | exact HB.out)⟩⟩
                              · replace c41 := Bool.eq_false_iff.mpr c41
                                subst c41
                                have H1 : (if a0 = 8207 then (chanceryref3_Direction.j4 kj23 a0 (a0 == 8207)) else ((chanceryref3_In.f a0 64285 64335).bind fun t124 => (chanceryref3_Direction.j4 kj23 a0 t124))) = some r := by rw [if_neg (show ¬ (false = true) by decide)] at H; exact H
                                clear H
                                have H := H1
                                clear H1
                                by_cases c42 : a0 = 8207
                                · rw [if_pos c42] at H
                                  have c42b0 : (a0 == 8207) = true := beq_iff_eq.mpr c42
                                  have c42b1 : (a0 != 8207) = false := bne_eq_false_iff_eq.mpr c42
                                  clear c42
                                  (first | rw [c42b0] | (simp only [i64_w, i32_w]; rw [c42b0]) | skip)
                                  have H' := Aside0.mk H
                                  clear H
                                  go_wp2_with (first | ((with_reducible refine gate_callee (f := 16) rfl ?_); refine goesL_ (some 74) rfl rfl Tryd.func16 (by kernel_rfl) rfl #[.int .i64 a0, .int .i64 1984, .int .i64 2143] rfl (by (try simp only [List.map_toArray, List.map_cons, List.map_nil]); first | done | rfl | (simp only [List.length_drop, List.length_take]; rfl)) ?_; (with_reducible refine (chanceryref3_In.calls a0 1984 2143 false _ A40.out).mono ?_); rintro e w' ⟨rfl, ⟨nd, rfl⟩⟩; refine ⟨_, rfl, ?_⟩))
                                  go_meet
                                  case rel => exact ⟨_, ((a0 == 8207)), (by first | rfl | (simp; done) | (simp [*]; done)), H', ⟨by have := HK1.out; have := HJ13.out; have := HJ18.out; have := HJ23.out; first | omega | exact Nat.le_refl _⟩, ⟨by repeat (first | (with_reducible first | exact HB.out | apply below_alloc | apply pw_below_drewN | apply below_drew1) | exact HB.out)⟩⟩
                                · rw [if_neg c42] at H
                                  have c42b0 : (a0 == 8207) = false := beq_eq_false_iff_ne.mpr c42
                                  have c42b1 : (a0 != 8207) = true := bne_iff_ne.mpr c42
                                  (first | rw [c42b0] | (simp only [i64_w, i32_w]; rw [c42b0]) | skip)
                                  replace H := Option.bind_eq_some_iff.mp H
                                  obtain ⟨t124, A430, H⟩ := H
                                  replace H : (chanceryref3_Direction.j4 kj23 a0 t124) = some r := H
                                  have A43 := Aside0.mk A430
                                  clear A430
                                  have H' := Aside0.mk H
                                  clear H
                                  go_wp2_with (first | ((with_reducible refine gate_callee (f := 16) rfl ?_); refine goesL_ (some 74) rfl rfl Tryd.func16 (by kernel_rfl) rfl #[.int .i64 a0, .int .i64 1984, .int .i64 2143] rfl (by (try simp only [List.map_toArray, List.map_cons, List.map_nil]); first | done | rfl | (simp only [List.length_drop, List.length_take]; rfl)) ?_; (with_reducible refine (chanceryref3_In.calls a0 1984 2143 false _ A40.out).mono ?_); rintro e w' ⟨rfl, ⟨nd, rfl⟩⟩; refine ⟨_, rfl, ?_⟩) | ((with_reducible refine gate_callee (f := 16) rfl ?_); refine goesL_ (some 78) rfl rfl Tryd.func16 (by kernel_rfl) rfl #[.int .i64 a0, .int .i64 64285, .int .i64 64335] rfl (by (try simp only [List.map_toArray, List.map_cons, List.map_nil]); first | done | rfl | (simp only [List.length_drop, List.length_take]; rfl)) ?_; (with_reducible refine (chanceryref3_In.calls a0 64285 64335 t124 _ A43.out).mono ?_); rintro e w' ⟨rfl, ⟨nd, rfl⟩⟩; refine ⟨_, rfl, ?_⟩))
                                  go_meet
                                  case rel => exact ⟨_, (t124), (by first | rfl | (simp; done) | (simp [*]; done)), H', ⟨by have := HK1.out; have := HJ13.out; have := HJ18.out; have := HJ23.out; first | omega | exact Nat.le_refl _⟩, ⟨by repeat (first | (with_reducible first | exact HB.out | apply below_alloc | apply pw_below_drewN | apply below_drew1) | exact HB.out)⟩⟩
                          case rest => as_aux_lemma =>
                            clear HC38
                            try clear c1
                            try clear p1
                            try clear q1
                            try clear hx1
                            try clear c2
                            try clear p2
                            try clear c3
                            try clear c4
                            try clear c5
                            try clear c5b0
                            try clear c6
                            try clear c6b0
                            try clear p6
                            try clear c7
                            try clear c7b0
                            try clear c9
                            try clear p11
                            try clear q11
                            try clear hx11
                            try clear c15
                            try clear c15b0
                            try clear c15b1
                            try clear c16
                            try clear c16b0
                            try clear c16b1
                            try clear c17
                            try clear c20
                            try clear c21
                            try clear c21b0
                            try clear c21b1
                            try clear c22
                            try clear c25
                            try clear c27
                            try clear c28
                            try clear c28b0
                            try clear c28b1
                            try clear c29
                            try clear c29b0
                            try clear c29b1
                            try clear c30
                            try clear c30b0
                            try clear c30b1
                            try clear c32
                            try clear c34
                            try clear c36
                            try clear c39
                            try clear c41
                            try clear c42
                            try clear c42b0
                            try clear c42b1
                            try clear hcz11_0
                            try clear hcz11_1
                            try clear hcz11_2
                            try clear hcz13_0
                            try clear hcz13_1
                            try clear hcz13_2
                            try clear hfz11_0
                            try clear hfz11_1
                            try clear hfz11_2
                            try clear hfz13_0
                            try clear hfz13_1
                            try clear hfz13_2
                            try clear hx113_0
                            try clear hx113_1
                            try clear hx113_2
                            try clear p1
                            try clear p11
                            try clear p113
                            try clear p2
                            try clear p6
                            try clear q1
                            try clear q11
                            try clear q113
                            obtain ⟨kq, x70_37, rfl, HA, HJ37, HB⟩ := hcut
                            cases kq with
                            | zero => exact absurd HA.out (by simp [chanceryref3_Direction.j4])
                            | succ kj37 =>
                              have H := HA.out
                              clear HA
                              simp only [chanceryref3_Direction.j4] at H
                              by_cases c44 : x70_37 = true
                              · subst c44
                                have H1 : (some 1) = some r := by rw [if_pos rfl] at H; exact H
                                clear H
                                have H := H1
                                clear H1
                                obtain rfl := Option.some.inj H
                                go_wp2
                                go_ret
                                exact ⟨by first | rfl | (simp [errW_none, errW_some] <;> rfl) | (simp [*, errW_none, errW_some] <;> rfl), by repeat (first | (with_reducible first | exact HB.out | apply below_alloc | apply pw_below_drewN | apply below_drew1) | exact HB.out)⟩
                              · replace c44 := Bool.eq_false_iff.mpr c44
                                subst c44
                                have H1 : ((chanceryref3_In.f a0 1632 1641).bind fun t125 => (if t125 = true then (chanceryref3_Direction.j5 kj37 a0 t125) else (if a0 = 1643 then (chanceryref3_Direction.j5 kj37 a0 (a0 == 1643)) else (chanceryref3_Direction.j5 kj37 a0 (a0 == 1644))))) = some r := by rw [if_neg (show ¬ (false = true) by decide)] at H; exact H
                                clear H
                                have H := H1
                                clear H1
                                replace H := Option.bind_eq_some_iff.mp H
                                obtain ⟨t125, A450, H⟩ := H
                                replace H : (if t125 = true then (chanceryref3_Direction.j5 kj37 a0 t125) else (if a0 = 1643 then (chanceryref3_Direction.j5 kj37 a0 (a0 == 1643)) else (chanceryref3_Direction.j5 kj37 a0 (a0 == 1644)))) = some r := H
                                have A45 := Aside0.mk A450
                                clear A450
                                have HC46 := Aside0.mk H
                                clear H
                                go_upto_if 79 with (first | ((with_reducible refine gate_callee (f := 16) rfl ?_); refine goesL_ (some 81) rfl rfl Tryd.func16 (by kernel_rfl) rfl #[.int .i64 a0, .int .i64 1632, .int .i64 1641] rfl (by (try simp only [List.map_toArray, List.map_cons, List.map_nil]); first | done | rfl | (simp only [List.length_drop, List.length_take]; rfl)) ?_; (with_reducible refine (chanceryref3_In.calls a0 1632 1641 t125 _ A45.out).mono ?_); rintro e w' ⟨rfl, ⟨nd, rfl⟩⟩; refine ⟨_, rfl, ?_⟩))
                                (try simp only [Act.put, List.setIfInBounds_toArray, List.set_cons_zero, List.set_cons_succ])
                                go_cut [79] (fun v79 wc => ∃ (kq : Nat) (x79_45 : Bool), v79 = .bool x79_45 ∧ Aside0 (chanceryref3_Direction.j5 kq a0 x79_45 = some r) ∧ Aside0 (kq ≤ kj37) ∧ Aside0 (Below w.heap.size w wc))
                                case first => as_aux_lemma =>
                                  have H := HC46.out
                                  clear HC46
                                  by_cases c47 : t125 = true
                                  · subst c47
                                    have H1 : (chanceryref3_Direction.j5 kj37 a0 true) = some r := by rw [if_pos rfl] at H; exact H
                                    clear H
                                    have H := H1
                                    clear H1
                                    have H' := Aside0.mk H
                                    clear H
                                    go_wp2
                                    go_meet
                                    case rel => exact ⟨_, (true), (by first | rfl | (simp; done) | (simp [*]; done)), H', ⟨by have := HK1.out; have := HJ13.out; have := HJ18.out; have := HJ23.out; have := HJ37.out; first | omega | exact Nat.le_refl _⟩, ⟨by repeat (first | (with_reducible first | exact HB.out | apply below_alloc | apply pw_below_drewN | apply below_drew1) | exact HB.out)⟩⟩
                                  · replace c47 := Bool.eq_false_iff.mpr c47
                                    subst c47
                                    have H1 : (if a0 = 1643 then (chanceryref3_Direction.j5 kj37 a0 (a0 == 1643)) else (chanceryref3_Direction.j5 kj37 a0 (a0 == 1644))) = some r := by rw [if_neg (show ¬ (false = true) by decide)] at H; exact H
                                    clear H
                                    have H := H1
                                    clear H1
                                    by_cases c48 : a0 = 1643
                                    · rw [if_pos c48] at H
                                      have c48b0 : (a0 == 1643) = true := beq_iff_eq.mpr c48
                                      have c48b1 : (a0 != 1643) = false := bne_eq_false_iff_eq.mpr c48
                                      clear c48
                                      (first | rw [c48b0] | (simp only [i64_w, i32_w]; rw [c48b0]) | skip)
                                      have H' := Aside0.mk H
                                      clear H
                                      go_wp2
                                      go_meet
                                      case rel => exact ⟨_, ((a0 == 1643)), (by first | rfl | (simp; done) | (simp [*]; done)), H', ⟨by have := HK1.out; have := HJ13.out; have := HJ18.out; have := HJ23.out; have := HJ37.out; first | omega | exact Nat.le_refl _⟩, ⟨by repeat (first | (with_reducible first | exact HB.out | apply below_alloc | apply pw_below_drewN | apply below_drew1) | exact HB.out)⟩⟩
                                    · rw [if_neg c48] at H
                                      have c48b0 : (a0 == 1643) = false := beq_eq_false_iff_ne.mpr c48
                                      have c48b1 : (a0 != 1643) = true := bne_iff_ne.mpr c48
                                      (first | rw [c48b0] | (simp only [i64_w, i32_w]; rw [c48b0]) | skip)
                                      have H' := Aside0.mk H
                                      clear H
                                      go_wp2
                                      go_meet
                                      case rel => exact ⟨_, ((a0 == 1644)), (by first | rfl | (simp; done) | (simp [*]; done)), H', ⟨by have := HK1.out; have := HJ13.out; have := HJ18.out; have := HJ23.out; have := HJ37.out; first | omega | exact Nat.le_refl _⟩, ⟨by repeat (first | (with_reducible first | exact HB.out | apply below_alloc | apply pw_below_drewN | apply below_drew1) | exact HB.out)⟩⟩
                                case rest => as_aux_lemma =>
                                  clear HC46
                                  try clear c1
                                  try clear p1
                                  try clear q1
                                  try clear hx1
                                  try clear c2
                                  try clear p2
                                  try clear c3
                                  try clear c4
                                  try clear c5
                                  try clear c5b0
                                  try clear c6
                                  try clear c6b0
                                  try clear p6
                                  try clear c7
                                  try clear c7b0
                                  try clear c9
                                  try clear p11
                                  try clear q11
                                  try clear hx11
                                  try clear c15
                                  try clear c15b0
                                  try clear c15b1
                                  try clear c16
                                  try clear c16b0
                                  try clear c16b1
                                  try clear c17
                                  try clear c20
                                  try clear c21
                                  try clear c21b0
                                  try clear c21b1
                                  try clear c22
                                  try clear c25
                                  try clear c27
                                  try clear c28
                                  try clear c28b0
                                  try clear c28b1
                                  try clear c29
                                  try clear c29b0
                                  try clear c29b1
                                  try clear c30
                                  try clear c30b0
                                  try clear c30b1
                                  try clear c32
                                  try clear c34
                                  try clear c36
                                  try clear c39
                                  try clear c41
                                  try clear c42
                                  try clear c42b0
                                  try clear c42b1
                                  try clear c44
                                  try clear c47
                                  try clear c48
                                  try clear c48b0
                                  try clear c48b1
                                  try clear hcz11_0
                                  try clear hcz11_1
                                  try clear hcz11_2
                                  try clear hcz13_0
                                  try clear hcz13_1
                                  try clear hcz13_2
                                  try clear hfz11_0
                                  try clear hfz11_1
                                  try clear hfz11_2
                                  try clear hfz13_0
                                  try clear hfz13_1
                                  try clear hfz13_2
                                  try clear hx113_0
                                  try clear hx113_1
                                  try clear hx113_2
                                  try clear p1
                                  try clear p11
                                  try clear p113
                                  try clear p2
                                  try clear p6
                                  try clear q1
                                  try clear q11
                                  try clear q113
                                  obtain ⟨kq, x79_45, rfl, HA, HJ45, HB⟩ := hcut
                                  cases kq with
                                  | zero => exact absurd HA.out (by simp [chanceryref3_Direction.j5])
                                  | succ kj45 =>
                                    have H := HA.out
                                    clear HA
                                    simp only [chanceryref3_Direction.j5] at H
                                    by_cases c49 : x79_45 = true
                                    · subst c49
                                      have H1 : (some 6) = some r := by rw [if_pos rfl] at H; exact H
                                      clear H
                                      have H := H1
                                      clear H1
                                      obtain rfl := Option.some.inj H
                                      go_wp2
                                      go_ret
                                      exact ⟨by first | rfl | (simp [errW_none, errW_some] <;> rfl) | (simp [*, errW_none, errW_some] <;> rfl), by repeat (first | (with_reducible first | exact HB.out | apply below_alloc | apply pw_below_drewN | apply below_drew1) | exact HB.out)⟩
                                    · replace c49 := Bool.eq_false_iff.mpr c49
                                      subst c49
                                      have H1 : ((chanceryref3_In.f a0 1776 1785).bind fun t126 => (if t126 = true then (some 3) else ((chanceryref3_In.f a0 1536 1983).bind fun t127 => (if t127 = true then (chanceryref3_Direction.j6 kj45 a0 t127) else ((chanceryref3_In.f a0 2144 2303).bind fun t128 => (if t128 = true then (chanceryref3_Direction.j6 kj45 a0 t128) else ((chanceryref3_In.f a0 64336 65023).bind fun t129 => (if t129 = true then (chanceryref3_Direction.j6 kj45 a0 t129) else ((chanceryref3_In.f a0 65136 65278).bind fun t130 => (chanceryref3_Direction.j6 kj45 a0 t130)))))))))) = some r := by rw [if_neg (show ¬ (false = true) by decide)] at H; exact H
                                      clear H
                                      have H := H1
                                      clear H1
                                      replace H := Option.bind_eq_some_iff.mp H
                                      obtain ⟨t126, A500, H⟩ := H
                                      replace H : (if t126 = true then (some 3) else ((chanceryref3_In.f a0 1536 1983).bind fun t127 => (if t127 = true then (chanceryref3_Direction.j6 kj45 a0 t127) else ((chanceryref3_In.f a0 2144 2303).bind fun t128 => (if t128 = true then (chanceryref3_Direction.j6 kj45 a0 t128) else ((chanceryref3_In.f a0 64336 65023).bind fun t129 => (if t129 = true then (chanceryref3_Direction.j6 kj45 a0 t129) else ((chanceryref3_In.f a0 65136 65278).bind fun t130 => (chanceryref3_Direction.j6 kj45 a0 t130))))))))) = some r := H
                                      have A50 := Aside0.mk A500
                                      clear A500
                                      by_cases c51 : t126 = true
                                      · subst c51
                                        have H1 : (some 3) = some r := by rw [if_pos rfl] at H; exact H
                                        clear H
                                        have H := H1
                                        clear H1
                                        obtain rfl := Option.some.inj H
                                        go_wp2_with (first | ((with_reducible refine gate_callee (f := 16) rfl ?_); refine goesL_ (some 88) rfl rfl Tryd.func16 (by kernel_rfl) rfl #[.int .i64 a0, .int .i64 1776, .int .i64 1785] rfl (by (try simp only [List.map_toArray, List.map_cons, List.map_nil]); first | done | rfl | (simp only [List.length_drop, List.length_take]; rfl)) ?_; (with_reducible refine (chanceryref3_In.calls a0 1776 1785 true _ A50.out).mono ?_); rintro e w' ⟨rfl, ⟨nd, rfl⟩⟩; refine ⟨_, rfl, ?_⟩))
                                        go_ret
                                        exact ⟨by first | rfl | (simp [errW_none, errW_some] <;> rfl) | (simp [*, errW_none, errW_some] <;> rfl), by repeat (first | (with_reducible first | exact HB.out | apply below_alloc | apply pw_below_drewN | apply below_drew1) | exact HB.out)⟩
                                      · replace c51 := Bool.eq_false_iff.mpr c51
                                        subst c51
                                        have H1 : ((chanceryref3_In.f a0 1536 1983).bind fun t127 => (if t127 = true then (chanceryref3_Direction.j6 kj45 a0 t127) else ((chanceryref3_In.f a0 2144 2303).bind fun t128 => (if t128 = true then (chanceryref3_Direction.j6 kj45 a0 t128) else ((chanceryref3_In.f a0 64336 65023).bind fun t129 => (if t129 = true then (chanceryref3_Direction.j6 kj45 a0 t129) else ((chanceryref3_In.f a0 65136 65278).bind fun t130 => (chanceryref3_Direction.j6 kj45 a0 t130)))))))) = some r := by rw [if_neg (show ¬ (false = true) by decide)] at H; exact H
                                        clear H
                                        have H := H1
                                        clear H1
                                        replace H := Option.bind_eq_some_iff.mp H
                                        obtain ⟨t127, A520, H⟩ := H
                                        replace H : (if t127 = true then (chanceryref3_Direction.j6 kj45 a0 t127) else ((chanceryref3_In.f a0 2144 2303).bind fun t128 => (if t128 = true then (chanceryref3_Direction.j6 kj45 a0 t128) else ((chanceryref3_In.f a0 64336 65023).bind fun t129 => (if t129 = true then (chanceryref3_Direction.j6 kj45 a0 t129) else ((chanceryref3_In.f a0 65136 65278).bind fun t130 => (chanceryref3_Direction.j6 kj45 a0 t130))))))) = some r := H
                                        have A52 := Aside0.mk A520
                                        clear A520
                                        have HC53 := Aside0.mk H
                                        clear H
                                        go_upto_if 89 with (first | ((with_reducible refine gate_callee (f := 16) rfl ?_); refine goesL_ (some 88) rfl rfl Tryd.func16 (by kernel_rfl) rfl #[.int .i64 a0, .int .i64 1776, .int .i64 1785] rfl (by (try simp only [List.map_toArray, List.map_cons, List.map_nil]); first | done | rfl | (simp only [List.length_drop, List.length_take]; rfl)) ?_; (with_reducible refine (chanceryref3_In.calls a0 1776 1785 false _ A50.out).mono ?_); rintro e w' ⟨rfl, ⟨nd, rfl⟩⟩; refine ⟨_, rfl, ?_⟩) | ((with_reducible refine gate_callee (f := 16) rfl ?_); refine goesL_ (some 91) rfl rfl Tryd.func16 (by kernel_rfl) rfl #[.int .i64 a0, .int .i64 1536, .int .i64 1983] rfl (by (try simp only [List.map_toArray, List.map_cons, List.map_nil]); first | done | rfl | (simp only [List.length_drop, List.length_take]; rfl)) ?_; (with_reducible refine (chanceryref3_In.calls a0 1536 1983 t127 _ A52.out).mono ?_); rintro e w' ⟨rfl, ⟨nd, rfl⟩⟩; refine ⟨_, rfl, ?_⟩))
                                        (try simp only [Act.put, List.setIfInBounds_toArray, List.set_cons_zero, List.set_cons_succ])
                                        go_cut [89] (fun v89 wc => ∃ (kq : Nat) (x89_52 : Bool), v89 = .bool x89_52 ∧ Aside0 (chanceryref3_Direction.j6 kq a0 x89_52 = some r) ∧ Aside0 (kq ≤ kj45) ∧ Aside0 (Below w.heap.size w wc))
                                        case first => as_aux_lemma =>
                                          have H := HC53.out
                                          clear HC53
                                          by_cases c54 : t127 = true
                                          · subst c54
                                            have H1 : (chanceryref3_Direction.j6 kj45 a0 true) = some r := by rw [if_pos rfl] at H; exact H
                                            clear H
                                            have H := H1
                                            clear H1
                                            have H' := Aside0.mk H
                                            clear H
                                            go_wp2
                                            go_meet
                                            case rel => exact ⟨_, (true), (by first | rfl | (simp; done) | (simp [*]; done)), H', ⟨by have := HK1.out; have := HJ13.out; have := HJ18.out; have := HJ23.out; have := HJ37.out; have := HJ45.out; first | omega | exact Nat.le_refl _⟩, ⟨by repeat (first | (with_reducible first | exact HB.out | apply below_alloc | apply pw_below_drewN | apply below_drew1) | exact HB.out)⟩⟩
                                          · replace c54 := Bool.eq_false_iff.mpr c54
                                            subst c54
                                            have H1 : ((chanceryref3_In.f a0 2144 2303).bind fun t128 => (if t128 = true then (chanceryref3_Direction.j6 kj45 a0 t128) else ((chanceryref3_In.f a0 64336 65023).bind fun t129 => (if t129 = true then (chanceryref3_Direction.j6 kj45 a0 t129) else ((chanceryref3_In.f a0 65136 65278).bind fun t130 => (chanceryref3_Direction.j6 kj45 a0 t130)))))) = some r := by rw [if_neg (show ¬ (false = true) by decide)] at H; exact H
                                            clear H
                                            have H := H1
                                            clear H1
                                            replace H := Option.bind_eq_some_iff.mp H
                                            obtain ⟨t128, A550, H⟩ := H
                                            replace H : (if t128 = true then (chanceryref3_Direction.j6 kj45 a0 t128) else ((chanceryref3_In.f a0 64336 65023).bind fun t129 => (if t129 = true then (chanceryref3_Direction.j6 kj45 a0 t129) else ((chanceryref3_In.f a0 65136 65278).bind fun t130 => (chanceryref3_Direction.j6 kj45 a0 t130))))) = some r := H
                                            have A55 := Aside0.mk A550
                                            clear A550
                                            by_cases c56 : t128 = true
                                            · subst c56
                                              have H1 : (chanceryref3_Direction.j6 kj45 a0 true) = some r := by rw [if_pos rfl] at H; exact H
                                              clear H
                                              have H := H1
                                              clear H1
                                              have H' := Aside0.mk H
                                              clear H
                                              go_wp2_with (first | ((with_reducible refine gate_callee (f := 16) rfl ?_); refine goesL_ (some 93) rfl rfl Tryd.func16 (by kernel_rfl) rfl #[.int .i64 a0, .int .i64 2144, .int .i64 2303] rfl (by (try simp only [List.map_toArray, List.map_cons, List.map_nil]); first | done | rfl | (simp only [List.length_drop, List.length_take]; rfl)) ?_; (with_reducible refine (chanceryref3_In.calls a0 2144 2303 true _ A55.out).mono ?_); rintro e w' ⟨rfl, ⟨nd, rfl⟩⟩; refine ⟨_, rfl, ?_⟩))
                                              go_meet
                                              case rel => exact ⟨_, (true), (by first | rfl | (simp; done) | (simp [*]; done)), H', ⟨by have := HK1.out; have := HJ13.out; have := HJ18.out; have := HJ23.out; have := HJ37.out; have := HJ45.out; first | omega | exact Nat.le_refl _⟩, ⟨by repeat (first | (with_reducible first | exact HB.out | apply below_alloc | apply pw_below_drewN | apply below_drew1) | exact HB.out)⟩⟩
                                            · replace c56 := Bool.eq_false_iff.mpr c56
                                              subst c56
                                              have H1 : ((chanceryref3_In.f a0 64336 65023).bind fun t129 => (if t129 = true then (chanceryref3_Direction.j6 kj45 a0 t129) else ((chanceryref3_In.f a0 65136 65278).bind fun t130 => (chanceryref3_Direction.j6 kj45 a0 t130)))) = some r := by rw [if_neg (show ¬ (false = true) by decide)] at H; exact H
                                              clear H
                                              have H := H1
                                              clear H1
                                              replace H := Option.bind_eq_some_iff.mp H
                                              obtain ⟨t129, A570, H⟩ := H
                                              replace H : (if t129 = true then (chanceryref3_Direction.j6 kj45 a0 t129) else ((chanceryref3_In.f a0 65136 65278).bind fun t130 => (chanceryref3_Direction.j6 kj45 a0 t130))) = some r := H
                                              have A57 := Aside0.mk A570
                                              clear A570
                                              by_cases c58 : t129 = true
                                              · subst c58
                                                have H1 : (chanceryref3_Direction.j6 kj45 a0 true) = some r := by rw [if_pos rfl] at H; exact H
                                                clear H
                                                have H := H1
                                                clear H1
                                                have H' := Aside0.mk H
                                                clear H
                                                go_wp2_with (first | ((with_reducible refine gate_callee (f := 16) rfl ?_); refine goesL_ (some 93) rfl rfl Tryd.func16 (by kernel_rfl) rfl #[.int .i64 a0, .int .i64 2144, .int .i64 2303] rfl (by (try simp only [List.map_toArray, List.map_cons, List.map_nil]); first | done | rfl | (simp only [List.length_drop, List.length_take]; rfl)) ?_; (with_reducible refine (chanceryref3_In.calls a0 2144 2303 false _ A55.out).mono ?_); rintro e w' ⟨rfl, ⟨nd, rfl⟩⟩; refine ⟨_, rfl, ?_⟩) | ((with_reducible refine gate_callee (f := 16) rfl ?_); refine goesL_ (some 95) rfl rfl Tryd.func16 (by kernel_rfl) rfl #[.int .i64 a0, .int .i64 64336, .int .i64 65023] rfl (by (try simp only [List.map_toArray, List.map_cons, List.map_nil]); first | done | rfl | (simp only [List.length_drop, List.length_take]; rfl)) ?_; (with_reducible refine (chanceryref3_In.calls a0 64336 65023 true _ A57.out).mono ?_); rintro e w' ⟨rfl, ⟨nd, rfl⟩⟩; refine ⟨_, rfl, ?_⟩))
                                                go_meet
                                                case rel => exact ⟨_, (true), (by first | rfl | (simp; done) | (simp [*]; done)), H', ⟨by have := HK1.out; have := HJ13.out; have := HJ18.out; have := HJ23.out; have := HJ37.out; have := HJ45.out; first | omega | exact Nat.le_refl _⟩, ⟨by repeat (first | (with_reducible first | exact HB.out | apply below_alloc | apply pw_below_drewN | apply below_drew1) | exact HB.out)⟩⟩
                                              · replace c58 := Bool.eq_false_iff.mpr c58
                                                subst c58
                                                have H1 : ((chanceryref3_In.f a0 65136 65278).bind fun t130 => (chanceryref3_Direction.j6 kj45 a0 t130)) = some r := by rw [if_neg (show ¬ (false = true) by decide)] at H; exact H
                                                clear H
                                                have H := H1
                                                clear H1
                                                replace H := Option.bind_eq_some_iff.mp H
                                                obtain ⟨t130, A590, H⟩ := H
                                                replace H : (chanceryref3_Direction.j6 kj45 a0 t130) = some r := H
                                                have A59 := Aside0.mk A590
                                                clear A590
                                                have H' := Aside0.mk H
                                                clear H
                                                go_wp2_with (first | ((with_reducible refine gate_callee (f := 16) rfl ?_); refine goesL_ (some 93) rfl rfl Tryd.func16 (by kernel_rfl) rfl #[.int .i64 a0, .int .i64 2144, .int .i64 2303] rfl (by (try simp only [List.map_toArray, List.map_cons, List.map_nil]); first | done | rfl | (simp only [List.length_drop, List.length_take]; rfl)) ?_; (with_reducible refine (chanceryref3_In.calls a0 2144 2303 false _ A55.out).mono ?_); rintro e w' ⟨rfl, ⟨nd, rfl⟩⟩; refine ⟨_, rfl, ?_⟩) | ((with_reducible refine gate_callee (f := 16) rfl ?_); refine goesL_ (some 95) rfl rfl Tryd.func16 (by kernel_rfl) rfl #[.int .i64 a0, .int .i64 64336, .int .i64 65023] rfl (by (try simp only [List.map_toArray, List.map_cons, List.map_nil]); first | done | rfl | (simp only [List.length_drop, List.length_take]; rfl)) ?_; (with_reducible refine (chanceryref3_In.calls a0 64336 65023 false _ A57.out).mono ?_); rintro e w' ⟨rfl, ⟨nd, rfl⟩⟩; refine ⟨_, rfl, ?_⟩) | ((with_reducible refine gate_callee (f := 16) rfl ?_); refine goesL_ (some 97) rfl rfl Tryd.func16 (by kernel_rfl) rfl #[.int .i64 a0, .int .i64 65136, .int .i64 65278] rfl (by (try simp only [List.map_toArray, List.map_cons, List.map_nil]); first | done | rfl | (simp only [List.length_drop, List.length_take]; rfl)) ?_; (with_reducible refine (chanceryref3_In.calls a0 65136 65278 t130 _ A59.out).mono ?_); rintro e w' ⟨rfl, ⟨nd, rfl⟩⟩; refine ⟨_, rfl, ?_⟩))
                                                go_meet
                                                case rel => exact ⟨_, (t130), (by first | rfl | (simp; done) | (simp [*]; done)), H', ⟨by have := HK1.out; have := HJ13.out; have := HJ18.out; have := HJ23.out; have := HJ37.out; have := HJ45.out; first | omega | exact Nat.le_refl _⟩, ⟨by repeat (first | (with_reducible first | exact HB.out | apply below_alloc | apply pw_below_drewN | apply below_drew1) | exact HB.out)⟩⟩
                                        case rest => as_aux_lemma =>
                                          clear HC53
                                          try clear c1
                                          try clear p1
                                          try clear q1
                                          try clear hx1
                                          try clear c2
                                          try clear p2
                                          try clear c3
                                          try clear c4
                                          try clear c5
                                          try clear c5b0
                                          try clear c6
                                          try clear c6b0
                                          try clear p6
                                          try clear c7
                                          try clear c7b0
                                          try clear c9
                                          try clear p11
                                          try clear q11
                                          try clear hx11
                                          try clear c15
                                          try clear c15b0
                                          try clear c15b1
                                          try clear c16
                                          try clear c16b0
                                          try clear c16b1
                                          try clear c17
                                          try clear c20
                                          try clear c21
                                          try clear c21b0
                                          try clear c21b1
                                          try clear c22
                                          try clear c25
                                          try clear c27
                                          try clear c28
                                          try clear c28b0
                                          try clear c28b1
                                          try clear c29
                                          try clear c29b0
                                          try clear c29b1
                                          try clear c30
                                          try clear c30b0
                                          try clear c30b1
                                          try clear c32
                                          try clear c34
                                          try clear c36
                                          try clear c39
                                          try clear c41
                                          try clear c42
                                          try clear c42b0
                                          try clear c42b1
                                          try clear c44
                                          try clear c47
                                          try clear c48
                                          try clear c48b0
                                          try clear c48b1
                                          try clear c49
                                          try clear c51
                                          try clear c54
                                          try clear c56
                                          try clear c58
                                          try clear hcz11_0
                                          try clear hcz11_1
                                          try clear hcz11_2
                                          try clear hcz13_0
                                          try clear hcz13_1
                                          try clear hcz13_2
                                          try clear hfz11_0
                                          try clear hfz11_1
                                          try clear hfz11_2
                                          try clear hfz13_0
                                          try clear hfz13_1
                                          try clear hfz13_2
                                          try clear hx113_0
                                          try clear hx113_1
                                          try clear hx113_2
                                          try clear p1
                                          try clear p11
                                          try clear p113
                                          try clear p2
                                          try clear p6
                                          try clear q1
                                          try clear q11
                                          try clear q113
                                          obtain ⟨kq, x89_52, rfl, HA, HJ52, HB⟩ := hcut
                                          cases kq with
                                          | zero => exact absurd HA.out (by simp [chanceryref3_Direction.j6])
                                          | succ kj52 =>
                                            have H := HA.out
                                            clear HA
                                            simp only [chanceryref3_Direction.j6] at H
                                            by_cases c60 : x89_52 = true
                                            · subst c60
                                              have H1 : (some 2) = some r := by rw [if_pos rfl] at H; exact H
                                              clear H
                                              have H := H1
                                              clear H1
                                              obtain rfl := Option.some.inj H
                                              go_wp2
                                              go_ret
                                              exact ⟨by first | rfl | (simp [errW_none, errW_some] <;> rfl) | (simp [*, errW_none, errW_some] <;> rfl), by repeat (first | (with_reducible first | exact HB.out | apply below_alloc | apply pw_below_drewN | apply below_drew1) | exact HB.out)⟩
                                            · replace c60 := Bool.eq_false_iff.mpr c60
                                              subst c60
                                              have H1 : ((chanceryref3_In.f a0 8192 8202).bind fun t131 => (if t131 = true then (chanceryref3_Direction.j7 kj52 a0 t131) else (chanceryref3_Direction.j7 kj52 a0 (a0 == 12288)))) = some r := by rw [if_neg (show ¬ (false = true) by decide)] at H; exact H
                                              clear H
                                              have H := H1
                                              clear H1
                                              replace H := Option.bind_eq_some_iff.mp H
                                              obtain ⟨t131, A610, H⟩ := H
                                              replace H : (if t131 = true then (chanceryref3_Direction.j7 kj52 a0 t131) else (chanceryref3_Direction.j7 kj52 a0 (a0 == 12288))) = some r := H
                                              have A61 := Aside0.mk A610
                                              clear A610
                                              have HC62 := Aside0.mk H
                                              clear H
                                              go_upto_if 98 with (first | ((with_reducible refine gate_callee (f := 16) rfl ?_); refine goesL_ (some 100) rfl rfl Tryd.func16 (by kernel_rfl) rfl #[.int .i64 a0, .int .i64 8192, .int .i64 8202] rfl (by (try simp only [List.map_toArray, List.map_cons, List.map_nil]); first | done | rfl | (simp only [List.length_drop, List.length_take]; rfl)) ?_; (with_reducible refine (chanceryref3_In.calls a0 8192 8202 t131 _ A61.out).mono ?_); rintro e w' ⟨rfl, ⟨nd, rfl⟩⟩; refine ⟨_, rfl, ?_⟩))
                                              (try simp only [Act.put, List.setIfInBounds_toArray, List.set_cons_zero, List.set_cons_succ])
                                              go_cut [98] (fun v98 wc => ∃ (kq : Nat) (x98_61 : Bool), v98 = .bool x98_61 ∧ Aside0 (chanceryref3_Direction.j7 kq a0 x98_61 = some r) ∧ Aside0 (kq ≤ kj52) ∧ Aside0 (Below w.heap.size w wc))
                                              case first => as_aux_lemma =>
                                                have H := HC62.out
                                                clear HC62
                                                by_cases c63 : t131 = true
                                                · subst c63
                                                  have H1 : (chanceryref3_Direction.j7 kj52 a0 true) = some r := by rw [if_pos rfl] at H; exact H
                                                  clear H
                                                  have H := H1
                                                  clear H1
                                                  have H' := Aside0.mk H
                                                  clear H
                                                  go_wp2
                                                  go_meet
                                                  case rel => exact ⟨_, (true), (by first | rfl | (simp; done) | (simp [*]; done)), H', ⟨by have := HK1.out; have := HJ13.out; have := HJ18.out; have := HJ23.out; have := HJ37.out; have := HJ45.out; have := HJ52.out; first | omega | exact Nat.le_refl _⟩, ⟨by repeat (first | (with_reducible first | exact HB.out | apply below_alloc | apply pw_below_drewN | apply below_drew1) | exact HB.out)⟩⟩
                                                · replace c63 := Bool.eq_false_iff.mpr c63
                                                  subst c63
                                                  have H1 : (chanceryref3_Direction.j7 kj52 a0 (a0 == 12288)) = some r := by rw [if_neg (show ¬ (false = true) by decide)] at H; exact H
                                                  clear H
                                                  have H := H1
                                                  clear H1
                                                  have H' := Aside0.mk H
                                                  clear H
                                                  go_wp2
                                                  go_meet
                                                  case rel => exact ⟨_, ((a0 == 12288)), (by first | rfl | (simp; done) | (simp [*]; done)), H', ⟨by have := HK1.out; have := HJ13.out; have := HJ18.out; have := HJ23.out; have := HJ37.out; have := HJ45.out; have := HJ52.out; first | omega | exact Nat.le_refl _⟩, ⟨by repeat (first | (with_reducible first | exact HB.out | apply below_alloc | apply pw_below_drewN | apply below_drew1) | exact HB.out)⟩⟩
                                              case rest => as_aux_lemma =>
                                                clear HC62
                                                try clear c1
                                                try clear p1
                                                try clear q1
                                                try clear hx1
                                                try clear c2
                                                try clear p2
                                                try clear c3
                                                try clear c4
                                                try clear c5
                                                try clear c5b0
                                                try clear c6
                                                try clear c6b0
                                                try clear p6
                                                try clear c7
                                                try clear c7b0
                                                try clear c9
                                                try clear p11
                                                try clear q11
                                                try clear hx11
                                                try clear c15
                                                try clear c15b0
                                                try clear c15b1
                                                try clear c16
                                                try clear c16b0
                                                try clear c16b1
                                                try clear c17
                                                try clear c20
                                                try clear c21
                                                try clear c21b0
                                                try clear c21b1
                                                try clear c22
                                                try clear c25
                                                try clear c27
                                                try clear c28
                                                try clear c28b0
                                                try clear c28b1
                                                try clear c29
                                                try clear c29b0
                                                try clear c29b1
                                                try clear c30
                                                try clear c30b0
                                                try clear c30b1
                                                try clear c32
                                                try clear c34
                                                try clear c36
                                                try clear c39
                                                try clear c41
                                                try clear c42
                                                try clear c42b0
                                                try clear c42b1
                                                try clear c44
                                                try clear c47
                                                try clear c48
                                                try clear c48b0
                                                try clear c48b1
                                                try clear c49
                                                try clear c51
                                                try clear c54
                                                try clear c56
                                                try clear c58
                                                try clear c60
                                                try clear c63
                                                try clear hcz11_0
                                                try clear hcz11_1
                                                try clear hcz11_2
                                                try clear hcz13_0
                                                try clear hcz13_1
                                                try clear hcz13_2
                                                try clear hfz11_0
                                                try clear hfz11_1
                                                try clear hfz11_2
                                                try clear hfz13_0
                                                try clear hfz13_1
                                                try clear hfz13_2
                                                try clear hx113_0
                                                try clear hx113_1
                                                try clear hx113_2
                                                try clear p1
                                                try clear p11
                                                try clear p113
                                                try clear p2
                                                try clear p6
                                                try clear q1
                                                try clear q11
                                                try clear q113
                                                obtain ⟨kq, x98_61, rfl, HA, HJ61, HB⟩ := hcut
                                                cases kq with
                                                | zero => exact absurd HA.out (by simp [chanceryref3_Direction.j7])
                                                | succ kj61 =>
                                                  have H := HA.out
                                                  clear HA
                                                  simp only [chanceryref3_Direction.j7] at H
                                                  by_cases c64 : x98_61 = true
                                                  · subst c64
                                                    have H1 : (some 12) = some r := by rw [if_pos rfl] at H; exact H
                                                    clear H
                                                    have H := H1
                                                    clear H1
                                                    obtain rfl := Option.some.inj H
                                                    go_wp2
                                                    go_ret
                                                    exact ⟨by first | rfl | (simp [errW_none, errW_some] <;> rfl) | (simp [*, errW_none, errW_some] <;> rfl), by repeat (first | (with_reducible first | exact HB.out | apply below_alloc | apply pw_below_drewN | apply below_drew1) | exact HB.out)⟩
                                                  · replace c64 := Bool.eq_false_iff.mpr c64
                                                    subst c64
                                                    have H1 : ((chanceryref3_In.f a0 8203 8205).bind fun t132 => (if t132 = true then (chanceryref3_Direction.j8 kj61 a0 t132) else ((chanceryref3_In.f a0 8288 8293).bind fun t133 => (if t133 = true then (chanceryref3_Direction.j8 kj61 a0 t133) else (chanceryref3_Direction.j8 kj61 a0 (a0 == 65279)))))) = some r := by rw [if_neg (show ¬ (false = true) by decide)] at H; exact H
                                                    clear H
                                                    have H := H1
                                                    clear H1
                                                    replace H := Option.bind_eq_some_iff.mp H
                                                    obtain ⟨t132, A650, H⟩ := H
                                                    replace H : (if t132 = true then (chanceryref3_Direction.j8 kj61 a0 t132) else ((chanceryref3_In.f a0 8288 8293).bind fun t133 => (if t133 = true then (chanceryref3_Direction.j8 kj61 a0 t133) else (chanceryref3_Direction.j8 kj61 a0 (a0 == 65279))))) = some r := H
                                                    have A65 := Aside0.mk A650
                                                    clear A650
                                                    have HC66 := Aside0.mk H
                                                    clear H
                                                    go_upto_if 103 with (first | ((with_reducible refine gate_callee (f := 16) rfl ?_); refine goesL_ (some 105) rfl rfl Tryd.func16 (by kernel_rfl) rfl #[.int .i64 a0, .int .i64 8203, .int .i64 8205] rfl (by (try simp only [List.map_toArray, List.map_cons, List.map_nil]); first | done | rfl | (simp only [List.length_drop, List.length_take]; rfl)) ?_; (with_reducible refine (chanceryref3_In.calls a0 8203 8205 t132 _ A65.out).mono ?_); rintro e w' ⟨rfl, ⟨nd, rfl⟩⟩; refine ⟨_, rfl, ?_⟩))
                                                    (try simp only [Act.put, List.setIfInBounds_toArray, List.set_cons_zero, List.set_cons_succ])
                                                    go_cut [103] (fun v103 wc => ∃ (kq : Nat) (x103_65 : Bool), v103 = .bool x103_65 ∧ Aside0 (chanceryref3_Direction.j8 kq a0 x103_65 = some r) ∧ Aside0 (kq ≤ kj61) ∧ Aside0 (Below w.heap.size w wc))
                                                    case first => as_aux_lemma =>
                                                      have H := HC66.out
                                                      clear HC66
                                                      by_cases c67 : t132 = true
                                                      · subst c67
                                                        have H1 : (chanceryref3_Direction.j8 kj61 a0 true) = some r := by rw [if_pos rfl] at H; exact H
                                                        clear H
                                                        have H := H1
                                                        clear H1
                                                        have H' := Aside0.mk H
                                                        clear H
                                                        go_wp2
                                                        go_meet
                                                        case rel => exact ⟨_, (true), (by first | rfl | (simp; done) | (simp [*]; done)), H', ⟨by have := HK1.out; have := HJ13.out; have := HJ18.out; have := HJ23.out; have := HJ37.out; have := HJ45.out; have := HJ52.out; have := HJ61.out; first | omega | exact Nat.le_refl _⟩, ⟨by repeat (first | (with_reducible first | exact HB.out | apply below_alloc | apply pw_below_drewN | apply below_drew1) | exact HB.out)⟩⟩
                                                      · replace c67 := Bool.eq_false_iff.mpr c67
                                                        subst c67
                                                        have H1 : ((chanceryref3_In.f a0 8288 8293).bind fun t133 => (if t133 = true then (chanceryref3_Direction.j8 kj61 a0 t133) else (chanceryref3_Direction.j8 kj61 a0 (a0 == 65279)))) = some r := by rw [if_neg (show ¬ (false = true) by decide)] at H; exact H
                                                        clear H
                                                        have H := H1
                                                        clear H1
                                                        replace H := Option.bind_eq_some_iff.mp H
                                                        obtain ⟨t133, A680, H⟩ := H
                                                        replace H : (if t133 = true then (chanceryref3_Direction.j8 kj61 a0 t133) else (chanceryref3_Direction.j8 kj61 a0 (a0 == 65279))) = some r := H
                                                        have A68 := Aside0.mk A680
                                                        clear A680
                                                        by_cases c69 : t133 = true
                                                        · subst c69
                                                          have H1 : (chanceryref3_Direction.j8 kj61 a0 true) = some r := by rw [if_pos rfl] at H; exact H
                                                          clear H
                                                          have H := H1
                                                          clear H1
                                                          have H' := Aside0.mk H
                                                          clear H
                                                          go_wp2_with (first | ((with_reducible refine gate_callee (f := 16) rfl ?_); refine goesL_ (some 107) rfl rfl Tryd.func16 (by kernel_rfl) rfl #[.int .i64 a0, .int .i64 8288, .int .i64 8293] rfl (by (try simp only [List.map_toArray, List.map_cons, List.map_nil]); first | done | rfl | (simp only [List.length_drop, List.length_take]; rfl)) ?_; (with_reducible refine (chanceryref3_In.calls a0 8288 8293 true _ A68.out).mono ?_); rintro e w' ⟨rfl, ⟨nd, rfl⟩⟩; refine ⟨_, rfl, ?_⟩))
                                                          go_meet
                                                          case rel => exact ⟨_, (true), (by first | rfl | (simp; done) | (simp [*]; done)), H', ⟨by have := HK1.out; have := HJ13.out; have := HJ18.out; have := HJ23.out; have := HJ37.out; have := HJ45.out; have := HJ52.out; have := HJ61.out; first | omega | exact Nat.le_refl _⟩, ⟨by repeat (first | (with_reducible first | exact HB.out | apply below_alloc | apply pw_below_drewN | apply below_drew1) | exact HB.out)⟩⟩
                                                        · replace c69 := Bool.eq_false_iff.mpr c69
                                                          subst c69
                                                          have H1 : (chanceryref3_Direction.j8 kj61 a0 (a0 == 65279)) = some r := by rw [if_neg (show ¬ (false = true) by decide)] at H; exact H
                                                          clear H
                                                          have H := H1
                                                          clear H1
                                                          have H' := Aside0.mk H
                                                          clear H
                                                          go_wp2_with (first | ((with_reducible refine gate_callee (f := 16) rfl ?_); refine goesL_ (some 107) rfl rfl Tryd.func16 (by kernel_rfl) rfl #[.int .i64 a0, .int .i64 8288, .int .i64 8293] rfl (by (try simp only [List.map_toArray, List.map_cons, List.map_nil]); first | done | rfl | (simp only [List.length_drop, List.length_take]; rfl)) ?_; (with_reducible refine (chanceryref3_In.calls a0 8288 8293 false _ A68.out).mono ?_); rintro e w' ⟨rfl, ⟨nd, rfl⟩⟩; refine ⟨_, rfl, ?_⟩))
                                                          go_meet
                                                          case rel => exact ⟨_, ((a0 == 65279)), (by first | rfl | (simp; done) | (simp [*]; done)), H', ⟨by have := HK1.out; have := HJ13.out; have := HJ18.out; have := HJ23.out; have := HJ37.out; have := HJ45.out; have := HJ52.out; have := HJ61.out; first | omega | exact Nat.le_refl _⟩, ⟨by repeat (first | (with_reducible first | exact HB.out | apply below_alloc | apply pw_below_drewN | apply below_drew1) | exact HB.out)⟩⟩
                                                    case rest => as_aux_lemma =>
                                                      clear HC66
                                                      try clear c1
                                                      try clear p1
                                                      try clear q1
                                                      try clear hx1
                                                      try clear c2
                                                      try clear p2
                                                      try clear c3
                                                      try clear c4
                                                      try clear c5
                                                      try clear c5b0
                                                      try clear c6
                                                      try clear c6b0
                                                      try clear p6
                                                      try clear c7
                                                      try clear c7b0
                                                      try clear c9
                                                      try clear p11
                                                      try clear q11
                                                      try clear hx11
                                                      try clear c15
                                                      try clear c15b0
                                                      try clear c15b1
                                                      try clear c16
                                                      try clear c16b0
                                                      try clear c16b1
                                                      try clear c17
                                                      try clear c20
                                                      try clear c21
                                                      try clear c21b0
                                                      try clear c21b1
                                                      try clear c22
                                                      try clear c25
                                                      try clear c27
                                                      try clear c28
                                                      try clear c28b0
                                                      try clear c28b1
                                                      try clear c29
                                                      try clear c29b0
                                                      try clear c29b1
                                                      try clear c30
                                                      try clear c30b0
                                                      try clear c30b1
                                                      try clear c32
                                                      try clear c34
                                                      try clear c36
                                                      try clear c39
                                                      try clear c41
                                                      try clear c42
                                                      try clear c42b0
                                                      try clear c42b1
                                                      try clear c44
                                                      try clear c47
                                                      try clear c48
                                                      try clear c48b0
                                                      try clear c48b1
                                                      try clear c49
                                                      try clear c51
                                                      try clear c54
                                                      try clear c56
                                                      try clear c58
                                                      try clear c60
                                                      try clear c63
                                                      try clear c64
                                                      try clear c67
                                                      try clear c69
                                                      try clear hcz11_0
                                                      try clear hcz11_1
                                                      try clear hcz11_2
                                                      try clear hcz13_0
                                                      try clear hcz13_1
                                                      try clear hcz13_2
                                                      try clear hfz11_0
                                                      try clear hfz11_1
                                                      try clear hfz11_2
                                                      try clear hfz13_0
                                                      try clear hfz13_1
                                                      try clear hfz13_2
                                                      try clear hx113_0
                                                      try clear hx113_1
                                                      try clear hx113_2
                                                      try clear p1
                                                      try clear p11
                                                      try clear p113
                                                      try clear p2
                                                      try clear p6
                                                      try clear q1
                                                      try clear q11
                                                      try clear q113
                                                      obtain ⟨kq, x103_65, rfl, HA, HJ65, HB⟩ := hcut
                                                      cases kq with
                                                      | zero => exact absurd HA.out (by simp [chanceryref3_Direction.j8])
                                                      | succ kj65 =>
                                                        have H := HA.out
                                                        clear HA
                                                        simp only [chanceryref3_Direction.j8] at H
                                                        by_cases c70 : x103_65 = true
                                                        · subst c70
                                                          have H1 : (some 9) = some r := by rw [if_pos rfl] at H; exact H
                                                          clear H
                                                          have H := H1
                                                          clear H1
                                                          obtain rfl := Option.some.inj H
                                                          go_wp2
                                                          go_ret
                                                          exact ⟨by first | rfl | (simp [errW_none, errW_some] <;> rfl) | (simp [*, errW_none, errW_some] <;> rfl), by repeat (first | (with_reducible first | exact HB.out | apply below_alloc | apply pw_below_drewN | apply below_drew1) | exact HB.out)⟩
                                                        · replace c70 := Bool.eq_false_iff.mpr c70
                                                          subst c70
                                                          have H1 : (if a0 = 8234 then (some 14) else (if a0 = 8235 then (some 15) else (if a0 = 8236 then (some 18) else (if a0 = 8237 then (some 16) else (if a0 = 8238 then (some 17) else (if a0 = 8239 then (some 7) else (if a0 = 8294 then (some 19) else (if a0 = 8295 then (some 20) else (if a0 = 8296 then (some 21) else (if a0 = 8297 then (some 22) else ((chanceryref3_In.f a0 8352 8399).bind fun t134 => (if t134 = true then (some 5) else ((chanceryref3_In.f a0 8208 8287).bind fun t135 => (if t135 = true then (some 13) else ((chanceryref3_In.f a0 8592 11263).bind fun t136 => (if t136 = true then (some 13) else ((chanceryref3_In.f a0 12289 12292).bind fun t137 => (if t137 = true then (some 13) else ((chanceryref3_In.f a0 12296 12320).bind fun t138 => (if t138 = true then (some 13) else ((chanceryref3_In.f a0 65529 65533).bind fun t139 => (if t139 = true then (some 13) else (some 0))))))))))))))))))))))) = some r := by rw [if_neg (show ¬ (false = true) by decide)] at H; exact H
                                                          clear H
                                                          have H := H1
                                                          clear H1
                                                          by_cases c71 : a0 = 8234
                                                          · rw [if_pos c71] at H
                                                            have c71b0 : (a0 == 8234) = true := beq_iff_eq.mpr c71
                                                            have c71b1 : (a0 != 8234) = false := bne_eq_false_iff_eq.mpr c71
                                                            clear c71
                                                            obtain rfl := Option.some.inj H
                                                            go_wp2
                                                            go_ret
                                                            exact ⟨by first | rfl | (simp [errW_none, errW_some] <;> rfl) | (simp [*, errW_none, errW_some] <;> rfl), by repeat (first | (with_reducible first | exact HB.out | apply below_alloc | apply pw_below_drewN | apply below_drew1) | exact HB.out)⟩
                                                          · rw [if_neg c71] at H
                                                            have c71b0 : (a0 == 8234) = false := beq_eq_false_iff_ne.mpr c71
                                                            have c71b1 : (a0 != 8234) = true := bne_iff_ne.mpr c71
                                                            by_cases c72 : a0 = 8235
                                                            · rw [if_pos c72] at H
                                                              have c72b0 : (a0 == 8235) = true := beq_iff_eq.mpr c72
                                                              have c72b1 : (a0 != 8235) = false := bne_eq_false_iff_eq.mpr c72
                                                              clear c72
                                                              obtain rfl := Option.some.inj H
                                                              go_wp2
                                                              go_ret
                                                              exact ⟨by first | rfl | (simp [errW_none, errW_some] <;> rfl) | (simp [*, errW_none, errW_some] <;> rfl), by repeat (first | (with_reducible first | exact HB.out | apply below_alloc | apply pw_below_drewN | apply below_drew1) | exact HB.out)⟩
                                                            · rw [if_neg c72] at H
                                                              have c72b0 : (a0 == 8235) = false := beq_eq_false_iff_ne.mpr c72
                                                              have c72b1 : (a0 != 8235) = true := bne_iff_ne.mpr c72
                                                              by_cases c73 : a0 = 8236
                                                              · rw [if_pos c73] at H
                                                                have c73b0 : (a0 == 8236) = true := beq_iff_eq.mpr c73
                                                                have c73b1 : (a0 != 8236) = false := bne_eq_false_iff_eq.mpr c73
                                                                clear c73
                                                                obtain rfl := Option.some.inj H
                                                                go_wp2
                                                                go_ret
                                                                exact ⟨by first | rfl | (simp [errW_none, errW_some] <;> rfl) | (simp [*, errW_none, errW_some] <;> rfl), by repeat (first | (with_reducible first | exact HB.out | apply below_alloc | apply pw_below_drewN | apply below_drew1) | exact HB.out)⟩
                                                              · rw [if_neg c73] at H
                                                                have c73b0 : (a0 == 8236) = false := beq_eq_false_iff_ne.mpr c73
                                                                have c73b1 : (a0 != 8236) = true := bne_iff_ne.mpr c73
                                                                by_cases c74 : a0 = 8237
                                                                · rw [if_pos c74] at H
                                                                  have c74b0 : (a0 == 8237) = true := beq_iff_eq.mpr c74
                                                                  have c74b1 : (a0 != 8237) = false := bne_eq_false_iff_eq.mpr c74
                                                                  clear c74
                                                                  obtain rfl := Option.some.inj H
                                                                  go_wp2
                                                                  go_ret
                                                                  exact ⟨by first | rfl | (simp [errW_none, errW_some] <;> rfl) | (simp [*, errW_none, errW_some] <;> rfl), by repeat (first | (with_reducible first | exact HB.out | apply below_alloc | apply pw_below_drewN | apply below_drew1) | exact HB.out)⟩
                                                                · rw [if_neg c74] at H
                                                                  have c74b0 : (a0 == 8237) = false := beq_eq_false_iff_ne.mpr c74
                                                                  have c74b1 : (a0 != 8237) = true := bne_iff_ne.mpr c74
                                                                  by_cases c75 : a0 = 8238
                                                                  · rw [if_pos c75] at H
                                                                    have c75b0 : (a0 == 8238) = true := beq_iff_eq.mpr c75
                                                                    have c75b1 : (a0 != 8238) = false := bne_eq_false_iff_eq.mpr c75
                                                                    clear c75
                                                                    obtain rfl := Option.some.inj H
                                                                    go_wp2
                                                                    go_ret
                                                                    exact ⟨by first | rfl | (simp [errW_none, errW_some] <;> rfl) | (simp [*, errW_none, errW_some] <;> rfl), by repeat (first | (with_reducible first | exact HB.out | apply below_alloc | apply pw_below_drewN | apply below_drew1) | exact HB.out)⟩
                                                                  · rw [if_neg c75] at H
                                                                    have c75b0 : (a0 == 8238) = false := beq_eq_false_iff_ne.mpr c75
                                                                    have c75b1 : (a0 != 8238) = true := bne_iff_ne.mpr c75
                                                                    by_cases c76 : a0 = 8239
                                                                    · rw [if_pos c76] at H
                                                                      have c76b0 : (a0 == 8239) = true := beq_iff_eq.mpr c76
                                                                      have c76b1 : (a0 != 8239) = false := bne_eq_false_iff_eq.mpr c76
                                                                      clear c76
                                                                      obtain rfl := Option.some.inj H
                                                                      go_wp2
                                                                      go_ret
                                                                      exact ⟨by first | rfl | (simp [errW_none, errW_some] <;> rfl) | (simp [*, errW_none, errW_some] <;> rfl), by repeat (first | (with_reducible first | exact HB.out | apply below_alloc | apply pw_below_drewN | apply below_drew1) | exact HB.out)⟩
                                                                    · rw [if_neg c76] at H
                                                                      have c76b0 : (a0 == 8239) = false := beq_eq_false_iff_ne.mpr c76
                                                                      have c76b1 : (a0 != 8239) = true := bne_iff_ne.mpr c76
                                                                      by_cases c77 : a0 = 8294
                                                                      · rw [if_pos c77] at H
                                                                        have c77b0 : (a0 == 8294) = true := beq_iff_eq.mpr c77
                                                                        have c77b1 : (a0 != 8294) = false := bne_eq_false_iff_eq.mpr c77
                                                                        clear c77
                                                                        obtain rfl := Option.some.inj H
                                                                        go_wp2
                                                                        go_ret
                                                                        exact ⟨by first | rfl | (simp [errW_none, errW_some] <;> rfl) | (simp [*, errW_none, errW_some] <;> rfl), by repeat (first | (with_reducible first | exact HB.out | apply below_alloc | apply pw_below_drewN | apply below_drew1) | exact HB.out)⟩
                                                                      · rw [if_neg c77] at H
                                                                        have c77b0 : (a0 == 8294) = false := beq_eq_false_iff_ne.mpr c77
                                                                        have c77b1 : (a0 != 8294) = true := bne_iff_ne.mpr c77
                                                                        by_cases c78 : a0 = 8295
                                                                        · rw [if_pos c78] at H
                                                                          have c78b0 : (a0 == 8295) = true := beq_iff_eq.mpr c78
                                                                          have c78b1 : (a0 != 8295) = false := bne_eq_false_iff_eq.mpr c78
                                                                          clear c78
                                                                          obtain rfl := Option.some.inj H
                                                                          go_wp2
                                                                          go_ret
                                                                          exact ⟨by first | rfl | (simp [errW_none, errW_some] <;> rfl) | (simp [*, errW_none, errW_some] <;> rfl), by repeat (first | (with_reducible first | exact HB.out | apply below_alloc | apply pw_below_drewN | apply below_drew1) | exact HB.out)⟩
                                                                        · rw [if_neg c78] at H
                                                                          have c78b0 : (a0 == 8295) = false := beq_eq_false_iff_ne.mpr c78
                                                                          have c78b1 : (a0 != 8295) = true := bne_iff_ne.mpr c78
                                                                          by_cases c79 : a0 = 8296
                                                                          · rw [if_pos c79] at H
                                                                            have c79b0 : (a0 == 8296) = true := beq_iff_eq.mpr c79
                                                                            have c79b1 : (a0 != 8296) = false := bne_eq_false_iff_eq.mpr c79
                                                                            clear c79
                                                                            obtain rfl := Option.some.inj H
                                                                            go_wp2
                                                                            go_ret
                                                                            exact ⟨by first | rfl | (simp [errW_none, errW_some] <;> rfl) | (simp [*, errW_none, errW_some] <;> rfl), by repeat (first | (with_reducible first | exact HB.out | apply below_alloc | apply pw_below_drewN | apply below_drew1) | exact HB.out)⟩
                                                                          · rw [if_neg c79] at H
                                                                            have c79b0 : (a0 == 8296) = false := beq_eq_false_iff_ne.mpr c79
                                                                            have c79b1 : (a0 != 8296) = true := bne_iff_ne.mpr c79
                                                                            by_cases c80 : a0 = 8297
                                                                            · rw [if_pos c80] at H
                                                                              have c80b0 : (a0 == 8297) = true := beq_iff_eq.mpr c80
                                                                              have c80b1 : (a0 != 8297) = false := bne_eq_false_iff_eq.mpr c80
                                                                              clear c80
                                                                              obtain rfl := Option.some.inj H
                                                                              go_wp2
                                                                              go_ret
                                                                              exact ⟨by first | rfl | (simp [errW_none, errW_some] <;> rfl) | (simp [*, errW_none, errW_some] <;> rfl), by repeat (first | (with_reducible first | exact HB.out | apply below_alloc | apply pw_below_drewN | apply below_drew1) | exact HB.out)⟩
                                                                            · rw [if_neg c80] at H
                                                                              have c80b0 : (a0 == 8297) = false := beq_eq_false_iff_ne.mpr c80
                                                                              have c80b1 : (a0 != 8297) = true := bne_iff_ne.mpr c80
                                                                              replace H := Option.bind_eq_some_iff.mp H
                                                                              obtain ⟨t134, A810, H⟩ := H
                                                                              replace H : (if t134 = true then (some 5) else ((chanceryref3_In.f a0 8208 8287).bind fun t135 => (if t135 = true then (some 13) else ((chanceryref3_In.f a0 8592 11263).bind fun t136 => (if t136 = true then (some 13) else ((chanceryref3_In.f a0 12289 12292).bind fun t137 => (if t137 = true then (some 13) else ((chanceryref3_In.f a0 12296 12320).bind fun t138 => (if t138 = true then (some 13) else ((chanceryref3_In.f a0 65529 65533).bind fun t139 => (if t139 = true then (some 13) else (some 0)))))))))))) = some r := H
                                                                              have A81 := Aside0.mk A810
                                                                              clear A810
                                                                              by_cases c82 : t134 = true
                                                                              · subst c82
                                                                                have H1 : (some 5) = some r := by rw [if_pos rfl] at H; exact H
                                                                                clear H
                                                                                have H := H1
                                                                                clear H1
                                                                                obtain rfl := Option.some.inj H
                                                                                go_wp2_with (first | ((with_reducible refine gate_callee (f := 16) rfl ?_); refine goesL_ (some 142) rfl rfl Tryd.func16 (by kernel_rfl) rfl #[.int .i64 a0, .int .i64 8352, .int .i64 8399] rfl (by (try simp only [List.map_toArray, List.map_cons, List.map_nil]); first | done | rfl | (simp only [List.length_drop, List.length_take]; rfl)) ?_; (with_reducible refine (chanceryref3_In.calls a0 8352 8399 true _ A81.out).mono ?_); rintro e w' ⟨rfl, ⟨nd, rfl⟩⟩; refine ⟨_, rfl, ?_⟩))
                                                                                go_ret
                                                                                exact ⟨by first | rfl | (simp [errW_none, errW_some] <;> rfl) | (simp [*, errW_none, errW_some] <;> rfl), by repeat (first | (with_reducible first | exact HB.out | apply below_alloc | apply pw_below_drewN | apply below_drew1) | exact HB.out)⟩
                                                                              · replace c82 := Bool.eq_false_iff.mpr c82
                                                                                subst c82
                                                                                have H1 : ((chanceryref3_In.f a0 8208 8287).bind fun t135 => (if t135 = true then (some 13) else ((chanceryref3_In.f a0 8592 11263).bind fun t136 => (if t136 = true then (some 13) else ((chanceryref3_In.f a0 12289 12292).bind fun t137 => (if t137 = true then (some 13) else ((chanceryref3_In.f a0 12296 12320).bind fun t138 => (if t138 = true then (some 13) else ((chanceryref3_In.f a0 65529 65533).bind fun t139 => (if t139 = true then (some 13) else (some 0))))))))))) = some r := by rw [if_neg (show ¬ (false = true) by decide)] at H; exact H
                                                                                clear H
                                                                                have H := H1
                                                                                clear H1
                                                                                replace H := Option.bind_eq_some_iff.mp H
                                                                                obtain ⟨t135, A830, H⟩ := H
                                                                                replace H : (if t135 = true then (some 13) else ((chanceryref3_In.f a0 8592 11263).bind fun t136 => (if t136 = true then (some 13) else ((chanceryref3_In.f a0 12289 12292).bind fun t137 => (if t137 = true then (some 13) else ((chanceryref3_In.f a0 12296 12320).bind fun t138 => (if t138 = true then (some 13) else ((chanceryref3_In.f a0 65529 65533).bind fun t139 => (if t139 = true then (some 13) else (some 0)))))))))) = some r := H
                                                                                have A83 := Aside0.mk A830
                                                                                clear A830
                                                                                by_cases c84 : t135 = true
                                                                                · subst c84
                                                                                  have H1 : (some 13) = some r := by rw [if_pos rfl] at H; exact H
                                                                                  clear H
                                                                                  have H := H1
                                                                                  clear H1
                                                                                  obtain rfl := Option.some.inj H
                                                                                  go_wp2_with (first | ((with_reducible refine gate_callee (f := 16) rfl ?_); refine goesL_ (some 142) rfl rfl Tryd.func16 (by kernel_rfl) rfl #[.int .i64 a0, .int .i64 8352, .int .i64 8399] rfl (by (try simp only [List.map_toArray, List.map_cons, List.map_nil]); first | done | rfl | (simp only [List.length_drop, List.length_take]; rfl)) ?_; (with_reducible refine (chanceryref3_In.calls a0 8352 8399 false _ A81.out).mono ?_); rintro e w' ⟨rfl, ⟨nd, rfl⟩⟩; refine ⟨_, rfl, ?_⟩) | ((with_reducible refine gate_callee (f := 16) rfl ?_); refine goesL_ (some 145) rfl rfl Tryd.func16 (by kernel_rfl) rfl #[.int .i64 a0, .int .i64 8208, .int .i64 8287] rfl (by (try simp only [List.map_toArray, List.map_cons, List.map_nil]); first | done | rfl | (simp only [List.length_drop, List.length_take]; rfl)) ?_; (with_reducible refine (chanceryref3_In.calls a0 8208 8287 true _ A83.out).mono ?_); rintro e w' ⟨rfl, ⟨nd, rfl⟩⟩; refine ⟨_, rfl, ?_⟩))
                                                                                  go_ret
                                                                                  exact ⟨by first | rfl | (simp [errW_none, errW_some] <;> rfl) | (simp [*, errW_none, errW_some] <;> rfl), by repeat (first | (with_reducible first | exact HB.out | apply below_alloc | apply pw_below_drewN | apply below_drew1) | exact HB.out)⟩
                                                                                · replace c84 := Bool.eq_false_iff.mpr c84
                                                                                  subst c84
                                                                                  have H1 : ((chanceryref3_In.f a0 8592 11263).bind fun t136 => (if t136 = true then (some 13) else ((chanceryref3_In.f a0 12289 12292).bind fun t137 => (if t137 = true then (some 13) else ((chanceryref3_In.f a0 12296 12320).bind fun t138 => (if t138 = true then (some 13) else ((chanceryref3_In.f a0 65529 65533).bind fun t139 => (if t139 = true then (some 13) else (some 0))))))))) = some r := by rw [if_neg (show ¬ (false = true) by decide)] at H; exact H
                                                                                  clear H
                                                                                  have H := H1
                                                                                  clear H1
                                                                                  replace H := Option.bind_eq_some_iff.mp H
                                                                                  obtain ⟨t136, A850, H⟩ := H
                                                                                  replace H : (if t136 = true then (some 13) else ((chanceryref3_In.f a0 12289 12292).bind fun t137 => (if t137 = true then (some 13) else ((chanceryref3_In.f a0 12296 12320).bind fun t138 => (if t138 = true then (some 13) else ((chanceryref3_In.f a0 65529 65533).bind fun t139 => (if t139 = true then (some 13) else (some 0)))))))) = some r := H
                                                                                  have A85 := Aside0.mk A850
                                                                                  clear A850
                                                                                  by_cases c86 : t136 = true
                                                                                  · subst c86
                                                                                    have H1 : (some 13) = some r := by rw [if_pos rfl] at H; exact H
                                                                                    clear H
                                                                                    have H := H1
                                                                                    clear H1
                                                                                    obtain rfl := Option.some.inj H
                                                                                    go_wp2_with (first | ((with_reducible refine gate_callee (f := 16) rfl ?_); refine goesL_ (some 142) rfl rfl Tryd.func16 (by kernel_rfl) rfl #[.int .i64 a0, .int .i64 8352, .int .i64 8399] rfl (by (try simp only [List.map_toArray, List.map_cons, List.map_nil]); first | done | rfl | (simp only [List.length_drop, List.length_take]; rfl)) ?_; (with_reducible refine (chanceryref3_In.calls a0 8352 8399 false _ A81.out).mono ?_); rintro e w' ⟨rfl, ⟨nd, rfl⟩⟩; refine ⟨_, rfl, ?_⟩) | ((with_reducible refine gate_callee (f := 16) rfl ?_); refine goesL_ (some 145) rfl rfl Tryd.func16 (by kernel_rfl) rfl #[.int .i64 a0, .int .i64 8208, .int .i64 8287] rfl (by (try simp only [List.map_toArray, List.map_cons, List.map_nil]); first | done | rfl | (simp only [List.length_drop, List.length_take]; rfl)) ?_; (with_reducible refine (chanceryref3_In.calls a0 8208 8287 false _ A83.out).mono ?_); rintro e w' ⟨rfl, ⟨nd, rfl⟩⟩; refine ⟨_, rfl, ?_⟩) | ((with_reducible refine gate_callee (f := 16) rfl ?_); refine goesL_ (some 147) rfl rfl Tryd.func16 (by kernel_rfl) rfl #[.int .i64 a0, .int .i64 8592, .int .i64 11263] rfl (by (try simp only [List.map_toArray, List.map_cons, List.map_nil]); first | done | rfl | (simp only [List.length_drop, List.length_take]; rfl)) ?_; (with_reducible refine (chanceryref3_In.calls a0 8592 11263 true _ A85.out).mono ?_); rintro e w' ⟨rfl, ⟨nd, rfl⟩⟩; refine ⟨_, rfl, ?_⟩))
                                                                                    go_ret
                                                                                    exact ⟨by first | rfl | (simp [errW_none, errW_some] <;> rfl) | (simp [*, errW_none, errW_some] <;> rfl), by repeat (first | (with_reducible first | exact HB.out | apply below_alloc | apply pw_below_drewN | apply below_drew1) | exact HB.out)⟩
                                                                                  · replace c86 := Bool.eq_false_iff.mpr c86
                                                                                    subst c86
                                                                                    have H1 : ((chanceryref3_In.f a0 12289 12292).bind fun t137 => (if t137 = true then (some 13) else ((chanceryref3_In.f a0 12296 12320).bind fun t138 => (if t138 = true then (some 13) else ((chanceryref3_In.f a0 65529 65533).bind fun t139 => (if t139 = true then (some 13) else (some 0))))))) = some r := by rw [if_neg (show ¬ (false = true) by decide)] at H; exact H
                                                                                    clear H
                                                                                    have H := H1
                                                                                    clear H1
                                                                                    replace H := Option.bind_eq_some_iff.mp H
                                                                                    obtain ⟨t137, A870, H⟩ := H
                                                                                    replace H : (if t137 = true then (some 13) else ((chanceryref3_In.f a0 12296 12320).bind fun t138 => (if t138 = true then (some 13) else ((chanceryref3_In.f a0 65529 65533).bind fun t139 => (if t139 = true then (some 13) else (some 0)))))) = some r := H
                                                                                    have A87 := Aside0.mk A870
                                                                                    clear A870
                                                                                    by_cases c88 : t137 = true
                                                                                    · subst c88
                                                                                      have H1 : (some 13) = some r := by rw [if_pos rfl] at H; exact H
                                                                                      clear H
                                                                                      have H := H1
                                                                                      clear H1
                                                                                      obtain rfl := Option.some.inj H
                                                                                      go_wp2_with (first | ((with_reducible refine gate_callee (f := 16) rfl ?_); refine goesL_ (some 142) rfl rfl Tryd.func16 (by kernel_rfl) rfl #[.int .i64 a0, .int .i64 8352, .int .i64 8399] rfl (by (try simp only [List.map_toArray, List.map_cons, List.map_nil]); first | done | rfl | (simp only [List.length_drop, List.length_take]; rfl)) ?_; (with_reducible refine (chanceryref3_In.calls a0 8352 8399 false _ A81.out).mono ?_); rintro e w' ⟨rfl, ⟨nd, rfl⟩⟩; refine ⟨_, rfl, ?_⟩) | ((with_reducible refine gate_callee (f := 16) rfl ?_); refine goesL_ (some 145) rfl rfl Tryd.func16 (by kernel_rfl) rfl #[.int .i64 a0, .int .i64 8208, .int .i64 8287] rfl (by (try simp only [List.map_toArray, List.map_cons, List.map_nil]); first | done | rfl | (simp only [List.length_drop, List.length_take]; rfl)) ?_; (with_reducible refine (chanceryref3_In.calls a0 8208 8287 false _ A83.out).mono ?_); rintro e w' ⟨rfl, ⟨nd, rfl⟩⟩; refine ⟨_, rfl, ?_⟩) | ((with_reducible refine gate_callee (f := 16) rfl ?_); refine goesL_ (some 147) rfl rfl Tryd.func16 (by kernel_rfl) rfl #[.int .i64 a0, .int .i64 8592, .int .i64 11263] rfl (by (try simp only [List.map_toArray, List.map_cons, List.map_nil]); first | done | rfl | (simp only [List.length_drop, List.length_take]; rfl)) ?_; (with_reducible refine (chanceryref3_In.calls a0 8592 11263 false _ A85.out).mono ?_); rintro e w' ⟨rfl, ⟨nd, rfl⟩⟩; refine ⟨_, rfl, ?_⟩) | ((with_reducible refine gate_callee (f := 16) rfl ?_); refine goesL_ (some 149) rfl rfl Tryd.func16 (by kernel_rfl) rfl #[.int .i64 a0, .int .i64 12289, .int .i64 12292] rfl (by (try simp only [List.map_toArray, List.map_cons, List.map_nil]); first | done | rfl | (simp only [List.length_drop, List.length_take]; rfl)) ?_; (with_reducible refine (chanceryref3_In.calls a0 12289 12292 true _ A87.out).mono ?_); rintro e w' ⟨rfl, ⟨nd, rfl⟩⟩; refine ⟨_, rfl, ?_⟩))
                                                                                      go_ret
                                                                                      exact ⟨by first | rfl | (simp [errW_none, errW_some] <;> rfl) | (simp [*, errW_none, errW_some] <;> rfl), by repeat (first | (with_reducible first | exact HB.out | apply below_alloc | apply pw_below_drewN | apply below_drew1) | exact HB.out)⟩
                                                                                    · replace c88 := Bool.eq_false_iff.mpr c88
                                                                                      subst c88
                                                                                      have H1 : ((chanceryref3_In.f a0 12296 12320).bind fun t138 => (if t138 = true then (some 13) else ((chanceryref3_In.f a0 65529 65533).bind fun t139 => (if t139 = true then (some 13) else (some 0))))) = some r := by rw [if_neg (show ¬ (false = true) by decide)] at H; exact H
                                                                                      clear H
                                                                                      have H := H1
                                                                                      clear H1
                                                                                      replace H := Option.bind_eq_some_iff.mp H
                                                                                      obtain ⟨t138, A890, H⟩ := H
                                                                                      replace H : (if t138 = true then (some 13) else ((chanceryref3_In.f a0 65529 65533).bind fun t139 => (if t139 = true then (some 13) else (some 0)))) = some r := H
                                                                                      have A89 := Aside0.mk A890
                                                                                      clear A890
                                                                                      by_cases c90 : t138 = true
                                                                                      · subst c90
                                                                                        have H1 : (some 13) = some r := by rw [if_pos rfl] at H; exact H
                                                                                        clear H
                                                                                        have H := H1
                                                                                        clear H1
                                                                                        obtain rfl := Option.some.inj H
                                                                                        go_wp2_with (first | ((with_reducible refine gate_callee (f := 16) rfl ?_); refine goesL_ (some 142) rfl rfl Tryd.func16 (by kernel_rfl) rfl #[.int .i64 a0, .int .i64 8352, .int .i64 8399] rfl (by (try simp only [List.map_toArray, List.map_cons, List.map_nil]); first | done | rfl | (simp only [List.length_drop, List.length_take]; rfl)) ?_; (with_reducible refine (chanceryref3_In.calls a0 8352 8399 false _ A81.out).mono ?_); rintro e w' ⟨rfl, ⟨nd, rfl⟩⟩; refine ⟨_, rfl, ?_⟩) | ((with_reducible refine gate_callee (f := 16) rfl ?_); refine goesL_ (some 145) rfl rfl Tryd.func16 (by kernel_rfl) rfl #[.int .i64 a0, .int .i64 8208, .int .i64 8287] rfl (by (try simp only [List.map_toArray, List.map_cons, List.map_nil]); first | done | rfl | (simp only [List.length_drop, List.length_take]; rfl)) ?_; (with_reducible refine (chanceryref3_In.calls a0 8208 8287 false _ A83.out).mono ?_); rintro e w' ⟨rfl, ⟨nd, rfl⟩⟩; refine ⟨_, rfl, ?_⟩) | ((with_reducible refine gate_callee (f := 16) rfl ?_); refine goesL_ (some 147) rfl rfl Tryd.func16 (by kernel_rfl) rfl #[.int .i64 a0, .int .i64 8592, .int .i64 11263] rfl (by (try simp only [List.map_toArray, List.map_cons, List.map_nil]); first | done | rfl | (simp only [List.length_drop, List.length_take]; rfl)) ?_; (with_reducible refine (chanceryref3_In.calls a0 8592 11263 false _ A85.out).mono ?_); rintro e w' ⟨rfl, ⟨nd, rfl⟩⟩; refine ⟨_, rfl, ?_⟩) | ((with_reducible refine gate_callee (f := 16) rfl ?_); refine goesL_ (some 149) rfl rfl Tryd.func16 (by kernel_rfl) rfl #[.int .i64 a0, .int .i64 12289, .int .i64 12292] rfl (by (try simp only [List.map_toArray, List.map_cons, List.map_nil]); first | done | rfl | (simp only [List.length_drop, List.length_take]; rfl)) ?_; (with_reducible refine (chanceryref3_In.calls a0 12289 12292 false _ A87.out).mono ?_); rintro e w' ⟨rfl, ⟨nd, rfl⟩⟩; refine ⟨_, rfl, ?_⟩) | ((with_reducible refine gate_callee (f := 16) rfl ?_); refine goesL_ (some 151) rfl rfl Tryd.func16 (by kernel_rfl) rfl #[.int .i64 a0, .int .i64 12296, .int .i64 12320] rfl (by (try simp only [List.map_toArray, List.map_cons, List.map_nil]); first | done | rfl | (simp only [List.length_drop, List.length_take]; rfl)) ?_; (with_reducible refine (chanceryref3_In.calls a0 12296 12320 true _ A89.out).mono ?_); rintro e w' ⟨rfl, ⟨nd, rfl⟩⟩; refine ⟨_, rfl, ?_⟩))
                                                                                        go_ret
                                                                                        exact ⟨by first | rfl | (simp [errW_none, errW_some] <;> rfl) | (simp [*, errW_none, errW_some] <;> rfl), by repeat (first | (with_reducible first | exact HB.out | apply below_alloc | apply pw_below_drewN | apply below_drew1) | exact HB.out)⟩
                                                                                      · replace c90 := Bool.eq_false_iff.mpr c90
                                                                                        subst c90
                                                                                        have H1 : ((chanceryref3_In.f a0 65529 65533).bind fun t139 => (if t139 = true then (some 13) else (some 0))) = some r := by rw [if_neg (show ¬ (false = true) by decide)] at H; exact H
                                                                                        clear H
                                                                                        have H := H1
                                                                                        clear H1
                                                                                        replace H := Option.bind_eq_some_iff.mp H
                                                                                        obtain ⟨t139, A910, H⟩ := H
                                                                                        replace H : (if t139 = true then (some 13) else (some 0)) = some r := H
                                                                                        have A91 := Aside0.mk A910
                                                                                        clear A910
                                                                                        by_cases c92 : t139 = true
                                                                                        · subst c92
                                                                                          have H1 : (some 13) = some r := by rw [if_pos rfl] at H; exact H
                                                                                          clear H
                                                                                          have H := H1
                                                                                          clear H1
                                                                                          obtain rfl := Option.some.inj H
                                                                                          go_wp2_with (first | ((with_reducible refine gate_callee (f := 16) rfl ?_); refine goesL_ (some 142) rfl rfl Tryd.func16 (by kernel_rfl) rfl #[.int .i64 a0, .int .i64 8352, .int .i64 8399] rfl (by (try simp only [List.map_toArray, List.map_cons, List.map_nil]); first | done | rfl | (simp only [List.length_drop, List.length_take]; rfl)) ?_; (with_reducible refine (chanceryref3_In.calls a0 8352 8399 false _ A81.out).mono ?_); rintro e w' ⟨rfl, ⟨nd, rfl⟩⟩; refine ⟨_, rfl, ?_⟩) | ((with_reducible refine gate_callee (f := 16) rfl ?_); refine goesL_ (some 145) rfl rfl Tryd.func16 (by kernel_rfl) rfl #[.int .i64 a0, .int .i64 8208, .int .i64 8287] rfl (by (try simp only [List.map_toArray, List.map_cons, List.map_nil]); first | done | rfl | (simp only [List.length_drop, List.length_take]; rfl)) ?_; (with_reducible refine (chanceryref3_In.calls a0 8208 8287 false _ A83.out).mono ?_); rintro e w' ⟨rfl, ⟨nd, rfl⟩⟩; refine ⟨_, rfl, ?_⟩) | ((with_reducible refine gate_callee (f := 16) rfl ?_); refine goesL_ (some 147) rfl rfl Tryd.func16 (by kernel_rfl) rfl #[.int .i64 a0, .int .i64 8592, .int .i64 11263] rfl (by (try simp only [List.map_toArray, List.map_cons, List.map_nil]); first | done | rfl | (simp only [List.length_drop, List.length_take]; rfl)) ?_; (with_reducible refine (chanceryref3_In.calls a0 8592 11263 false _ A85.out).mono ?_); rintro e w' ⟨rfl, ⟨nd, rfl⟩⟩; refine ⟨_, rfl, ?_⟩) | ((with_reducible refine gate_callee (f := 16) rfl ?_); refine goesL_ (some 149) rfl rfl Tryd.func16 (by kernel_rfl) rfl #[.int .i64 a0, .int .i64 12289, .int .i64 12292] rfl (by (try simp only [List.map_toArray, List.map_cons, List.map_nil]); first | done | rfl | (simp only [List.length_drop, List.length_take]; rfl)) ?_; (with_reducible refine (chanceryref3_In.calls a0 12289 12292 false _ A87.out).mono ?_); rintro e w' ⟨rfl, ⟨nd, rfl⟩⟩; refine ⟨_, rfl, ?_⟩) | ((with_reducible refine gate_callee (f := 16) rfl ?_); refine goesL_ (some 151) rfl rfl Tryd.func16 (by kernel_rfl) rfl #[.int .i64 a0, .int .i64 12296, .int .i64 12320] rfl (by (try simp only [List.map_toArray, List.map_cons, List.map_nil]); first | done | rfl | (simp only [List.length_drop, List.length_take]; rfl)) ?_; (with_reducible refine (chanceryref3_In.calls a0 12296 12320 false _ A89.out).mono ?_); rintro e w' ⟨rfl, ⟨nd, rfl⟩⟩; refine ⟨_, rfl, ?_⟩) | ((with_reducible refine gate_callee (f := 16) rfl ?_); refine goesL_ (some 153) rfl rfl Tryd.func16 (by kernel_rfl) rfl #[.int .i64 a0, .int .i64 65529, .int .i64 65533] rfl (by (try simp only [List.map_toArray, List.map_cons, List.map_nil]); first | done | rfl | (simp only [List.length_drop, List.length_take]; rfl)) ?_; (with_reducible refine (chanceryref3_In.calls a0 65529 65533 true _ A91.out).mono ?_); rintro e w' ⟨rfl, ⟨nd, rfl⟩⟩; refine ⟨_, rfl, ?_⟩))
                                                                                          go_ret
                                                                                          exact ⟨by first | rfl | (simp [errW_none, errW_some] <;> rfl) | (simp [*, errW_none, errW_some] <;> rfl), by repeat (first | (with_reducible first | exact HB.out | apply below_alloc | apply pw_below_drewN | apply below_drew1) | exact HB.out)⟩
                                                                                        · replace c92 := Bool.eq_false_iff.mpr c92
                                                                                          subst c92
                                                                                          have H1 : (some 0) = some r := by rw [if_neg (show ¬ (false = true) by decide)] at H; exact H
                                                                                          clear H
                                                                                          have H := H1
                                                                                          clear H1
                                                                                          obtain rfl := Option.some.inj H
                                                                                          go_wp2_with (first | ((with_reducible refine gate_callee (f := 16) rfl ?_); refine goesL_ (some 142) rfl rfl Tryd.func16 (by kernel_rfl) rfl #[.int .i64 a0, .int .i64 8352, .int .i64 8399] rfl (by (try simp only [List.map_toArray, List.map_cons, List.map_nil]); first | done | rfl | (simp only [List.length_drop, List.length_take]; rfl)) ?_; (with_reducible refine (chanceryref3_In.calls a0 8352 8399 false _ A81.out).mono ?_); rintro e w' ⟨rfl, ⟨nd, rfl⟩⟩; refine ⟨_, rfl, ?_⟩) | ((with_reducible refine gate_callee (f := 16) rfl ?_); refine goesL_ (some 145) rfl rfl Tryd.func16 (by kernel_rfl) rfl #[.int .i64 a0, .int .i64 8208, .int .i64 8287] rfl (by (try simp only [List.map_toArray, List.map_cons, List.map_nil]); first | done | rfl | (simp only [List.length_drop, List.length_take]; rfl)) ?_; (with_reducible refine (chanceryref3_In.calls a0 8208 8287 false _ A83.out).mono ?_); rintro e w' ⟨rfl, ⟨nd, rfl⟩⟩; refine ⟨_, rfl, ?_⟩) | ((with_reducible refine gate_callee (f := 16) rfl ?_); refine goesL_ (some 147) rfl rfl Tryd.func16 (by kernel_rfl) rfl #[.int .i64 a0, .int .i64 8592, .int .i64 11263] rfl (by (try simp only [List.map_toArray, List.map_cons, List.map_nil]); first | done | rfl | (simp only [List.length_drop, List.length_take]; rfl)) ?_; (with_reducible refine (chanceryref3_In.calls a0 8592 11263 false _ A85.out).mono ?_); rintro e w' ⟨rfl, ⟨nd, rfl⟩⟩; refine ⟨_, rfl, ?_⟩) | ((with_reducible refine gate_callee (f := 16) rfl ?_); refine goesL_ (some 149) rfl rfl Tryd.func16 (by kernel_rfl) rfl #[.int .i64 a0, .int .i64 12289, .int .i64 12292] rfl (by (try simp only [List.map_toArray, List.map_cons, List.map_nil]); first | done | rfl | (simp only [List.length_drop, List.length_take]; rfl)) ?_; (with_reducible refine (chanceryref3_In.calls a0 12289 12292 false _ A87.out).mono ?_); rintro e w' ⟨rfl, ⟨nd, rfl⟩⟩; refine ⟨_, rfl, ?_⟩) | ((with_reducible refine gate_callee (f := 16) rfl ?_); refine goesL_ (some 151) rfl rfl Tryd.func16 (by kernel_rfl) rfl #[.int .i64 a0, .int .i64 12296, .int .i64 12320] rfl (by (try simp only [List.map_toArray, List.map_cons, List.map_nil]); first | done | rfl | (simp only [List.length_drop, List.length_take]; rfl)) ?_; (with_reducible refine (chanceryref3_In.calls a0 12296 12320 false _ A89.out).mono ?_); rintro e w' ⟨rfl, ⟨nd, rfl⟩⟩; refine ⟨_, rfl, ?_⟩) | ((with_reducible refine gate_callee (f := 16) rfl ?_); refine goesL_ (some 153) rfl rfl Tryd.func16 (by kernel_rfl) rfl #[.int .i64 a0, .int .i64 65529, .int .i64 65533] rfl (by (try simp only [List.map_toArray, List.map_cons, List.map_nil]); first | done | rfl | (simp only [List.length_drop, List.length_take]; rfl)) ?_; (with_reducible refine (chanceryref3_In.calls a0 65529 65533 false _ A91.out).mono ?_); rintro e w' ⟨rfl, ⟨nd, rfl⟩⟩; refine ⟨_, rfl, ?_⟩))
                                                                                          go_ret
                                                                                          exact ⟨by first | rfl | (simp [errW_none, errW_some] <;> rfl) | (simp [*, errW_none, errW_some] <;> rfl), by repeat (first | (with_reducible first | exact HB.out | apply below_alloc | apply pw_below_drewN | apply below_drew1) | exact HB.out)⟩

end Go.Proofs.YtihmbddneapooaaDoor.QBC
