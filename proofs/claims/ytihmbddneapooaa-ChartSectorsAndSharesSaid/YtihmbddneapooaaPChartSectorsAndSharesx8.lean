-- PRINTED BY print.sh 35421559b90ae4d0a3588c463048766b98c2df88dd9212a6774a882060cdf62d: not written by this session
import Derived.Test.YtihmbddneapooaaPChartSectorsAndSharesx0
import Derived.Test.YtihmbddneapooaaPChartSectorsAndSharesx1
import Derived.Test.YtihmbddneapooaaPChartSectorsAndSharesx2
import Derived.Test.YtihmbddneapooaaPChartSectorsAndSharesx3
import Derived.Test.YtihmbddneapooaaPChartSectorsAndSharesx5
import Derived.Test.YtihmbddneapooaaPChartSectorsAndSharesx6
import Derived.Test.YtihmbddneapooaaPChartSectorsAndSharesx7
namespace Go.Proofs.Ytihmbddneapooaa.PChartSectorsAndShares
open Go.RowKit Go.Proofs.YtihmbddneapooaaW.PrintWords Go.Proofs.YtihmbddneapooaaW.PrintLast Go.Proofs.YtihmbddneapooaaW.PrintMore
attribute [local go_sem] max2_int min2_int max_two min_two max_three min_three max_four min_four   -- for this text's walks alone
set_option linter.unusedVariables false
set_option linter.unusedSimpArgs false

attribute [local go_sem high] eqA61
/-! ### chancerylaw3_ChartSectorsAndShares: function 8 -/
mutual
def chancerylaw3_ChartSectorsAndShares.j0 : Nat → List Int → Bool → Int → List ByteArray → List (List Int) → Option (Bool)
  | 0, _, _, _, _, _ => none
  | k + 1, x1, x30, x160000, x160001, x160002 => if x30 = true then (some false) else ((chart_Sectors.f k x160000 x160001 x160002).bind fun bt171 => ((chancerylaw3_chartError.f k x160000 x160001 x160002).bind fun t175 => (if t175 = 0 then (chancerylaw3_ChartSectorsAndShares.j1 k x1 bt171.1 bt171.2 t175 (x160000 != 3) x160000 x160001 x160002) else (chancerylaw3_ChartSectorsAndShares.j1 k x1 bt171.1 bt171.2 t175 false x160000 x160001 x160002))))
def chancerylaw3_ChartSectorsAndShares.j1 : Nat → List Int → List (S61) → Int → Int → Bool → Int → List ByteArray → List (List Int) → Option (Bool)
  | 0, _, _, _, _, _, _, _, _ => none
  | k + 1, x1, x7, x8, x9, x44, x160000, x160001, x160002 => if x44 = true then (chancerylaw3_ChartSectorsAndShares.j2 k x1 x7 x8 8 x160000 x160001 x160002) else (chancerylaw3_ChartSectorsAndShares.j2 k x1 x7 x8 x9 x160000 x160001 x160002)
def chancerylaw3_ChartSectorsAndShares.j2 : Nat → List Int → List (S61) → Int → Int → Int → List ByteArray → List (List Int) → Option (Bool)
  | 0, _, _, _, _, _, _, _ => none
  | k + 1, x1, x7, x8, x9, x160000, x160001, x160002 => if x9 = 0 then (if 0 < (x160002.length : Int) then (chancerylaw3_ChartSectorsAndShares.l0 k x1 x7 x8 0 (rd_L2 x160002 0) ((rd_L2 x160002 0).length : Int) 0 x160000 x160001 x160002) else (none)) else (if x8 = x9 then (if (x7.length : Int) = 0 then ((chancerylaw3_sharesRight.f k x1).bind fun t176 => (some t176)) else (some false)) else (some false))
def chancerylaw3_ChartSectorsAndShares.l0 : Nat → List Int → List (S61) → Int → Int → List Int → Int → Int → Int → List ByteArray → List (List Int) → Option (Bool)
  | 0, _, _, _, _, _, _, _, _, _, _ => none
  | k + 1, x1, x7, x8, x10, x62, x63, x64, x160000, x160001, x160002 => if x64 < x63 then (if 0 ≤ x64 then (if x64 < (x62.length : Int) then (chancerylaw3_ChartSectorsAndShares.l0 k x1 x7 x8 (wrap64 (x10 + (rd x62 x64))) x62 x63 (wrap64 (x64 + 1)) x160000 x160001 x160002) else (none)) else (none)) else (if x8 = 0 then (chancerylaw3_ChartSectorsAndShares.j4 k x1 x7 x10 ((x7.length : Int) != (x160001.length : Int)) x160000 x160001 x160002) else (chancerylaw3_ChartSectorsAndShares.j4 k x1 x7 x10 true x160000 x160001 x160002))
def chancerylaw3_ChartSectorsAndShares.j4 : Nat → List Int → List (S61) → Int → Bool → Int → List ByteArray → List (List Int) → Option (Bool)
  | 0, _, _, _, _, _, _, _ => none
  | k + 1, x1, x7, x10, x81, x160000, x160001, x160002 => if x81 = true then (some false) else (if 0 < (x160002.length : Int) then (chancerylaw3_ChartSectorsAndShares.l1 k x1 x7 x10 0 0 (rd_L2 x160002 0) ((rd_L2 x160002 0).length : Int) 0) else (none))
def chancerylaw3_ChartSectorsAndShares.l1 : Nat → List Int → List (S61) → Int → Int → Int → List Int → Int → Int → Option (Bool)
  | 0, _, _, _, _, _, _, _, _ => none
  | k + 1, x1, x7, x10, x13, x14, x85, x86, x87 => if x87 < x86 then (if 0 ≤ x87 then (if x87 < (x85.length : Int) then (if x10 > 0 then ((chanceryref3_Near.f (wrap64 ((wrap64 (x13 + (rd x85 x87))) * 3600)) x10).bind fun t182 => (if x87 < (x7.length : Int) then (if (!(((rd_T61 x7 x87).f0) == x87) || (!(((rd_T61 x7 x87).f1) == x14) || (!(((rd_T61 x7 x87).f2) == t182)))) = true then (some false) else (chancerylaw3_ChartSectorsAndShares.l1 k x1 x7 x10 (wrap64 (x13 + (rd x85 x87))) t182 x85 x86 (wrap64 (x87 + 1)))) else (none))) else (if x87 < (x7.length : Int) then (if (!(((rd_T61 x7 x87).f0) == x87) || (!(((rd_T61 x7 x87).f1) == x14) || (!(((rd_T61 x7 x87).f2) == 0)))) = true then (some false) else (chancerylaw3_ChartSectorsAndShares.l1 k x1 x7 x10 (wrap64 (x13 + (rd x85 x87))) 0 x85 x86 (wrap64 (x87 + 1)))) else (none))) else (none)) else (none)) else ((chancerylaw3_sharesRight.f k x1).bind fun t180 => (some t180))
end
def chancerylaw3_ChartSectorsAndShares.f (k : Nat) (a0_0 : Int) (l0_1 : List ByteArray) (l0_2 : List (List Int)) (l1 : List Int) : Option (Bool) := (chart_Shares.f k (([1, 1, 1] : List Int))).bind fun bt163 => (if bt163.2 = 0 then ((chanceryref3_SameInts.f k bt163.1 (([334, 333, 333] : List Int))).bind fun t170 => (chancerylaw3_ChartSectorsAndShares.j0 k l1 (!t170) a0_0 l0_1 l0_2)) else (chancerylaw3_ChartSectorsAndShares.j0 k l1 true a0_0 l0_1 l0_2))
theorem chancerylaw3_ChartSectorsAndShares.mono_l : ∀ k, (∀ y0 y1 y2 y3 y4, LeO (chancerylaw3_ChartSectorsAndShares.j0 k y0 y1 y2 y3 y4) (chancerylaw3_ChartSectorsAndShares.j0 (k + 1) y0 y1 y2 y3 y4)) ∧ (∀ y0 y1 y2 y3 y4 y5 y6 y7, LeO (chancerylaw3_ChartSectorsAndShares.j1 k y0 y1 y2 y3 y4 y5 y6 y7) (chancerylaw3_ChartSectorsAndShares.j1 (k + 1) y0 y1 y2 y3 y4 y5 y6 y7)) ∧ (∀ y0 y1 y2 y3 y4 y5 y6, LeO (chancerylaw3_ChartSectorsAndShares.j2 k y0 y1 y2 y3 y4 y5 y6) (chancerylaw3_ChartSectorsAndShares.j2 (k + 1) y0 y1 y2 y3 y4 y5 y6)) ∧ (∀ y0 y1 y2 y3 y4 y5 y6 y7 y8 y9, LeO (chancerylaw3_ChartSectorsAndShares.l0 k y0 y1 y2 y3 y4 y5 y6 y7 y8 y9) (chancerylaw3_ChartSectorsAndShares.l0 (k + 1) y0 y1 y2 y3 y4 y5 y6 y7 y8 y9)) ∧ (∀ y0 y1 y2 y3 y4 y5 y6, LeO (chancerylaw3_ChartSectorsAndShares.j4 k y0 y1 y2 y3 y4 y5 y6) (chancerylaw3_ChartSectorsAndShares.j4 (k + 1) y0 y1 y2 y3 y4 y5 y6)) ∧ (∀ y0 y1 y2 y3 y4 y5 y6 y7, LeO (chancerylaw3_ChartSectorsAndShares.l1 k y0 y1 y2 y3 y4 y5 y6 y7) (chancerylaw3_ChartSectorsAndShares.l1 (k + 1) y0 y1 y2 y3 y4 y5 y6 y7))
  | 0 => ⟨fun _ _ _ _ _ r h => by simp [chancerylaw3_ChartSectorsAndShares.j0] at h, fun _ _ _ _ _ _ _ _ r h => by simp [chancerylaw3_ChartSectorsAndShares.j1] at h, fun _ _ _ _ _ _ _ r h => by simp [chancerylaw3_ChartSectorsAndShares.j2] at h, fun _ _ _ _ _ _ _ _ _ _ r h => by simp [chancerylaw3_ChartSectorsAndShares.l0] at h, fun _ _ _ _ _ _ _ r h => by simp [chancerylaw3_ChartSectorsAndShares.j4] at h, fun _ _ _ _ _ _ _ _ r h => by simp [chancerylaw3_ChartSectorsAndShares.l1] at h⟩
  | k + 1 => by
    obtain ⟨ih0, ih1, ih2, ih3, ih4, ih5⟩ := chancerylaw3_ChartSectorsAndShares.mono_l k
    refine ⟨?_, ?_, ?_, ?_, ?_, ?_⟩
    · intro y0 y1 y2 y3 y4
      unfold chancerylaw3_ChartSectorsAndShares.j0
      repeat' first
      | (with_reducible exact ih0 _ _ _ _ _)
      | (with_reducible exact ih1 _ _ _ _ _ _ _ _)
      | (with_reducible exact ih2 _ _ _ _ _ _ _)
      | (with_reducible exact ih3 _ _ _ _ _ _ _ _ _ _)
      | (with_reducible exact ih4 _ _ _ _ _ _ _)
      | (with_reducible exact ih5 _ _ _ _ _ _ _ _)
      | (with_reducible exact chancerylaw3_chartError.mono _ _ _ _)
      | (with_reducible exact chancerylaw3_sharesRight.mono _ _)
      | (with_reducible exact chanceryref3_SameInts.mono _ _ _)
      | (with_reducible exact chart_Sectors.mono _ _ _ _)
      | (with_reducible exact chart_Shares.mono _ _)
      | (with_reducible exact LeO.refl _)
      | (with_reducible exact LeO.none _)
      | (with_reducible refine LeO.ite ?_ ?_)
      | (with_reducible refine LeO.bind ?_ (fun _ => ?_))
      | exact ih0 _ _ _ _ _
      | exact ih1 _ _ _ _ _ _ _ _
      | exact ih2 _ _ _ _ _ _ _
      | exact ih3 _ _ _ _ _ _ _ _ _ _
      | exact ih4 _ _ _ _ _ _ _
      | exact ih5 _ _ _ _ _ _ _ _
      | exact chancerylaw3_chartError.mono _ _ _ _
      | exact chancerylaw3_sharesRight.mono _ _
      | exact chanceryref3_SameInts.mono _ _ _
      | exact chart_Sectors.mono _ _ _ _
      | exact chart_Shares.mono _ _
      | exact LeO.none _
      | refine LeO.ite ?_ ?_
      | refine LeO.bind ?_ (fun _ => ?_)
    · intro y0 y1 y2 y3 y4 y5 y6 y7
      unfold chancerylaw3_ChartSectorsAndShares.j1
      repeat' first
      | (with_reducible exact ih0 _ _ _ _ _)
      | (with_reducible exact ih1 _ _ _ _ _ _ _ _)
      | (with_reducible exact ih2 _ _ _ _ _ _ _)
      | (with_reducible exact ih3 _ _ _ _ _ _ _ _ _ _)
      | (with_reducible exact ih4 _ _ _ _ _ _ _)
      | (with_reducible exact ih5 _ _ _ _ _ _ _ _)
      | (with_reducible exact chancerylaw3_chartError.mono _ _ _ _)
      | (with_reducible exact chancerylaw3_sharesRight.mono _ _)
      | (with_reducible exact chanceryref3_SameInts.mono _ _ _)
      | (with_reducible exact chart_Sectors.mono _ _ _ _)
      | (with_reducible exact chart_Shares.mono _ _)
      | (with_reducible exact LeO.refl _)
      | (with_reducible exact LeO.none _)
      | (with_reducible refine LeO.ite ?_ ?_)
      | (with_reducible refine LeO.bind ?_ (fun _ => ?_))
      | exact ih0 _ _ _ _ _
      | exact ih1 _ _ _ _ _ _ _ _
      | exact ih2 _ _ _ _ _ _ _
      | exact ih3 _ _ _ _ _ _ _ _ _ _
      | exact ih4 _ _ _ _ _ _ _
      | exact ih5 _ _ _ _ _ _ _ _
      | exact chancerylaw3_chartError.mono _ _ _ _
      | exact chancerylaw3_sharesRight.mono _ _
      | exact chanceryref3_SameInts.mono _ _ _
      | exact chart_Sectors.mono _ _ _ _
      | exact chart_Shares.mono _ _
      | exact LeO.none _
      | refine LeO.ite ?_ ?_
      | refine LeO.bind ?_ (fun _ => ?_)
    · intro y0 y1 y2 y3 y4 y5 y6
      unfold chancerylaw3_ChartSectorsAndShares.j2
      repeat' first
      | (with_reducible exact ih0 _ _ _ _ _)
      | (with_reducible exact ih1 _ _ _ _ _ _ _ _)
      | (with_reducible exact ih2 _ _ _ _ _ _ _)
      | (with_reducible exact ih3 _ _ _ _ _ _ _ _ _ _)
      | (with_reducible exact ih4 _ _ _ _ _ _ _)
      | (with_reducible exact ih5 _ _ _ _ _ _ _ _)
      | (with_reducible exact chancerylaw3_chartError.mono _ _ _ _)
      | (with_reducible exact chancerylaw3_sharesRight.mono _ _)
      | (with_reducible exact chanceryref3_SameInts.mono _ _ _)
      | (with_reducible exact chart_Sectors.mono _ _ _ _)
      | (with_reducible exact chart_Shares.mono _ _)
      | (with_reducible exact LeO.refl _)
      | (with_reducible exact LeO.none _)
      | (with_reducible refine LeO.ite ?_ ?_)
      | (with_reducible refine LeO.bind ?_ (fun _ => ?_))
      | exact ih0 _ _ _ _ _
      | exact ih1 _ _ _ _ _ _ _ _
      | exact ih2 _ _ _ _ _ _ _
      | exact ih3 _ _ _ _ _ _ _ _ _ _
      | exact ih4 _ _ _ _ _ _ _
      | exact ih5 _ _ _ _ _ _ _ _
      | exact chancerylaw3_chartError.mono _ _ _ _
      | exact chancerylaw3_sharesRight.mono _ _
      | exact chanceryref3_SameInts.mono _ _ _
      | exact chart_Sectors.mono _ _ _ _
      | exact chart_Shares.mono _ _
      | exact LeO.none _
      | refine LeO.ite ?_ ?_
      | refine LeO.bind ?_ (fun _ => ?_)
    · intro y0 y1 y2 y3 y4 y5 y6 y7 y8 y9
      unfold chancerylaw3_ChartSectorsAndShares.l0
      repeat' first
      | (with_reducible exact ih0 _ _ _ _ _)
      | (with_reducible exact ih1 _ _ _ _ _ _ _ _)
      | (with_reducible exact ih2 _ _ _ _ _ _ _)
      | (with_reducible exact ih3 _ _ _ _ _ _ _ _ _ _)
      | (with_reducible exact ih4 _ _ _ _ _ _ _)
      | (with_reducible exact ih5 _ _ _ _ _ _ _ _)
      | (with_reducible exact chancerylaw3_chartError.mono _ _ _ _)
      | (with_reducible exact chancerylaw3_sharesRight.mono _ _)
      | (with_reducible exact chanceryref3_SameInts.mono _ _ _)
      | (with_reducible exact chart_Sectors.mono _ _ _ _)
      | (with_reducible exact chart_Shares.mono _ _)
      | (with_reducible exact LeO.refl _)
      | (with_reducible exact LeO.none _)
      | (with_reducible refine LeO.ite ?_ ?_)
      | (with_reducible refine LeO.bind ?_ (fun _ => ?_))
      | exact ih0 _ _ _ _ _
      | exact ih1 _ _ _ _ _ _ _ _
      | exact ih2 _ _ _ _ _ _ _
      | exact ih3 _ _ _ _ _ _ _ _ _ _
      | exact ih4 _ _ _ _ _ _ _
      | exact ih5 _ _ _ _ _ _ _ _
      | exact chancerylaw3_chartError.mono _ _ _ _
      | exact chancerylaw3_sharesRight.mono _ _
      | exact chanceryref3_SameInts.mono _ _ _
      | exact chart_Sectors.mono _ _ _ _
      | exact chart_Shares.mono _ _
      | exact LeO.none _
      | refine LeO.ite ?_ ?_
      | refine LeO.bind ?_ (fun _ => ?_)
    · intro y0 y1 y2 y3 y4 y5 y6
      unfold chancerylaw3_ChartSectorsAndShares.j4
      repeat' first
      | (with_reducible exact ih0 _ _ _ _ _)
      | (with_reducible exact ih1 _ _ _ _ _ _ _ _)
      | (with_reducible exact ih2 _ _ _ _ _ _ _)
      | (with_reducible exact ih3 _ _ _ _ _ _ _ _ _ _)
      | (with_reducible exact ih4 _ _ _ _ _ _ _)
      | (with_reducible exact ih5 _ _ _ _ _ _ _ _)
      | (with_reducible exact chancerylaw3_chartError.mono _ _ _ _)
      | (with_reducible exact chancerylaw3_sharesRight.mono _ _)
      | (with_reducible exact chanceryref3_SameInts.mono _ _ _)
      | (with_reducible exact chart_Sectors.mono _ _ _ _)
      | (with_reducible exact chart_Shares.mono _ _)
      | (with_reducible exact LeO.refl _)
      | (with_reducible exact LeO.none _)
      | (with_reducible refine LeO.ite ?_ ?_)
      | (with_reducible refine LeO.bind ?_ (fun _ => ?_))
      | exact ih0 _ _ _ _ _
      | exact ih1 _ _ _ _ _ _ _ _
      | exact ih2 _ _ _ _ _ _ _
      | exact ih3 _ _ _ _ _ _ _ _ _ _
      | exact ih4 _ _ _ _ _ _ _
      | exact ih5 _ _ _ _ _ _ _ _
      | exact chancerylaw3_chartError.mono _ _ _ _
      | exact chancerylaw3_sharesRight.mono _ _
      | exact chanceryref3_SameInts.mono _ _ _
      | exact chart_Sectors.mono _ _ _ _
      | exact chart_Shares.mono _ _
      | exact LeO.none _
      | refine LeO.ite ?_ ?_
      | refine LeO.bind ?_ (fun _ => ?_)
    · intro y0 y1 y2 y3 y4 y5 y6 y7
      unfold chancerylaw3_ChartSectorsAndShares.l1
      repeat' first
      | (with_reducible exact ih0 _ _ _ _ _)
      | (with_reducible exact ih1 _ _ _ _ _ _ _ _)
      | (with_reducible exact ih2 _ _ _ _ _ _ _)
      | (with_reducible exact ih3 _ _ _ _ _ _ _ _ _ _)
      | (with_reducible exact ih4 _ _ _ _ _ _ _)
      | (with_reducible exact ih5 _ _ _ _ _ _ _ _)
      | (with_reducible exact chancerylaw3_chartError.mono _ _ _ _)
      | (with_reducible exact chancerylaw3_sharesRight.mono _ _)
      | (with_reducible exact chanceryref3_SameInts.mono _ _ _)
      | (with_reducible exact chart_Sectors.mono _ _ _ _)
      | (with_reducible exact chart_Shares.mono _ _)
      | (with_reducible exact LeO.refl _)
      | (with_reducible exact LeO.none _)
      | (with_reducible refine LeO.ite ?_ ?_)
      | (with_reducible refine LeO.bind ?_ (fun _ => ?_))
      | exact ih0 _ _ _ _ _
      | exact ih1 _ _ _ _ _ _ _ _
      | exact ih2 _ _ _ _ _ _ _
      | exact ih3 _ _ _ _ _ _ _ _ _ _
      | exact ih4 _ _ _ _ _ _ _
      | exact ih5 _ _ _ _ _ _ _ _
      | exact chancerylaw3_chartError.mono _ _ _ _
      | exact chancerylaw3_sharesRight.mono _ _
      | exact chanceryref3_SameInts.mono _ _ _
      | exact chart_Sectors.mono _ _ _ _
      | exact chart_Shares.mono _ _
      | exact LeO.none _
      | refine LeO.ite ?_ ?_
      | refine LeO.bind ?_ (fun _ => ?_)
theorem chancerylaw3_ChartSectorsAndShares.mono : ∀ a0 a1 a2 a3 k, LeO (chancerylaw3_ChartSectorsAndShares.f k a0 a1 a2 a3) (chancerylaw3_ChartSectorsAndShares.f (k + 1) a0 a1 a2 a3) := by
  intro a0 a1 a2 a3 k
  obtain ⟨ih0, ih1, ih2, ih3, ih4, ih5⟩ := chancerylaw3_ChartSectorsAndShares.mono_l k
  unfold chancerylaw3_ChartSectorsAndShares.f
  repeat' first
      | (with_reducible exact ih0 _ _ _ _ _)
      | (with_reducible exact ih1 _ _ _ _ _ _ _ _)
      | (with_reducible exact ih2 _ _ _ _ _ _ _)
      | (with_reducible exact ih3 _ _ _ _ _ _ _ _ _ _)
      | (with_reducible exact ih4 _ _ _ _ _ _ _)
      | (with_reducible exact ih5 _ _ _ _ _ _ _ _)
      | (with_reducible exact chancerylaw3_chartError.mono _ _ _ _)
      | (with_reducible exact chancerylaw3_sharesRight.mono _ _)
      | (with_reducible exact chanceryref3_SameInts.mono _ _ _)
      | (with_reducible exact chart_Sectors.mono _ _ _ _)
      | (with_reducible exact chart_Shares.mono _ _)
      | (with_reducible exact LeO.refl _)
      | (with_reducible exact LeO.none _)
      | (with_reducible refine LeO.ite ?_ ?_)
      | (with_reducible refine LeO.bind ?_ (fun _ => ?_))
      | exact ih0 _ _ _ _ _
      | exact ih1 _ _ _ _ _ _ _ _
      | exact ih2 _ _ _ _ _ _ _
      | exact ih3 _ _ _ _ _ _ _ _ _ _
      | exact ih4 _ _ _ _ _ _ _
      | exact ih5 _ _ _ _ _ _ _ _
      | exact chancerylaw3_chartError.mono _ _ _ _
      | exact chancerylaw3_sharesRight.mono _ _
      | exact chanceryref3_SameInts.mono _ _ _
      | exact chart_Sectors.mono _ _ _ _
      | exact chart_Shares.mono _ _
      | exact LeO.none _
      | refine LeO.ite ?_ ?_
      | refine LeO.bind ?_ (fun _ => ?_)
set_option maxHeartbeats 8000000 in
set_option maxRecDepth 100000 in
theorem chancerylaw3_ChartSectorsAndShares.calls (k : Nat) (a0_0 : Int) (A0_1 : Option Addr) (c0_1 : Nat) (l0_1 : List ByteArray) (A0_2 : Option Addr) (c0_2 : Nat) (l0_2 : List (List Int)) (A1 : Option Addr) (c1 : Nat) (l1 : List Int) (r : Bool) (w : World) (hr0_1 : Kd.C Kd.string w A0_1 l0_1.length l0_1) (hc0_1 : l0_1.length ≤ c0_1) (hr0_2 : Kd.C (Kd.slice 3 (Kd.int .i64)) w A0_2 l0_2.length l0_2) (hc0_2 : l0_2.length ≤ c0_2) (hr1 : Kd.C (Kd.int .i64) w A1 l1.length l1) (hc1 : l1.length ≤ c1) (h : chancerylaw3_ChartSectorsAndShares.f k a0_0 l0_1 l0_2 l1 = some r) :
    Calls Try.prog 8 #[.agg #[.int .i64 a0_0, .slice A0_1 l0_1.length c0_1, .slice A0_2 l0_2.length c0_2], .slice A1 l1.length c1] w fun e w' => e = .returned (.bool r) ∧ Below w.heap.size w w' := by
  have hu55 := Try.underlying55
  have hu61 := Try.underlying61
  have HR0_1 := Aside0.mk hr0_1
  have HC0_1 := Aside0.mk hc0_1
  clear hr0_1 hc0_1
  have HR0_2 := Aside0.mk hr0_2
  have HC0_2 := Aside0.mk hc0_2
  clear hr0_2 hc0_2
  have HR1 := Aside0.mk hr1
  have HC1 := Aside0.mk hc1
  clear hr1 hc1
  have HB := Aside0.mk (Below.refl w.heap.size w)
  have H : ((chart_Shares.f k (([1, 1, 1] : List Int))).bind fun bt163 => (if bt163.2 = 0 then ((chanceryref3_SameInts.f k bt163.1 (([334, 333, 333] : List Int))).bind fun t170 => (chancerylaw3_ChartSectorsAndShares.j0 k l1 (!t170) a0_0 l0_1 l0_2)) else (chancerylaw3_ChartSectorsAndShares.j0 k l1 true a0_0 l0_1 l0_2))) = some r := h
  clear h
  obtain ⟨y160, hy160⟩ : ∃ y_ : List Int, y_ = (([1, 1, 1] : List Int)) := ⟨_, rfl⟩
  replace H : ((chart_Shares.f k y160).bind fun bt163 => (if bt163.2 = 0 then ((chanceryref3_SameInts.f k bt163.1 (([334, 333, 333] : List Int))).bind fun t170 => (chancerylaw3_ChartSectorsAndShares.j0 k l1 (!t170) a0_0 l0_1 l0_2)) else (chancerylaw3_ChartSectorsAndShares.j0 k l1 true a0_0 l0_1 l0_2))) = some r := by first | (rw [hy160]; with_reducible exact H) | (have H2_ := (Option.bind_some _ _).symm.trans H; rw [hy160]; with_reducible exact H2_) | (have H2_ := (Option.bind_some _ _).symm.trans H; with_reducible exact H2_) | with_reducible exact H | (rw [hy160]; exact H) | exact H
  have Ny160 := Aside0.mk hy160
  clear hy160
  replace H := Option.bind_eq_some_iff.mp H
  obtain ⟨⟨t163, t164⟩, A30, H⟩ := H
  replace H : (if t164 = 0 then ((chanceryref3_SameInts.f k t163 (([334, 333, 333] : List Int))).bind fun t170 => (chancerylaw3_ChartSectorsAndShares.j0 k l1 (!t170) a0_0 l0_1 l0_2)) else (chancerylaw3_ChartSectorsAndShares.j0 k l1 true a0_0 l0_1 l0_2)) = some r := H
  have A3 := Aside0.mk A30
  clear A30
  have HC4 := Aside0.mk H
  clear H
  go_enter Try.func8, Try.ntmps8
  go_upto_region 2 with (first | ((with_reducible refine gate_dst (N := 2) rfl ?_); (try (refine gate_guard (by rfl) ?_; dsimp only)); refine box_event ?hg (N := 2) ?hd (cs := #[.int .i64 a0_0, .slice A0_1 l0_1.length c0_1, .slice A0_2 l0_2.length c0_2]) (t := 55) ?hr ?_; (case hd => rfl); (case hg => rfl); (case hr => first | (go_simp; done) | (go_simp; rfl)); intro gb159 hg w5 hbox hb; have n0_ := Aside0.mk (below_step (by repeat (first | (with_reducible first | exact HB.out | apply below_alloc | apply pw_below_drewN | apply below_drew1) | exact HB.out)) hb); have n1_ := Aside0.mk (hbox); have n2_ := Aside0.mk ((by rw [hg]; exact (below_size (by repeat (first | (with_reducible first | exact HB.out | apply below_alloc | apply pw_below_drewN | apply below_drew1) | exact HB.out))) : w.heap.size ≤ gb159)); have n3_ := Aside0.mk ((by rw [hg]; exact (below_size (by repeat (first | (with_reducible first | exact HB.out | apply below_alloc | apply pw_below_drewN | apply below_drew1) | exact HB.out))) : w.heap.size ≤ gb159)); clear HB; have HB := n0_; have BK159 := n1_; have GW159 := n2_; have GE159 := n3_; clear n0_ n1_ n2_ n3_; clear hb hbox hg) | ((with_reducible refine gate_dst (N := 19) rfl ?_); (try (refine gate_guard (by rfl) ?_; dsimp only)); refine Kd.R_lit (Kd.int .i64) _ 3 ?hg (N := 19) ?hd (xs := ([1, 1, 1] : List Int)) (inner := [.int .i64 1, .int .i64 1, .int .i64 1]) (ok := fun _ => True) (okp := fun _ => True) ?hr ?hp (fun _ hk => hk) trivial (Below.refl _ _) (Nat.le_refl _) (by simp) ?_; (case hd => rfl); (case hg => rfl); (case hr => first | (go_simp; done) | (go_simp; rfl)); (case hp => exact (Reps.one (show Kd.M (Kd.int .i64) _ _ _ 1 [.int .i64 1] from rfl) (Reps.one (show Kd.M (Kd.int .i64) _ _ _ 1 [.int .i64 1] from rfl) (Reps.one (show Kd.M (Kd.int .i64) _ _ _ 1 [.int .i64 1] from rfl) (Reps.none _ _))))); intro v161 w6 ho7 hb hg_ hnew_; clear hg_ hnew_; (first | rw [← Ny160.out] at ho7 | (simp only [Int.reduceToNat] at ho7; rw [← Ny160.out] at ho7)); have n0_ := Aside0.mk (Kd.R_lower ho7 (below_size (by repeat (first | (with_reducible first | exact HB.out | apply below_alloc | apply pw_below_drewN | apply below_drew1 | refine below_set ?_ GE159.out) | exact HB.out)))); have n1_ := Aside0.mk (blk_below (g := gb159) (o := .cells #[.int .i64 a0_0, .slice A0_1 l0_1.length c0_1, .slice A0_2 l0_2.length c0_2] 55 (0, 0)) (by (with_reducible repeat (first | refine blk_drewN ?_ _ | refine blk_drew ?_ | refine blk_alloc ?_ _)); exact BK159.out) hb); have n2_ := Aside0.mk (below_step (by repeat (first | (with_reducible first | exact HB.out | apply below_alloc | apply pw_below_drewN | apply below_drew1 | refine below_set ?_ GE159.out) | exact HB.out)) hb); clear BK159; clear HB; have HO162 := n0_; have BK159 := n1_; have HB := n2_; clear n0_ n1_ n2_; clear hb ho7; obtain ⟨Ao8, co8, eo8⟩ := Kd.R_slice HO162.out; subst eo8) | ((with_reducible refine gate_callee (f := 29) rfl ?_); refine goesL_ (some 20) rfl rfl Try.func29 (by kernel_rfl) rfl #[.slice Ao8 y160.length co8] rfl (by (try simp only [List.map_toArray, List.map_cons, List.map_nil]); first | done | rfl | (simp only [List.length_drop, List.length_take]; rfl)) ?_; (with_reducible refine (chart_Shares.calls k _ _ y160 t163 t164 _ ?side1 ?side2 A3.out).mono ?_); (case side1 => repeat (first | exact (Kd.R_reads' HO162.out).2.2 | (with_reducible refine Kd.C_alloc ?_ _) | (with_reducible refine Kd.C_drewN ?_ _) | (with_reducible refine Kd.C_drew ?_))); (case side2 => exact (Kd.R_reads' HO162.out).2.1); rintro e w9 ⟨v165, rfl, ho0, hb⟩; refine ⟨_, rfl, ?_⟩; have n0_ := Aside0.mk (Kd.R_elder' (by (with_reducible repeat (first | apply Kd.R_alloc | apply Kd.R_drewN | apply Kd.R_drew)); exact HO162.out) (Kd.R_base ho0) hb); have n1_ := Aside0.mk (Kd.R_lower (Kd.R_new' ho0 (Kd.R_lt (by (with_reducible repeat (first | apply Kd.R_alloc | apply Kd.R_drewN | apply Kd.R_drew)); exact HO162.out))) (below_size (by repeat (first | (with_reducible first | exact HB.out | apply below_alloc | apply pw_below_drewN | apply below_drew1 | refine below_set ?_ GE159.out) | exact HB.out)))); have n2_ := Aside0.mk (blk_below (g := gb159) (o := .cells #[.int .i64 a0_0, .slice A0_1 l0_1.length c0_1, .slice A0_2 l0_2.length c0_2] 55 (0, 0)) (by (with_reducible repeat (first | refine blk_drewN ?_ _ | refine blk_drew ?_ | refine blk_alloc ?_ _)); exact BK159.out) hb); have n3_ := Aside0.mk (below_step (by repeat (first | (with_reducible first | exact HB.out | apply below_alloc | apply pw_below_drewN | apply below_drew1 | refine below_set ?_ GE159.out) | exact HB.out)) hb); clear HO162; clear BK159; clear HB; have HO162 := n0_; have HO166 := n1_; have BK159 := n2_; have HB := n3_; clear n0_ n1_ n2_ n3_; (try clear hb); (try clear hb2); (try clear hk); (try clear hi); (try clear ho0)))
  (try simp only [Act.put, List.setIfInBounds_toArray, List.set_cons_zero, List.set_cons_succ])
  go_cut [30] (fun v30 wc => ∃ (kq : Nat) (x30_3 : Bool), v30 = .bool x30_3 ∧ Aside0 (chancerylaw3_ChartSectorsAndShares.j0 kq l1 x30_3 a0_0 l0_1 l0_2 = some r) ∧ Aside0 (kq ≤ k) ∧ Aside0 (wc.heap[gb159]? = some (.cells #[.int .i64 a0_0, (.slice A0_1 l0_1.length c0_1), (.slice A0_2 l0_2.length c0_2)] 55 (0, 0))) ∧ Aside0 (Below w.heap.size w wc))
  case first =>
    have H := HC4.out
    clear HC4
    by_cases c10 : t164 = 0
    · rw [if_pos c10] at H
      have c10b0 : (t164 == 0) = true := beq_iff_eq.mpr c10
      have c10b1 : (t164 != 0) = false := bne_eq_false_iff_eq.mpr c10
      clear c10
      (first | rw [c10b0] | (simp only [i64_w, i32_w]; rw [c10b0]) | skip)
      obtain ⟨y167, hy167⟩ : ∃ y_ : List Int, y_ = (([334, 333, 333] : List Int)) := ⟨_, rfl⟩
      replace H : ((chanceryref3_SameInts.f k t163 y167).bind fun t170 => (chancerylaw3_ChartSectorsAndShares.j0 k l1 (!t170) a0_0 l0_1 l0_2)) = some r := by first | (rw [hy167]; with_reducible exact H) | (have H2_ := (Option.bind_some _ _).symm.trans H; rw [hy167]; with_reducible exact H2_) | (have H2_ := (Option.bind_some _ _).symm.trans H; with_reducible exact H2_) | with_reducible exact H | (rw [hy167]; exact H) | exact H
      have Ny167 := Aside0.mk hy167
      clear hy167
      replace H := Option.bind_eq_some_iff.mp H
      obtain ⟨t170, A110, H⟩ := H
      replace H : (chancerylaw3_ChartSectorsAndShares.j0 k l1 (!t170) a0_0 l0_1 l0_2) = some r := H
      have A11 := Aside0.mk A110
      clear A110
      have H' := Aside0.mk H
      clear H
      go_wp2_with (first | ((with_reducible refine gate_dst (N := 27) rfl ?_); (try (refine gate_guard (by rfl) ?_; dsimp only)); refine Kd.R_lit (Kd.int .i64) _ 3 ?hg (N := 27) ?hd (xs := ([334, 333, 333] : List Int)) (inner := [.int .i64 334, .int .i64 333, .int .i64 333]) (ok := fun _ => True) (okp := fun _ => True) ?hr ?hp (fun _ hk => hk) trivial (Below.refl _ _) (Nat.le_refl _) (by simp) ?_; (case hd => rfl); (case hg => rfl); (case hr => first | (go_simp; done) | (go_simp; rfl)); (case hp => exact (Reps.one (show Kd.M (Kd.int .i64) _ _ _ 334 [.int .i64 334] from rfl) (Reps.one (show Kd.M (Kd.int .i64) _ _ _ 333 [.int .i64 333] from rfl) (Reps.one (show Kd.M (Kd.int .i64) _ _ _ 333 [.int .i64 333] from rfl) (Reps.none _ _))))); intro v168 w12 ho13 hb hg_ hnew_; clear hg_ hnew_; (first | rw [← Ny167.out] at ho13 | (simp only [Int.reduceToNat] at ho13; rw [← Ny167.out] at ho13)); have n0_ := Aside0.mk (Kd.R_elder' (by (with_reducible repeat (first | apply Kd.R_alloc | apply Kd.R_drewN | apply Kd.R_drew)); exact HO162.out) (Kd.R_base ho13) hb); have n1_ := Aside0.mk (Kd.R_elder' (by (with_reducible repeat (first | apply Kd.R_alloc | apply Kd.R_drewN | apply Kd.R_drew)); exact HO166.out) (Kd.R_base ho13) hb); have n2_ := Aside0.mk (Kd.R_lower (Kd.R_new' (Kd.R_new' ho13 (Kd.R_lt (by (with_reducible repeat (first | apply Kd.R_alloc | apply Kd.R_drewN | apply Kd.R_drew)); exact HO162.out))) (Kd.R_lt (by (with_reducible repeat (first | apply Kd.R_alloc | apply Kd.R_drewN | apply Kd.R_drew)); exact HO166.out))) (below_size (by repeat (first | (with_reducible first | exact HB.out | apply below_alloc | apply pw_below_drewN | apply below_drew1 | refine below_set ?_ GE159.out) | exact HB.out)))); have n3_ := Aside0.mk (blk_below (g := gb159) (o := .cells #[.int .i64 a0_0, .slice A0_1 l0_1.length c0_1, .slice A0_2 l0_2.length c0_2] 55 (0, 0)) (by (with_reducible repeat (first | refine blk_drewN ?_ _ | refine blk_drew ?_ | refine blk_alloc ?_ _)); exact BK159.out) hb); have n4_ := Aside0.mk (below_step (by repeat (first | (with_reducible first | exact HB.out | apply below_alloc | apply pw_below_drewN | apply below_drew1 | refine below_set ?_ GE159.out) | exact HB.out)) hb); clear HO162; clear HO166; clear BK159; clear HB; have HO162 := n0_; have HO166 := n1_; have HO169 := n2_; have BK159 := n3_; have HB := n4_; clear n0_ n1_ n2_ n3_ n4_; clear hb ho13; obtain ⟨Ao14, co14, eo14⟩ := Kd.R_slice HO166.out; subst eo14; obtain ⟨Ao15, co15, eo15⟩ := Kd.R_slice HO169.out; subst eo15) | (go_at_call 18; (with_reducible refine (chanceryref3_SameInts.calls k _ _ t163 _ _ y167 t170 _ ?side1 ?side2 ?side3 ?side4 A11.out).mono ?_); (case side1 => repeat (first | exact (Kd.R_reads' HO166.out).2.2 | (with_reducible refine Kd.C_alloc ?_ _) | (with_reducible refine Kd.C_drewN ?_ _) | (with_reducible refine Kd.C_drew ?_))); (case side2 => exact (Kd.R_reads' HO166.out).2.1); (case side3 => repeat (first | exact (Kd.R_reads' HO169.out).2.2 | (with_reducible refine Kd.C_alloc ?_ _) | (with_reducible refine Kd.C_drewN ?_ _) | (with_reducible refine Kd.C_drew ?_))); (case side4 => exact (Kd.R_reads' HO169.out).2.1); rintro e w' ⟨rfl, ⟨nd, rfl⟩⟩))
      go_meet
      case rel => exact ⟨_, (!t170), (by first | rfl | (simp; done) | (simp [*]; done)), H', ⟨by first | omega | exact Nat.le_refl _⟩, ⟨by (with_reducible repeat (first | refine blk_drewN ?_ _ | refine blk_drew ?_ | refine blk_alloc ?_ _)); exact BK159.out⟩, ⟨by repeat (first | (with_reducible first | exact HB.out | apply below_alloc | apply pw_below_drewN | apply below_drew1 | refine below_set ?_ GE159.out) | exact HB.out)⟩⟩
    · rw [if_neg c10] at H
      have c10b0 : (t164 == 0) = false := beq_eq_false_iff_ne.mpr c10
      have c10b1 : (t164 != 0) = true := bne_iff_ne.mpr c10
      (first | rw [c10b0] | (simp only [i64_w, i32_w]; rw [c10b0]) | skip)
      have H' := Aside0.mk H
      clear H
      go_wp2
      go_meet
      case rel => exact ⟨_, (true), (by first | rfl | (simp; done) | (simp [*]; done)), H', ⟨by first | omega | exact Nat.le_refl _⟩, ⟨by (with_reducible repeat (first | refine blk_drewN ?_ _ | refine blk_drew ?_ | refine blk_alloc ?_ _)); exact BK159.out⟩, ⟨by repeat (first | (with_reducible first | exact HB.out | apply below_alloc | apply pw_below_drewN | apply below_drew1 | refine below_set ?_ GE159.out) | exact HB.out)⟩⟩
  case rest =>
    clear HC4
    try clear c1
    try clear c2
    try clear p2
    try clear c8
    try clear c10
    try clear c10b0
    try clear c10b1
    obtain ⟨kq, x30_3, rfl, HA, HJ3, BK159, HB⟩ := hcut
    cases kq with
    | zero => exact absurd HA.out (by simp [chancerylaw3_ChartSectorsAndShares.j0])
    | succ kj3 =>
      have H := HA.out
      clear HA
      simp only [chancerylaw3_ChartSectorsAndShares.j0] at H
      by_cases c16 : x30_3 = true
      · subst c16
        have H1 : (some false) = some r := by rw [if_pos rfl] at H; exact H
        clear H
        have H := H1
        clear H1
        obtain rfl := Option.some.inj H
        go_wp2
        go_ret
        exact ⟨by first | rfl | (simp [errW_none, errW_some] <;> rfl) | (simp [*, errW_none, errW_some] <;> rfl), by repeat (first | (with_reducible first | exact HB.out | apply below_alloc | apply pw_below_drewN | apply below_drew1 | refine below_set ?_ GE159.out) | exact HB.out)⟩
      · replace c16 := Bool.eq_false_iff.mpr c16
        subst c16
        have H1 : ((chart_Sectors.f kj3 a0_0 l0_1 l0_2).bind fun bt171 => ((chancerylaw3_chartError.f kj3 a0_0 l0_1 l0_2).bind fun t175 => (if t175 = 0 then (chancerylaw3_ChartSectorsAndShares.j1 kj3 l1 bt171.1 bt171.2 t175 (a0_0 != 3) a0_0 l0_1 l0_2) else (chancerylaw3_ChartSectorsAndShares.j1 kj3 l1 bt171.1 bt171.2 t175 false a0_0 l0_1 l0_2)))) = some r := by rw [if_neg (show ¬ (false = true) by decide)] at H; exact H
        clear H
        have H := H1
        clear H1
        replace H := Option.bind_eq_some_iff.mp H
        obtain ⟨⟨t171, t174⟩, A170, H⟩ := H
        replace H : ((chancerylaw3_chartError.f kj3 a0_0 l0_1 l0_2).bind fun t175 => (if t175 = 0 then (chancerylaw3_ChartSectorsAndShares.j1 kj3 l1 t171 t174 t175 (a0_0 != 3) a0_0 l0_1 l0_2) else (chancerylaw3_ChartSectorsAndShares.j1 kj3 l1 t171 t174 t175 false a0_0 l0_1 l0_2))) = some r := H
        have A17 := Aside0.mk A170
        clear A170
        replace H := Option.bind_eq_some_iff.mp H
        obtain ⟨t175, A180, H⟩ := H
        replace H : (if t175 = 0 then (chancerylaw3_ChartSectorsAndShares.j1 kj3 l1 t171 t174 t175 (a0_0 != 3) a0_0 l0_1 l0_2) else (chancerylaw3_ChartSectorsAndShares.j1 kj3 l1 t171 t174 t175 false a0_0 l0_1 l0_2)) = some r := H
        have A18 := Aside0.mk A180
        clear A180
        have HC19 := Aside0.mk H
        clear H
        have hcz20_0 : wc.cell? ⟨gb159, 0, none⟩ = some (.int .i64 a0_0) := (blk_cell BK159.out 0).trans rfl
        have hcz20_1 : wc.cell? ⟨gb159, 1, none⟩ = some (.slice A0_1 l0_1.length c0_1) := (blk_cell BK159.out 1).trans rfl
        have hcz20_2 : wc.cell? ⟨gb159, 2, none⟩ = some (.slice A0_2 l0_2.length c0_2) := (blk_cell BK159.out 2).trans rfl
        have hfz20_0 := blk_frozen BK159.out 0
        have hfz20_1 := blk_frozen BK159.out 1
        have hfz20_2 := blk_frozen BK159.out 2
        go_upto_region 6 with (first | ((with_reducible refine gate_callee (f := 30) rfl ?_); refine goesL_ (some 33) rfl rfl Try.func30 (by kernel_rfl) rfl #[.agg #[.int .i64 a0_0, .slice A0_1 l0_1.length c0_1, .slice A0_2 l0_2.length c0_2]] rfl (by (try simp only [List.map_toArray, List.map_cons, List.map_nil]); first | done | rfl | (simp only [List.length_drop, List.length_take]; rfl)) ?_; (with_reducible refine (chart_Sectors.calls kj3 a0_0 _ _ l0_1 _ _ l0_2 t171 t174 _ ?side1 ?side2 ?side3 ?side4 A17.out).mono ?_); (case side1 => repeat (first | exact (Kd.C_below HR0_1.out HB.out) | (with_reducible refine Kd.C_alloc ?_ _) | (with_reducible refine Kd.C_drewN ?_ _) | (with_reducible refine Kd.C_drew ?_))); (case side2 => exact HC0_1.out); (case side3 => repeat (first | exact (Kd.C_below HR0_2.out HB.out) | (with_reducible refine Kd.C_alloc ?_ _) | (with_reducible refine Kd.C_drewN ?_ _) | (with_reducible refine Kd.C_drew ?_))); (case side4 => exact HC0_2.out); rintro e w21 ⟨v172, rfl, ho0, hb⟩; refine ⟨_, rfl, ?_⟩; have n0_ := Aside0.mk (Kd.R_lower ho0 (below_size (by repeat (first | (with_reducible first | exact HB.out | apply below_alloc | apply pw_below_drewN | apply below_drew1 | refine below_set ?_ GE159.out) | exact HB.out)))); have n1_ := Aside0.mk (blk_below (g := gb159) (o := .cells #[.int .i64 a0_0, .slice A0_1 l0_1.length c0_1, .slice A0_2 l0_2.length c0_2] 55 (0, 0)) (by (with_reducible repeat (first | refine blk_drewN ?_ _ | refine blk_drew ?_ | refine blk_alloc ?_ _)); exact BK159.out) hb); have n2_ := Aside0.mk (below_step (by repeat (first | (with_reducible first | exact HB.out | apply below_alloc | apply pw_below_drewN | apply below_drew1 | refine below_set ?_ GE159.out) | exact HB.out)) hb); clear BK159; clear HB; have HO173 := n0_; have BK159 := n1_; have HB := n2_; clear n0_ n1_ n2_; (try clear hb); (try clear hb2); (try clear hk); (try clear hi); (try clear ho0); have hcz22_0 : w21.cell? ⟨gb159, 0, none⟩ = some (.int .i64 a0_0) := (blk_cell BK159.out 0).trans rfl; have hcz22_1 : w21.cell? ⟨gb159, 1, none⟩ = some (.slice A0_1 l0_1.length c0_1) := (blk_cell BK159.out 1).trans rfl; have hcz22_2 : w21.cell? ⟨gb159, 2, none⟩ = some (.slice A0_2 l0_2.length c0_2) := (blk_cell BK159.out 2).trans rfl; have hfz22_0 := blk_frozen BK159.out 0; have hfz22_1 := blk_frozen BK159.out 1; have hfz22_2 := blk_frozen BK159.out 2) | ((with_reducible refine gate_callee (f := 31) rfl ?_); refine goesL_ (some 37) rfl rfl Try.func31 (by kernel_rfl) rfl #[.agg #[.int .i64 a0_0, .slice A0_1 l0_1.length c0_1, .slice A0_2 l0_2.length c0_2]] rfl (by (try simp only [List.map_toArray, List.map_cons, List.map_nil]); first | done | rfl | (simp only [List.length_drop, List.length_take]; rfl)) ?_; (with_reducible refine (chancerylaw3_chartError.calls kj3 a0_0 _ _ l0_1 _ _ l0_2 t175 _ ?side1 ?side2 ?side3 ?side4 A18.out).mono ?_); (case side1 => repeat (first | exact (Kd.C_below HR0_1.out HB.out) | (with_reducible refine Kd.C_alloc ?_ _) | (with_reducible refine Kd.C_drewN ?_ _) | (with_reducible refine Kd.C_drew ?_))); (case side2 => exact HC0_1.out); (case side3 => repeat (first | exact (Kd.C_below HR0_2.out HB.out) | (with_reducible refine Kd.C_alloc ?_ _) | (with_reducible refine Kd.C_drewN ?_ _) | (with_reducible refine Kd.C_drew ?_))); (case side4 => exact HC0_2.out); rintro e w23 ⟨rfl, hb⟩; refine ⟨_, rfl, ?_⟩; have n0_ := Aside0.mk (Kd.R_below (by (with_reducible repeat (first | apply Kd.R_alloc | apply Kd.R_drewN | apply Kd.R_drew)); exact HO173.out) hb); have n1_ := Aside0.mk (blk_below (g := gb159) (o := .cells #[.int .i64 a0_0, .slice A0_1 l0_1.length c0_1, .slice A0_2 l0_2.length c0_2] 55 (0, 0)) (by (with_reducible repeat (first | refine blk_drewN ?_ _ | refine blk_drew ?_ | refine blk_alloc ?_ _)); exact BK159.out) hb); have n2_ := Aside0.mk (below_step (by repeat (first | (with_reducible first | exact HB.out | apply below_alloc | apply pw_below_drewN | apply below_drew1 | refine below_set ?_ GE159.out) | exact HB.out)) hb); clear HO173; clear BK159; clear HB; have HO173 := n0_; have BK159 := n1_; have HB := n2_; clear n0_ n1_ n2_; (try clear hb); (try clear hb2); (try clear hk); (try clear hi)))
        (try simp only [Act.put, List.setIfInBounds_toArray, List.set_cons_zero, List.set_cons_succ])
        go_cut [44] (fun v44 wc => ∃ (kq : Nat) (x44_18 : Bool), v44 = .bool x44_18 ∧ Aside0 (chancerylaw3_ChartSectorsAndShares.j1 kq l1 t171 t174 t175 x44_18 a0_0 l0_1 l0_2 = some r) ∧ Aside0 (kq ≤ kj3) ∧ Aside0 (Kd.R k61 61 wc w.heap.size (fun _ => True) v172 t171) ∧ Aside0 (wc.heap[gb159]? = some (.cells #[.int .i64 a0_0, (.slice A0_1 l0_1.length c0_1), (.slice A0_2 l0_2.length c0_2)] 55 (0, 0))) ∧ Aside0 (Below w.heap.size w wc))
        case first =>
          have H := HC19.out
          clear HC19
          by_cases c24 : t175 = 0
          · rw [if_pos c24] at H
            have c24b0 : (t175 == 0) = true := beq_iff_eq.mpr c24
            have c24b1 : (t175 != 0) = false := bne_eq_false_iff_eq.mpr c24
            clear c24
            (first | rw [c24b0] | (simp only [i64_w, i32_w]; rw [c24b0]) | skip)
            have H' := Aside0.mk H
            clear H
            have hcz25_0 : w23.cell? ⟨gb159, 0, none⟩ = some (.int .i64 a0_0) := (blk_cell BK159.out 0).trans rfl
            have hcz25_1 : w23.cell? ⟨gb159, 1, none⟩ = some (.slice A0_1 l0_1.length c0_1) := (blk_cell BK159.out 1).trans rfl
            have hcz25_2 : w23.cell? ⟨gb159, 2, none⟩ = some (.slice A0_2 l0_2.length c0_2) := (blk_cell BK159.out 2).trans rfl
            have hfz25_0 := blk_frozen BK159.out 0
            have hfz25_1 := blk_frozen BK159.out 1
            have hfz25_2 := blk_frozen BK159.out 2
            go_wp2
            go_meet
            case rel => exact ⟨_, ((a0_0 != 3)), (by first | rfl | (simp; done) | (simp [*]; done)), H', ⟨by have := HJ3.out; first | omega | exact Nat.le_refl _⟩, ⟨by (with_reducible repeat (first | apply Kd.R_alloc | apply Kd.R_drewN | apply Kd.R_drew)); exact HO173.out⟩, ⟨by (with_reducible repeat (first | refine blk_drewN ?_ _ | refine blk_drew ?_ | refine blk_alloc ?_ _)); exact BK159.out⟩, ⟨by repeat (first | (with_reducible first | exact HB.out | apply below_alloc | apply pw_below_drewN | apply below_drew1 | refine below_set ?_ GE159.out) | exact HB.out)⟩⟩
          · rw [if_neg c24] at H
            have c24b0 : (t175 == 0) = false := beq_eq_false_iff_ne.mpr c24
            have c24b1 : (t175 != 0) = true := bne_iff_ne.mpr c24
            (first | rw [c24b0] | (simp only [i64_w, i32_w]; rw [c24b0]) | skip)
            have H' := Aside0.mk H
            clear H
            go_wp2
            go_meet
            case rel => exact ⟨_, (false), (by first | rfl | (simp; done) | (simp [*]; done)), H', ⟨by have := HJ3.out; first | omega | exact Nat.le_refl _⟩, ⟨by (with_reducible repeat (first | apply Kd.R_alloc | apply Kd.R_drewN | apply Kd.R_drew)); exact HO173.out⟩, ⟨by (with_reducible repeat (first | refine blk_drewN ?_ _ | refine blk_drew ?_ | refine blk_alloc ?_ _)); exact BK159.out⟩, ⟨by repeat (first | (with_reducible first | exact HB.out | apply below_alloc | apply pw_below_drewN | apply below_drew1 | refine below_set ?_ GE159.out) | exact HB.out)⟩⟩
        case rest =>
          clear HC19
          try clear c1
          try clear c2
          try clear p2
          try clear c3
          try clear c8
          try clear c10
          try clear c10b0
          try clear c10b1
          try clear c16
          try clear c24
          try clear c24b0
          try clear c24b1
          try clear hcz20_0
          try clear hcz20_1
          try clear hcz20_2
          try clear hcz22_0
          try clear hcz22_1
          try clear hcz22_2
          try clear hcz25_0
          try clear hcz25_1
          try clear hcz25_2
          try clear hfz20_0
          try clear hfz20_1
          try clear hfz20_2
          try clear hfz22_0
          try clear hfz22_1
          try clear hfz22_2
          try clear hfz25_0
          try clear hfz25_1
          try clear hfz25_2
          try clear p2
          obtain ⟨kq, x44_18, rfl, HA, HJ18, HO_7, BK159, HB⟩ := hcut
          cases kq with
          | zero => exact absurd HA.out (by simp [chancerylaw3_ChartSectorsAndShares.j1])
          | succ kj18 =>
            have H := HA.out
            clear HA
            simp only [chancerylaw3_ChartSectorsAndShares.j1] at H
            have HC26 := Aside0.mk H
            clear H
            go_upto_if 44 with (fail)
            go_cut [9] (fun v9 wc => ∃ (kq : Nat) (x9_25 : Int), v9 = .int .i64 x9_25 ∧ Aside0 (chancerylaw3_ChartSectorsAndShares.j2 kq l1 t171 t174 x9_25 a0_0 l0_1 l0_2 = some r) ∧ Aside0 (kq ≤ kj18) ∧ Aside0 (Kd.R k61 61 wc w.heap.size (fun _ => True) v172 t171) ∧ Aside0 (wc.heap[gb159]? = some (.cells #[.int .i64 a0_0, (.slice A0_1 l0_1.length c0_1), (.slice A0_2 l0_2.length c0_2)] 55 (0, 0))) ∧ Aside0 (Below w.heap.size w wc))
            case first =>
              have H := HC26.out
              clear HC26
              by_cases c27 : x44_18 = true
              · subst c27
                have H1 : (chancerylaw3_ChartSectorsAndShares.j2 kj18 l1 t171 t174 8 a0_0 l0_1 l0_2) = some r := by rw [if_pos rfl] at H; exact H
                clear H
                have H := H1
                clear H1
                have H' := Aside0.mk H
                clear H
                go_wp2
                go_meet
                case rel => exact ⟨_, (8), (by first | rfl | (simp; done) | (simp [*]; done)), H', ⟨by have := HJ3.out; have := HJ18.out; first | omega | exact Nat.le_refl _⟩, ⟨by (with_reducible repeat (first | apply Kd.R_alloc | apply Kd.R_drewN | apply Kd.R_drew)); exact HO_7.out⟩, ⟨by (with_reducible repeat (first | refine blk_drewN ?_ _ | refine blk_drew ?_ | refine blk_alloc ?_ _)); exact BK159.out⟩, ⟨by repeat (first | (with_reducible first | exact HB.out | apply below_alloc | apply pw_below_drewN | apply below_drew1 | refine below_set ?_ GE159.out) | exact HB.out)⟩⟩
              · replace c27 := Bool.eq_false_iff.mpr c27
                subst c27
                have H1 : (chancerylaw3_ChartSectorsAndShares.j2 kj18 l1 t171 t174 t175 a0_0 l0_1 l0_2) = some r := by rw [if_neg (show ¬ (false = true) by decide)] at H; exact H
                clear H
                have H := H1
                clear H1
                have H' := Aside0.mk H
                clear H
                go_wp2
                go_meet
                case rel => exact ⟨_, (t175), (by first | rfl | (simp; done) | (simp [*]; done)), H', ⟨by have := HJ3.out; have := HJ18.out; first | omega | exact Nat.le_refl _⟩, ⟨by (with_reducible repeat (first | apply Kd.R_alloc | apply Kd.R_drewN | apply Kd.R_drew)); exact HO_7.out⟩, ⟨by (with_reducible repeat (first | refine blk_drewN ?_ _ | refine blk_drew ?_ | refine blk_alloc ?_ _)); exact BK159.out⟩, ⟨by repeat (first | (with_reducible first | exact HB.out | apply below_alloc | apply pw_below_drewN | apply below_drew1 | refine below_set ?_ GE159.out) | exact HB.out)⟩⟩
            case rest =>
              clear HC26
              try clear c1
              try clear c2
              try clear p2
              try clear c3
              try clear c8
              try clear c10
              try clear c10b0
              try clear c10b1
              try clear c16
              try clear c24
              try clear c24b0
              try clear c24b1
              try clear c27
              try clear hcz20_0
              try clear hcz20_1
              try clear hcz20_2
              try clear hcz22_0
              try clear hcz22_1
              try clear hcz22_2
              try clear hcz25_0
              try clear hcz25_1
              try clear hcz25_2
              try clear hfz20_0
              try clear hfz20_1
              try clear hfz20_2
              try clear hfz22_0
              try clear hfz22_1
              try clear hfz22_2
              try clear hfz25_0
              try clear hfz25_1
              try clear hfz25_2
              try clear p2
              obtain ⟨kq, x9_25, rfl, HA, HJ25, HO_7, BK159, HB⟩ := hcut
              cases kq with
              | zero => exact absurd HA.out (by simp [chancerylaw3_ChartSectorsAndShares.j2])
              | succ kj25 =>
                have H := HA.out
                clear HA
                simp only [chancerylaw3_ChartSectorsAndShares.j2] at H
                by_cases c28 : x9_25 = 0
                · rw [if_pos c28] at H
                  have c28b0 : (x9_25 == 0) = true := beq_iff_eq.mpr c28
                  have c28b1 : (x9_25 != 0) = false := bne_eq_false_iff_eq.mpr c28
                  clear c28
                  by_cases c29 : 0 < (l0_2.length : Int)
                  · rw [if_pos c29] at H
                    have c29b0 : decide (0 < (l0_2.length : Int)) = true := decide_eq_true c29
                    have c29b1 : decide (0 < l0_2.length) = true := decide_eq_true (by omega)
                    clear c29
                    have H' := Aside0.mk H
                    clear H
                    have hcz30_0 : wc.cell? ⟨gb159, 0, none⟩ = some (.int .i64 a0_0) := (blk_cell BK159.out 0).trans rfl
                    have hcz30_1 : wc.cell? ⟨gb159, 1, none⟩ = some (.slice A0_1 l0_1.length c0_1) := (blk_cell BK159.out 1).trans rfl
                    have hcz30_2 : wc.cell? ⟨gb159, 2, none⟩ = some (.slice A0_2 l0_2.length c0_2) := (blk_cell BK159.out 2).trans rfl
                    have hfz30_0 := blk_frozen BK159.out 0
                    have hfz30_1 := blk_frozen BK159.out 1
                    have hfz30_2 := blk_frozen BK159.out 2
                    have p177 : 0 ≤ (0 : Int) := (by omega)
                    have q177 : 0 < (l0_2.length : Int) := of_decide_eq_true (by first | (with_reducible assumption) | assumption)
                    obtain ⟨ad177, A177_0, c177_0, e177, hx177_0, hl177_0, hi177_0⟩ := at_L2 HR0_2.out 0 p177 q177
                    cases e177
                    have qi177 : (0 < l0_2.length) = True := eq_true (by omega)
                    (try rw [show ((0 : Int)).toNat = 0 from rfl] at hx177_0)
                    (try rw [Addr.add_zero'] at hx177_0)
                    replace hx177_0 := (HB.out.cell (World.block_lt_of_cell? w _ hx177_0)).trans hx177_0
                    have HR177_0 := Aside0.mk hi177_0
                    have HC177_0 := Aside0.mk hl177_0
                    clear hi177_0 hl177_0
                    replace p177 := eq_true p177
                    replace q177 := eq_true q177
                    go_wp2
                    go_loopg [10, 64] kj25 (fun kq v10 v64 w' => ∃ (x10_4 : Int) (x64_4 : Int), v10 = .int .i64 x10_4 ∧ v64 = .int .i64 x64_4 ∧ Aside0 (chancerylaw3_ChartSectorsAndShares.l0 kq l1 t171 t174 x10_4 (rd_L2 l0_2 0) ((rd_L2 l0_2 0).length : Int) x64_4 a0_0 l0_1 l0_2 = some r) ∧ Aside0 (kq ≤ kj25) ∧ Aside0 (Kd.R k61 61 w' w.heap.size (fun _ => True) v172 t171) ∧ Aside0 (w'.heap[gb159]? = some (.cells #[.int .i64 a0_0, (.slice A0_1 l0_1.length c0_1), (.slice (some ad177) l0_2.length c0_2)] 55 (0, 0))) ∧ Aside0 (Below w.heap.size w w'))
                    case atStart => exact ⟨(0), (0), (by first | rfl | (simp; done) | (simp [*]; done)), (by first | rfl | (simp; done) | (simp [*]; done)), H', ⟨Nat.le_refl _⟩, ⟨by (with_reducible repeat (first | apply Kd.R_alloc | apply Kd.R_drewN | apply Kd.R_drew)); exact HO_7.out⟩, ⟨by (with_reducible repeat (first | refine blk_drewN ?_ _ | refine blk_drew ?_ | refine blk_alloc ?_ _)); exact BK159.out⟩, ⟨by repeat (first | (with_reducible first | exact HB.out | apply below_alloc | apply pw_below_drewN | apply below_drew1 | refine below_set ?_ GE159.out) | exact HB.out)⟩⟩
                    case round =>
                      clear H'
                      try clear c1
                      try clear p1
                      try clear q1
                      try clear hx1
                      try clear qi1
                      try clear c2
                      try clear p2
                      try clear c3
                      try clear c8
                      try clear c10
                      try clear c10b0
                      try clear c10b1
                      try clear c16
                      try clear c17
                      try clear p17
                      try clear q17
                      try clear hx17
                      try clear qi17
                      try clear c24
                      try clear c24b0
                      try clear c24b1
                      try clear c27
                      try clear c28
                      try clear c28b0
                      try clear c28b1
                      try clear c29
                      try clear c29b0
                      try clear c29b1
                      try clear c30
                      try clear hcz20_0
                      try clear hcz20_1
                      try clear hcz20_2
                      try clear hcz22_0
                      try clear hcz22_1
                      try clear hcz22_2
                      try clear hcz25_0
                      try clear hcz25_1
                      try clear hcz25_2
                      try clear hcz30_0
                      try clear hcz30_1
                      try clear hcz30_2
                      try clear hfz20_0
                      try clear hfz20_1
                      try clear hfz20_2
                      try clear hfz22_0
                      try clear hfz22_1
                      try clear hfz22_2
                      try clear hfz25_0
                      try clear hfz25_1
                      try clear hfz25_2
                      try clear hfz30_0
                      try clear hfz30_1
                      try clear hfz30_2
                      try clear hx177_0
                      try clear p177
                      try clear p2
                      try clear q177
                      obtain ⟨x10_4, x64_4, rfl, rfl, HA, HK4, HO_7, BK159, HB⟩ := hrel
                      cases gk with
                      | zero => exact absurd HA.out (by simp [chancerylaw3_ChartSectorsAndShares.l0])
                      | succ k4 =>
                        have H := HA.out
                        clear HA
                        simp only [chancerylaw3_ChartSectorsAndShares.l0] at H
                        by_cases c31 : x64_4 < ((rd_L2 l0_2 0).length : Int)
                        · rw [if_pos c31] at H
                          have c31b0 : decide (x64_4 < ((rd_L2 l0_2 0).length : Int)) = true := decide_eq_true c31
                          clear c31
                          by_cases c32 : 0 ≤ x64_4
                          · rw [if_pos c32] at H
                            have c32b0 : decide (0 ≤ x64_4) = true := decide_eq_true c32
                            clear c32
                            by_cases c33 : x64_4 < ((rd_L2 l0_2 0).length : Int)
                            · rw [if_pos c33] at H
                              have c33b0 : decide (x64_4 < ((rd_L2 l0_2 0).length : Int)) = true := decide_eq_true c33
                              clear c33
                              have H' := Aside0.mk H
                              clear H
                              have p178 : 0 ≤ (x64_4 : Int) := of_decide_eq_true (by first | (with_reducible assumption) | assumption)
                              have q178 : x64_4 < ((rd_L2 l0_2 0).length : Int) := of_decide_eq_true (by first | (with_reducible assumption) | assumption)
                              obtain ⟨ad178, e178, hx178_0⟩ := Kd.at_int HR177_0.out x64_4 p178 q178
                              cases e178
                              replace hx178_0 := (HB.out.cell (World.block_lt_of_cell? w _ hx178_0)).trans hx178_0
                              replace p178 := eq_true p178
                              replace q178 := eq_true q178
                              go_wp2
                              go_roundg k4
                              case measure => have := HJ3.out; have := HJ18.out; have := HJ25.out; have := HK4.out; omega
                              case rel => exact ⟨(wrap64 (x10_4 + (rd (rd_L2 l0_2 0) x64_4))), (wrap64 (x64_4 + 1)), (by first | rfl | (simp; done) | (simp [*]; done)), (by first | rfl | (simp; done) | (simp [*]; done)), H', ⟨by have := HJ3.out; have := HJ18.out; have := HJ25.out; have := HK4.out; omega⟩, ⟨by (with_reducible repeat (first | apply Kd.R_alloc | apply Kd.R_drewN | apply Kd.R_drew)); exact HO_7.out⟩, ⟨by (with_reducible repeat (first | refine blk_drewN ?_ _ | refine blk_drew ?_ | refine blk_alloc ?_ _)); exact BK159.out⟩, ⟨by repeat (first | (with_reducible first | exact HB.out | apply below_alloc | apply pw_below_drewN | apply below_drew1 | refine below_set ?_ GE159.out) | exact HB.out)⟩⟩
                            · rw [if_neg c33] at H
                              exact absurd H (by simp)
                          · rw [if_neg c32] at H
                            exact absurd H (by simp)
                        · rw [if_neg c31] at H
                          have c31b0 : decide (x64_4 < ((rd_L2 l0_2 0).length : Int)) = false := decide_eq_false c31
                          clear c31
                          have HC34 := Aside0.mk H
                          clear H
                          go_upto_region 16 with (fail)
                          go_cut [81] (fun v81 wc => ∃ (kq : Nat) (x81_33 : Bool), v81 = .bool x81_33 ∧ Aside0 (chancerylaw3_ChartSectorsAndShares.j4 kq l1 t171 x10_4 x81_33 a0_0 l0_1 l0_2 = some r) ∧ Aside0 (kq ≤ k4) ∧ Aside0 (Kd.R k61 61 wc w.heap.size (fun _ => True) v172 t171) ∧ Aside0 (wc.heap[gb159]? = some (.cells #[.int .i64 a0_0, (.slice A0_1 l0_1.length c0_1), (.slice (some ad177) l0_2.length c0_2)] 55 (0, 0))) ∧ Aside0 (Below w.heap.size w wc))
                          case first =>
                            have H := HC34.out
                            clear HC34
                            by_cases c35 : t174 = 0
                            · rw [if_pos c35] at H
                              have c35b0 : (t174 == 0) = true := beq_iff_eq.mpr c35
                              have c35b1 : (t174 != 0) = false := bne_eq_false_iff_eq.mpr c35
                              clear c35
                              (first | rw [c35b0] | (simp only [i64_w, i32_w]; rw [c35b0]) | skip)
                              have H' := Aside0.mk H
                              clear H
                              obtain ⟨Ao36, co36, eo36⟩ := Kd.R_slice HO_7.out
                              subst eo36
                              have hcz37_0 : wr.cell? ⟨gb159, 0, none⟩ = some (.int .i64 a0_0) := (blk_cell BK159.out 0).trans rfl
                              have hcz37_1 : wr.cell? ⟨gb159, 1, none⟩ = some (.slice A0_1 l0_1.length c0_1) := (blk_cell BK159.out 1).trans rfl
                              have hcz37_2 : wr.cell? ⟨gb159, 2, none⟩ = some (.slice (some ad177) l0_2.length c0_2) := (blk_cell BK159.out 2).trans rfl
                              have hfz37_0 := blk_frozen BK159.out 0
                              have hfz37_1 := blk_frozen BK159.out 1
                              have hfz37_2 := blk_frozen BK159.out 2
                              go_wp2
                              go_meet
                              case rel => exact ⟨_, (((t171.length : Int) != (l0_1.length : Int))), (by first | rfl | (simp; done) | (simp [*]; done)), H', ⟨by have := HJ3.out; have := HJ18.out; have := HJ25.out; have := HK4.out; first | omega | exact Nat.le_refl _⟩, ⟨by (with_reducible repeat (first | apply Kd.R_alloc | apply Kd.R_drewN | apply Kd.R_drew)); exact HO_7.out⟩, ⟨by (with_reducible repeat (first | refine blk_drewN ?_ _ | refine blk_drew ?_ | refine blk_alloc ?_ _)); exact BK159.out⟩, ⟨by repeat (first | (with_reducible first | exact HB.out | apply below_alloc | apply pw_below_drewN | apply below_drew1 | refine below_set ?_ GE159.out) | exact HB.out)⟩⟩
                            · rw [if_neg c35] at H
                              have c35b0 : (t174 == 0) = false := beq_eq_false_iff_ne.mpr c35
                              have c35b1 : (t174 != 0) = true := bne_iff_ne.mpr c35
                              (first | rw [c35b0] | (simp only [i64_w, i32_w]; rw [c35b0]) | skip)
                              have H' := Aside0.mk H
                              clear H
                              go_wp2
                              go_meet
                              case rel => exact ⟨_, (true), (by first | rfl | (simp; done) | (simp [*]; done)), H', ⟨by have := HJ3.out; have := HJ18.out; have := HJ25.out; have := HK4.out; first | omega | exact Nat.le_refl _⟩, ⟨by (with_reducible repeat (first | apply Kd.R_alloc | apply Kd.R_drewN | apply Kd.R_drew)); exact HO_7.out⟩, ⟨by (with_reducible repeat (first | refine blk_drewN ?_ _ | refine blk_drew ?_ | refine blk_alloc ?_ _)); exact BK159.out⟩, ⟨by repeat (first | (with_reducible first | exact HB.out | apply below_alloc | apply pw_below_drewN | apply below_drew1 | refine below_set ?_ GE159.out) | exact HB.out)⟩⟩
                          case rest =>
                            clear HC34
                            try clear c1
                            try clear p1
                            try clear q1
                            try clear hx1
                            try clear qi1
                            try clear c2
                            try clear p2
                            try clear c3
                            try clear p6
                            try clear c8
                            try clear c10
                            try clear c10b0
                            try clear c10b1
                            try clear c16
                            try clear c17
                            try clear p17
                            try clear q17
                            try clear hx17
                            try clear qi17
                            try clear c24
                            try clear c24b0
                            try clear c24b1
                            try clear c27
                            try clear c28
                            try clear c28b0
                            try clear c28b1
                            try clear c29
                            try clear c29b0
                            try clear c29b1
                            try clear c30
                            try clear c31
                            try clear c31b0
                            try clear c32
                            try clear c32b0
                            try clear c33
                            try clear c33b0
                            try clear c35
                            try clear c35b0
                            try clear c35b1
                            try clear hcz20_0
                            try clear hcz20_1
                            try clear hcz20_2
                            try clear hcz22_0
                            try clear hcz22_1
                            try clear hcz22_2
                            try clear hcz25_0
                            try clear hcz25_1
                            try clear hcz25_2
                            try clear hcz30_0
                            try clear hcz30_1
                            try clear hcz30_2
                            try clear hcz37_0
                            try clear hcz37_1
                            try clear hcz37_2
                            try clear hfz20_0
                            try clear hfz20_1
                            try clear hfz20_2
                            try clear hfz22_0
                            try clear hfz22_1
                            try clear hfz22_2
                            try clear hfz25_0
                            try clear hfz25_1
                            try clear hfz25_2
                            try clear hfz30_0
                            try clear hfz30_1
                            try clear hfz30_2
                            try clear hfz37_0
                            try clear hfz37_1
                            try clear hfz37_2
                            try clear hx177_0
                            try clear hx178_0
                            try clear p1
                            try clear p17
                            try clear p177
                            try clear p178
                            try clear p2
                            try clear q1
                            try clear q17
                            try clear q177
                            try clear q178
                            obtain ⟨kq, x81_33, rfl, HA, HJ33, HO_7, BK159, HB⟩ := hcut
                            cases kq with
                            | zero => exact absurd HA.out (by simp [chancerylaw3_ChartSectorsAndShares.j4])
                            | succ kj33 =>
                              have H := HA.out
                              clear HA
                              simp only [chancerylaw3_ChartSectorsAndShares.j4] at H
                              by_cases c38 : x81_33 = true
                              · subst c38
                                have H1 : (some false) = some r := by rw [if_pos rfl] at H; exact H
                                clear H
                                have H := H1
                                clear H1
                                obtain rfl := Option.some.inj H
                                go_wp2
                                go_ret
                                exact ⟨by first | rfl | (simp [errW_none, errW_some] <;> rfl) | (simp [*, errW_none, errW_some] <;> rfl), by repeat (first | (with_reducible first | exact HB.out | apply below_alloc | apply pw_below_drewN | apply below_drew1 | refine below_set ?_ GE159.out) | exact HB.out)⟩
                              · replace c38 := Bool.eq_false_iff.mpr c38
                                subst c38
                                have H1 : (if 0 < (l0_2.length : Int) then (chancerylaw3_ChartSectorsAndShares.l1 kj33 l1 t171 x10_4 0 0 (rd_L2 l0_2 0) ((rd_L2 l0_2 0).length : Int) 0) else (none)) = some r := by rw [if_neg (show ¬ (false = true) by decide)] at H; exact H
                                clear H
                                have H := H1
                                clear H1
                                by_cases c39 : 0 < (l0_2.length : Int)
                                · rw [if_pos c39] at H
                                  have c39b0 : decide (0 < (l0_2.length : Int)) = true := decide_eq_true c39
                                  have c39b1 : decide (0 < l0_2.length) = true := decide_eq_true (by omega)
                                  clear c39
                                  have H' := Aside0.mk H
                                  clear H
                                  have hcz40_0 : wc.cell? ⟨gb159, 0, none⟩ = some (.int .i64 a0_0) := (blk_cell BK159.out 0).trans rfl
                                  have hcz40_1 : wc.cell? ⟨gb159, 1, none⟩ = some (.slice A0_1 l0_1.length c0_1) := (blk_cell BK159.out 1).trans rfl
                                  have hcz40_2 : wc.cell? ⟨gb159, 2, none⟩ = some (.slice (some ad177) l0_2.length c0_2) := (blk_cell BK159.out 2).trans rfl
                                  have hfz40_0 := blk_frozen BK159.out 0
                                  have hfz40_1 := blk_frozen BK159.out 1
                                  have hfz40_2 := blk_frozen BK159.out 2
                                  have p179 : 0 ≤ (0 : Int) := (by omega)
                                  have q179 : 0 < (l0_2.length : Int) := of_decide_eq_true (by first | (with_reducible assumption) | assumption)
                                  obtain ⟨ad179, A179_0, c179_0, e179, hx179_0, hl179_0, hi179_0⟩ := at_L2 HR0_2.out 0 p179 q179
                                  obtain rfl : ad177 = ad179 := (by injection e179)
                                  have qi179 : (0 < l0_2.length) = True := eq_true (by omega)
                                  (try rw [show ((0 : Int)).toNat = 0 from rfl] at hx179_0)
                                  (try rw [Addr.add_zero'] at hx179_0)
                                  replace hx179_0 := (HB.out.cell (World.block_lt_of_cell? w _ hx179_0)).trans hx179_0
                                  have HR179_0 := Aside0.mk hi179_0
                                  have HC179_0 := Aside0.mk hl179_0
                                  clear hi179_0 hl179_0
                                  replace p179 := eq_true p179
                                  replace q179 := eq_true q179
                                  go_wp2
                                  go_loopg [13, 14, 87] kj33 (fun kq v13 v14 v87 w' => ∃ (x13_6 : Int) (x14_6 : Int) (x87_6 : Int), v13 = .int .i64 x13_6 ∧ v14 = .int .i64 x14_6 ∧ v87 = .int .i64 x87_6 ∧ Aside0 (chancerylaw3_ChartSectorsAndShares.l1 kq l1 t171 x10_4 x13_6 x14_6 (rd_L2 l0_2 0) ((rd_L2 l0_2 0).length : Int) x87_6 = some r) ∧ Aside0 (kq ≤ kj33) ∧ Aside0 (Kd.R k61 61 w' w.heap.size (fun _ => True) v172 t171) ∧ Aside0 (w'.heap[gb159]? = some (.cells #[.int .i64 a0_0, (.slice A0_1 l0_1.length c0_1), (.slice (some ad177) l0_2.length c0_2)] 55 (0, 0))) ∧ Aside0 (Below w.heap.size w w'))
                                  case atStart => exact ⟨(0), (0), (0), (by first | rfl | (simp; done) | (simp [*]; done)), (by first | rfl | (simp; done) | (simp [*]; done)), (by first | rfl | (simp; done) | (simp [*]; done)), H', ⟨Nat.le_refl _⟩, ⟨by (with_reducible repeat (first | apply Kd.R_alloc | apply Kd.R_drewN | apply Kd.R_drew)); exact HO_7.out⟩, ⟨by (with_reducible repeat (first | refine blk_drewN ?_ _ | refine blk_drew ?_ | refine blk_alloc ?_ _)); exact BK159.out⟩, ⟨by repeat (first | (with_reducible first | exact HB.out | apply below_alloc | apply pw_below_drewN | apply below_drew1 | refine below_set ?_ GE159.out) | exact HB.out)⟩⟩
                                  case round =>
                                    clear H'
                                    try clear c1
                                    try clear p1
                                    try clear q1
                                    try clear hx1
                                    try clear qi1
                                    try clear c2
                                    try clear p2
                                    try clear c3
                                    try clear p6
                                    try clear c8
                                    try clear c10
                                    try clear c10b0
                                    try clear c10b1
                                    try clear c16
                                    try clear c17
                                    try clear p17
                                    try clear q17
                                    try clear hx17
                                    try clear qi17
                                    try clear c24
                                    try clear c24b0
                                    try clear c24b1
                                    try clear c27
                                    try clear c28
                                    try clear c28b0
                                    try clear c28b1
                                    try clear c29
                                    try clear c29b0
                                    try clear c29b1
                                    try clear c30
                                    try clear c31
                                    try clear c31b0
                                    try clear c32
                                    try clear c32b0
                                    try clear c33
                                    try clear c33b0
                                    try clear c35
                                    try clear c35b0
                                    try clear c35b1
                                    try clear c38
                                    try clear c39
                                    try clear c39b0
                                    try clear c39b1
                                    try clear hcz20_0
                                    try clear hcz20_1
                                    try clear hcz20_2
                                    try clear hcz22_0
                                    try clear hcz22_1
                                    try clear hcz22_2
                                    try clear hcz25_0
                                    try clear hcz25_1
                                    try clear hcz25_2
                                    try clear hcz30_0
                                    try clear hcz30_1
                                    try clear hcz30_2
                                    try clear hcz37_0
                                    try clear hcz37_1
                                    try clear hcz37_2
                                    try clear hcz40_0
                                    try clear hcz40_1
                                    try clear hcz40_2
                                    try clear hfz20_0
                                    try clear hfz20_1
                                    try clear hfz20_2
                                    try clear hfz22_0
                                    try clear hfz22_1
                                    try clear hfz22_2
                                    try clear hfz25_0
                                    try clear hfz25_1
                                    try clear hfz25_2
                                    try clear hfz30_0
                                    try clear hfz30_1
                                    try clear hfz30_2
                                    try clear hfz37_0
                                    try clear hfz37_1
                                    try clear hfz37_2
                                    try clear hfz40_0
                                    try clear hfz40_1
                                    try clear hfz40_2
                                    try clear hx177_0
                                    try clear hx178_0
                                    try clear hx179_0
                                    try clear p1
                                    try clear p17
                                    try clear p177
                                    try clear p178
                                    try clear p179
                                    try clear p2
                                    try clear p6
                                    try clear q1
                                    try clear q17
                                    try clear q177
                                    try clear q178
                                    try clear q179
                                    obtain ⟨x13_6, x14_6, x87_6, rfl, rfl, rfl, HA, HK6, HO_7, BK159, HB⟩ := hrel
                                    cases gk with
                                    | zero => exact absurd HA.out (by simp [chancerylaw3_ChartSectorsAndShares.l1])
                                    | succ k6 =>
                                      have H := HA.out
                                      clear HA
                                      simp only [chancerylaw3_ChartSectorsAndShares.l1] at H
                                      by_cases c41 : x87_6 < ((rd_L2 l0_2 0).length : Int)
                                      · rw [if_pos c41] at H
                                        have c41b0 : decide (x87_6 < ((rd_L2 l0_2 0).length : Int)) = true := decide_eq_true c41
                                        clear c41
                                        by_cases c42 : 0 ≤ x87_6
                                        · rw [if_pos c42] at H
                                          have c42b0 : decide (0 ≤ x87_6) = true := decide_eq_true c42
                                          clear c42
                                          by_cases c43 : x87_6 < ((rd_L2 l0_2 0).length : Int)
                                          · rw [if_pos c43] at H
                                            have c43b0 : decide (x87_6 < ((rd_L2 l0_2 0).length : Int)) = true := decide_eq_true c43
                                            clear c43
                                            by_cases c44 : x10_4 > 0
                                            · rw [if_pos c44] at H
                                              have c44b0 : decide (0 < x10_4) = true := decide_eq_true c44
                                              clear c44
                                              replace H := Option.bind_eq_some_iff.mp H
                                              obtain ⟨t182, A450, H⟩ := H
                                              replace H : (if x87_6 < (t171.length : Int) then (if (!(((rd_T61 t171 x87_6).f0) == x87_6) || (!(((rd_T61 t171 x87_6).f1) == x14_6) || (!(((rd_T61 t171 x87_6).f2) == t182)))) = true then (some false) else (chancerylaw3_ChartSectorsAndShares.l1 k6 l1 t171 x10_4 (wrap64 (x13_6 + (rd (rd_L2 l0_2 0) x87_6))) t182 (rd_L2 l0_2 0) ((rd_L2 l0_2 0).length : Int) (wrap64 (x87_6 + 1)))) else (none)) = some r := H
                                              have A45 := Aside0.mk A450
                                              clear A450
                                              by_cases c46 : x87_6 < (t171.length : Int)
                                              · rw [if_pos c46] at H
                                                have c46b0 : decide (x87_6 < (t171.length : Int)) = true := decide_eq_true c46
                                                clear c46
                                                by_cases c47 : (!(((rd_T61 t171 x87_6).f0) == x87_6) || (!(((rd_T61 t171 x87_6).f1) == x14_6) || (!(((rd_T61 t171 x87_6).f2) == t182)))) = true
                                                · rw [if_pos c47] at H
                                                  have c47b0 : (!(((rd_T61 t171 x87_6).f0) == x87_6) || (!(((rd_T61 t171 x87_6).f1) == x14_6) || (!(((rd_T61 t171 x87_6).f2) == t182)))) = true := c47
                                                  clear c47
                                                  obtain rfl := Option.some.inj H
                                                  have p181 : 0 ≤ (x87_6 : Int) := of_decide_eq_true (by first | (with_reducible assumption) | assumption)
                                                  have q181 : x87_6 < ((rd_L2 l0_2 0).length : Int) := of_decide_eq_true (by first | (with_reducible assumption) | assumption)
                                                  obtain ⟨ad181, e181, hx181_0⟩ := Kd.at_int HR179_0.out x87_6 p181 q181
                                                  cases e181
                                                  replace hx181_0 := (HB.out.cell (World.block_lt_of_cell? w _ hx181_0)).trans hx181_0
                                                  replace p181 := eq_true p181
                                                  replace q181 := eq_true q181
                                                  go_wp2_with (first | ((with_reducible refine gate_callee (f := 23) rfl ?_); refine goesL_ (some 100) rfl rfl Try.func23 (by kernel_rfl) rfl #[.int .i64 (wrap64 ((wrap64 (x13_6 + (rd (rd_L2 l0_2 0) x87_6))) * 3600)), .int .i64 x10_4] rfl (by (try simp only [List.map_toArray, List.map_cons, List.map_nil]); first | done | rfl | (simp only [List.length_drop, List.length_take]; rfl)) ?_; (with_reducible refine (chanceryref3_Near.calls (wrap64 ((wrap64 (x13_6 + (rd (rd_L2 l0_2 0) x87_6))) * 3600)) x10_4 t182 _ A45.out).mono ?_); rintro e w' ⟨rfl, ⟨nd, rfl⟩⟩; refine ⟨_, rfl, ?_⟩; obtain ⟨Ao48, co48, eo48⟩ := Kd.R_slice HO_7.out; subst eo48; have p183 : 0 ≤ (x87_6 : Int) := of_decide_eq_true (by first | (with_reducible assumption) | assumption); have q183 : x87_6 < (t171.length : Int) := of_decide_eq_true (by first | (with_reducible assumption) | assumption); obtain ⟨ad183, e183, hx183_0, hx183_1, hx183_2⟩ := at_T61 (Kd.R_reads' HO_7.out).2.2 x87_6 p183 q183; cases e183; replace p183 := eq_true p183; replace q183 := eq_true q183))
                                                  go_ret
                                                  exact ⟨by first | rfl | (simp [errW_none, errW_some] <;> rfl) | (simp [*, errW_none, errW_some] <;> rfl), by repeat (first | (with_reducible first | exact HB.out | apply below_alloc | apply pw_below_drewN | apply below_drew1 | refine below_set ?_ GE159.out) | exact HB.out)⟩
                                                · rw [if_neg c47] at H
                                                  have c47b0 : (!(((rd_T61 t171 x87_6).f0) == x87_6) || (!(((rd_T61 t171 x87_6).f1) == x14_6) || (!(((rd_T61 t171 x87_6).f2) == t182)))) = false := by simpa using c47
                                                  clear c47
                                                  have H' := Aside0.mk H
                                                  clear H
                                                  have p181 : 0 ≤ (x87_6 : Int) := of_decide_eq_true (by first | (with_reducible assumption) | assumption)
                                                  have q181 : x87_6 < ((rd_L2 l0_2 0).length : Int) := of_decide_eq_true (by first | (with_reducible assumption) | assumption)
                                                  obtain ⟨ad181, e181, hx181_0⟩ := Kd.at_int HR179_0.out x87_6 p181 q181
                                                  cases e181
                                                  replace hx181_0 := (HB.out.cell (World.block_lt_of_cell? w _ hx181_0)).trans hx181_0
                                                  replace p181 := eq_true p181
                                                  replace q181 := eq_true q181
                                                  go_wp2_with (first | ((with_reducible refine gate_callee (f := 23) rfl ?_); refine goesL_ (some 100) rfl rfl Try.func23 (by kernel_rfl) rfl #[.int .i64 (wrap64 ((wrap64 (x13_6 + (rd (rd_L2 l0_2 0) x87_6))) * 3600)), .int .i64 x10_4] rfl (by (try simp only [List.map_toArray, List.map_cons, List.map_nil]); first | done | rfl | (simp only [List.length_drop, List.length_take]; rfl)) ?_; (with_reducible refine (chanceryref3_Near.calls (wrap64 ((wrap64 (x13_6 + (rd (rd_L2 l0_2 0) x87_6))) * 3600)) x10_4 t182 _ A45.out).mono ?_); rintro e w' ⟨rfl, ⟨nd, rfl⟩⟩; refine ⟨_, rfl, ?_⟩; obtain ⟨Ao49, co49, eo49⟩ := Kd.R_slice HO_7.out; subst eo49; have p183 : 0 ≤ (x87_6 : Int) := of_decide_eq_true (by first | (with_reducible assumption) | assumption); have q183 : x87_6 < (t171.length : Int) := of_decide_eq_true (by first | (with_reducible assumption) | assumption); obtain ⟨ad183, e183, hx183_0, hx183_1, hx183_2⟩ := at_T61 (Kd.R_reads' HO_7.out).2.2 x87_6 p183 q183; cases e183; replace p183 := eq_true p183; replace q183 := eq_true q183))
                                                  go_roundg k6
                                                  case measure => have := HJ3.out; have := HJ18.out; have := HJ25.out; have := HK4.out; have := HJ33.out; have := HK6.out; omega
                                                  case rel => exact ⟨(wrap64 (x13_6 + (rd (rd_L2 l0_2 0) x87_6))), (t182), (wrap64 (x87_6 + 1)), (by first | rfl | (simp; done) | (simp [*]; done)), (by first | rfl | (simp; done) | (simp [*]; done)), (by first | rfl | (simp; done) | (simp [*]; done)), H', ⟨by have := HJ3.out; have := HJ18.out; have := HJ25.out; have := HK4.out; have := HJ33.out; have := HK6.out; omega⟩, ⟨by (with_reducible repeat (first | apply Kd.R_alloc | apply Kd.R_drewN | apply Kd.R_drew)); exact HO_7.out⟩, ⟨by (with_reducible repeat (first | refine blk_drewN ?_ _ | refine blk_drew ?_ | refine blk_alloc ?_ _)); exact BK159.out⟩, ⟨by repeat (first | (with_reducible first | exact HB.out | apply below_alloc | apply pw_below_drewN | apply below_drew1 | refine below_set ?_ GE159.out) | exact HB.out)⟩⟩
                                              · rw [if_neg c46] at H
                                                exact absurd H (by simp)
                                            · rw [if_neg c44] at H
                                              have c44b0 : decide (0 < x10_4) = false := decide_eq_false c44
                                              clear c44
                                              by_cases c50 : x87_6 < (t171.length : Int)
                                              · rw [if_pos c50] at H
                                                have c50b0 : decide (x87_6 < (t171.length : Int)) = true := decide_eq_true c50
                                                clear c50
                                                by_cases c51 : (!(((rd_T61 t171 x87_6).f0) == x87_6) || (!(((rd_T61 t171 x87_6).f1) == x14_6) || (!(((rd_T61 t171 x87_6).f2) == 0)))) = true
                                                · rw [if_pos c51] at H
                                                  have c51b0 : (!(((rd_T61 t171 x87_6).f0) == x87_6) || (!(((rd_T61 t171 x87_6).f1) == x14_6) || (!(((rd_T61 t171 x87_6).f2) == 0)))) = true := c51
                                                  clear c51
                                                  obtain rfl := Option.some.inj H
                                                  have p181 : 0 ≤ (x87_6 : Int) := of_decide_eq_true (by first | (with_reducible assumption) | assumption)
                                                  have q181 : x87_6 < ((rd_L2 l0_2 0).length : Int) := of_decide_eq_true (by first | (with_reducible assumption) | assumption)
                                                  obtain ⟨ad181, e181, hx181_0⟩ := Kd.at_int HR179_0.out x87_6 p181 q181
                                                  cases e181
                                                  replace hx181_0 := (HB.out.cell (World.block_lt_of_cell? w _ hx181_0)).trans hx181_0
                                                  replace p181 := eq_true p181
                                                  replace q181 := eq_true q181
                                                  obtain ⟨Ao52, co52, eo52⟩ := Kd.R_slice HO_7.out
                                                  subst eo52
                                                  have p184 : 0 ≤ (x87_6 : Int) := of_decide_eq_true (by first | (with_reducible assumption) | assumption)
                                                  have q184 : x87_6 < (t171.length : Int) := of_decide_eq_true (by first | (with_reducible assumption) | assumption)
                                                  obtain ⟨ad184, e184, hx184_0, hx184_1, hx184_2⟩ := at_T61 (Kd.R_reads' HO_7.out).2.2 x87_6 p184 q184
                                                  cases e184
                                                  replace p184 := eq_true p184
                                                  replace q184 := eq_true q184
                                                  go_wp2
                                                  go_ret
                                                  exact ⟨by first | rfl | (simp [errW_none, errW_some] <;> rfl) | (simp [*, errW_none, errW_some] <;> rfl), by repeat (first | (with_reducible first | exact HB.out | apply below_alloc | apply pw_below_drewN | apply below_drew1 | refine below_set ?_ GE159.out) | exact HB.out)⟩
                                                · rw [if_neg c51] at H
                                                  have c51b0 : (!(((rd_T61 t171 x87_6).f0) == x87_6) || (!(((rd_T61 t171 x87_6).f1) == x14_6) || (!(((rd_T61 t171 x87_6).f2) == 0)))) = false := by simpa using c51
                                                  clear c51
                                                  have H' := Aside0.mk H
                                                  clear H
                                                  have p181 : 0 ≤ (x87_6 : Int) := of_decide_eq_true (by first | (with_reducible assumption) | assumption)
                                                  have q181 : x87_6 < ((rd_L2 l0_2 0).length : Int) := of_decide_eq_true (by first | (with_reducible assumption) | assumption)
                                                  obtain ⟨ad181, e181, hx181_0⟩ := Kd.at_int HR179_0.out x87_6 p181 q181
                                                  cases e181
                                                  replace hx181_0 := (HB.out.cell (World.block_lt_of_cell? w _ hx181_0)).trans hx181_0
                                                  replace p181 := eq_true p181
                                                  replace q181 := eq_true q181
                                                  obtain ⟨Ao53, co53, eo53⟩ := Kd.R_slice HO_7.out
                                                  subst eo53
                                                  have p184 : 0 ≤ (x87_6 : Int) := of_decide_eq_true (by first | (with_reducible assumption) | assumption)
                                                  have q184 : x87_6 < (t171.length : Int) := of_decide_eq_true (by first | (with_reducible assumption) | assumption)
                                                  obtain ⟨ad184, e184, hx184_0, hx184_1, hx184_2⟩ := at_T61 (Kd.R_reads' HO_7.out).2.2 x87_6 p184 q184
                                                  cases e184
                                                  replace p184 := eq_true p184
                                                  replace q184 := eq_true q184
                                                  go_wp2
                                                  go_roundg k6
                                                  case measure => have := HJ3.out; have := HJ18.out; have := HJ25.out; have := HK4.out; have := HJ33.out; have := HK6.out; omega
                                                  case rel => exact ⟨(wrap64 (x13_6 + (rd (rd_L2 l0_2 0) x87_6))), (0), (wrap64 (x87_6 + 1)), (by first | rfl | (simp; done) | (simp [*]; done)), (by first | rfl | (simp; done) | (simp [*]; done)), (by first | rfl | (simp; done) | (simp [*]; done)), H', ⟨by have := HJ3.out; have := HJ18.out; have := HJ25.out; have := HK4.out; have := HJ33.out; have := HK6.out; omega⟩, ⟨by (with_reducible repeat (first | apply Kd.R_alloc | apply Kd.R_drewN | apply Kd.R_drew)); exact HO_7.out⟩, ⟨by (with_reducible repeat (first | refine blk_drewN ?_ _ | refine blk_drew ?_ | refine blk_alloc ?_ _)); exact BK159.out⟩, ⟨by repeat (first | (with_reducible first | exact HB.out | apply below_alloc | apply pw_below_drewN | apply below_drew1 | refine below_set ?_ GE159.out) | exact HB.out)⟩⟩
                                              · rw [if_neg c50] at H
                                                exact absurd H (by simp)
                                          · rw [if_neg c43] at H
                                            exact absurd H (by simp)
                                        · rw [if_neg c42] at H
                                          exact absurd H (by simp)
                                      · rw [if_neg c41] at H
                                        have c41b0 : decide (x87_6 < ((rd_L2 l0_2 0).length : Int)) = false := decide_eq_false c41
                                        clear c41
                                        replace H := Option.bind_eq_some_iff.mp H
                                        obtain ⟨t180, A540, H⟩ := H
                                        replace H : (some t180) = some r := H
                                        have A54 := Aside0.mk A540
                                        clear A540
                                        obtain rfl := Option.some.inj H
                                        go_wp2_with (first | ((with_reducible refine gate_callee (f := 32) rfl ?_); refine goesL_ (some 113) rfl rfl Try.func32 (by kernel_rfl) rfl #[.slice A1 l1.length c1] rfl (by (try simp only [List.map_toArray, List.map_cons, List.map_nil]); first | done | rfl | (simp only [List.length_drop, List.length_take]; rfl)) ?_; (with_reducible refine (chancerylaw3_sharesRight.calls k6 _ _ l1 t180 _ ?side1 ?side2 A54.out).mono ?_); (case side1 => repeat (first | exact (Kd.C_below HR1.out HB.out) | (with_reducible refine Kd.C_alloc ?_ _) | (with_reducible refine Kd.C_drewN ?_ _) | (with_reducible refine Kd.C_drew ?_))); (case side2 => exact HC1.out); rintro e w55 ⟨rfl, hb⟩; refine ⟨_, rfl, ?_⟩; have n0_ := Aside0.mk (Kd.R_below (by (with_reducible repeat (first | apply Kd.R_alloc | apply Kd.R_drewN | apply Kd.R_drew)); exact HO_7.out) hb); have n1_ := Aside0.mk (blk_below (g := gb159) (o := .cells #[.int .i64 a0_0, .slice A0_1 l0_1.length c0_1, .slice (some ad177) l0_2.length c0_2] 55 (0, 0)) (by (with_reducible repeat (first | refine blk_drewN ?_ _ | refine blk_drew ?_ | refine blk_alloc ?_ _)); exact BK159.out) hb); have n2_ := Aside0.mk (below_step (by repeat (first | (with_reducible first | exact HB.out | apply below_alloc | apply pw_below_drewN | apply below_drew1 | refine below_set ?_ GE159.out) | exact HB.out)) hb); clear HO_7; clear BK159; clear HB; have HO_7 := n0_; have BK159 := n1_; have HB := n2_; clear n0_ n1_ n2_; (try clear hb); (try clear hb2); (try clear hk); (try clear hi)))
                                        go_ret
                                        exact ⟨by first | rfl | (simp [errW_none, errW_some] <;> rfl) | (simp [*, errW_none, errW_some] <;> rfl), by repeat (first | (with_reducible first | exact HB.out | apply below_alloc | apply pw_below_drewN | apply below_drew1 | refine below_set ?_ GE159.out) | exact HB.out)⟩
                                · rw [if_neg c39] at H
                                  exact absurd H (by simp)
                  · rw [if_neg c29] at H
                    exact absurd H (by simp)
                · rw [if_neg c28] at H
                  have c28b0 : (x9_25 == 0) = false := beq_eq_false_iff_ne.mpr c28
                  have c28b1 : (x9_25 != 0) = true := bne_iff_ne.mpr c28
                  by_cases c56 : t174 = x9_25
                  · rw [if_pos c56] at H
                    have c56b0 : (t174 == x9_25) = true := beq_iff_eq.mpr c56
                    have c56b1 : (t174 != x9_25) = false := bne_eq_false_iff_eq.mpr c56
                    clear c56
                    by_cases c57 : (t171.length : Int) = 0
                    · rw [if_pos c57] at H
                      have c57b0 : ((t171.length : Int) == 0) = true := beq_iff_eq.mpr c57
                      have c57b1 : ((t171.length : Int) != 0) = false := bne_eq_false_iff_eq.mpr c57
                      clear c57
                      replace H := Option.bind_eq_some_iff.mp H
                      obtain ⟨t176, A580, H⟩ := H
                      replace H : (some t176) = some r := H
                      have A58 := Aside0.mk A580
                      clear A580
                      obtain rfl := Option.some.inj H
                      obtain ⟨Ao59, co59, eo59⟩ := Kd.R_slice HO_7.out
                      subst eo59
                      go_wp2_with (first | (go_at_call 32; (with_reducible refine (chancerylaw3_sharesRight.calls kj25 _ _ l1 t176 _ ?side1 ?side2 A58.out).mono ?_); (case side1 => repeat (first | exact (Kd.C_below HR1.out HB.out) | (with_reducible refine Kd.C_alloc ?_ _) | (with_reducible refine Kd.C_drewN ?_ _) | (with_reducible refine Kd.C_drew ?_))); (case side2 => exact HC1.out); rintro e w60 ⟨rfl, hb⟩; have n0_ := Aside0.mk (Kd.R_below (by (with_reducible repeat (first | apply Kd.R_alloc | apply Kd.R_drewN | apply Kd.R_drew)); exact HO_7.out) hb); have n1_ := Aside0.mk (blk_below (g := gb159) (o := .cells #[.int .i64 a0_0, .slice A0_1 l0_1.length c0_1, .slice A0_2 l0_2.length c0_2] 55 (0, 0)) (by (with_reducible repeat (first | refine blk_drewN ?_ _ | refine blk_drew ?_ | refine blk_alloc ?_ _)); exact BK159.out) hb); have n2_ := Aside0.mk (below_step (by repeat (first | (with_reducible first | exact HB.out | apply below_alloc | apply pw_below_drewN | apply below_drew1 | refine below_set ?_ GE159.out) | exact HB.out)) hb); clear HO_7; clear BK159; clear HB; have HO_7 := n0_; have BK159 := n1_; have HB := n2_; clear n0_ n1_ n2_; (try clear hb); (try clear hb2); (try clear hk); (try clear hi)))
                      go_ret
                      exact ⟨by first | rfl | (simp [errW_none, errW_some] <;> rfl) | (simp [*, errW_none, errW_some] <;> rfl), by repeat (first | (with_reducible first | exact HB.out | apply below_alloc | apply pw_below_drewN | apply below_drew1 | refine below_set ?_ GE159.out) | exact HB.out)⟩
                    · rw [if_neg c57] at H
                      have c57b0 : ((t171.length : Int) == 0) = false := beq_eq_false_iff_ne.mpr c57
                      have c57b1 : ((t171.length : Int) != 0) = true := bne_iff_ne.mpr c57
                      have c57b2 : ¬ (t171 = []) := fun h_ => c57 (by rw [h_]; rfl)
                      obtain rfl := Option.some.inj H
                      obtain ⟨Ao61, co61, eo61⟩ := Kd.R_slice HO_7.out
                      subst eo61
                      go_wp2
                      go_ret
                      exact ⟨by first | rfl | (simp [errW_none, errW_some] <;> rfl) | (simp [*, errW_none, errW_some] <;> rfl), by repeat (first | (with_reducible first | exact HB.out | apply below_alloc | apply pw_below_drewN | apply below_drew1 | refine below_set ?_ GE159.out) | exact HB.out)⟩
                  · rw [if_neg c56] at H
                    have c56b0 : (t174 == x9_25) = false := beq_eq_false_iff_ne.mpr c56
                    have c56b1 : (t174 != x9_25) = true := bne_iff_ne.mpr c56
                    obtain rfl := Option.some.inj H
                    go_wp2
                    go_ret
                    exact ⟨by first | rfl | (simp [errW_none, errW_some] <;> rfl) | (simp [*, errW_none, errW_some] <;> rfl), by repeat (first | (with_reducible first | exact HB.out | apply below_alloc | apply pw_below_drewN | apply below_drew1 | refine below_set ?_ GE159.out) | exact HB.out)⟩

end Go.Proofs.Ytihmbddneapooaa.PChartSectorsAndShares
