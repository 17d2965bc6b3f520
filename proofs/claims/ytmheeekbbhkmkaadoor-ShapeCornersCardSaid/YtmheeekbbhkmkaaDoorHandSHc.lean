import Derived.Test.YtmheeekbbhkmkaaDoorHandSHb
namespace Go.Proofs.YtmheeekbbhkmkaaDoor.HandSH
open Go.Proofs.YtmheeekbbhkmkaaDoor.Lib (w64 tmod_down)
open Go.RowKit Go.Proofs.YtmheeekbbhkmkaaDoorW.PrintWords Go.Proofs.YtmheeekbbhkmkaaDoorW.PrintLast Go.Proofs.YtmheeekbbhkmkaaDoorW.PrintMore Go.Proofs.YtmheeekbbhkmkaaDoor.QSH
set_option linter.unusedVariables false
theorem ret_int {a b : Int} (h : a = b) : Ending.returned (.int .i64 a) = .returned (.int .i64 b) := by rw [h]
set_option maxHeartbeats 2000000 in
set_option maxRecDepth 100000 in
theorem Sine_000 (t u v y : Int) (w : World) (hn : -1000000000000 ≤ t ∧ t ≤ 1000000000000) (hu0 : t % 3600 = u) (ha : ¬ u ≥ 1800) (hv : u = v) (hb : ¬ v > 900) (hy : v = y) (hr : ¬ y % 10 = 0) (hL : LaidW w) : Calls Tryd.prog 28 #[.int .i64 t] w fun e w' => e = .returned (.int .i64 (S0 y)) ∧ Below w.heap.size w w' := by
  have HB := Aside0.mk (Below.refl w.heap.size w)
  obtain ⟨n0, n1⟩ := hn
  have u0 : 0 ≤ u := by omega
  have u1 : u < 3600 := by omega
  subst hv
  subst hy
  have y0 : 0 ≤ u := by omega
  have y1 : u ≤ 900 := by omega
  have hq0 : w.cell? ⟨0, (u / 10).toNat, none⟩ = some (.int .i64 (Q (u / 10))) := hL.sines _ (by omega)
  obtain ⟨bq0, bq1⟩ := Q_bd (u / 10)
  have hq1 : w.cell? ⟨0, (u / 10 + 1).toNat, none⟩ = some (.int .i64 (Q (u / 10 + 1))) := hL.sines _ (by omega)
  have hs : S0 u = (Q (u / 10) * (10 - u % 10) + Q (u / 10 + 1) * (u % 10) + 5) / 10 := if_neg hr
  have hrd : decide (0 < u % 10) = true := decide_eq_true (by omega)
  obtain ⟨p, hp⟩ : ∃ p, Q (u / 10) * (10 - u % 10) = p := ⟨_, rfl⟩
  obtain ⟨q, hq⟩ : ∃ q, Q (u / 10 + 1) * (u % 10) = q := ⟨_, rfl⟩
  have b1 := mul_bd (Q_bd (u / 10)) (b := 10 - u % 10) (by omega)
  have b2 := mul_bd (Q_bd (u / 10 + 1)) (b := u % 10) (by omega)
  rw [hp] at b1 hs
  rw [hq] at b2 hs
  obtain ⟨b3, b4⟩ := b1
  obtain ⟨b5, b6⟩ := b2
  have e1 : u / 10 + 1 ≤ 90 := by omega
  have HS := Aside0.mk hs
  clear hs hL
  have HU := Aside0.mk hu0
  clear hu0
  go_enter Tryd.func28, Tryd.ntmps28
  go_wp2
  go_loop [0] (fun v0 => ∃ x : Int, v0 = .int .i64 x ∧ Aside0 (x % 3600 = u) ∧ -1000000000000 ≤ x ∧ x ≤ 1000000000000) (fun v0 => (3600 - intOf v0).toNat)
  case atStart => exact ⟨t, rfl, HU, n0, n1⟩
  case round =>
    obtain ⟨x, rfl, HX, x0, x1⟩ := hrel
    by_cases hx : x < 0
    · go_wp2
      go_round
      case rel => exact ⟨x + 3600, rfl, ⟨by have := HX.out; omega⟩, by omega, by omega⟩
      case measure => simp [intOf]; omega
    · have hxu : x % 3600 = u := HX.out
      have hx0 : 0 ≤ x := by omega
      go_wp2
      go_ret
      exact ⟨by first | (rw [HS.out]; rfl) | exact ret_int (by rw [HS.out]; omega), HB.out⟩
set_option maxHeartbeats 2000000 in
set_option maxRecDepth 100000 in
theorem Sine_001 (t u v y : Int) (w : World) (hn : -1000000000000 ≤ t ∧ t ≤ 1000000000000) (hu0 : t % 3600 = u) (ha : ¬ u ≥ 1800) (hv : u = v) (hb : ¬ v > 900) (hy : v = y) (hr : y % 10 = 0) (hL : LaidW w) : Calls Tryd.prog 28 #[.int .i64 t] w fun e w' => e = .returned (.int .i64 (S0 y)) ∧ Below w.heap.size w w' := by
  have HB := Aside0.mk (Below.refl w.heap.size w)
  obtain ⟨n0, n1⟩ := hn
  have u0 : 0 ≤ u := by omega
  have u1 : u < 3600 := by omega
  subst hv
  subst hy
  have y0 : 0 ≤ u := by omega
  have y1 : u ≤ 900 := by omega
  have hq0 : w.cell? ⟨0, (u / 10).toNat, none⟩ = some (.int .i64 (Q (u / 10))) := hL.sines _ (by omega)
  obtain ⟨bq0, bq1⟩ := Q_bd (u / 10)
  have hs : S0 u = Q (u / 10) := if_pos hr
  have hrd : decide (0 < u % 10) = false := decide_eq_false (by omega)
  have HS := Aside0.mk hs
  clear hs hL
  have HU := Aside0.mk hu0
  clear hu0
  go_enter Tryd.func28, Tryd.ntmps28
  go_wp2
  go_loop [0] (fun v0 => ∃ x : Int, v0 = .int .i64 x ∧ Aside0 (x % 3600 = u) ∧ -1000000000000 ≤ x ∧ x ≤ 1000000000000) (fun v0 => (3600 - intOf v0).toNat)
  case atStart => exact ⟨t, rfl, HU, n0, n1⟩
  case round =>
    obtain ⟨x, rfl, HX, x0, x1⟩ := hrel
    by_cases hx : x < 0
    · go_wp2
      go_round
      case rel => exact ⟨x + 3600, rfl, ⟨by have := HX.out; omega⟩, by omega, by omega⟩
      case measure => simp [intOf]; omega
    · have hxu : x % 3600 = u := HX.out
      have hx0 : 0 ≤ x := by omega
      go_wp2
      go_ret
      exact ⟨by first | (rw [HS.out]; rfl) | exact ret_int (by rw [HS.out]; omega), HB.out⟩
set_option maxHeartbeats 2000000 in
set_option maxRecDepth 100000 in
theorem Sine_010 (t u v y : Int) (w : World) (hn : -1000000000000 ≤ t ∧ t ≤ 1000000000000) (hu0 : t % 3600 = u) (ha : ¬ u ≥ 1800) (hv : u = v) (hb : v > 900) (hy : 1800 - v = y) (hr : ¬ y % 10 = 0) (hL : LaidW w) : Calls Tryd.prog 28 #[.int .i64 t] w fun e w' => e = .returned (.int .i64 (S0 y)) ∧ Below w.heap.size w w' := by
  have HB := Aside0.mk (Below.refl w.heap.size w)
  obtain ⟨n0, n1⟩ := hn
  have u0 : 0 ≤ u := by omega
  have u1 : u < 3600 := by omega
  subst hv
  have y0 : 0 ≤ y := by omega
  have y1 : y ≤ 900 := by omega
  have hq0 : w.cell? ⟨0, (y / 10).toNat, none⟩ = some (.int .i64 (Q (y / 10))) := hL.sines _ (by omega)
  obtain ⟨bq0, bq1⟩ := Q_bd (y / 10)
  have hq1 : w.cell? ⟨0, (y / 10 + 1).toNat, none⟩ = some (.int .i64 (Q (y / 10 + 1))) := hL.sines _ (by omega)
  have hs : S0 y = (Q (y / 10) * (10 - y % 10) + Q (y / 10 + 1) * (y % 10) + 5) / 10 := if_neg hr
  have hrd : decide (0 < y % 10) = true := decide_eq_true (by omega)
  obtain ⟨p, hp⟩ : ∃ p, Q (y / 10) * (10 - y % 10) = p := ⟨_, rfl⟩
  obtain ⟨q, hq⟩ : ∃ q, Q (y / 10 + 1) * (y % 10) = q := ⟨_, rfl⟩
  have b1 := mul_bd (Q_bd (y / 10)) (b := 10 - y % 10) (by omega)
  have b2 := mul_bd (Q_bd (y / 10 + 1)) (b := y % 10) (by omega)
  rw [hp] at b1 hs
  rw [hq] at b2 hs
  obtain ⟨b3, b4⟩ := b1
  obtain ⟨b5, b6⟩ := b2
  have e1 : y / 10 + 1 ≤ 90 := by omega
  have HS := Aside0.mk hs
  clear hs hL
  have HY := Aside0.mk hy
  clear hy
  have HU := Aside0.mk hu0
  clear hu0
  go_enter Tryd.func28, Tryd.ntmps28
  go_wp2
  go_loop [0] (fun v0 => ∃ x : Int, v0 = .int .i64 x ∧ Aside0 (x % 3600 = u) ∧ -1000000000000 ≤ x ∧ x ≤ 1000000000000) (fun v0 => (3600 - intOf v0).toNat)
  case atStart => exact ⟨t, rfl, HU, n0, n1⟩
  case round =>
    obtain ⟨x, rfl, HX, x0, x1⟩ := hrel
    by_cases hx : x < 0
    · go_wp2
      go_round
      case rel => exact ⟨x + 3600, rfl, ⟨by have := HX.out; omega⟩, by omega, by omega⟩
      case measure => simp [intOf]; omega
    · have hxu : x % 3600 = u := HX.out
      have hx0 : 0 ≤ x := by omega
      have hy : 1800 - u = y := HY.out
      go_wp2
      go_ret
      exact ⟨by first | (rw [HS.out]; rfl) | exact ret_int (by rw [HS.out]; omega), HB.out⟩
set_option maxHeartbeats 2000000 in
set_option maxRecDepth 100000 in
theorem Sine_011 (t u v y : Int) (w : World) (hn : -1000000000000 ≤ t ∧ t ≤ 1000000000000) (hu0 : t % 3600 = u) (ha : ¬ u ≥ 1800) (hv : u = v) (hb : v > 900) (hy : 1800 - v = y) (hr : y % 10 = 0) (hL : LaidW w) : Calls Tryd.prog 28 #[.int .i64 t] w fun e w' => e = .returned (.int .i64 (S0 y)) ∧ Below w.heap.size w w' := by
  have HB := Aside0.mk (Below.refl w.heap.size w)
  obtain ⟨n0, n1⟩ := hn
  have u0 : 0 ≤ u := by omega
  have u1 : u < 3600 := by omega
  subst hv
  have y0 : 0 ≤ y := by omega
  have y1 : y ≤ 900 := by omega
  have hq0 : w.cell? ⟨0, (y / 10).toNat, none⟩ = some (.int .i64 (Q (y / 10))) := hL.sines _ (by omega)
  obtain ⟨bq0, bq1⟩ := Q_bd (y / 10)
  have hs : S0 y = Q (y / 10) := if_pos hr
  have hrd : decide (0 < y % 10) = false := decide_eq_false (by omega)
  have HS := Aside0.mk hs
  clear hs hL
  have HY := Aside0.mk hy
  clear hy
  have HU := Aside0.mk hu0
  clear hu0
  go_enter Tryd.func28, Tryd.ntmps28
  go_wp2
  go_loop [0] (fun v0 => ∃ x : Int, v0 = .int .i64 x ∧ Aside0 (x % 3600 = u) ∧ -1000000000000 ≤ x ∧ x ≤ 1000000000000) (fun v0 => (3600 - intOf v0).toNat)
  case atStart => exact ⟨t, rfl, HU, n0, n1⟩
  case round =>
    obtain ⟨x, rfl, HX, x0, x1⟩ := hrel
    by_cases hx : x < 0
    · go_wp2
      go_round
      case rel => exact ⟨x + 3600, rfl, ⟨by have := HX.out; omega⟩, by omega, by omega⟩
      case measure => simp [intOf]; omega
    · have hxu : x % 3600 = u := HX.out
      have hx0 : 0 ≤ x := by omega
      have hy : 1800 - u = y := HY.out
      go_wp2
      go_ret
      exact ⟨by first | (rw [HS.out]; rfl) | exact ret_int (by rw [HS.out]; omega), HB.out⟩
set_option maxHeartbeats 2000000 in
set_option maxRecDepth 100000 in
theorem Sine_100 (t u v y : Int) (w : World) (hn : -1000000000000 ≤ t ∧ t ≤ 1000000000000) (hu0 : t % 3600 = u) (ha : u ≥ 1800) (hv : u - 1800 = v) (hb : ¬ v > 900) (hy : v = y) (hr : ¬ y % 10 = 0) (hL : LaidW w) : Calls Tryd.prog 28 #[.int .i64 t] w fun e w' => e = .returned (.int .i64 (- S0 y)) ∧ Below w.heap.size w w' := by
  have HB := Aside0.mk (Below.refl w.heap.size w)
  obtain ⟨n0, n1⟩ := hn
  have u0 : 0 ≤ u := by omega
  have u1 : u < 3600 := by omega
  subst hy
  have y0 : 0 ≤ v := by omega
  have y1 : v ≤ 900 := by omega
  have hq0 : w.cell? ⟨0, (v / 10).toNat, none⟩ = some (.int .i64 (Q (v / 10))) := hL.sines _ (by omega)
  obtain ⟨bq0, bq1⟩ := Q_bd (v / 10)
  have hq1 : w.cell? ⟨0, (v / 10 + 1).toNat, none⟩ = some (.int .i64 (Q (v / 10 + 1))) := hL.sines _ (by omega)
  have hs : S0 v = (Q (v / 10) * (10 - v % 10) + Q (v / 10 + 1) * (v % 10) + 5) / 10 := if_neg hr
  have hrd : decide (0 < v % 10) = true := decide_eq_true (by omega)
  obtain ⟨p, hp⟩ : ∃ p, Q (v / 10) * (10 - v % 10) = p := ⟨_, rfl⟩
  obtain ⟨q, hq⟩ : ∃ q, Q (v / 10 + 1) * (v % 10) = q := ⟨_, rfl⟩
  have b1 := mul_bd (Q_bd (v / 10)) (b := 10 - v % 10) (by omega)
  have b2 := mul_bd (Q_bd (v / 10 + 1)) (b := v % 10) (by omega)
  rw [hp] at b1 hs
  rw [hq] at b2 hs
  obtain ⟨b3, b4⟩ := b1
  obtain ⟨b5, b6⟩ := b2
  have e1 : v / 10 + 1 ≤ 90 := by omega
  have HS := Aside0.mk hs
  clear hs hL
  have HV := Aside0.mk hv
  clear hv
  have HU := Aside0.mk hu0
  clear hu0
  go_enter Tryd.func28, Tryd.ntmps28
  go_wp2
  go_loop [0] (fun v0 => ∃ x : Int, v0 = .int .i64 x ∧ Aside0 (x % 3600 = u) ∧ -1000000000000 ≤ x ∧ x ≤ 1000000000000) (fun v0 => (3600 - intOf v0).toNat)
  case atStart => exact ⟨t, rfl, HU, n0, n1⟩
  case round =>
    obtain ⟨x, rfl, HX, x0, x1⟩ := hrel
    by_cases hx : x < 0
    · go_wp2
      go_round
      case rel => exact ⟨x + 3600, rfl, ⟨by have := HX.out; omega⟩, by omega, by omega⟩
      case measure => simp [intOf]; omega
    · have hxu : x % 3600 = u := HX.out
      have hx0 : 0 ≤ x := by omega
      have hv : u - 1800 = v := HV.out
      go_wp2
      go_ret
      exact ⟨by first | (rw [HS.out]; rfl) | exact ret_int (by rw [HS.out]; omega), HB.out⟩
set_option maxHeartbeats 2000000 in
set_option maxRecDepth 100000 in
theorem Sine_101 (t u v y : Int) (w : World) (hn : -1000000000000 ≤ t ∧ t ≤ 1000000000000) (hu0 : t % 3600 = u) (ha : u ≥ 1800) (hv : u - 1800 = v) (hb : ¬ v > 900) (hy : v = y) (hr : y % 10 = 0) (hL : LaidW w) : Calls Tryd.prog 28 #[.int .i64 t] w fun e w' => e = .returned (.int .i64 (- S0 y)) ∧ Below w.heap.size w w' := by
  have HB := Aside0.mk (Below.refl w.heap.size w)
  obtain ⟨n0, n1⟩ := hn
  have u0 : 0 ≤ u := by omega
  have u1 : u < 3600 := by omega
  subst hy
  have y0 : 0 ≤ v := by omega
  have y1 : v ≤ 900 := by omega
  have hq0 : w.cell? ⟨0, (v / 10).toNat, none⟩ = some (.int .i64 (Q (v / 10))) := hL.sines _ (by omega)
  obtain ⟨bq0, bq1⟩ := Q_bd (v / 10)
  have hs : S0 v = Q (v / 10) := if_pos hr
  have hrd : decide (0 < v % 10) = false := decide_eq_false (by omega)
  have HS := Aside0.mk hs
  clear hs hL
  have HV := Aside0.mk hv
  clear hv
  have HU := Aside0.mk hu0
  clear hu0
  go_enter Tryd.func28, Tryd.ntmps28
  go_wp2
  go_loop [0] (fun v0 => ∃ x : Int, v0 = .int .i64 x ∧ Aside0 (x % 3600 = u) ∧ -1000000000000 ≤ x ∧ x ≤ 1000000000000) (fun v0 => (3600 - intOf v0).toNat)
  case atStart => exact ⟨t, rfl, HU, n0, n1⟩
  case round =>
    obtain ⟨x, rfl, HX, x0, x1⟩ := hrel
    by_cases hx : x < 0
    · go_wp2
      go_round
      case rel => exact ⟨x + 3600, rfl, ⟨by have := HX.out; omega⟩, by omega, by omega⟩
      case measure => simp [intOf]; omega
    · have hxu : x % 3600 = u := HX.out
      have hx0 : 0 ≤ x := by omega
      have hv : u - 1800 = v := HV.out
      go_wp2
      go_ret
      exact ⟨by first | (rw [HS.out]; rfl) | exact ret_int (by rw [HS.out]; omega), HB.out⟩
set_option maxHeartbeats 2000000 in
set_option maxRecDepth 100000 in
theorem Sine_110 (t u v y : Int) (w : World) (hn : -1000000000000 ≤ t ∧ t ≤ 1000000000000) (hu0 : t % 3600 = u) (ha : u ≥ 1800) (hv : u - 1800 = v) (hb : v > 900) (hy : 1800 - v = y) (hr : ¬ y % 10 = 0) (hL : LaidW w) : Calls Tryd.prog 28 #[.int .i64 t] w fun e w' => e = .returned (.int .i64 (- S0 y)) ∧ Below w.heap.size w w' := by
  have HB := Aside0.mk (Below.refl w.heap.size w)
  obtain ⟨n0, n1⟩ := hn
  have u0 : 0 ≤ u := by omega
  have u1 : u < 3600 := by omega
  have y0 : 0 ≤ y := by omega
  have y1 : y ≤ 900 := by omega
  have hq0 : w.cell? ⟨0, (y / 10).toNat, none⟩ = some (.int .i64 (Q (y / 10))) := hL.sines _ (by omega)
  obtain ⟨bq0, bq1⟩ := Q_bd (y / 10)
  have hq1 : w.cell? ⟨0, (y / 10 + 1).toNat, none⟩ = some (.int .i64 (Q (y / 10 + 1))) := hL.sines _ (by omega)
  have hs : S0 y = (Q (y / 10) * (10 - y % 10) + Q (y / 10 + 1) * (y % 10) + 5) / 10 := if_neg hr
  have hrd : decide (0 < y % 10) = true := decide_eq_true (by omega)
  obtain ⟨p, hp⟩ : ∃ p, Q (y / 10) * (10 - y % 10) = p := ⟨_, rfl⟩
  obtain ⟨q, hq⟩ : ∃ q, Q (y / 10 + 1) * (y % 10) = q := ⟨_, rfl⟩
  have b1 := mul_bd (Q_bd (y / 10)) (b := 10 - y % 10) (by omega)
  have b2 := mul_bd (Q_bd (y / 10 + 1)) (b := y % 10) (by omega)
  rw [hp] at b1 hs
  rw [hq] at b2 hs
  obtain ⟨b3, b4⟩ := b1
  obtain ⟨b5, b6⟩ := b2
  have e1 : y / 10 + 1 ≤ 90 := by omega
  have HS := Aside0.mk hs
  clear hs hL
  have HV := Aside0.mk hv
  clear hv
  have HY := Aside0.mk hy
  clear hy
  have HU := Aside0.mk hu0
  clear hu0
  go_enter Tryd.func28, Tryd.ntmps28
  go_wp2
  go_loop [0] (fun v0 => ∃ x : Int, v0 = .int .i64 x ∧ Aside0 (x % 3600 = u) ∧ -1000000000000 ≤ x ∧ x ≤ 1000000000000) (fun v0 => (3600 - intOf v0).toNat)
  case atStart => exact ⟨t, rfl, HU, n0, n1⟩
  case round =>
    obtain ⟨x, rfl, HX, x0, x1⟩ := hrel
    by_cases hx : x < 0
    · go_wp2
      go_round
      case rel => exact ⟨x + 3600, rfl, ⟨by have := HX.out; omega⟩, by omega, by omega⟩
      case measure => simp [intOf]; omega
    · have hxu : x % 3600 = u := HX.out
      have hx0 : 0 ≤ x := by omega
      have hv : u - 1800 = v := HV.out
      have hy : 1800 - v = y := HY.out
      go_wp2
      go_ret
      exact ⟨by first | (rw [HS.out]; rfl) | exact ret_int (by rw [HS.out]; omega), HB.out⟩
set_option maxHeartbeats 2000000 in
set_option maxRecDepth 100000 in
theorem Sine_111 (t u v y : Int) (w : World) (hn : -1000000000000 ≤ t ∧ t ≤ 1000000000000) (hu0 : t % 3600 = u) (ha : u ≥ 1800) (hv : u - 1800 = v) (hb : v > 900) (hy : 1800 - v = y) (hr : y % 10 = 0) (hL : LaidW w) : Calls Tryd.prog 28 #[.int .i64 t] w fun e w' => e = .returned (.int .i64 (- S0 y)) ∧ Below w.heap.size w w' := by
  have HB := Aside0.mk (Below.refl w.heap.size w)
  obtain ⟨n0, n1⟩ := hn
  have u0 : 0 ≤ u := by omega
  have u1 : u < 3600 := by omega
  have y0 : 0 ≤ y := by omega
  have y1 : y ≤ 900 := by omega
  have hq0 : w.cell? ⟨0, (y / 10).toNat, none⟩ = some (.int .i64 (Q (y / 10))) := hL.sines _ (by omega)
  obtain ⟨bq0, bq1⟩ := Q_bd (y / 10)
  have hs : S0 y = Q (y / 10) := if_pos hr
  have hrd : decide (0 < y % 10) = false := decide_eq_false (by omega)
  have HS := Aside0.mk hs
  clear hs hL
  have HV := Aside0.mk hv
  clear hv
  have HY := Aside0.mk hy
  clear hy
  have HU := Aside0.mk hu0
  clear hu0
  go_enter Tryd.func28, Tryd.ntmps28
  go_wp2
  go_loop [0] (fun v0 => ∃ x : Int, v0 = .int .i64 x ∧ Aside0 (x % 3600 = u) ∧ -1000000000000 ≤ x ∧ x ≤ 1000000000000) (fun v0 => (3600 - intOf v0).toNat)
  case atStart => exact ⟨t, rfl, HU, n0, n1⟩
  case round =>
    obtain ⟨x, rfl, HX, x0, x1⟩ := hrel
    by_cases hx : x < 0
    · go_wp2
      go_round
      case rel => exact ⟨x + 3600, rfl, ⟨by have := HX.out; omega⟩, by omega, by omega⟩
      case measure => simp [intOf]; omega
    · have hxu : x % 3600 = u := HX.out
      have hx0 : 0 ≤ x := by omega
      have hv : u - 1800 = v := HV.out
      have hy : 1800 - v = y := HY.out
      go_wp2
      go_ret
      exact ⟨by first | (rw [HS.out]; rfl) | exact ret_int (by rw [HS.out]; omega), HB.out⟩
def chanceryref3_Sine.f (a0 : Int) : Option Int := if near a0 then some (sinE a0) else none
theorem chanceryref3_Sine.calls (a0 : Int) (r : Int) (w : World) (h : chanceryref3_Sine.f a0 = some r) (hL : LaidW w) :
    Calls Tryd.prog 28 #[.int .i64 a0] w fun e w' => e = .returned (.int .i64 r) ∧ Below w.heap.size w w' := by
  unfold chanceryref3_Sine.f at h
  by_cases hn : near a0
  · rw [if_pos hn] at h
    obtain rfl := Option.some.inj h
    clear h
    obtain ⟨u, hu⟩ : ∃ u, a0 % 3600 = u := ⟨_, rfl⟩
    have hs : sinE a0 = if u ≥ 1800 then - (if u - 1800 > 900 then S0 (1800 - (u - 1800)) else S0 (u - 1800)) else (if u > 900 then S0 (1800 - u) else S0 u) := by rw [← hu]; rfl
    rw [hs]
    by_cases ha : u ≥ 1800
    · rw [if_pos ha]
      by_cases hb : u - 1800 > 900
      · rw [if_pos hb]
        by_cases hr : (1800 - (u - 1800)) % 10 = 0
        · exact Sine_111 a0 u _ _ w hn hu ha rfl hb rfl hr hL
        · exact Sine_110 a0 u _ _ w hn hu ha rfl hb rfl hr hL
      · rw [if_neg hb]
        by_cases hr : (u - 1800) % 10 = 0
        · exact Sine_101 a0 u _ _ w hn hu ha rfl hb rfl hr hL
        · exact Sine_100 a0 u _ _ w hn hu ha rfl hb rfl hr hL
    · rw [if_neg ha]
      by_cases hb : u > 900
      · rw [if_pos hb]
        by_cases hr : (1800 - u) % 10 = 0
        · exact Sine_011 a0 u _ _ w hn hu ha rfl hb rfl hr hL
        · exact Sine_010 a0 u _ _ w hn hu ha rfl hb rfl hr hL
      · rw [if_neg hb]
        by_cases hr : u % 10 = 0
        · exact Sine_001 a0 u _ _ w hn hu ha rfl hb rfl hr hL
        · exact Sine_000 a0 u _ _ w hn hu ha rfl hb rfl hr hL
  · rw [if_neg hn] at h; cases h
end Go.Proofs.YtmheeekbbhkmkaaDoor.HandSH
