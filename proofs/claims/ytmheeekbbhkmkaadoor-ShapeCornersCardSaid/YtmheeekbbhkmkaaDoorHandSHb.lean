import Derived.Test.YtmheeekbbhkmkaaDoorHandSHa
import Derived.Lib.LaidTab
namespace Go.Proofs.YtmheeekbbhkmkaaDoor.HandSH
open Go.Proofs.YtmheeekbbhkmkaaDoor.Lib (w64 tmod_down)
open Go.RowKit Go.Proofs.YtmheeekbbhkmkaaDoorW.PrintWords Go.Proofs.YtmheeekbbhkmkaaDoorW.PrintLast Go.Proofs.YtmheeekbbhkmkaaDoorW.PrintMore Go.Proofs.YtmheeekbbhkmkaaDoor.QSH
set_option linter.unusedVariables false
def sinesL : List Int := [0, 1144, 2287, 3430, 4572, 5712, 6850, 7987, 9121, 10252, 11380, 12505, 13626, 14742, 15855, 16962, 18064, 19161, 20252, 21336, 22415, 23486, 24550, 25607, 26656, 27697, 28729, 29753, 30767, 31772, 32768, 33754, 34729, 35693, 36647, 37590, 38521, 39441, 40348, 41243, 42126, 42995, 43852, 44695, 45525, 46341, 47143, 47930, 48703, 49461, 50203, 50931, 51643, 52339, 53020, 53684, 54332, 54963, 55578, 56175, 56756, 57319, 57865, 58393, 58903, 59396, 59870, 60326, 60764, 61183, 61584, 61966, 62328, 62672, 62997, 63303, 63589, 63856, 64104, 64332, 64540, 64729, 64898, 65048, 65177, 65287, 65376, 65446, 65496, 65526, 65536]
structure LaidW (w : World) : Prop where
  quarter : ∀ i : Nat, i < 91 → w.cell? ⟨1, i, none⟩ = some (.int .i64 (sinesL.getD i 0))
  sines : ∀ i : Nat, i < 91 → w.cell? ⟨0, i, none⟩ = some (.int .i64 (sinesL.getD i 0))
theorem LaidW.now {w w1 : World} (h : LaidW w) (hb : Below w.heap.size w w1) : LaidW w1 :=
  ⟨fun i hi => (hb.cell (World.block_lt_of_cell? w _ (h.quarter i hi))).trans (h.quarter i hi), fun i hi => (hb.cell (World.block_lt_of_cell? w _ (h.sines i hi))).trans (h.sines i hi)⟩
theorem LaidW.drewN {w : World} (h : LaidW w) (n : Nat) : LaidW (w.drewN n) := h.now (pw_below_drewN (Below.refl _ _) n)
theorem LaidW.drew {w : World} (h : LaidW w) : LaidW w.drew := h.now (below_drew (Below.refl _ _))
theorem LaidW.alloc {w : World} (h : LaidW w) (o : Obj) : LaidW (w.alloc o) := h.now (below_alloc (Below.refl _ _) o)
def Q (i : Int) : Int := sinesL.getD i.toNat 0
theorem Q_bd (i : Int) : 0 ≤ Q i ∧ Q i ≤ 65536 := by
  unfold Q
  by_cases h : i.toNat < sinesL.length
  · have all : ∀ x ∈ sinesL, 0 ≤ x ∧ x ≤ 65536 := by decide
    rw [List.getD_eq_getElem?_getD, List.getElem?_eq_getElem h]
    exact all _ (List.getElem_mem h)
  · rw [List.getD_eq_getElem?_getD, List.getElem?_eq_none (by omega)]; decide
def S0 (t : Int) : Int := if t % 10 = 0 then Q (t / 10) else (Q (t / 10) * (10 - t % 10) + Q (t / 10 + 1) * (t % 10) + 5) / 10
theorem mul_bd {a b : Int} (ha : 0 ≤ a ∧ a ≤ 65536) (hb : 0 ≤ b ∧ b ≤ 10) : 0 ≤ a * b ∧ a * b ≤ 655360 := by
  refine ⟨Int.mul_nonneg ha.1 hb.1, ?_⟩
  have := Int.mul_le_mul ha.2 hb.2 hb.1 (by omega : (0 : Int) ≤ 65536)
  omega
theorem S0_bd (t : Int) : 0 ≤ S0 t ∧ S0 t ≤ 131073 := by
  unfold S0
  split
  · have := Q_bd (t / 10); omega
  · have h1 := mul_bd (Q_bd (t / 10)) (b := 10 - t % 10) (by omega)
    have h2 := mul_bd (Q_bd (t / 10 + 1)) (b := t % 10) (by omega)
    omega
def sinE (t : Int) : Int := if t % 3600 ≥ 1800 then - (if t % 3600 - 1800 > 900 then S0 (1800 - (t % 3600 - 1800)) else S0 (t % 3600 - 1800)) else (if t % 3600 > 900 then S0 (1800 - t % 3600) else S0 (t % 3600))
set_option maxHeartbeats 1000000 in
set_option maxRecDepth 100000 in
theorem sine_tab_pos (t u : Int) (w : World) (h0 : 0 ≤ t) (h1 : t ≤ 1000000000000) (hu0 : t % 3600 = u) (hlo : u ≤ 900) (hL : LaidW w) : Calls Tryd.prog 31 #[.int .i64 t] w fun e w' => e = .returned (.int .i64 (S0 u)) ∧ Below w.heap.size w w' := by
  have u0 : 0 ≤ u := by omega
  have u1 : u < 3600 := by omega
  have HB := Aside0.mk (Below.refl w.heap.size w)
  have hq0 : w.cell? ⟨1, (u / 10).toNat, none⟩ = some (.int .i64 (Q (u / 10))) := hL.quarter _ (by omega)
  have hu : t % 3600 = u := hu0
  have hu2 : u % 3600 = u := by omega
  have hu3 : (u + 3600) % 3600 = u := by omega
  have hu4 : (t + 3600) % 3600 = u := by omega
  clear hu0
  by_cases hr : u % 10 = 0
  · have hs : S0 u = Q (u / 10) := if_pos hr
    have HS := Aside0.mk hs
    clear hs hL
    go_enter Tryd.func31, Tryd.ntmps31
    go_wp2
    go_ret
    exact ⟨by rw [HS.out]; rfl, HB.out⟩
  · have hq1 : w.cell? ⟨1, (u / 10 + 1).toNat, none⟩ = some (.int .i64 (Q (u / 10 + 1))) := hL.quarter _ (by omega)
    have hs : S0 u = (Q (u / 10) * (10 - u % 10) + Q (u / 10 + 1) * (u % 10) + 5) / 10 := if_neg hr
    obtain ⟨p, hp⟩ : ∃ p, Q (u / 10) * (10 - u % 10) = p := ⟨_, rfl⟩
    obtain ⟨q, hq⟩ : ∃ q, Q (u / 10 + 1) * (u % 10) = q := ⟨_, rfl⟩
    have b1 := mul_bd (Q_bd (u / 10)) (b := 10 - u % 10) (by omega)
    have b2 := mul_bd (Q_bd (u / 10 + 1)) (b := u % 10) (by omega)
    rw [hp] at b1 hs
    rw [hq] at b2 hs
    obtain ⟨b3, b4⟩ := b1
    obtain ⟨b5, b6⟩ := b2
    have e1 : u / 10 + 1 ≤ 90 := by omega
    have HS := Aside0.mk hs
    clear hs hL
    go_enter Tryd.func31, Tryd.ntmps31
    go_wp2
    go_quiet (fail)
    go_wp2
    go_ret
    exact ⟨by rw [HS.out]; rfl, pw_below_drewN HB.out _⟩
set_option maxHeartbeats 1000000 in
set_option maxRecDepth 100000 in
theorem sine_tab_neg (t u : Int) (w : World) (h0 : t < 0) (h1 : -1000000000000 ≤ t) (hu0 : t % 3600 = u) (hlo : u ≤ 900) (hL : LaidW w) : Calls Tryd.prog 31 #[.int .i64 t] w fun e w' => e = .returned (.int .i64 (S0 u)) ∧ Below w.heap.size w w' := by
  have u0 : 0 ≤ u := by omega
  have u1 : u < 3600 := by omega
  obtain ⟨m, hm⟩ : ∃ m, Int.tmod t 3600 = m := ⟨_, rfl⟩
  have m0 : -3600 < m ∧ m ≤ 0 ∧ (m + 3600) % 3600 = u := by
    have e := tmod_down t 3600 (by omega)
    rw [hm] at e
    split at e <;> omega
  obtain ⟨m0, m1, m2⟩ := m0
  have HB := Aside0.mk (Below.refl w.heap.size w)
  have hq0 : w.cell? ⟨1, (u / 10).toNat, none⟩ = some (.int .i64 (Q (u / 10))) := hL.quarter _ (by omega)
  have hu : (m + 3600) % 3600 = u := by omega
  clear hu0
  by_cases hr : u % 10 = 0
  · have hs : S0 u = Q (u / 10) := if_pos hr
    have HS := Aside0.mk hs
    clear hs hL
    go_enter Tryd.func31, Tryd.ntmps31
    go_wp2
    go_ret
    exact ⟨by rw [HS.out]; rfl, HB.out⟩
  · have hq1 : w.cell? ⟨1, (u / 10 + 1).toNat, none⟩ = some (.int .i64 (Q (u / 10 + 1))) := hL.quarter _ (by omega)
    have hs : S0 u = (Q (u / 10) * (10 - u % 10) + Q (u / 10 + 1) * (u % 10) + 5) / 10 := if_neg hr
    obtain ⟨p, hp⟩ : ∃ p, Q (u / 10) * (10 - u % 10) = p := ⟨_, rfl⟩
    obtain ⟨q, hq⟩ : ∃ q, Q (u / 10 + 1) * (u % 10) = q := ⟨_, rfl⟩
    have b1 := mul_bd (Q_bd (u / 10)) (b := 10 - u % 10) (by omega)
    have b2 := mul_bd (Q_bd (u / 10 + 1)) (b := u % 10) (by omega)
    rw [hp] at b1 hs
    rw [hq] at b2 hs
    obtain ⟨b3, b4⟩ := b1
    obtain ⟨b5, b6⟩ := b2
    have e1 : u / 10 + 1 ≤ 90 := by omega
    have HS := Aside0.mk hs
    clear hs hL
    go_enter Tryd.func31, Tryd.ntmps31
    go_wp2
    go_quiet (fail)
    go_wp2
    go_ret
    exact ⟨by rw [HS.out]; rfl, pw_below_drewN HB.out _⟩
set_option maxHeartbeats 1000000 in
set_option maxRecDepth 100000 in
theorem sine_pos (t : Int) (w : World) (h0 : 0 ≤ t) (h1 : t ≤ 1000000000000) (hL : LaidW w) : Calls Tryd.prog 31 #[.int .i64 t] w fun e w' => e = .returned (.int .i64 (sinE t)) ∧ Below w.heap.size w w' := by
  obtain ⟨u, hu0⟩ : ∃ u, t % 3600 = u := ⟨_, rfl⟩
  have hs : sinE t = if u ≥ 1800 then - (if u - 1800 > 900 then S0 (1800 - (u - 1800)) else S0 (u - 1800)) else (if u > 900 then S0 (1800 - u) else S0 u) := by rw [← hu0]; rfl
  have u0 : 0 ≤ u := by omega
  have u1 : u < 3600 := by omega
  have HL := Aside0.mk hL
  have HS := Aside0.mk hs
  clear hs hL
  by_cases c1 : u > 2700
  · have HE : Aside0 (sinE t = - S0 (3600 - u)) := ⟨by rw [HS.out, if_pos (by omega), if_pos (by omega), show 1800 - (u - 1800) = 3600 - u by omega]⟩
    obtain ⟨hb0, hb1⟩ := S0_bd (3600 - u)
    have e9 : (3600 - u) % 3600 = 3600 - u := by omega
    have hu : t % 3600 = u := hu0
    have hu2 : u % 3600 = u := by omega
    have hu3 : (u + 3600) % 3600 = u := by omega
    have hu4 : (t + 3600) % 3600 = u := by omega
    clear hu0
    clear HS
    have HC := Aside0.mk (sine_tab_pos (3600 - u) (3600 - u) w (by omega) (by omega) e9 (by omega) HL.out)
    clear e9
    go_enter Tryd.func31, Tryd.ntmps31
    go_wp2_with (go_at_call 31; (with_reducible refine HC.out.mono ?_); rintro e w2 ⟨rfl, hb⟩; have HB2 := Aside0.mk hb; clear hb)
    go_ret
    exact ⟨by rw [HE.out]; rfl, HB2.out⟩
  by_cases c2 : u > 1800
  · have HE : Aside0 (sinE t = - S0 (u - 1800)) := ⟨by rw [HS.out, if_pos (by omega), if_neg (by omega)]⟩
    obtain ⟨hb0, hb1⟩ := S0_bd (u - 1800)
    have e9 : (u - 1800) % 3600 = u - 1800 := by omega
    have hu : t % 3600 = u := hu0
    have hu2 : u % 3600 = u := by omega
    have hu3 : (u + 3600) % 3600 = u := by omega
    have hu4 : (t + 3600) % 3600 = u := by omega
    clear hu0
    clear HS
    have HC := Aside0.mk (sine_tab_pos (u - 1800) (u - 1800) w (by omega) (by omega) e9 (by omega) HL.out)
    clear e9
    go_enter Tryd.func31, Tryd.ntmps31
    go_wp2_with (go_at_call 31; (with_reducible refine HC.out.mono ?_); rintro e w2 ⟨rfl, hb⟩; have HB2 := Aside0.mk hb; clear hb)
    go_ret
    exact ⟨by rw [HE.out]; rfl, HB2.out⟩
  by_cases c3 : u > 900
  · have h18 : u = 1800 → S0 (1800 - u) = 0 := fun e => by rw [e]; decide
    have HE : Aside0 (sinE t = S0 (1800 - u)) := ⟨by
      rw [HS.out]
      by_cases e : u = 1800
      · rw [if_pos (by omega), if_neg (by omega), h18 e, e]; decide
      · rw [if_neg (by omega), if_pos (by omega)]⟩
    clear h18
    obtain ⟨hb0, hb1⟩ := S0_bd (1800 - u)
    have e9 : (1800 - u) % 3600 = 1800 - u := by omega
    have hu : t % 3600 = u := hu0
    have hu2 : u % 3600 = u := by omega
    have hu3 : (u + 3600) % 3600 = u := by omega
    have hu4 : (t + 3600) % 3600 = u := by omega
    clear hu0
    clear HS
    have HC := Aside0.mk (sine_tab_pos (1800 - u) (1800 - u) w (by omega) (by omega) e9 (by omega) HL.out)
    clear e9
    go_enter Tryd.func31, Tryd.ntmps31
    go_wp2_with (go_at_call 31; (with_reducible refine HC.out.mono ?_); rintro e w2 ⟨rfl, hb⟩; have HB2 := Aside0.mk hb; clear hb)
    go_ret
    exact ⟨by rw [HE.out]; rfl, HB2.out⟩
  rw [show sinE t = S0 u by rw [HS.out, if_neg (by omega), if_neg (by omega)]]
  exact sine_tab_pos t u w h0 h1 hu0 (by omega) HL.out
set_option maxHeartbeats 1000000 in
set_option maxRecDepth 100000 in
theorem sine_neg (t : Int) (w : World) (h0 : t < 0) (h1 : -1000000000000 ≤ t) (hL : LaidW w) : Calls Tryd.prog 31 #[.int .i64 t] w fun e w' => e = .returned (.int .i64 (sinE t)) ∧ Below w.heap.size w w' := by
  obtain ⟨u, hu0⟩ : ∃ u, t % 3600 = u := ⟨_, rfl⟩
  have hs : sinE t = if u ≥ 1800 then - (if u - 1800 > 900 then S0 (1800 - (u - 1800)) else S0 (u - 1800)) else (if u > 900 then S0 (1800 - u) else S0 u) := by rw [← hu0]; rfl
  have u0 : 0 ≤ u := by omega
  have u1 : u < 3600 := by omega
  obtain ⟨m, hm⟩ : ∃ m, Int.tmod t 3600 = m := ⟨_, rfl⟩
  have m0 : -3600 < m ∧ m ≤ 0 ∧ (m + 3600) % 3600 = u := by
    have e := tmod_down t 3600 (by omega)
    rw [hm] at e
    split at e <;> omega
  obtain ⟨m0, m1, m2⟩ := m0
  have HL := Aside0.mk hL
  have HS := Aside0.mk hs
  clear hs hL
  by_cases c1 : u > 2700
  · have HE : Aside0 (sinE t = - S0 (3600 - u)) := ⟨by rw [HS.out, if_pos (by omega), if_pos (by omega), show 1800 - (u - 1800) = 3600 - u by omega]⟩
    obtain ⟨hb0, hb1⟩ := S0_bd (3600 - u)
    have e9 : (3600 - u) % 3600 = 3600 - u := by omega
    have hu : (m + 3600) % 3600 = u := by omega
    clear hu0
    clear HS
    have HC := Aside0.mk (sine_tab_pos (3600 - u) (3600 - u) w (by omega) (by omega) e9 (by omega) HL.out)
    clear e9
    go_enter Tryd.func31, Tryd.ntmps31
    go_wp2_with (go_at_call 31; (with_reducible refine HC.out.mono ?_); rintro e w2 ⟨rfl, hb⟩; have HB2 := Aside0.mk hb; clear hb)
    go_ret
    exact ⟨by rw [HE.out]; rfl, HB2.out⟩
  by_cases c2 : u > 1800
  · have HE : Aside0 (sinE t = - S0 (u - 1800)) := ⟨by rw [HS.out, if_pos (by omega), if_neg (by omega)]⟩
    obtain ⟨hb0, hb1⟩ := S0_bd (u - 1800)
    have e9 : (u - 1800) % 3600 = u - 1800 := by omega
    have hu : (m + 3600) % 3600 = u := by omega
    clear hu0
    clear HS
    have HC := Aside0.mk (sine_tab_pos (u - 1800) (u - 1800) w (by omega) (by omega) e9 (by omega) HL.out)
    clear e9
    go_enter Tryd.func31, Tryd.ntmps31
    go_wp2_with (go_at_call 31; (with_reducible refine HC.out.mono ?_); rintro e w2 ⟨rfl, hb⟩; have HB2 := Aside0.mk hb; clear hb)
    go_ret
    exact ⟨by rw [HE.out]; rfl, HB2.out⟩
  by_cases c3 : u > 900
  · have h18 : u = 1800 → S0 (1800 - u) = 0 := fun e => by rw [e]; decide
    have HE : Aside0 (sinE t = S0 (1800 - u)) := ⟨by
      rw [HS.out]
      by_cases e : u = 1800
      · rw [if_pos (by omega), if_neg (by omega), h18 e, e]; decide
      · rw [if_neg (by omega), if_pos (by omega)]⟩
    clear h18
    obtain ⟨hb0, hb1⟩ := S0_bd (1800 - u)
    have e9 : (1800 - u) % 3600 = 1800 - u := by omega
    have hu : (m + 3600) % 3600 = u := by omega
    clear hu0
    clear HS
    have HC := Aside0.mk (sine_tab_pos (1800 - u) (1800 - u) w (by omega) (by omega) e9 (by omega) HL.out)
    clear e9
    go_enter Tryd.func31, Tryd.ntmps31
    go_wp2_with (go_at_call 31; (with_reducible refine HC.out.mono ?_); rintro e w2 ⟨rfl, hb⟩; have HB2 := Aside0.mk hb; clear hb)
    go_ret
    exact ⟨by rw [HE.out]; rfl, HB2.out⟩
  rw [show sinE t = S0 u by rw [HS.out, if_neg (by omega), if_neg (by omega)]]
  exact sine_tab_neg t u w h0 h1 hu0 (by omega) HL.out
def near (t : Int) : Prop := -1000000000000 ≤ t ∧ t ≤ 1000000000000
instance (t : Int) : Decidable (near t) := by unfold near; infer_instance
def shape_sine.f (a0 : Int) : Option Int := if near a0 then some (sinE a0) else none
theorem shape_sine.calls (a0 : Int) (r : Int) (w : World) (h : shape_sine.f a0 = some r) (hL : LaidW w) :
    Calls Tryd.prog 31 #[.int .i64 a0] w fun e w' => e = .returned (.int .i64 r) ∧ Below w.heap.size w w' := by
  unfold shape_sine.f at h
  by_cases hn : near a0
  · rw [if_pos hn] at h
    obtain rfl := Option.some.inj h
    by_cases h0 : 0 ≤ a0
    · exact sine_pos a0 w h0 hn.2 hL
    · exact sine_neg a0 w (by omega) hn.1 hL
  · rw [if_neg hn] at h; cases h
end Go.Proofs.YtmheeekbbhkmkaaDoor.HandSH
