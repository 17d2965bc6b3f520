import Derived.Test.YthapclmfkjldaaaQLNx0
import Derived.Test.YthapclmfkjldaaaLib
import Derived.StillTailTactics
import Derived.Deep.RegionWith
import Derived.Deep.QuietTactic
import Derived.BigQuiet
namespace Go.Proofs.Ythapclmfkjldaaa.HandLN
set_option linter.unusedSectionVars false
set_option linter.unusedVariables false
set_option linter.unusedSimpArgs false
open Go.Proofs.Ythapclmfkjldaaa.Lib (w64)
open Go.RowKit Go.Proofs.YthapclmfkjldaaaW.PrintWords Go.Proofs.YthapclmfkjldaaaW.PrintLast Go.Proofs.YthapclmfkjldaaaW.PrintMore Go.Proofs.Ythapclmfkjldaaa.QLN
attribute [local go_sem] max2_int min2_int max_two min_two
abbrev kI : Kd Int := Kd.int .i64
def MK (w : World) (g : Nat) (L : List S49) (W : List Int) (D : Int) (wi gr yi be : List Int) : Prop :=
 ∃ A0 c0 A1 c1 A2 c2 A3 c3 A4 c4 A5 c5, w.heap[g]? = some (.cells #[.slice A0 L.length c0, .slice A1 W.length c1, .int .i64 D, .slice A2 wi.length c2, .slice A3 gr.length c3, .slice A4 yi.length c4, .slice A5 be.length c5] 57 (0, 0)) ∧
  Kd.C k49 w A0 L.length L ∧ kI.C w A1 W.length W ∧ kI.C w A2 wi.length wi ∧ kI.C w A3 gr.length gr ∧ kI.C w A4 yi.length yi ∧ kI.C w A5 be.length be
theorem MK.below {w w1 : World} {g : Nat} {L : List S49} {W : List Int} {D : Int} {wi gr yi be : List Int} (h : MK w g L W D wi gr yi be) (hb : Below w.heap.size w w1) : MK w1 g L W D wi gr yi be := by
 obtain ⟨A0, c0, A1, c1, A2, c2, A3, c3, A4, c4, A5, c5, h1, h2, h3, h4, h5, h6, h7⟩ := h
 exact ⟨A0, c0, A1, c1, A2, c2, A3, c3, A4, c4, A5, c5, blk_below h1 hb, Kd.C_below h2 hb, Kd.C_below h3 hb, Kd.C_below h4 hb, Kd.C_below h5 hb, Kd.C_below h6 hb, Kd.C_below h7 hb⟩
theorem at_int {w : World} {A : Option Addr} {xs : List Int} (h : kI.C w A xs.length xs) (i : Int) (h0 : 0 ≤ i) (h1 : i < xs.length) : ∃ ad, A = some ad ∧ w.cell? (ad.add i.toNat) = some (.int .i64 (rd xs i)) := by
 obtain ⟨al, cs9, ea, -, hK9, hc9⟩ := Kd.C_get h (0 : Int) i h0 h1
 obtain rfl : cs9 = [.int .i64 (xs.getD i.toNat 0)] := hK9
 exact ⟨al, ea, by have hq := hc9 0 _ rfl; rwa [show i.toNat * kI.sz + 0 = i.toNat from by show i.toNat * 1 + 0 = i.toNat; omega] at hq⟩
abbrev pt (L : List S49) (i : Int) : S49 := rd_T49 L i
def mustP (L : List S49) (i : Int) : Bool := i == L.length || ((pt L i).f0 == 2 && (pt L i).f4 == -10000)
def mayP (L : List S49) (i : Int) : Bool := i == L.length || ((pt L i).f0 == 1 && (decide (i > 0) && (pt L (i - 1)).f0 == 0)) || ((pt L i).f0 == 2 && decide ((pt L i).f4 < 10000))
def flagP (L : List S49) (i : Int) : Bool := decide (i < L.length) && (pt L i).f5
def addP (L : List S49) (i : Int) : Int := if i < L.length ∧ (pt L i).f0 = 2 then (pt L i).f1 else 0
def afterP (L : List S49) (be : List Int) (i : Int) : Int := if i = L.length then i else rd be (i + 1)
section
variable (w : World) (g : Nat) (L : List S49) (W : List Int) (D : Int) (wi gr yi be : List Int) (i : Int) (hM : MK w g L W D wi gr yi be) (hi0 : 0 ≤ i) (hi1 : i ≤ L.length) (hin : L.length ≤ 1000000)
include hM hi0 hi1 hin
set_option maxHeartbeats 2000000 in
set_option maxRecDepth 100000 in
theorem must_ok : Calls Try.prog 38 #[.pointer (some ⟨g, 0, none⟩), .int .i64 i] w fun e w' => e = .returned (.bool (mustP L i)) ∧ w' = w := by
 have hu57 := Try.underlying57
 have hu49 := Try.underlying49
 obtain ⟨A0, c0, A1, c1, A2, c2, A3, c3, A4, c4, A5, c5, hbk, hL, hW, h2, h3, h4, h5⟩ := hM
 have hc0 : w.cell? ⟨g, 0, none⟩ = some (.slice A0 L.length c0) := (blk_cell hbk 0).trans rfl
 clear hW h2 h3 h4 h5 hbk
 by_cases e : i = L.length
 · have eb : (i == (L.length : Int)) = true := beq_iff_eq.2 e
   clear e hL
   go_enter Try.func38, Try.ntmps38
   go_wp2
   go_ret
   exact ⟨by simp [mustP, eb], rfl⟩
 · have eb : (i == (L.length : Int)) = false := beq_eq_false_iff_ne.2 e
   have hlt : i < (L.length : Int) := by omega
   obtain ⟨ad, rfl, hx0, hx1, hx2, hx3, hx4, hx5⟩ := at_T49 hL i hi0 hlt
   by_cases k2 : (rd_T49 L i).f0 = 2
   · have k2b : ((rd_T49 L i).f0 == 2) = true := beq_iff_eq.2 k2
     clear k2 e hL
     go_enter Try.func38, Try.ntmps38
     go_wp2
     go_ret
     exact ⟨by simp [mustP, eb, k2b], rfl⟩
   · have k2b : ((rd_T49 L i).f0 == 2) = false := beq_eq_false_iff_ne.2 k2
     clear k2 e hL
     go_enter Try.func38, Try.ntmps38
     go_wp2
     go_ret
     exact ⟨by simp [mustP, eb, k2b], rfl⟩
set_option maxHeartbeats 2000000 in
set_option maxRecDepth 100000 in
theorem flag_ok : Calls Try.prog 27 #[.pointer (some ⟨g, 0, none⟩), .int .i64 i] w fun e w' => e = .returned (.bool (flagP L i)) ∧ w' = w := by
 have hu57 := Try.underlying57
 have hu49 := Try.underlying49
 obtain ⟨A0, c0, A1, c1, A2, c2, A3, c3, A4, c4, A5, c5, hbk, hL, hW, h2, h3, h4, h5⟩ := hM
 have hc0 : w.cell? ⟨g, 0, none⟩ = some (.slice A0 L.length c0) := (blk_cell hbk 0).trans rfl
 clear hW h2 h3 h4 h5 hbk
 by_cases e : i = L.length
 · have eb : decide (i < (L.length : Int)) = false := decide_eq_false (by omega)
   clear e hL
   go_enter Try.func27, Try.ntmps27
   go_wp2
   go_ret
   exact ⟨by simp [flagP, eb], rfl⟩
 · have hlt : i < (L.length : Int) := by omega
   obtain ⟨ad, rfl, hx0, hx1, hx2, hx3, hx4, hx5⟩ := at_T49 hL i hi0 hlt
   have eb : decide (i < (L.length : Int)) = true := decide_eq_true hlt
   clear e hL
   go_enter Try.func27, Try.ntmps27
   go_wp2
   go_ret
   exact ⟨by simp [flagP, eb], rfl⟩
set_option maxHeartbeats 2000000 in
set_option maxRecDepth 100000 in
theorem add_ok : Calls Try.prog 40 #[.pointer (some ⟨g, 0, none⟩), .int .i64 i] w fun e w' => e = .returned (.int .i64 (addP L i)) ∧ w' = w := by
 have hu57 := Try.underlying57
 have hu49 := Try.underlying49
 obtain ⟨A0, c0, A1, c1, A2, c2, A3, c3, A4, c4, A5, c5, hbk, hL, hW, h2, h3, h4, h5⟩ := hM
 have hc0 : w.cell? ⟨g, 0, none⟩ = some (.slice A0 L.length c0) := (blk_cell hbk 0).trans rfl
 clear hW h2 h3 h4 h5 hbk
 by_cases e : i = L.length
 · have eb : decide (i < (L.length : Int)) = false := decide_eq_false (by omega)
   have EP : Aside0 (addP L i = 0) := ⟨if_neg (by omega)⟩
   clear e hL
   go_enter Try.func40, Try.ntmps40
   go_wp2
   go_ret
   exact ⟨by rw [EP.out]; rfl, rfl⟩
 · have hlt : i < (L.length : Int) := by omega
   obtain ⟨ad, rfl, hx0, hx1, hx2, hx3, hx4, hx5⟩ := at_T49 hL i hi0 hlt
   have eb : decide (i < (L.length : Int)) = true := decide_eq_true hlt
   by_cases k2 : (rd_T49 L i).f0 = 2
   · have k2b : ((rd_T49 L i).f0 == 2) = true := beq_iff_eq.2 k2
     have EP : Aside0 (addP L i = (rd_T49 L i).f1) := ⟨if_pos ⟨hlt, k2⟩⟩
     clear k2 e hL
     go_enter Try.func40, Try.ntmps40
     go_wp2
     go_ret
     exact ⟨by rw [EP.out]; rfl, rfl⟩
   · have k2b : ((rd_T49 L i).f0 == 2) = false := beq_eq_false_iff_ne.2 k2
     have EP : Aside0 (addP L i = 0) := ⟨if_neg (fun h => k2 h.2)⟩
     clear k2 e hL
     go_enter Try.func40, Try.ntmps40
     go_wp2
     go_ret
     exact ⟨by rw [EP.out]; rfl, rfl⟩
set_option maxHeartbeats 2000000 in
set_option maxRecDepth 100000 in
theorem after_ok (hbe : be.length = L.length + 2) : Calls Try.prog 26 #[.pointer (some ⟨g, 0, none⟩), .int .i64 i] w fun e w' => e = .returned (.int .i64 (afterP L be i)) ∧ w' = w := by
 have hu57 := Try.underlying57
 have hu49 := Try.underlying49
 obtain ⟨A0, c0, A1, c1, A2, c2, A3, c3, A4, c4, A5, c5, hbk, hL, hW, h2, h3, h4, h5⟩ := hM
 have hc0 : w.cell? ⟨g, 0, none⟩ = some (.slice A0 L.length c0) := (blk_cell hbk 0).trans rfl
 have hc6 : w.cell? ⟨g, 6, none⟩ = some (.slice A5 be.length c5) := (blk_cell hbk 6).trans rfl
 clear hW h2 h3 h4 hbk hL
 by_cases e : i = L.length
 · have eb : (i == (L.length : Int)) = true := beq_iff_eq.2 e
   have EP : Aside0 (afterP L be i = i) := ⟨if_pos e⟩
   clear e h5
   go_enter Try.func26, Try.ntmps26
   go_wp2
   go_ret
   exact ⟨by rw [EP.out]; rfl, rfl⟩
 · have hlt : i < (L.length : Int) := by omega
   have eb : (i == (L.length : Int)) = false := beq_eq_false_iff_ne.2 e
   have EP : Aside0 (afterP L be i = rd be (i + 1)) := ⟨if_neg e⟩
   obtain ⟨al, rfl, hv⟩ := at_int h5 (i + 1) (by omega) (by omega)
   have hlt2 : i + 1 < (be.length : Int) := by omega
   have hge2 : 0 ≤ i + 1 := by omega
   have him : wrap64 (i + 1) = i + 1 := w64 (by omega) (by omega)
   clear e h5
   go_enter Try.func26, Try.ntmps26
   go_wp2
   go_ret
   exact ⟨by rw [EP.out]; rfl, rfl⟩
end
end Go.Proofs.Ythapclmfkjldaaa.HandLN
