/- Walked by hand: balance.spread and chanceryref3.deal over a part of a row. -/
import Derived.Test.YtihmbddneapooaaQBAx0
import Derived.Test.YtihmbddneapooaaLib
import Derived.Outline
import Derived.Deep.QuietTactic
import Derived.BigQuiet
namespace Go.Proofs.Ytihmbddneapooaa.HandBL
open Go.Proofs.Ytihmbddneapooaa.Lib (w64 rd_set tdiv_nn tmod_nn ext_rd)
open Go.RowKit Go.Proofs.YtihmbddneapooaaW.PrintWords Go.Proofs.YtihmbddneapooaaW.PrintLast Go.Proofs.YtihmbddneapooaaW.PrintMore Go.Proofs.Ytihmbddneapooaa.QBA
set_option linter.unusedVariables false
attribute [local go_sem] max2_int min2_int max_two min_two
def part (n m i : Int) : Int := if i < Int.tmod n m then wrap64 (wrap64 (Int.tdiv n m) + 1) else wrap64 (Int.tdiv n m)
/-- The row after i places from off on were raised. -/
def bump (v : Int → Int) (xs : List Int) (off : Nat) : Nat → List Int
  | 0 => xs
  | i + 1 => (bump v xs off i).set (off + i) (wrap64 (rd (bump v xs off i) ((off + i : Nat) : Int) + v i))
theorem bump_length (v : Int → Int) (xs : List Int) (off : Nat) : ∀ i, (bump v xs off i).length = xs.length
  | 0 => rfl
  | i + 1 => by rw [bump, List.length_set, bump_length v xs off i]
theorem rd_bump (v : Int → Int) (xs : List Int) (off : Nat) (j : Int) (hj : 0 ≤ j) : ∀ i : Nat, off + i ≤ xs.length → rd (bump v xs off i) j = if (off : Int) ≤ j ∧ j < off + i then wrap64 (rd xs j + v (j - off)) else rd xs j
  | 0, _ => by rw [if_neg (by omega)]; rfl
  | i + 1, h => by
    have ih := rd_bump v xs off j hj i (by omega)
    have hs := rd_set (xs := bump v xs off i) (i := ((off + i : Nat) : Int)) (j := j) (v := wrap64 (rd (bump v xs off i) ((off + i : Nat) : Int) + v i)) (by omega) (by rw [bump_length]; omega) hj
    rw [Int.toNat_natCast] at hs
    rw [bump, hs]
    by_cases e : j = ((off + i : Nat) : Int)
    · rw [if_pos e, if_pos (by omega), ← e, ih, if_neg (by omega), show j - (off : Int) = i by omega]
    · rw [if_neg e, ih]
      by_cases c : (off : Int) ≤ j ∧ j < off + i
      · rw [if_pos c, if_pos (by omega)]
      · rw [if_neg c, if_neg (by omega)]
/-- What spread makes of a part of a row. -/
def addTo (xs : List Int) (off m : Nat) (n : Int) : List Int := bump (part n m) xs off m
theorem addTo_length (xs : List Int) (off m : Nat) (n : Int) : (addTo xs off m n).length = xs.length := bump_length _ _ _ _
theorem wrap_add (a b : Int) : wrap64 (wrap64 a + b) = wrap64 (a + b) := by unfold wrap64; omega
theorem wrap_add' (a b : Int) : wrap64 (a + wrap64 b) = wrap64 (a + b) := by unfold wrap64; omega
/-- What deal makes of it is the same. -/
theorem deal_eq (xs : List Int) (off m : Nat) (n : Int) (hn : 0 ≤ n) (hm : 0 < m) (hx : off + m ≤ xs.length) (q : Int) (hq : q = wrap64 (Int.tdiv n m)) (r : Nat) (hr : (r : Int) = Int.tmod n m) (hrm : r ≤ m) :
    bump (fun _ => 1) (bump (fun _ => q) xs off m) off r = addTo xs off m n := by
  refine ext_rd (by rw [bump_length, bump_length, addTo_length]) fun j h0 h1 => ?_
  rw [addTo, rd_bump _ _ _ _ h0 _ (by rw [bump_length]; omega), rd_bump _ _ _ _ h0 _ hx, rd_bump _ _ _ _ h0 _ hx]
  by_cases c : (off : Int) ≤ j ∧ j < off + m
  · rw [if_pos c, if_pos c]
    by_cases d : j < off + (r : Int)
    · rw [if_pos (by omega), part, if_pos (by omega), wrap_add, wrap_add', hq]
      congr 1; omega
    · rw [if_neg (by omega), part, if_neg (by omega), hq]
  · rw [if_neg c, if_neg c, if_neg (by omega)]
set_option maxHeartbeats 4000000 in
set_option maxRecDepth 100000 in
theorem spread_seg (g off m cap cap0 base : Nat) (ok : Nat → Prop) (xs : List Int) (n : Int) (w : World) (ho : Kd.R (Kd.int .i64) 3 w base ok (.slice (some ⟨g, 0, none⟩) xs.length cap0) xs) (hm : 0 < m) (hx : off + m ≤ xs.length) :
    Calls Try.prog 59 #[.slice (some ⟨g, off, none⟩) m cap, .int .i64 n] w fun e w' => e = .returned (.tuple #[]) ∧ Kd.R (Kd.int .i64) 3 w' base ok (.slice (some ⟨g, 0, none⟩) xs.length cap0) (addTo xs off m n) ∧ Below g w w' ∧ KeepBut w w' g none := by
  have HMAX := Aside0.mk (Kd.C_max (Kd.R_reads' ho).2.2)
  have HO := Aside0.mk ho
  have HGL := Aside0.mk (show g ≤ w.heap.size by
    obtain ⟨g', _, e, _, hl, _⟩ := Kd.R_form ho (by omega)
    injection e with e
    injection e with e
    injection e with e
    omega)
  clear ho
  have hm0 : ¬ ((m : Int) = 0) := by omega
  have hm1 : ((m : Int) == 0) = false := beq_eq_false_iff_ne.2 hm0
  go_enter Try.func59, Try.ntmps59
  go_wp2
  go_loopw [8] (fun v8 w' => ∃ i : Int, v8 = .int .i64 i ∧ 0 ≤ i ∧ i ≤ m ∧ Aside0 (Kd.R (Kd.int .i64) 3 w' base ok (.slice (some ⟨g, 0, none⟩) xs.length cap0) (bump (part n m) xs off i.toNat)) ∧ Aside0 (Below g w w') ∧ Aside0 (KeepBut w w' g none)) (fun v8 _ => m - (intOf v8).toNat)
  case atStart => exact ⟨0, rfl, by omega, by omega, HO, ⟨Below.refl _ _⟩, ⟨KeepBut.refl _ _ _⟩⟩
  case round =>
    clear HO
    obtain ⟨i, rfl, hi0, hi1, HO, HB, HK⟩ := hrel
    by_cases hlt : i < (m : Int)
    · have hxf := Kd.R_celln 0 HO.out ((off + i.toNat : Nat) : Int) (by omega) (by omega)
      simp only [Int.toNat_natCast] at hxf
      obtain ⟨hx0, hf0⟩ := hxf
      generalize hxv : rdOf 0 (bump (part n m) xs off i.toNat) ((off + i.toNat : Nat) : Int) = x at hx0
      have HX := Aside0.mk hxv
      clear hxv
      by_cases hp : i < Int.tmod n m
      · go_wp2
        go_roundw
        case rel =>
          have G := Kd.R_putg HO.out ((off + i.toNat : Nat) : Int) (wrap64 (rd (bump (part n m) xs off i.toNat) ((off + i.toNat : Nat) : Int) + part n m i.toNat))
          simp only [Int.toNat_natCast] at G
          have hpt : part n m ((i.toNat : Nat) : Int) = wrap64 (wrap64 (Int.tdiv n m) + 1) := by rw [show ((i.toNat : Nat) : Int) = i by omega]; exact if_pos hp
          rw [hpt, show rd (bump (part n m) xs off i.toNat) ((off + i.toNat : Nat) : Int) = x from HX.out] at G
          refine ⟨i + 1, by rw [w64 (by omega) (by have := HMAX.out; omega)], by omega, by omega, ⟨?_⟩, ⟨?_⟩, ⟨?_⟩⟩
          · rw [show (i + 1).toNat = i.toNat + 1 by omega, bump, hpt, show rd (bump (part n m) xs off i.toNat) ((off + i.toNat : Nat) : Int) = x from HX.out]; exact G.1
          · exact HB.out.setCell (Nat.le_refl _) _
          · exact HK.out.set_ _ _
        case measure => rw [w64 (by omega) (by have := HMAX.out; omega)]; simp [intOf]; omega
      · go_wp2
        go_roundw
        case rel =>
          have G := Kd.R_putg HO.out ((off + i.toNat : Nat) : Int) (wrap64 (rd (bump (part n m) xs off i.toNat) ((off + i.toNat : Nat) : Int) + part n m i.toNat))
          simp only [Int.toNat_natCast] at G
          have hpt : part n m ((i.toNat : Nat) : Int) = wrap64 (Int.tdiv n m) := by rw [show ((i.toNat : Nat) : Int) = i by omega]; exact if_neg hp
          rw [hpt, show rd (bump (part n m) xs off i.toNat) ((off + i.toNat : Nat) : Int) = x from HX.out] at G
          refine ⟨i + 1, by rw [w64 (by omega) (by have := HMAX.out; omega)], by omega, by omega, ⟨?_⟩, ⟨?_⟩, ⟨?_⟩⟩
          · rw [show (i + 1).toNat = i.toNat + 1 by omega, bump, hpt, show rd (bump (part n m) xs off i.toNat) ((off + i.toNat : Nat) : Int) = x from HX.out]; exact G.1
          · exact HB.out.setCell (Nat.le_refl _) _
          · exact HK.out.set_ _ _
        case measure => rw [w64 (by omega) (by have := HMAX.out; omega)]; simp [intOf]; omega
    · go_wp2
      have hie : i.toNat = m := by omega
      rw [hie] at HO
      first | go_end0 | (try simp only [Exit.inBlock, Exit.then])
      exact ⟨rfl, HO.out, HB.out, HK.out⟩
set_option maxHeartbeats 4000000 in
set_option maxRecDepth 100000 in
theorem deal_seg (g off m cap cap0 base : Nat) (ok : Nat → Prop) (xs : List Int) (n : Int) (w : World) (ho : Kd.R (Kd.int .i64) 3 w base ok (.slice (some ⟨g, 0, none⟩) xs.length cap0) xs) (hm : 0 < m) (hx : off + m ≤ xs.length) (hn : 0 ≤ n) (hn2 : n ≤ 9223372036854775807) :
    Calls Try.prog 55 #[.slice (some ⟨g, off, none⟩) m cap, .int .i64 n] w fun e w' => e = .returned (.tuple #[]) ∧ Kd.R (Kd.int .i64) 3 w' base ok (.slice (some ⟨g, 0, none⟩) xs.length cap0) (addTo xs off m n) ∧ Below g w w' ∧ KeepBut w w' g none := by
  have HMAX := Aside0.mk (Kd.C_max (Kd.R_reads' ho).2.2)
  have HO := Aside0.mk ho
  have hr0 := Int.emod_nonneg n (show (m : Int) ≠ 0 by omega)
  have hr1 := Int.emod_lt_of_pos n (show 0 < (m : Int) by omega)
  have hq0 : 0 ≤ n / (m : Int) := Int.ediv_nonneg hn (by omega)
  have hq1 : n / (m : Int) ≤ n := Int.ediv_le_self _ hn
  have hqr := Int.mul_ediv_add_emod n m
  obtain ⟨r, hr⟩ : ∃ r : Nat, (r : Int) = n % (m : Int) := ⟨(n % (m : Int)).toNat, by omega⟩
  have hqw : wrap64 (Int.tdiv n m) = n / (m : Int) := by rw [tdiv_nn hn]; exact w64 (by omega) (by omega)
  have hrw : wrap64 (n - wrap64 (wrap64 (Int.tdiv n m) * (m : Int))) = r := by
    have h2 : 0 ≤ (m : Int) * (n / (m : Int)) := Int.mul_nonneg (by omega) hq0
    rw [hqw, Int.mul_comm (n / (m : Int)), w64 (n := (m : Int) * (n / (m : Int))) (by omega) (by omega), w64 (n := n - (m : Int) * (n / (m : Int))) (by omega) (by omega)]; omega
  have hrm : r ≤ m := by omega
  have HDE := Aside0.mk (deal_eq xs off m n hn hm hx _ rfl r (by rw [tmod_nn hn]; exact hr) hrm)
  have HRW := Aside0.mk hrw
  clear ho hr0 hr1 hq0 hq1 hqr hr hqw hrw hn hn2
  have hm0 : ¬ ((m : Int) = 0) := by omega
  have hm1 : ((m : Int) == 0) = false := beq_eq_false_iff_ne.2 hm0
  have HB := Aside0.mk (Below.refl g w)
  have HK := Aside0.mk (KeepBut.refl w g none)
  go_enter Try.func55, Try.ntmps55
  go_wp2
  go_loopw [13] (fun v8 w' => ∃ i : Int, v8 = .int .i64 i ∧ 0 ≤ i ∧ i ≤ m ∧ Aside0 (Kd.R (Kd.int .i64) 3 w' base ok (.slice (some ⟨g, 0, none⟩) xs.length cap0) (bump (fun _ => wrap64 (Int.tdiv n m)) xs off i.toNat)) ∧ Aside0 (Below g w w') ∧ Aside0 (KeepBut w w' g none)) (fun v8 _ => m - (intOf v8).toNat)
  case atStart => exact ⟨0, rfl, by omega, by omega, HO, HB, HK⟩
  case round =>
    clear HO HB HK
    obtain ⟨i, rfl, hi0, hi1, HO, HB, HK⟩ := hrel
    have hxl := bump_length (fun _ => wrap64 (Int.tdiv n m)) xs off i.toNat
    by_cases hlt : i < (m : Int)
    · have hxf := Kd.R_celln 0 HO.out ((off + i.toNat : Nat) : Int) (by omega) (by omega)
      simp only [Int.toNat_natCast] at hxf
      obtain ⟨hx0, hf0⟩ := hxf
      generalize hxv : rdOf 0 (bump (fun _ => wrap64 (Int.tdiv n m)) xs off i.toNat) ((off + i.toNat : Nat) : Int) = x at hx0
      have HX := Aside0.mk hxv
      clear hxv
      go_wp2
      go_roundw
      case rel =>
        have G := Kd.R_putg HO.out ((off + i.toNat : Nat) : Int) (wrap64 (rd (bump (fun _ => wrap64 (Int.tdiv n m)) xs off i.toNat) ((off + i.toNat : Nat) : Int) + wrap64 (Int.tdiv n m)))
        simp only [Int.toNat_natCast] at G
        rw [show rd (bump (fun _ => wrap64 (Int.tdiv n m)) xs off i.toNat) ((off + i.toNat : Nat) : Int) = x from HX.out] at G
        refine ⟨i + 1, by rw [w64 (by omega) (by have := HMAX.out; omega)], by omega, by omega, ⟨?_⟩, ⟨?_⟩, ⟨?_⟩⟩
        · rw [show (i + 1).toNat = i.toNat + 1 by omega, bump, show rd (bump (fun _ => wrap64 (Int.tdiv n m)) xs off i.toNat) ((off + i.toNat : Nat) : Int) = x from HX.out]; exact G.1
        · exact HB.out.setCell (Nat.le_refl _) _
        · exact HK.out.set_ _ _
      case measure => rw [w64 (by omega) (by have := HMAX.out; omega)]; simp [intOf]; omega
    · have hie : i.toNat = m := by omega
      rw [hie] at HO hxl
      clear hi0 hi1
      go_wp2
      go_loopw [6] (fun v8 w' => ∃ i : Int, v8 = .int .i64 i ∧ 0 ≤ i ∧ i ≤ r ∧ Aside0 (Kd.R (Kd.int .i64) 3 w' base ok (.slice (some ⟨g, 0, none⟩) xs.length cap0) (bump (fun _ => 1) (bump (fun _ => wrap64 (Int.tdiv n m)) xs off m) off i.toNat)) ∧ Aside0 (Below g w w') ∧ Aside0 (KeepBut w w' g none)) (fun v8 _ => r - (intOf v8).toNat)
      case atStart => exact ⟨0, rfl, by omega, by omega, HO, HB, HK⟩
      case round =>
        clear HO HB HK
        obtain ⟨i, rfl, hi0, hi1, HO, HB, HK⟩ := hrel
        have hxl := bump_length (fun _ => 1) (bump (fun _ => wrap64 (Int.tdiv n m)) xs off m) off i.toNat
        by_cases hlt : i < wrap64 (n - wrap64 (wrap64 (Int.tdiv n m) * (m : Int)))
        · have hir : i < r := by rw [HRW.out] at hlt; exact hlt
          have hxf := Kd.R_celln 0 HO.out ((off + i.toNat : Nat) : Int) (by omega) (by omega)
          simp only [Int.toNat_natCast] at hxf
          obtain ⟨hx0, hf0⟩ := hxf
          generalize hxv : rdOf 0 (bump (fun _ => 1) (bump (fun _ => wrap64 (Int.tdiv n m)) xs off m) off i.toNat) ((off + i.toNat : Nat) : Int) = x at hx0
          have HX := Aside0.mk hxv
          clear hxv
          go_wp2
          go_roundw
          case rel =>
            have G := Kd.R_putg HO.out ((off + i.toNat : Nat) : Int) (wrap64 (rd (bump (fun _ => 1) (bump (fun _ => wrap64 (Int.tdiv n m)) xs off m) off i.toNat) ((off + i.toNat : Nat) : Int) + 1))
            simp only [Int.toNat_natCast] at G
            rw [show rd (bump (fun _ => 1) (bump (fun _ => wrap64 (Int.tdiv n m)) xs off m) off i.toNat) ((off + i.toNat : Nat) : Int) = x from HX.out] at G
            refine ⟨i + 1, by rw [w64 (by omega) (by have := HMAX.out; omega)], by omega, by omega, ⟨?_⟩, ⟨?_⟩, ⟨?_⟩⟩
            · rw [show (i + 1).toNat = i.toNat + 1 by omega, bump, show rd (bump (fun _ => 1) (bump (fun _ => wrap64 (Int.tdiv n m)) xs off m) off i.toNat) ((off + i.toNat : Nat) : Int) = x from HX.out]; exact G.1
            · exact HB.out.setCell (Nat.le_refl _) _
            · exact HK.out.set_ _ _
          case measure => rw [w64 (by omega) (by have := HMAX.out; omega)]; simp [intOf]; omega
        · have hie : i.toNat = r := by rw [HRW.out] at hlt; omega
          go_wp2
          rw [hie, HDE.out] at HO
          first | go_end0 | (try simp only [Exit.inBlock, Exit.then])
          exact ⟨rfl, HO.out, HB.out, HK.out⟩
end Go.Proofs.Ytihmbddneapooaa.HandBL
