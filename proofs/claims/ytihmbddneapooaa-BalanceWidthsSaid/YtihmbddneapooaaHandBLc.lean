/- Walked by hand: balance.Needs. -/
import Derived.Test.YtihmbddneapooaaHandBLb
import Derived.Deep.RegionWith
namespace Go.Proofs.Ytihmbddneapooaa.HandBL
open Go.Proofs.Ytihmbddneapooaa.Lib (w64 rd_set tdiv_nn tmod_nn ext_rd drop_rd)
open Go.RowKit Go.Proofs.YtihmbddneapooaaW.PrintWords Go.Proofs.YtihmbddneapooaaW.PrintLast Go.Proofs.YtihmbddneapooaaW.PrintMore Go.Proofs.Ytihmbddneapooaa.QBA
set_option linter.unusedVariables false
attribute [local go_sem] max2_int min2_int max_two min_two
/-- The greater of two rows, the first i places done. -/
def mxs (b a : List Int) : Nat → List Int
  | 0 => b
  | i + 1 => (mxs b a i).set i (if rd (mxs b a i) i < rd a i then rd a i else rd (mxs b a i) i)
theorem mxs_length (b a : List Int) : ∀ i, (mxs b a i).length = b.length
  | 0 => rfl
  | i + 1 => by rw [mxs, List.length_set, mxs_length b a i]
def leastF (l : List S94) (cols : Int) : List Int := rowsN numA l cols.toNat cols.toNat
def mostF (l : List S94) (cols : Int) : List Int := mxs (rowsN numB l cols.toNat cols.toNat) (leastF l cols) cols.toNat
theorem leastF_length (l : List S94) (cols : Int) : (leastF l cols).length = cols.toNat := rowsN_length _ _ _ _
theorem rows_pos (num : S94 → Int) (l : List S94) {cols : Int} (h : 1 ≤ cols) : 0 < (rowsN num l cols.toNat cols.toNat).length := by rw [rowsN_length]; omega
def fits (cols : Int) (l : List S94) : Prop := 1 ≤ cols ∧ cols ≤ 64 ∧ l.length ≤ 4000 ∧ good cols l
instance (cols : Int) (l : List S94) : Decidable (fits cols l) := by unfold fits; infer_instance
def balance_Needs.f (k : Nat) (cols : Int) (l : List S94) : Option (List Int × List Int × Int) :=
  (balance_Check.f k cols l).bind fun e => if e = 0 then (if fits cols l then some (leastF l cols, mostF l cols, 0) else none) else some ([], [], e)
theorem balance_Needs.mono (a0 : Int) (a1 : List S94) (k : Nat) : LeO (balance_Needs.f k a0 a1) (balance_Needs.f (k + 1) a0 a1) := by
  unfold balance_Needs.f
  exact LeO.bind (balance_Check.mono _ _ _) fun _ => LeO.refl _
def AnsN (cols : Int) (A : Option Addr) (c : Nat) (l : List S94) (r1 r2 : List Int) (r3 : Int) (w : World) : Prop :=
  Calls Try.prog 38 #[.int .i64 cols, .slice A l.length c] w fun e w' => ∃ v0_ v1_ : Value, e = .returned (.tuple #[v0_, v1_, .int .i64 r3]) ∧ Kd.R (Kd.int .i64) 3 w' w.heap.size (fun k_ => some k_ ≠ v1_.ownBlock) v0_ r1 ∧ Kd.R (Kd.int .i64) 3 w' w.heap.size (fun k_ => some k_ ≠ v0_.ownBlock) v1_ r2 ∧ Below w.heap.size w w'
set_option maxHeartbeats 4000000 in
set_option maxRecDepth 100000 in
theorem needs_err (k : Nat) (cols : Int) (A : Option Addr) (c : Nat) (l : List S94) (e0 : Int) (w : World) (hr : Kd.C k94 w A l.length l) (hc : l.length ≤ c) (he : balance_Check.f k cols l = some e0) (h0 : e0 ≠ 0) : AnsN cols A c l [] [] e0 w := by
  have HR := Aside0.mk hr
  have HC := Aside0.mk hc
  have HE := Aside0.mk he
  have HB := Aside0.mk (Below.refl w.heap.size w)
  have e0b : (e0 == 0) = false := beq_eq_false_iff_ne.2 h0
  have e0c : (e0 != 0) = true := bne_iff_ne.2 h0
  clear hr hc he
  unfold AnsN
  go_enter Try.func38, Try.ntmps38
  go_wp2_with (first | (go_at_call 40; refine (balance_Check.calls k cols A c l e0 _ (Kd.C_below HR.out HB.out) HC.out HE.out).mono ?_; rintro e w2 ⟨rfl, hb⟩; have n0 := Aside0.mk (below_step HB.out hb); clear HB hb; have HB := n0; clear n0))
  first | go_ret2 | refine bodyPost_ret (v := .tuple #[.slice none 0 0, .slice none 0 0, .int .i64 e0]) (by simp [results, Try.results38, go_sem]) rfl ?_
  exact ⟨_, _, rfl, Kd.R_nil _ _ _ _ _, Kd.R_nil _ _ _ _ _, HB.out⟩
set_option maxHeartbeats 8000000 in
set_option maxRecDepth 100000 in
theorem needs_ok (k : Nat) (cols : Int) (A : Option Addr) (c : Nat) (l : List S94) (w : World) (hr : Kd.C k94 w A l.length l) (hc : l.length ≤ c) (he : balance_Check.f k cols l = some 0) (hf : fits cols l) : AnsN cols A c l (leastF l cols) (mostF l cols) 0 w := by
  obtain ⟨h1, h2, hl, hg⟩ := hf
  have HR := Aside0.mk hr
  have HC := Aside0.mk hc
  have HE := Aside0.mk he
  have HG := Aside0.mk hg
  have HB := Aside0.mk (Below.refl w.heap.size w)
  clear hr hc he hg
  have hb0 : (0 : Int) ≤ cols := by omega
  unfold AnsN
  go_enter Try.func38, Try.ntmps38
  go_wp2_with (first | (go_at_call 40; refine (balance_Check.calls k cols A c l 0 _ (Kd.C_below HR.out HB.out) HC.out HE.out).mono ?_; rintro e w2 ⟨rfl, hb⟩; have n0 := Aside0.mk (below_step HB.out hb); clear HB hb; have HB := n0; clear n0) | (go_at_call 51; have HL0 := HL; refine (needs_numB cols A c l _ (Kd.C_below HR.out HB.out) HC.out h1 h2 hl HG.out).mono ?_; rintro e w4 ⟨v9, rfl, hR, hb⟩; obtain ⟨g1, cap1, e1, _, hg1, _⟩ := Kd.R_form HL.out (rows_pos _ _ h1); subst e1; obtain ⟨g2, cap2, e2, hg2, _, _⟩ := Kd.R_form hR (rows_pos _ _ h1); subst e2; have hgg : g1 ≠ g2 := (by omega); have n0 := Aside0.mk (below_step HB.out hb); have n1 := Aside0.mk (Kd.R_reok (ok := fun k => k ≠ g2) rfl (Kd.R_below HL.out hb) (fun k hk e => hgg ((Option.some.inj hk).trans e))); have HM := Aside0.mk (Kd.R_lower hR HB.out.size); have HG2 := Aside0.mk (Nat.le_trans HB.out.size hg2); clear HL0 HB HL hb hR hg1 hg2; have HL := n1; have HB := n0; clear n0 n1) | (go_at_call 51; refine (needs_numA cols A c l _ (Kd.C_below HR.out HB.out) HC.out h1 h2 hl HG.out).mono ?_; rintro e w3 ⟨v8, rfl, hR, hb⟩; have n0 := Aside0.mk (below_step HB.out hb); have HL := Aside0.mk (Kd.R_lower hR HB.out.size); clear HB hb hR; have HB := n0; clear n0))
  rw [rowsN_length] at HL HM
  simp only [rowsN_length]
  go_loopw [25] (fun v25 w' => ∃ i : Int, v25 = .int .i64 i ∧ 0 ≤ i ∧ i ≤ cols ∧ Aside0 (Kd.R (Kd.int .i64) 3 w' w.heap.size (fun _ => True) (.slice (some ⟨g2, 0, none⟩) cols.toNat cap2) (mxs (rowsN numB l cols.toNat cols.toNat) (leastF l cols) i.toNat)) ∧ Aside0 (Kd.R (Kd.int .i64) 3 w' w.heap.size (fun k => k ≠ g2) (.slice (some ⟨g1, 0, none⟩) cols.toNat cap1) (leastF l cols)) ∧ Aside0 (Below w.heap.size w w')) (fun v25 _ => cols.toNat - (intOf v25).toNat)
  case atStart => exact ⟨0, rfl, by omega, by omega, HM, HL, HB⟩
  case round =>
    clear HM HL HB
    obtain ⟨i, rfl, hi0, hi1, HM, HL, HB⟩ := hrel
    have hxl := (mxs_length (rowsN numB l cols.toNat cols.toNat) (leastF l cols) i.toNat).trans (rowsN_length numB l cols.toNat cols.toNat)
    by_cases hlt : i < cols
    · have hlt2 : i < (cols.toNat : Int) := by omega
      obtain ⟨hx0, hf0⟩ := Kd.R_celln 0 HM.out i hi0 hlt2
      obtain ⟨hy0, _⟩ := Kd.R_celln 0 HL.out i hi0 hlt2
      have hmx : mxs (rowsN numB l cols.toNat cols.toNat) (leastF l cols) (i + 1).toNat = (mxs (rowsN numB l cols.toNat cols.toNat) (leastF l cols) i.toNat).set i.toNat (if rd (mxs (rowsN numB l cols.toNat cols.toNat) (leastF l cols) i.toNat) i < rd (leastF l cols) i then rd (leastF l cols) i else rd (mxs (rowsN numB l cols.toNat cols.toNat) (leastF l cols) i.toNat) i) := by
        rw [show (i + 1).toNat = i.toNat + 1 by omega, mxs, show ((i.toNat : Nat) : Int) = i by omega]
      have HX := Aside0.mk hmx
      clear hmx
      generalize mxs (rowsN numB l cols.toNat cols.toNat) (leastF l cols) i.toNat = xs at HX HM hx0 hxl
      obtain ⟨x, hx⟩ : ∃ x, x = rd xs i := ⟨_, rfl⟩
      obtain ⟨y, hy⟩ : ∃ y, y = rd (leastF l cols) i := ⟨_, rfl⟩
      rw [show rdOf 0 xs i = x from hx.symm] at hx0
      rw [show rdOf 0 (leastF l cols) i = y from hy.symm] at hy0
      rw [← hx, ← hy] at HX
      clear hx hy
      by_cases hxy : x < y
      · have G := Aside0.mk (Kd.R_putg HM.out i y)
        go_wp2
        go_region
        try go_wp2
        go_roundw
        case rel =>
          refine ⟨i + 1, by first | rfl | rw [w64 (by omega) (by omega)], by omega, by omega, ⟨?_⟩, ⟨?_⟩, ⟨?_⟩⟩
          · rw [HX.out, if_pos hxy]; exact Kd.R_drew (Kd.R_putg HM.out i y).1
          · exact Kd.R_drew (Kd.R_far HL.out (fun _ hk => hk) _)
          · exact below_drew1 (below_set HB.out HG2.out)
        case measure => first | (simp [intOf]; omega) | (rw [w64 (by omega) (by omega)]; simp [intOf]; omega)
      · go_wp2
        go_region
        try go_wp2
        go_roundw
        case rel =>
          rw [show max cols 0 = ((cols.toNat : Nat) : Int) by omega]
          refine ⟨_, _, _, _, _, _, _, _, _, _, _, _, _, _, _, _, _, ⟨i + 1, ?e1, by omega, by omega, ⟨?a1⟩, ⟨?b1⟩, ⟨?c1⟩⟩, rfl⟩
          case e1 => first | rfl | rw [w64 (by omega) (by omega)]
          case a1 => rw [HX.out, if_neg (by first | exact hxy | omega)]; exact Kd.R_drew (Kd.R_putg HM.out i x).1
          case b1 => exact Kd.R_drew (Kd.R_far HL.out (fun _ hk => hk) _)
          case c1 => exact below_drew1 (below_set HB.out HG2.out)
        case measure => first | (simp [intOf]; omega) | (rw [w64 (by omega) (by omega)]; simp [intOf]; omega)
    · have hie : i.toNat = cols.toNat := by omega
      rw [hie] at HM
      go_wp2
      first | go_ret2 | refine bodyPost_ret (v := .tuple #[.slice (some ⟨g1, 0, none⟩) cols.toNat cap1, .slice (some ⟨g2, 0, none⟩) cols.toNat cap2, .int .i64 0]) (by simp [results, Try.results38, go_sem]) rfl ?_
      exact ⟨_, _, rfl, Kd.R_mono HL.out (fun k hk e => hk (Option.some.inj e)), Kd.R_reok rfl HM.out (fun k hk e => hgg (Option.some.inj (hk.trans e)).symm), HB.out⟩
theorem balance_Needs.calls (k : Nat) (a0 : Int) (A1 : Option Addr) (c1 : Nat) (l1 : List S94) (r1 r2 : List Int) (r3 : Int) (w : World) (hr1 : Kd.C k94 w A1 l1.length l1) (hc1 : l1.length ≤ c1) (h : balance_Needs.f k a0 l1 = some (r1, r2, r3)) :
    Calls Try.prog 38 #[.int .i64 a0, .slice A1 l1.length c1] w fun e w' => ∃ v0_ v1_ : Value, e = .returned (.tuple #[v0_, v1_, .int .i64 r3]) ∧ Kd.R (Kd.int .i64) 3 w' w.heap.size (fun k_ => some k_ ≠ v1_.ownBlock) v0_ r1 ∧ Kd.R (Kd.int .i64) 3 w' w.heap.size (fun k_ => some k_ ≠ v0_.ownBlock) v1_ r2 ∧ Below w.heap.size w w' := by
  unfold balance_Needs.f at h
  obtain ⟨e, he, h⟩ := Option.bind_eq_some_iff.1 h
  by_cases h0 : e = 0
  · rw [if_pos h0] at h
    subst h0
    by_cases hf : fits a0 l1
    · rw [if_pos hf] at h
      injection h with h
      injection h with h1 h
      injection h with h2 h3
      subst h1 h2 h3
      exact needs_ok k a0 A1 c1 l1 w hr1 hc1 he hf
    · rw [if_neg hf] at h
      exact absurd h (by simp)
  · rw [if_neg h0] at h
    injection h with h
    injection h with h1 h
    injection h with h2 h3
    subst h1 h2 h3
    exact needs_err k a0 A1 c1 l1 e w hr1 hc1 he h0
end Go.Proofs.Ytihmbddneapooaa.HandBL
