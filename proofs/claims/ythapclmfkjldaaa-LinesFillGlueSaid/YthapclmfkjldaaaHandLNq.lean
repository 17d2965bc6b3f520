import Derived.Test.YthapclmfkjldaaaPureLNe
namespace Go.Proofs.Ythapclmfkjldaaa.HandLN
set_option linter.unusedSectionVars false
set_option linter.unusedVariables false
set_option linter.unusedSimpArgs false
open Go.Proofs.Ythapclmfkjldaaa.Lib (w64)
open Go.RowKit Go.Proofs.YthapclmfkjldaaaW.PrintWords Go.Proofs.YthapclmfkjldaaaW.PrintLast Go.Proofs.YthapclmfkjldaaaW.PrintMore Go.Proofs.Ythapclmfkjldaaa.QLN Go.Proofs.Ythapclmfkjldaaa.LinesP Go.Proofs.Ythapclmfkjldaaa.Cells
attribute [local go_sem] max2_int min2_int max_two min_two
def fillD (by_ g y : Int) (jy : Bool) : Int := if by_ < 0 then mn (-by_) y else if jy = false ∨ g = 0 then 0 else by_
def fillC (by_ g y : Int) : Int := if by_ < 0 then y else g
def fillS (by_ : Int) : Int := if by_ < 0 then -1 else 1
def fillH (s : Int) (p : S49) : Int := if s < 0 then p.f3 else p.f2
def upS (s : Int) (L : List S49) (f k : Int) : Int := sumU (fillH s) L (f + k).toNat - sumU (fillH s) L f.toNat
def glueW (L : List S49) (f d c s : Int) : Nat → List Int
 | 0 => []
 | k + 1 => glueW L f d c s k ++ if (pt L (f + k)).f0 = 1 then [(pt L (f + k)).f1 + s * (Int.tdiv (d * upS s L f (k + 1)) c - Int.tdiv (d * upS s L f k) c)] else []
def natP (L : List S49) (f t : Int) : Int := sumU hW1 L t.toNat - sumU hW1 L f.toNat + addP L t
def growP (L : List S49) (f t : Int) : Int := sumU (·.f2) L t.toNat - sumU (·.f2) L f.toNat
def yieldP (L : List S49) (f t : Int) : Int := sumU (·.f3) L t.toNat - sumU (·.f3) L f.toNat
def fillP (L : List S49) (f t wd : Int) (jy : Bool) : List Int := glueW L f (fillD (wd - natP L f t) (growP L f t) (yieldP L f t) jy) (fillC (wd - natP L f t) (growP L f t) (yieldP L f t)) (fillS (wd - natP L f t)) (t - f).toNat
theorem glueW_len (L : List S49) (f d c s : Int) (k : Nat) : (glueW L f d c s k).length ≤ k := by
 induction k with
 | zero => exact Nat.le_refl _
 | succ k ih =>
  unfold glueW
  rw [List.length_append]
  split
  · rw [List.length_singleton]; omega
  · rw [List.length_nil]; omega
theorem fillH_bd (L : List S49) (hF : Fine L) (s : Int) (k : Nat) (hk : k ≤ L.length) : 0 ≤ sumU (fillH s) L k ∧ sumU (fillH s) L k ≤ 100000 * (k : Int) :=
 sumU_bd (fillH s) L (fun j j0 j1 => by have := hF.2 j j0 j1; unfold fillH; split <;> omega) k hk
theorem sumU_mono (h : S49 → Int) (L : List S49) (hb : ∀ i : Int, 0 ≤ i → i < L.length → 0 ≤ h (pt L i)) (a b : Nat) (ab : a ≤ b) (hb' : b ≤ L.length) : sumU h L a ≤ sumU h L b := by
 induction b with
 | zero => rw [show a = 0 by omega]; exact Int.le_refl _
 | succ b ih =>
  by_cases e : a = b + 1
  · rw [e]; exact Int.le_refl _
  · have := ih (by omega) (by omega)
    have := hb b (by omega) (by omega)
    rw [show sumU h L (b + 1) = sumU h L b + h (pt L b) from rfl]
    omega
theorem upS_bd (L : List S49) (hF : Fine L) (s f k : Int) (f0 : 0 ≤ f) (k0 : 0 ≤ k) (k1 : f + k ≤ L.length) : 0 ≤ upS s L f k ∧ upS s L f k ≤ 800000000 := by
 have hn := hF.1
 have h1 := fillH_bd L hF s (f + k).toNat (by omega)
 have h2 := sumU_mono (fillH s) L (fun j j0 j1 => by have := hF.2 j j0 j1; unfold fillH; split <;> omega) f.toNat (f + k).toNat (by omega) (by omega)
 have h3 := fillH_bd L hF s f.toNat (by omega)
 unfold upS
 omega
theorem upS_zero (s : Int) (L : List S49) (f : Int) : upS s L f 0 = 0 := by unfold upS; rw [Int.add_zero]; omega
theorem upS_succ (s : Int) (L : List S49) (f k : Int) (f0 : 0 ≤ f) (k0 : 0 ≤ k) : upS s L f (k + 1) = upS s L f k + fillH s (pt L (f + k)) := by
 unfold upS
 rw [show (f + (k + 1)).toNat = (f + k).toNat + 1 by omega, sumU, show (((f + k).toNat : Nat) : Int) = f + k by omega]
 omega
theorem tdiv_bd (a c : Int) (a0 : 0 ≤ a) (c0 : 0 ≤ c) : 0 ≤ Int.tdiv a c ∧ Int.tdiv a c ≤ a := ⟨Int.tdiv_nonneg a0 c0, by
 rw [Int.tdiv_eq_ediv_of_nonneg a0]
 exact Int.ediv_le_self c a0⟩
theorem mul_bd (a b : Int) (a0 : 0 ≤ a) (a1 : a ≤ 800000000) (b0 : 0 ≤ b) (b1 : b ≤ 800000000) : 0 ≤ a * b ∧ a * b ≤ 640000000000000000 :=
 ⟨Int.mul_nonneg a0 b0, Int.le_trans (Int.mul_le_mul a1 b1 b0 (by omega)) (by omega)⟩
theorem fill_bd (L : List S49) (hF : Fine L) (f t wd : Int) (jy : Bool) (f0 : 0 ≤ f) (ft : f ≤ t) (t1 : t ≤ L.length) (w0 : 1 ≤ wd) (w1 : wd ≤ 100000) :
    (0 ≤ natP L f t ∧ natP L f t ≤ 801000000) ∧ (0 ≤ growP L f t ∧ growP L f t ≤ 800000000) ∧ (0 ≤ yieldP L f t ∧ yieldP L f t ≤ 800000000) := by
 obtain ⟨hn, hp⟩ := hF
 have bW := fun k hk => sumU_bd hW1 L (fun j j0 j1 => by have := hp j j0 j1; unfold hW1; split <;> omega) k hk
 have bG := fun k hk => sumU_bd (·.f2) L (fun j j0 j1 => by have := hp j j0 j1; exact ⟨by omega, by omega⟩) k hk
 have bY := fun k hk => sumU_bd (·.f3) L (fun j j0 j1 => by have := hp j j0 j1; exact ⟨by omega, by omega⟩) k hk
 have mW := sumU_mono hW1 L (fun j j0 j1 => by have := hp j j0 j1; unfold hW1; split <;> omega) f.toNat t.toNat (by omega) (by omega)
 have mG := sumU_mono (·.f2) L (fun j j0 j1 => (hp j j0 j1).2.2.1) f.toNat t.toNat (by omega) (by omega)
 have mY := sumU_mono (·.f3) L (fun j j0 j1 => (hp j j0 j1).2.2.2.2.1) f.toNat t.toNat (by omega) (by omega)
 have a1 := bW t.toNat (by omega)
 have a2 := bG t.toNat (by omega)
 have a3 := bY t.toNat (by omega)
 have a4 := bW f.toNat (by omega)
 have a5 := bG f.toNat (by omega)
 have a6 := bY f.toNat (by omega)
 have ha : 0 ≤ addP L t ∧ addP L t ≤ 100000 := by
  unfold addP
  split
  · rename_i c
    have := hp t (by omega) c.1
    omega
  · omega
 unfold natP growP yieldP
 omega
section
variable (L : List S49) (hF : Fine L) (hG : Glue L)
include hF hG
set_option maxHeartbeats 8000000 in
set_option maxRecDepth 100000 in
theorem fill_ok (A0 : Option Addr) (c0 : Nat) (x0 x1 x2 x3 x4 x5 : Int) (jy : Bool) (kc : Nat) (hkc : lines_Check.f kc L = some 0) (f0 : 0 ≤ x0) (ft : x0 ≤ x1) (t1 : x1 ≤ L.length) (wd0 : 1 ≤ x5) (wd1 : x5 ≤ 100000) (w : World) (hL : Kd.C k49 w A0 L.length L) (hc : L.length ≤ c0) :
    Calls Try.prog 17 #[.slice A0 L.length c0, .agg #[.int .i64 x0, .int .i64 x1, .int .i64 x2, .int .i64 x3, .int .i64 x4, .int .i64 x5], .bool jy] w fun e w' => ∃ v : Value, e = .returned (.tuple #[v, .int .i64 0]) ∧ kI.R 3 w' w.heap.size (fun _ => True) v (fillP L x0 x1 x5 jy) ∧ Below w.heap.size w w' := by
 have hu41 := Try.underlying41
 have hu49 := Try.underlying49
 have hn := hF.1
 have HF := Aside0.mk hF
 have HG := Aside0.mk hG
 have HL := Aside0.mk hL
 have HC0 := Aside0.mk hc
 have HKC := Aside0.mk (fun W2 h => lines_Check.calls kc A0 c0 L 0 W2 h hc hkc)
 have HB := Aside0.mk (Below.refl w.heap.size w)
 have d1 : decide (x0 < 0) = false := decide_eq_false (by omega)
 have d2 : decide (x1 < x0) = false := decide_eq_false (by omega)
 have d3 : decide ((L.length : Int) < x1) = false := decide_eq_false (by omega)
 have d4 : decide (x5 < 1) = false := decide_eq_false (by omega)
 have d5 : decide (100000 < x5) = false := decide_eq_false (by omega)
 have e1 := eq_true f0
 have e2 := eq_true ft
 have e3 := eq_true t1
 have e1' : decide (0 ≤ x0) = true := decide_eq_true f0
 have e2' : decide (x0 ≤ x1) = true := decide_eq_true ft
 have e3' : decide (x1 ≤ (L.length : Int)) = true := decide_eq_true t1
 have HFB := Aside0.mk (fill_bd L hF x0 x1 x5 jy f0 ft t1 wd0 wd1)
 obtain ⟨i0, hi0, _, hsz, _⟩ := info_parts info49
 have hcut := cut_mid (P := Try.prog) 22 49 .i64 .i64 Try.underlying22 hi0 6 hsz A0 L.length c0 x0 x1 f0 ft t1 hc
 have hr := Kd.C_mid (lo := x0.toNat) (hi := x1.toNat) (c := c0) hL (by omega) (by omega) hc
 obtain ⟨A9, hA9⟩ : ∃ A1, A1 = (if c0 = x0.toNat then A0 else (A0 : Option Addr).map (·.add (x0.toNat * 6))) := ⟨_, rfl⟩
 obtain ⟨c9, hc9⟩ : ∃ c1, c1 = c0 - x0.toNat := ⟨_, rfl⟩
 obtain ⟨y, hy⟩ : ∃ y, y = (L.take x1.toNat).drop x0.toNat := ⟨_, rfl⟩
 have hyl : y.length = x1.toNat - x0.toNat := by rw [hy, List.length_drop, List.length_take]; omega
 rw [← hy] at hr
 replace hr : Kd.C k49 w A9 y.length y := by rw [hA9]; exact hr
 rw [← hyl, ← hA9, ← hc9] at hcut
 have hyc : y.length ≤ c9 := by rw [hyl, hc9]; omega
 have HYA := Aside0.mk (fun (i : Int) (i0 : 0 ≤ i) (i1 : i < x1 - x0) => (show rd_T49 y i = pt L (x0 + i) by rw [hy]; exact sub_at L x0 x1 i f0 ft t1 i0 i1))
 have hyi : (y.length : Int) = x1 - x0 := by omega
 have HYL := Aside0.mk hyi
 have HR := Aside0.mk hr
 have HCUT := Aside0.mk hcut
 have HFT := Aside0.mk (And.intro f0 (And.intro ft (And.intro t1 (And.intro wd0 wd1))))
 have HN := Aside0.mk hn
 clear hF hG hL hkc hi0 hsz hc9 hA9 hy hyl hr hcut hyi f0 ft t1 wd0 wd1 hn hc
 go_enter Try.func17, Try.ntmps17
 go_upto_region 7 with (first
  | ((with_reducible refine gate_dst (N := 4) rfl ?_); refine box_event ?hg (N := 4) ?hd (cs := #[.int .i64 x0, .int .i64 x1, .int .i64 x2, .int .i64 x3, .int .i64 x4, .int .i64 x5]) (t := 41) ?hr ?_; (case hd => rfl); (case hg => rfl); (case hr => first | (go_simp; done) | (go_simp; rfl)); intro g4 hg wb4 hbox hb; (have hbb := below_step HB.out hb); clear HB; (have HB := Aside0.mk hbb); (have H4 := Aside0.mk hbox); obtain ⟨hs0, hs1, hs2, hs3, hs4, hs5⟩ := cells6 H4.out; clear hg hbox hb hbb)
  | (go_at_call 12; refine (HKC.out _ (Kd.C_below HL.out HB.out)).mono ?_; rintro e w3 ⟨rfl, hb⟩; (have hbb := below_step HB.out hb); (have h4 := blk_below H4.out hb); clear HB H4 hs0 hs1 hs2 hs3 hs4 hs5; (have HB := Aside0.mk hbb); (have H4 := Aside0.mk h4); obtain ⟨hs0, hs1, hs2, hs3, hs4, hs5⟩ := cells6 H4.out; clear hb hbb h4))
 have hcut := HCUT.out
 obtain ⟨f0, ft, t1, wd0, wd1⟩ := HFT.out
 go_wp2
 go_loopw [9, 10, 11, 62] (fun v9 v10 v11 v62 w' => ∃ i : Int, v62 = .int .i64 i ∧ v9 = .int .i64 (sumU hW1 L (x0 + i).toNat - sumU hW1 L x0.toNat) ∧ v10 = .int .i64 (sumU (·.f2) L (x0 + i).toNat - sumU (·.f2) L x0.toNat) ∧ v11 = .int .i64 (sumU (·.f3) L (x0 + i).toNat - sumU (·.f3) L x0.toNat) ∧ 0 ≤ i ∧ i ≤ x1 - x0 ∧ Aside0 (Below w.heap.size w w') ∧ Aside0 (w'.heap[g4]? = some (.cells #[.int .i64 x0, .int .i64 x1, .int .i64 x2, .int .i64 x3, .int .i64 x4, .int .i64 x5] 41 (0, 0)))) (fun _ _ _ v62 _ => (x1 - x0).toNat - (intOf v62).toNat)
 case atStart => exact ⟨0, rfl, by simp, by simp, by simp, Int.le_refl _, by omega, HB, H4⟩
 case round =>
  clear HB H4 hs0 hs1 hs2 hs3 hs4 hs5 hcut
  obtain ⟨i, rfl, rfl, rfl, rfl, i0, i1, HB, H4⟩ := hrel
  have hyl := HYL.out
  have hn := HN.out
  by_cases c : i < x1 - x0
  · have hlt : i < (y.length : Int) := by omega
    have hlt' := eq_true hlt
    have hltd : decide (i < (y.length : Int)) = true := decide_eq_true hlt
    obtain ⟨ad, ea, hx0, hx1, hx2, hx3, hx4, hx5⟩ := at_T49 (Kd.C_below HR.out HB.out) i i0 hlt
    subst ea
    rw [HYA.out i i0 c] at hx0 hx1 hx2 hx3 hx4 hx5
    have hpp := HF.out.2 (x0 + i) (by omega) (by omega)
    have bW := fun k hk => sumU_bd hW1 L (fun j j0 j1 => by have := HF.out.2 j j0 j1; unfold hW1; split <;> omega) k hk
    have bG := fun k hk => sumU_bd (·.f2) L (fun j j0 j1 => by have := HF.out.2 j j0 j1; exact ⟨by omega, by omega⟩) k hk
    have bY := fun k hk => sumU_bd (·.f3) L (fun j j0 j1 => by have := HF.out.2 j j0 j1; exact ⟨by omega, by omega⟩) k hk
    have q1 := bW (x0 + i).toNat (by omega)
    have q2 := bW x0.toNat (by omega)
    have q3 := bG (x0 + i).toNat (by omega)
    have q4 := bG x0.toNat (by omega)
    have q5 := bY (x0 + i).toNat (by omega)
    have q6 := bY x0.toNat (by omega)
    have r1 : sumU hW1 L (x0 + (i + 1)).toNat - sumU hW1 L x0.toNat = (sumU hW1 L (x0 + i).toNat - sumU hW1 L x0.toNat) + hW1 (pt L (x0 + i)) := by
     rw [show (x0 + (i + 1)).toNat = (x0 + i).toNat + 1 by omega, sumU, show (((x0 + i).toNat : Nat) : Int) = x0 + i by omega]; omega
    have r2 : sumU (·.f2) L (x0 + (i + 1)).toNat - sumU (·.f2) L x0.toNat = (sumU (·.f2) L (x0 + i).toNat - sumU (·.f2) L x0.toNat) + (pt L (x0 + i)).f2 := by
     rw [show (x0 + (i + 1)).toNat = (x0 + i).toNat + 1 by omega, sumU, show (((x0 + i).toNat : Nat) : Int) = x0 + i by omega]; omega
    have r3 : sumU (·.f3) L (x0 + (i + 1)).toNat - sumU (·.f3) L x0.toNat = (sumU (·.f3) L (x0 + i).toNat - sumU (·.f3) L x0.toNat) + (pt L (x0 + i)).f3 := by
     rw [show (x0 + (i + 1)).toNat = (x0 + i).toNat + 1 by omega, sumU, show (((x0 + i).toNat : Nat) : Int) = x0 + i by omega]; omega
    have hw : hW1 (pt L (x0 + i)) = if (pt L (x0 + i)).f0 = 2 then 0 else (pt L (x0 + i)).f1 := rfl
    obtain ⟨s1, hs1⟩ : ∃ q, sumU hW1 L (x0 + i).toNat - sumU hW1 L x0.toNat = q := ⟨_, rfl⟩
    obtain ⟨s2, hs2⟩ : ∃ q, sumU (·.f2) L (x0 + i).toNat - sumU (·.f2) L x0.toNat = q := ⟨_, rfl⟩
    obtain ⟨s3, hs3⟩ : ∃ q, sumU (·.f3) L (x0 + i).toNat - sumU (·.f3) L x0.toNat = q := ⟨_, rfl⟩
    have sb : (-800000000 ≤ s1 ∧ s1 ≤ 800000000) ∧ (-800000000 ≤ s2 ∧ s2 ≤ 800000000) ∧ (-800000000 ≤ s3 ∧ s3 ≤ 800000000) := by omega
    rw [hs1, hs2, hs3]
    rw [hs1] at r1
    rw [hs2] at r2
    rw [hs3] at r3
    clear q1 q2 q3 q4 q5 q6 bW bG bY hs1 hs2 hs3
    obtain ⟨p, hp⟩ : ∃ p, pt L (x0 + i) = p := ⟨_, rfl⟩
    rw [hp] at hx0 hx1 hx2 hx3 hx4 hx5 hpp r1 r2 r3 hw
    clear hp
    obtain ⟨p0, p1, p2, p3, p4, p5⟩ := p
    simp only at hx0 hx1 hx2 hx3 hx4 hx5 hpp r1 r2 r3 hw
    have wi : wrap64 (i + 1) = i + 1 := w64 (by omega) (by omega)
    have wi' := (i64_w (i + 1)).trans wi
    have y2 : wrap64 (s2 + p2) = s2 + p2 := w64 (by omega) (by omega)
    have y2' := (i64_w (s2 + p2)).trans y2
    have y3 : wrap64 (s3 + p3) = s3 + p3 := w64 (by omega) (by omega)
    have y3' := (i64_w (s3 + p3)).trans y3
    have y1 : wrap64 (s1 + p1) = s1 + p1 := w64 (by omega) (by omega)
    have y1' := (i64_w (s1 + p1)).trans y1
    have HRL := Aside0.mk (And.intro r1 (And.intro r2 (And.intro r3 hw)))
    have HMS : Aside0 ((x1 - x0).toNat - (i + 1).toNat < (x1 - x0).toNat - i.toNat) := ⟨by omega⟩
    have HI : Aside0 (0 ≤ i + 1 ∧ i + 1 ≤ x1 - x0) := ⟨by omega⟩
    clear r1 r2 r3 hw hpp sb hyl hn c
    go_upto_if 68 with (first
     | ((with_reducible refine gate_dst (N := 13) rfl ?_); refine box_event ?hg (N := 13) ?hd (cs := #[.int .i64 0, .int .i64 0, .int .i64 0, .int .i64 0, .int .i64 0, .bool false]) (t := 49) ?hr ?_; (case hd => rfl); (case hg => rfl); (case hr => first | (go_simp; done) | (go_simp; rfl)); intro g13 hg wb13 hbox hb; (have hge : w.heap.size ≤ g13 := by rw [hg]; exact HB.out.size); (have hne : g4 ≠ g13 := by rw [hg]; exact Nat.ne_of_lt (blk_lt H4.out)); (have h4 := blk_below H4.out hb); (have hbb3 := below_step HB.out hb); clear HB H4; (have HB := Aside0.mk hbb3); (have H4 := Aside0.mk h4); (have H13 := Aside0.mk hbox); (have G13 := Aside0.mk hge); (have N13 := Aside0.mk hne); clear hg hbox hb hbb3 hge hne h4)
     | ((with_reducible refine gate_store (t := 49) (p := 13) rfl ?_); refine agg_event (w0 := w) rfl rfl 49 (.tmp 13) (.tmp 65) rfl (g := g13) (e := 49) (.agg #[.int .i64 p0, .int .i64 p1, .int .i64 p2, .int .i64 p3, .int .i64 p4, .bool p5]) [.int .i64 p0, .int .i64 p1, .int .i64 p2, .int .i64 p3, .int .i64 p4, .bool p5] rfl rfl rfl (by kernel_rfl) H13.out rfl (by simp only [List.mem_cons, List.not_mem_nil, or_false, forall_eq_or_imp, forall_eq]; exact ⟨rfl, rfl, rfl, rfl, rfl, rfl⟩) HB.out G13.out ?_; intro ws13 hbox hb hgr; (have h4 := (hgr.block g4 (blk_lt H4.out) (fun e => N13.out (by injection e))).trans H4.out); clear HB H13 H4; (have HB := Aside0.mk hb); (have H13 := Aside0.mk hbox); (have H4 := Aside0.mk h4); clear hx0 hx1 hx2 hx3 hx4 hx5; obtain ⟨hs0, hs1, hs2, hs3, hs4, hs5⟩ := cells6 H13.out; clear hbox hb hgr h4))
    by_cases c2 : p0 = 2
    · have HR1 : Aside0 (sumU hW1 L (x0 + (i + 1)).toNat - sumU hW1 L x0.toNat = s1) := ⟨by rw [HRL.out.1, HRL.out.2.2.2, if_pos c2, Int.add_zero]⟩
      subst c2
      go_wp2
      repeat (go_quiet (fail); try go_wp2)
      go_roundw
      case measure => exact HMS.out
      case rel => exact ⟨i + 1, by first | rfl | rw [wi], by rw [HR1.out], by rw [HRL.out.2.1], by rw [HRL.out.2.2.1], HI.out.1, HI.out.2, ⟨by repeat (first | (with_reducible first | exact HB.out | apply pw_below_drewN | apply below_drew1) | exact HB.out)⟩, ⟨by (with_reducible repeat (first | refine blk_drewN ?_ _ | refine blk_drew ?_)); exact H4.out⟩⟩
    · have HR1 : Aside0 (sumU hW1 L (x0 + (i + 1)).toNat - sumU hW1 L x0.toNat = s1 + p1) := ⟨by rw [HRL.out.1, HRL.out.2.2.2, if_neg c2]⟩
      have c2b : (p0 != 2) = true := bne_iff_ne.2 c2
      go_wp2
      repeat (go_quiet (fail); try go_wp2)
      go_roundw
      case measure => exact HMS.out
      case rel => exact ⟨i + 1, by first | rfl | rw [wi], by rw [HR1.out], by rw [HRL.out.2.1], by rw [HRL.out.2.2.1], HI.out.1, HI.out.2, ⟨by repeat (first | (with_reducible first | exact HB.out | apply pw_below_drewN | apply below_drew1) | exact HB.out)⟩, ⟨by (with_reducible repeat (first | refine blk_drewN ?_ _ | refine blk_drew ?_)); exact H4.out⟩⟩
  · have hie : i = x1 - x0 := by omega
    subst hie
    have hltd : decide (x1 - x0 < (y.length : Int)) = false := decide_eq_false (by omega)
    rw [show x0 + (x1 - x0) = x1 by omega]
    have hgr_ : sumU (·.f2) L x1.toNat - sumU (·.f2) L x0.toNat = growP L x0 x1 := rfl
    have hyi_ : sumU (·.f3) L x1.toNat - sumU (·.f3) L x0.toNat = yieldP L x0 x1 := rfl
    have hna_ : sumU hW1 L x1.toNat - sumU hW1 L x0.toNat + addP L x1 = natP L x0 x1 := rfl
    obtain ⟨⟨nb0, nb1⟩, ⟨gb0, gb1⟩, ⟨yb0, yb1⟩⟩ := HFB.out
    rw [hgr_, hyi_]
    obtain ⟨gr, hgr⟩ : ∃ q, growP L x0 x1 = q := ⟨_, rfl⟩
    obtain ⟨yi, hyi⟩ : ∃ q, yieldP L x0 x1 = q := ⟨_, rfl⟩
    obtain ⟨na, hna⟩ : ∃ q, natP L x0 x1 = q := ⟨_, rfl⟩
    obtain ⟨n0, hn0⟩ : ∃ q, sumU hW1 L x1.toNat - sumU hW1 L x0.toNat = q := ⟨_, rfl⟩
    rw [hgr] at gb0 gb1 ⊢
    rw [hyi] at yb0 yb1 ⊢
    rw [hna] at nb0 nb1 hna_
    rw [hn0] at hna_ ⊢
    have HNA := Aside0.mk hna_
    have HDEF : Aside0 (fillP L x0 x1 x5 jy = glueW L x0 (fillD (x5 - na) gr yi jy) (fillC (x5 - na) gr yi) (fillS (x5 - na)) (x1 - x0).toNat) := ⟨by unfold fillP; rw [hgr, hyi, hna]⟩
    clear hgr_ hyi_ hna_ hgr hyi hna hn0 c i0 i1 HFB hyl
    obtain ⟨b, hb⟩ : ∃ b, decide (x1 < (L.length : Int) ∧ (pt L x1).f0 = 2) = b := ⟨_, rfl⟩
    obtain ⟨ht0, ht1, ht2, ht3, ht4, ht5⟩ := cells6 H4.out
    go_upto_region 14 with (fail)
    go_cut [95] (fun v95 wc => v95 = .bool b ∧ Aside0 (Below w.heap.size w wc) ∧ Aside0 (wc.heap[g4]? = some (.cells #[.int .i64 x0, .int .i64 x1, .int .i64 x2, .int .i64 x3, .int .i64 x4, .int .i64 x5] 41 (0, 0))))
    case first =>
     by_cases q : x1 < (L.length : Int)
     · have qd : decide (x1 < (L.length : Int)) = true := decide_eq_true q
       have xz : 0 ≤ x1 := by omega
       obtain ⟨ad, ea, hx0, hx1, hx2, hx3, hx4, hx5⟩ := at_T49 (Kd.C_below HL.out HB.out) x1 xz q
       subst ea
       have xz' := eq_true xz
       have q' := eq_true q
       have hb2 : ((rd_T49 L x1).f0 == 2) = b := by rw [← hb]; by_cases z : (rd_T49 L x1).f0 = 2 <;> simp [q, z]
       clear hb
       go_wp2
       repeat (go_quiet (fail); try go_wp2)
       go_meet
       case rel => exact ⟨by first | rfl | rw [hb2], ⟨by repeat (first | (with_reducible first | exact HB.out | apply pw_below_drewN | apply below_drew1) | exact HB.out)⟩, ⟨by (with_reducible repeat (first | refine blk_drewN ?_ _ | refine blk_drew ?_)); exact H4.out⟩⟩
     · have qd : decide (x1 < (L.length : Int)) = false := decide_eq_false q
       have hb2 : b = false := by rw [← hb]; simp [q]
       have HB2 := Aside0.mk hb2
       clear hb hb2
       go_wp2
       repeat (go_quiet (fail); try go_wp2)
       go_meet
       case rel => exact ⟨by rw [HB2.out], ⟨by repeat (first | (with_reducible first | exact HB.out | apply pw_below_drewN | apply below_drew1) | exact HB.out)⟩, ⟨by (with_reducible repeat (first | refine blk_drewN ?_ _ | refine blk_drew ?_)); exact H4.out⟩⟩
    case rest =>
     clear HB H4 ht0 ht1 ht2 ht3 ht4 ht5
     obtain ⟨rfl, HB, H4⟩ := hcut
     obtain ⟨ht0, ht1, ht2, ht3, ht4, ht5⟩ := cells6 H4.out
     go_upto_if 95 with (fail)
     (try simp only [Act.put, List.setIfInBounds_toArray, List.set_cons_zero, List.set_cons_succ])
     go_cut [9] (fun v9 wc => v9 = .int .i64 na ∧ Aside0 (Below w.heap.size w wc) ∧ Aside0 (wc.heap[g4]? = some (.cells #[.int .i64 x0, .int .i64 x1, .int .i64 x2, .int .i64 x3, .int .i64 x4, .int .i64 x5] 41 (0, 0))))
     case first =>
      cases b with
      | true =>
       have hq := of_decide_eq_true hb
       have q := hq.1
       have xz : 0 ≤ x1 := by omega
       obtain ⟨ad, ea, hx0, hx1, hx2, hx3, hx4, hx5⟩ := at_T49 (Kd.C_below HL.out HB.out) x1 xz q
       subst ea
       have xz' := eq_true xz
       have q' := eq_true q
       have ha : addP L x1 = (rd_T49 L x1).f1 := if_pos hq
       have hna := HNA.out
       rw [ha] at hna
       obtain ⟨a1, ha1⟩ : ∃ q, (rd_T49 L x1).f1 = q := ⟨_, rfl⟩
       rw [ha1] at hna hx1
       have hpa := HF.out.2 x1 (by omega) q
       have hpa1 : 0 ≤ a1 ∧ a1 ≤ 100000 := by rw [← ha1]; exact ⟨hpa.1, hpa.2.1⟩
       have yw : wrap64 (n0 + a1) = na := (w64 (by omega) (by omega)).trans hna
       have yw' := (i64_w (n0 + a1)).trans yw
       clear hb hq ha hna ha1 hpa hpa1
       go_wp2
       repeat (go_quiet (fail); try go_wp2)
       go_meet
       case rel => exact ⟨by first | rfl | rw [yw], ⟨by repeat (first | (with_reducible first | exact HB.out | apply pw_below_drewN | apply below_drew1) | exact HB.out)⟩, ⟨by (with_reducible repeat (first | refine blk_drewN ?_ _ | refine blk_drew ?_)); exact H4.out⟩⟩
      | false =>
       have ha : addP L x1 = 0 := if_neg (of_decide_eq_false hb)
       have hna := HNA.out
       rw [ha, Int.add_zero] at hna
       subst hna
       go_wp2
       go_meet
       case rel => exact ⟨rfl, ⟨by repeat (first | (with_reducible first | exact HB.out | apply pw_below_drewN | apply below_drew1) | exact HB.out)⟩, ⟨by (with_reducible repeat (first | refine blk_drewN ?_ _ | refine blk_drew ?_)); exact H4.out⟩⟩
     case rest =>
      clear HB H4 ht0 ht1 ht2 ht3 ht4 ht5 hb
      obtain ⟨rfl, HB, H4⟩ := hcut
      obtain ⟨ht0, ht1, ht2, ht3, ht4, ht5⟩ := cells6 H4.out
      obtain ⟨by_, hby⟩ : ∃ q, x5 - na = q := ⟨_, rfl⟩
      have yb : wrap64 (x5 - na) = by_ := (w64 (by omega) (by omega)).trans hby
      have yb' := (i64_w (x5 - na)).trans yb
      rw [hby] at HDEF
      have bb0 : -800999999 ≤ by_ ∧ by_ ≤ 100000 := by omega
      have yn : wrap64 (-by_) = -by_ := w64 (by omega) (by omega)
      have yn' := (i64_w (-by_)).trans yn
      clear hby HNA nb0 nb1
      go_upto_if 110 with (fail)
      (try simp only [Act.put, List.setIfInBounds_toArray, List.set_cons_zero, List.set_cons_succ])
      go_cut [14, 15, 16] (fun v14 v15 v16 wc => v14 = .int .i64 (fillD by_ gr yi jy) ∧ v15 = .int .i64 (fillC by_ gr yi) ∧ v16 = .int .i64 (fillS by_) ∧ Aside0 (Below w.heap.size w wc) ∧ Aside0 (wc.heap[g4]? = some (.cells #[.int .i64 x0, .int .i64 x1, .int .i64 x2, .int .i64 x3, .int .i64 x4, .int .i64 x5] 41 (0, 0))))
      case first =>
       by_cases q : by_ < 0
       · have qd : decide (by_ < 0) = true := decide_eq_true q
         rw [qd]
         have hD : fillD by_ gr yi jy = mn (-by_) yi := if_pos q
         have hC : fillC by_ gr yi = yi := if_pos q
         have hS : fillS by_ = -1 := if_pos q
         have HD := Aside0.mk hD
         have HC := Aside0.mk hC
         have HS := Aside0.mk hS
         clear hD hC hS
         go_wp2
         all_goals repeat (go_quiet (fail); try go_wp2)
         all_goals go_meet
         all_goals exact ⟨by rw [HD.out]; unfold mn; split <;> first | rfl | (congr 1; omega), by rw [HC.out], by rw [HS.out], ⟨by repeat (first | (with_reducible first | exact HB.out | apply pw_below_drewN | apply below_drew1) | exact HB.out)⟩, ⟨by (with_reducible repeat (first | refine blk_drewN ?_ _ | refine blk_drew ?_)); exact H4.out⟩⟩
       · have qd : decide (by_ < 0) = false := decide_eq_false q
         rw [qd]
         have hC : fillC by_ gr yi = gr := if_neg q
         have hS : fillS by_ = 1 := if_neg q
         have HC := Aside0.mk hC
         have HS := Aside0.mk hS
         clear hC hS
         have hD : fillD by_ gr yi jy = if jy = false ∨ gr = 0 then 0 else by_ := if_neg q
         cases jy with
         | false =>
          rw [if_pos (Or.inl rfl)] at hD
          have HD := Aside0.mk hD
          clear hD
          go_wp2
          repeat (go_quiet (fail); try go_wp2)
          go_meet
          case rel => exact ⟨by rw [HD.out], by rw [HC.out], by rw [HS.out], ⟨by repeat (first | (with_reducible first | exact HB.out | apply pw_below_drewN | apply below_drew1) | exact HB.out)⟩, ⟨by (with_reducible repeat (first | refine blk_drewN ?_ _ | refine blk_drew ?_)); exact H4.out⟩⟩
         | true =>
          by_cases z : gr = 0
          · rw [if_pos (Or.inr z)] at hD
            have zb : (gr == 0) = true := beq_iff_eq.2 z
            have HD := Aside0.mk hD
            clear hD z
            go_wp2
            repeat (go_quiet (fail); try go_wp2)
            go_meet
            case rel => exact ⟨by rw [HD.out], by rw [HC.out], by rw [HS.out], ⟨by repeat (first | (with_reducible first | exact HB.out | apply pw_below_drewN | apply below_drew1) | exact HB.out)⟩, ⟨by (with_reducible repeat (first | refine blk_drewN ?_ _ | refine blk_drew ?_)); exact H4.out⟩⟩
          · rw [if_neg (by simp [z])] at hD
            have zb : (gr == 0) = false := beq_eq_false_iff_ne.2 z
            have HD := Aside0.mk hD
            clear hD z
            go_wp2
            repeat (go_quiet (fail); try go_wp2)
            go_meet
            case rel => exact ⟨by rw [HD.out], by rw [HC.out], by rw [HS.out], ⟨by repeat (first | (with_reducible first | exact HB.out | apply pw_below_drewN | apply below_drew1) | exact HB.out)⟩, ⟨by (with_reducible repeat (first | refine blk_drewN ?_ _ | refine blk_drew ?_)); exact H4.out⟩⟩
      case rest =>
       clear HB H4 ht0 ht1 ht2 ht3 ht4 ht5
       obtain ⟨rfl, rfl, rfl, HB, H4⟩ := hcut
       have hd : 0 ≤ fillD by_ gr yi jy ∧ fillD by_ gr yi jy ≤ 800000000 := by
        unfold fillD mn
        repeat' split
        all_goals omega
       have hc : 0 ≤ fillC by_ gr yi ∧ fillC by_ gr yi ≤ 800000000 := by
        unfold fillC
        split <;> omega
       have hs : fillS by_ = -1 ∨ fillS by_ = 1 := by
        unfold fillS
        split
        · exact Or.inl rfl
        · exact Or.inr rfl
       obtain ⟨d, hde⟩ : ∃ q, fillD by_ gr yi jy = q := ⟨_, rfl⟩
       obtain ⟨c, hce⟩ : ∃ q, fillC by_ gr yi = q := ⟨_, rfl⟩
       obtain ⟨s, hse⟩ : ∃ q, fillS by_ = q := ⟨_, rfl⟩
       rw [hde] at hd HDEF ⊢
       rw [hce] at hc HDEF ⊢
       rw [hse] at hs HDEF ⊢
       clear hde hce hse bb0 yb yb' yn yn' gb0 gb1 yb0 yb1
       have HDB := Aside0.mk (And.intro hd (And.intro hc hs))
       clear hd hc hs
       obtain ⟨ht0, ht1, ht2, ht3, ht4, ht5⟩ := cells6 H4.out
       have hcut := HCUT.out
       go_wp2
       go_loopw [17, 18, 129] (fun v17 v18 v129 w' => ∃ i : Int, v129 = .int .i64 i ∧ v18 = .int .i64 (if 0 < c then upS s L x0 i else 0) ∧ 0 ≤ i ∧ i ≤ x1 - x0 ∧ Aside0 (kI.R 3 w' w.heap.size (fun _ => True) v17 (glueW L x0 d c s i.toNat)) ∧ Aside0 (Below w.heap.size w w') ∧ Aside0 (w'.heap[g4]? = some (.cells #[.int .i64 x0, .int .i64 x1, .int .i64 x2, .int .i64 x3, .int .i64 x4, .int .i64 x5] 41 (0, 0)))) (fun _ _ v129 _ => (x1 - x0).toNat - (intOf v129).toNat)
       case atStart => exact ⟨0, rfl, by rw [upS_zero, ite_self], Int.le_refl _, by omega, ⟨Kd.R_nil _ _ _ _ _⟩, HB, H4⟩
       case round =>
        clear HB H4 ht0 ht1 ht2 ht3 ht4 ht5 hcut
        obtain ⟨i, rfl, rfl, i0, i1, HO, HB, H4⟩ := hrel
        obtain ⟨Ao, co, rfl⟩ := Kd.R_slice HO.out
        have hyl := HYL.out
        have hn := HN.out
        by_cases ci : i < x1 - x0
        · have hlt : i < (y.length : Int) := by omega
          have hlt' := eq_true hlt
          have hltd : decide (i < (y.length : Int)) = true := decide_eq_true hlt
          obtain ⟨ad, ea, hx0, hx1, hx2, hx3, hx4, hx5⟩ := at_T49 (Kd.C_below HR.out HB.out) i i0 hlt
          subst ea
          rw [HYA.out i i0 ci] at hx0 hx1 hx2 hx3 hx4 hx5
          have hpp := HF.out.2 (x0 + i) (by omega) (by omega)
          have hgg := HG.out (x0 + i) (by omega) (by omega)
          have hs0 := upS_bd L HF.out s x0 i f0 i0 (by omega)
          have hs1 := upS_bd L HF.out s x0 (i + 1) f0 (by omega) (by omega)
          have hss := upS_succ s L x0 i f0 i0
          have hgw : glueW L x0 d c s (i + 1).toNat = glueW L x0 d c s i.toNat ++ if (pt L (x0 + i)).f0 = 1 then [(pt L (x0 + i)).f1 + s * (Int.tdiv (d * upS s L x0 (i + 1)) c - Int.tdiv (d * upS s L x0 i) c)] else [] := by
           rw [show (i + 1).toNat = i.toNat + 1 by omega, glueW, show ((i.toNat : Nat) : Int) = i by omega]
          have hol := glueW_len L x0 d c s i.toNat
          have hol2 : (glueW L x0 d c s i.toNat).length ≤ 8001 := by omega
          have HOL := Aside0.mk hol2
          obtain ⟨out, hout⟩ : ∃ q, glueW L x0 d c s i.toNat = q := ⟨_, rfl⟩
          obtain ⟨S0, hS0⟩ : ∃ q, upS s L x0 i = q := ⟨_, rfl⟩
          obtain ⟨S1, hS1⟩ : ∃ q, upS s L x0 (i + 1) = q := ⟨_, rfl⟩
          rw [hout] at hgw HO HOL ⊢
          rw [hS0] at hs0 hss hgw ⊢
          rw [hS1] at hs1 hss hgw
          have HS1 := Aside0.mk hS1
          clear hout hS0 hS1 hol hol2
          obtain ⟨p, hp⟩ : ∃ p, pt L (x0 + i) = p := ⟨_, rfl⟩
          rw [hp] at hx0 hx1 hx2 hx3 hx4 hx5 hpp hgg hss hgw
          clear hp
          obtain ⟨p0, p1, p2, p3, p4, p5⟩ := p
          simp only at hx0 hx1 hx2 hx3 hx4 hx5 hpp hgg hss hgw
          have wi : wrap64 (i + 1) = i + 1 := w64 (by omega) (by omega)
          have wi' := (i64_w (i + 1)).trans wi
          have HMS : Aside0 ((x1 - x0).toNat - (i + 1).toNat < (x1 - x0).toNat - i.toNat) := ⟨by omega⟩
          have HI : Aside0 (0 ≤ i + 1 ∧ i + 1 ≤ x1 - x0) := ⟨by omega⟩
          have HP1 : Aside0 (0 ≤ p1 ∧ p1 ≤ 100000) := ⟨by omega⟩
          have HSB : Aside0 ((0 ≤ S0 ∧ S0 ≤ 800000000) ∧ (0 ≤ S1 ∧ S1 ≤ 800000000)) := ⟨hs0, hs1⟩
          clear hyl hn ci hpp hs0 hs1
          go_upto_if 135 with (first
           | ((with_reducible refine gate_dst (N := 20) rfl ?_); refine box_event ?hg (N := 20) ?hd (cs := #[.int .i64 0, .int .i64 0, .int .i64 0, .int .i64 0, .int .i64 0, .bool false]) (t := 49) ?hr ?_; (case hd => rfl); (case hg => rfl); (case hr => first | (go_simp; done) | (go_simp; rfl)); intro g20 hg wb20 hbox hb; (have hge : w.heap.size ≤ g20 := by rw [hg]; exact HB.out.size); (have hne : g4 ≠ g20 := by rw [hg]; exact Nat.ne_of_lt (blk_lt H4.out)); (have hoo := Kd.R_below (Kd.R_elderB HO.out g20 (Nat.le_of_eq hg.symm)) hb); (have h4 := blk_below H4.out hb); (have hbb3 := below_step HB.out hb); clear HB H4 HO; (have HB := Aside0.mk hbb3); (have HO := Aside0.mk hoo); (have H4 := Aside0.mk h4); (have H20 := Aside0.mk hbox); (have G20 := Aside0.mk hge); (have N20 := Aside0.mk hne); clear hg hbox hb hbb3 hge hne h4 hoo)
           | ((with_reducible refine gate_store (t := 49) (p := 20) rfl ?_); refine agg_event (w0 := w) rfl rfl 49 (.tmp 20) (.tmp 132) rfl (g := g20) (e := 49) (.agg #[.int .i64 p0, .int .i64 p1, .int .i64 p2, .int .i64 p3, .int .i64 p4, .bool p5]) [.int .i64 p0, .int .i64 p1, .int .i64 p2, .int .i64 p3, .int .i64 p4, .bool p5] rfl rfl rfl (by kernel_rfl) H20.out rfl (by simp only [List.mem_cons, List.not_mem_nil, or_false, forall_eq_or_imp, forall_eq]; exact ⟨rfl, rfl, rfl, rfl, rfl, rfl⟩) HB.out G20.out ?_; intro ws20 hbox hb hgr; (have h4 := (hgr.block g4 (blk_lt H4.out) (fun e => N20.out (by injection e))).trans H4.out); (have hoo := Kd.R_grown HO.out hgr (fun k hk e => hk.2 (by injection e))); clear HB H20 H4 HO; (have HB := Aside0.mk hb); (have HO := Aside0.mk hoo); (have H20 := Aside0.mk hbox); (have H4 := Aside0.mk h4); clear hx0 hx1 hx2 hx3 hx4 hx5; obtain ⟨hs0, hs1, hs2, hs3, hs4, hs5⟩ := cells6 H20.out; clear hbox hb hgr h4 hoo))
          by_cases c2 : p0 = 1
          · subst c2
            rw [if_pos rfl] at hgw
            have hq := HSB.out
            by_cases cc : 0 < c
            · have ccd : decide (0 < c) = true := decide_eq_true cc
              have cc1 : (c == 0) = false := beq_eq_false_iff_ne.2 (by omega)
              have cc2 : c ≠ 0 := by omega
              have cc3 : (c = 0) = False := eq_false cc2
              have md0 := HDB.out
              have m0 := mul_bd d S0 md0.1.1 md0.1.2 hq.1.1 hq.1.2
              have m1 := mul_bd d S1 md0.1.1 md0.1.2 hq.2.1 hq.2.2
              have t0 := tdiv_bd (d * S0) c m0.1 md0.2.1.1
              have t1 := tdiv_bd (d * S1) c m1.1 md0.2.1.1
              rw [if_pos cc]
              obtain ⟨M0, hM0⟩ : ∃ q, d * S0 = q := ⟨_, rfl⟩
              obtain ⟨M1, hM1⟩ : ∃ q, d * S1 = q := ⟨_, rfl⟩
              rw [hM0] at m0 t0 hgw
              rw [hM1] at m1 t1 hgw
              obtain ⟨K0, hK0⟩ : ∃ q, Int.tdiv M0 c = q := ⟨_, rfl⟩
              obtain ⟨K1, hK1⟩ : ∃ q, Int.tdiv M1 c = q := ⟨_, rfl⟩
              rw [hK0] at t0 hgw
              rw [hK1] at t1 hgw
              obtain ⟨sh, hsh⟩ : ∃ q, K1 - K0 = q := ⟨_, rfl⟩
              rw [hsh] at hgw
              have hst : -640000000000000000 ≤ s * sh ∧ s * sh ≤ 640000000000000000 := by
               rcases md0.2.2 with e | e <;> rw [e] <;> omega
              obtain ⟨st, hst_⟩ : ∃ q, s * sh = q := ⟨_, rfl⟩
              rw [hst_] at hgw hst
              obtain ⟨wv, hwv⟩ : ∃ q, p1 + st = q := ⟨_, rfl⟩
              rw [hwv] at hgw
              have hp1 := HP1.out
              have y0 : wrap64 (d * S0) = M0 := (w64 (by omega) (by omega)).trans hM0
              have y0' := (i64_w (d * S0)).trans y0
              have y1 : wrap64 (d * S1) = M1 := (w64 (by omega) (by omega)).trans hM1
              have y1' := (i64_w (d * S1)).trans y1
              have y2 : wrap64 (Int.tdiv M0 c) = K0 := (w64 (by omega) (by omega)).trans hK0
              have y2' := (i64_w (Int.tdiv M0 c)).trans y2
              have y3 : wrap64 (Int.tdiv M1 c) = K1 := (w64 (by omega) (by omega)).trans hK1
              have y3' := (i64_w (Int.tdiv M1 c)).trans y3
              have y4 : wrap64 (K1 - K0) = sh := (w64 (by omega) (by omega)).trans hsh
              have y4' := (i64_w (K1 - K0)).trans y4
              have y5 : wrap64 (s * sh) = st := (w64 (by omega) (by omega)).trans hst_
              have y5' := (i64_w (s * sh)).trans y5
              have y6 : wrap64 (p1 + st) = wv := (w64 (by omega) (by omega)).trans hwv
              have y6' := (i64_w (p1 + st)).trans y6
              have hs1d : ∀ q, (ws20.drewN q).cell? ⟨g20, 1, none⟩ = some (.int .i64 p1) := fun q => hs1
              have HGW := Aside0.mk hgw
              have HIF : Aside0 ((if 0 < c then upS s L x0 (i + 1) else 0) = S1) := ⟨by rw [if_pos cc, HS1.out]⟩
              rcases md0.2.2 with e | e
              · have hf : fillH s (⟨1, p1, p2, p3, p4, p5⟩ : S49) = p3 := if_pos (by omega)
                rw [hf] at hss
                have y7 : wrap64 (S0 + p3) = S1 := (w64 (by omega) (by omega)).trans hss.symm
                have y7' := (i64_w (S0 + p3)).trans y7
                have sd : decide (s < 0) = true := decide_eq_true (by omega)
                clear hM0 hM1 hK0 hK1 hsh hst_ hst hwv hgw hss hgg hf e md0 m0 m1 t0 t1 hp1 hq cc
                go_wp2_with ((with_reducible refine gate_builtin (b := .append) (xs := #[.tmp 160, .tmp 167]) rfl ?_); at_builtin; refine Kd.R_append kI (w0 := w) w.heap.size rfl (.tmp 160) (.tmp 167) 23 3 (.int .i64 0) 8 rfl Try.underlying23 info3 rfl (by decide) (by omega) _ out wv [.int .i64 wv] (fun _ => True) (fun _ => False) rfl (by first | (go_simp; done) | (go_simp; rfl)) ?aP (fun _ hk => hk.elim) ?aF ?aO ?aB ?aS ?aL ?_; (case aP => exact rfl); (case aB => exact by repeat (first | (with_reducible first | exact HB.out | apply pw_below_drewN | apply below_drew1) | exact HB.out)); (case aF => exact (fun _ _ => trivial)); (case aO => exact by (with_reducible repeat (first | apply Kd.R_drewN | apply Kd.R_drew)); exact Kd.R_mono HO.out (fun _ _ => trivial)); (case aS => exact (below_size (by repeat (first | (with_reducible first | exact HB.out | apply pw_below_drewN | apply below_drew1) | exact HB.out)))); (case aL => have := HOL.out; omega); intro v9 wa ho hb hgr hat; (have h4 := blk_grown (g := g4) (o := .cells #[.int .i64 x0, .int .i64 x1, .int .i64 x2, .int .i64 x3, .int .i64 x4, .int .i64 x5] 41 (0, 0)) (by (with_reducible repeat (first | refine blk_drewN ?_ _ | refine blk_drew ?_)); exact H4.out) hgr (Kd.R_ne HO.out H4.out (by decide))); (have h20 := blk_grown (g := g20) (o := .cells #[.int .i64 1, .int .i64 p1, .int .i64 p2, .int .i64 p3, .int .i64 p4, .bool p5] 49 (0, 0)) (by (with_reducible repeat (first | refine blk_drewN ?_ _ | refine blk_drew ?_)); exact H20.out) hgr (Kd.R_ne HO.out H20.out (by decide))); obtain ⟨A5, c5, rfl⟩ := Kd.R_slice ho; clear HB HO H4 H20 hgr hat hs0 hs1 hs2 hs3 hs4 hs5; (try clear hs1d); (have HB := Aside0.mk hb); (have HO := Aside0.mk ho); (have H4 := Aside0.mk h4); (have H20 := Aside0.mk h20); clear hb ho h4 h20)
                repeat (go_quiet (((with_reducible refine gate_builtin (b := .append) (xs := #[.tmp 160, .tmp 167]) rfl ?_); at_builtin; refine Kd.R_append kI (w0 := w) w.heap.size rfl (.tmp 160) (.tmp 167) 23 3 (.int .i64 0) 8 rfl Try.underlying23 info3 rfl (by decide) (by omega) _ out wv [.int .i64 wv] (fun _ => True) (fun _ => False) rfl (by first | (go_simp; done) | (go_simp; rfl)) ?aP (fun _ hk => hk.elim) ?aF ?aO ?aB ?aS ?aL ?_; (case aP => exact rfl); (case aB => exact by repeat (first | (with_reducible first | exact HB.out | apply pw_below_drewN | apply below_drew1) | exact HB.out)); (case aF => exact (fun _ _ => trivial)); (case aO => exact by (with_reducible repeat (first | apply Kd.R_drewN | apply Kd.R_drew)); exact Kd.R_mono HO.out (fun _ _ => trivial)); (case aS => exact (below_size (by repeat (first | (with_reducible first | exact HB.out | apply pw_below_drewN | apply below_drew1) | exact HB.out)))); (case aL => have := HOL.out; omega); intro v9 wa ho hb hgr hat; (have h4 := blk_grown (g := g4) (o := .cells #[.int .i64 x0, .int .i64 x1, .int .i64 x2, .int .i64 x3, .int .i64 x4, .int .i64 x5] 41 (0, 0)) (by (with_reducible repeat (first | refine blk_drewN ?_ _ | refine blk_drew ?_)); exact H4.out) hgr (Kd.R_ne HO.out H4.out (by decide))); (have h20 := blk_grown (g := g20) (o := .cells #[.int .i64 1, .int .i64 p1, .int .i64 p2, .int .i64 p3, .int .i64 p4, .bool p5] 49 (0, 0)) (by (with_reducible repeat (first | refine blk_drewN ?_ _ | refine blk_drew ?_)); exact H20.out) hgr (Kd.R_ne HO.out H20.out (by decide))); obtain ⟨A5, c5, rfl⟩ := Kd.R_slice ho; clear HB HO H4 H20 hgr hat hs0 hs1 hs2 hs3 hs4 hs5; (try clear hs1d); (have HB := Aside0.mk hb); (have HO := Aside0.mk ho); (have H4 := Aside0.mk h4); (have H20 := Aside0.mk h20); clear hb ho h4 h20)); try go_wp2_with ((with_reducible refine gate_builtin (b := .append) (xs := #[.tmp 160, .tmp 167]) rfl ?_); at_builtin; refine Kd.R_append kI (w0 := w) w.heap.size rfl (.tmp 160) (.tmp 167) 23 3 (.int .i64 0) 8 rfl Try.underlying23 info3 rfl (by decide) (by omega) _ out wv [.int .i64 wv] (fun _ => True) (fun _ => False) rfl (by first | (go_simp; done) | (go_simp; rfl)) ?aP (fun _ hk => hk.elim) ?aF ?aO ?aB ?aS ?aL ?_; (case aP => exact rfl); (case aB => exact by repeat (first | (with_reducible first | exact HB.out | apply pw_below_drewN | apply below_drew1) | exact HB.out)); (case aF => exact (fun _ _ => trivial)); (case aO => exact by (with_reducible repeat (first | apply Kd.R_drewN | apply Kd.R_drew)); exact Kd.R_mono HO.out (fun _ _ => trivial)); (case aS => exact (below_size (by repeat (first | (with_reducible first | exact HB.out | apply pw_below_drewN | apply below_drew1) | exact HB.out)))); (case aL => have := HOL.out; omega); intro v9 wa ho hb hgr hat; (have h4 := blk_grown (g := g4) (o := .cells #[.int .i64 x0, .int .i64 x1, .int .i64 x2, .int .i64 x3, .int .i64 x4, .int .i64 x5] 41 (0, 0)) (by (with_reducible repeat (first | refine blk_drewN ?_ _ | refine blk_drew ?_)); exact H4.out) hgr (Kd.R_ne HO.out H4.out (by decide))); (have h20 := blk_grown (g := g20) (o := .cells #[.int .i64 1, .int .i64 p1, .int .i64 p2, .int .i64 p3, .int .i64 p4, .bool p5] 49 (0, 0)) (by (with_reducible repeat (first | refine blk_drewN ?_ _ | refine blk_drew ?_)); exact H20.out) hgr (Kd.R_ne HO.out H20.out (by decide))); obtain ⟨A5, c5, rfl⟩ := Kd.R_slice ho; clear HB HO H4 H20 hgr hat hs0 hs1 hs2 hs3 hs4 hs5; (try clear hs1d); (have HB := Aside0.mk hb); (have HO := Aside0.mk ho); (have H4 := Aside0.mk h4); (have H20 := Aside0.mk h20); clear hb ho h4 h20))
                go_roundw
                case measure => exact HMS.out
                case rel => exact ⟨i + 1, by first | rfl | rw [wi], by rw [HIF.out], HI.out.1, HI.out.2, ⟨by rw [HGW.out]; have h := HO.out; simp only [List.length_append, List.length_singleton] at h; (with_reducible repeat (first | apply Kd.R_drewN | apply Kd.R_drew)); exact Kd.R_mono h (fun _ _ => trivial)⟩, ⟨by repeat (first | (with_reducible first | exact HB.out | apply pw_below_drewN | apply below_drew1) | exact HB.out)⟩, ⟨by (with_reducible repeat (first | refine blk_drewN ?_ _ | refine blk_drew ?_)); exact H4.out⟩⟩
              · have hf : fillH s (⟨1, p1, p2, p3, p4, p5⟩ : S49) = p2 := if_neg (by omega)
                rw [hf] at hss
                have y7 : wrap64 (S0 + p2) = S1 := (w64 (by omega) (by omega)).trans hss.symm
                have y7' := (i64_w (S0 + p2)).trans y7
                have sd : decide (s < 0) = false := decide_eq_false (by omega)
                clear hM0 hM1 hK0 hK1 hsh hst_ hst hwv hgw hss hgg hf e md0 m0 m1 t0 t1 hp1 hq cc
                go_wp2_with ((with_reducible refine gate_builtin (b := .append) (xs := #[.tmp 160, .tmp 167]) rfl ?_); at_builtin; refine Kd.R_append kI (w0 := w) w.heap.size rfl (.tmp 160) (.tmp 167) 23 3 (.int .i64 0) 8 rfl Try.underlying23 info3 rfl (by decide) (by omega) _ out wv [.int .i64 wv] (fun _ => True) (fun _ => False) rfl (by first | (go_simp; done) | (go_simp; rfl)) ?aP (fun _ hk => hk.elim) ?aF ?aO ?aB ?aS ?aL ?_; (case aP => exact rfl); (case aB => exact by repeat (first | (with_reducible first | exact HB.out | apply pw_below_drewN | apply below_drew1) | exact HB.out)); (case aF => exact (fun _ _ => trivial)); (case aO => exact by (with_reducible repeat (first | apply Kd.R_drewN | apply Kd.R_drew)); exact Kd.R_mono HO.out (fun _ _ => trivial)); (case aS => exact (below_size (by repeat (first | (with_reducible first | exact HB.out | apply pw_below_drewN | apply below_drew1) | exact HB.out)))); (case aL => have := HOL.out; omega); intro v9 wa ho hb hgr hat; (have h4 := blk_grown (g := g4) (o := .cells #[.int .i64 x0, .int .i64 x1, .int .i64 x2, .int .i64 x3, .int .i64 x4, .int .i64 x5] 41 (0, 0)) (by (with_reducible repeat (first | refine blk_drewN ?_ _ | refine blk_drew ?_)); exact H4.out) hgr (Kd.R_ne HO.out H4.out (by decide))); (have h20 := blk_grown (g := g20) (o := .cells #[.int .i64 1, .int .i64 p1, .int .i64 p2, .int .i64 p3, .int .i64 p4, .bool p5] 49 (0, 0)) (by (with_reducible repeat (first | refine blk_drewN ?_ _ | refine blk_drew ?_)); exact H20.out) hgr (Kd.R_ne HO.out H20.out (by decide))); obtain ⟨A5, c5, rfl⟩ := Kd.R_slice ho; clear HB HO H4 H20 hgr hat hs0 hs1 hs2 hs3 hs4 hs5; (try clear hs1d); (have HB := Aside0.mk hb); (have HO := Aside0.mk ho); (have H4 := Aside0.mk h4); (have H20 := Aside0.mk h20); clear hb ho h4 h20)
                repeat (go_quiet (((with_reducible refine gate_builtin (b := .append) (xs := #[.tmp 160, .tmp 167]) rfl ?_); at_builtin; refine Kd.R_append kI (w0 := w) w.heap.size rfl (.tmp 160) (.tmp 167) 23 3 (.int .i64 0) 8 rfl Try.underlying23 info3 rfl (by decide) (by omega) _ out wv [.int .i64 wv] (fun _ => True) (fun _ => False) rfl (by first | (go_simp; done) | (go_simp; rfl)) ?aP (fun _ hk => hk.elim) ?aF ?aO ?aB ?aS ?aL ?_; (case aP => exact rfl); (case aB => exact by repeat (first | (with_reducible first | exact HB.out | apply pw_below_drewN | apply below_drew1) | exact HB.out)); (case aF => exact (fun _ _ => trivial)); (case aO => exact by (with_reducible repeat (first | apply Kd.R_drewN | apply Kd.R_drew)); exact Kd.R_mono HO.out (fun _ _ => trivial)); (case aS => exact (below_size (by repeat (first | (with_reducible first | exact HB.out | apply pw_below_drewN | apply below_drew1) | exact HB.out)))); (case aL => have := HOL.out; omega); intro v9 wa ho hb hgr hat; (have h4 := blk_grown (g := g4) (o := .cells #[.int .i64 x0, .int .i64 x1, .int .i64 x2, .int .i64 x3, .int .i64 x4, .int .i64 x5] 41 (0, 0)) (by (with_reducible repeat (first | refine blk_drewN ?_ _ | refine blk_drew ?_)); exact H4.out) hgr (Kd.R_ne HO.out H4.out (by decide))); (have h20 := blk_grown (g := g20) (o := .cells #[.int .i64 1, .int .i64 p1, .int .i64 p2, .int .i64 p3, .int .i64 p4, .bool p5] 49 (0, 0)) (by (with_reducible repeat (first | refine blk_drewN ?_ _ | refine blk_drew ?_)); exact H20.out) hgr (Kd.R_ne HO.out H20.out (by decide))); obtain ⟨A5, c5, rfl⟩ := Kd.R_slice ho; clear HB HO H4 H20 hgr hat hs0 hs1 hs2 hs3 hs4 hs5; (try clear hs1d); (have HB := Aside0.mk hb); (have HO := Aside0.mk ho); (have H4 := Aside0.mk h4); (have H20 := Aside0.mk h20); clear hb ho h4 h20)); try go_wp2_with ((with_reducible refine gate_builtin (b := .append) (xs := #[.tmp 160, .tmp 167]) rfl ?_); at_builtin; refine Kd.R_append kI (w0 := w) w.heap.size rfl (.tmp 160) (.tmp 167) 23 3 (.int .i64 0) 8 rfl Try.underlying23 info3 rfl (by decide) (by omega) _ out wv [.int .i64 wv] (fun _ => True) (fun _ => False) rfl (by first | (go_simp; done) | (go_simp; rfl)) ?aP (fun _ hk => hk.elim) ?aF ?aO ?aB ?aS ?aL ?_; (case aP => exact rfl); (case aB => exact by repeat (first | (with_reducible first | exact HB.out | apply pw_below_drewN | apply below_drew1) | exact HB.out)); (case aF => exact (fun _ _ => trivial)); (case aO => exact by (with_reducible repeat (first | apply Kd.R_drewN | apply Kd.R_drew)); exact Kd.R_mono HO.out (fun _ _ => trivial)); (case aS => exact (below_size (by repeat (first | (with_reducible first | exact HB.out | apply pw_below_drewN | apply below_drew1) | exact HB.out)))); (case aL => have := HOL.out; omega); intro v9 wa ho hb hgr hat; (have h4 := blk_grown (g := g4) (o := .cells #[.int .i64 x0, .int .i64 x1, .int .i64 x2, .int .i64 x3, .int .i64 x4, .int .i64 x5] 41 (0, 0)) (by (with_reducible repeat (first | refine blk_drewN ?_ _ | refine blk_drew ?_)); exact H4.out) hgr (Kd.R_ne HO.out H4.out (by decide))); (have h20 := blk_grown (g := g20) (o := .cells #[.int .i64 1, .int .i64 p1, .int .i64 p2, .int .i64 p3, .int .i64 p4, .bool p5] 49 (0, 0)) (by (with_reducible repeat (first | refine blk_drewN ?_ _ | refine blk_drew ?_)); exact H20.out) hgr (Kd.R_ne HO.out H20.out (by decide))); obtain ⟨A5, c5, rfl⟩ := Kd.R_slice ho; clear HB HO H4 H20 hgr hat hs0 hs1 hs2 hs3 hs4 hs5; (try clear hs1d); (have HB := Aside0.mk hb); (have HO := Aside0.mk ho); (have H4 := Aside0.mk h4); (have H20 := Aside0.mk h20); clear hb ho h4 h20))
                go_roundw
                case measure => exact HMS.out
                case rel => exact ⟨i + 1, by first | rfl | rw [wi], by rw [HIF.out], HI.out.1, HI.out.2, ⟨by rw [HGW.out]; have h := HO.out; simp only [List.length_append, List.length_singleton] at h; (with_reducible repeat (first | apply Kd.R_drewN | apply Kd.R_drew)); exact Kd.R_mono h (fun _ _ => trivial)⟩, ⟨by repeat (first | (with_reducible first | exact HB.out | apply pw_below_drewN | apply below_drew1) | exact HB.out)⟩, ⟨by (with_reducible repeat (first | refine blk_drewN ?_ _ | refine blk_drew ?_)); exact H4.out⟩⟩
            · have ccd : decide (0 < c) = false := decide_eq_false cc
              have md0 := HDB.out
              have c0_ : c = 0 := by omega
              replace hgw := hgw.trans (show _ = out ++ [p1] by rw [c0_, Int.tdiv_zero, Int.tdiv_zero, Int.sub_self, Int.mul_zero, Int.add_zero])
              obtain ⟨wv, hwv⟩ : ∃ q, p1 = q := ⟨_, rfl⟩
              have hp1 := HP1.out
              rw [hwv] at hgw
              have y6 : wrap64 p1 = wv := (w64 (by omega) (by omega)).trans hwv
              have y6' := (i64_w p1).trans y6
              rw [if_neg cc]
              have HGW := Aside0.mk hgw
              have HIF : Aside0 ((if 0 < c then upS s L x0 (i + 1) else 0) = 0) := ⟨if_neg cc⟩
              clear hwv hgw hss hgg md0 hp1 hq cc c0_
              go_wp2_with ((with_reducible refine gate_builtin (b := .append) (xs := #[.tmp 160, .tmp 167]) rfl ?_); at_builtin; refine Kd.R_append kI (w0 := w) w.heap.size rfl (.tmp 160) (.tmp 167) 23 3 (.int .i64 0) 8 rfl Try.underlying23 info3 rfl (by decide) (by omega) _ out wv [.int .i64 wv] (fun _ => True) (fun _ => False) rfl (by first | (go_simp; done) | (go_simp; rfl)) ?aP (fun _ hk => hk.elim) ?aF ?aO ?aB ?aS ?aL ?_; (case aP => exact rfl); (case aB => exact by repeat (first | (with_reducible first | exact HB.out | apply pw_below_drewN | apply below_drew1) | exact HB.out)); (case aF => exact (fun _ _ => trivial)); (case aO => exact by (with_reducible repeat (first | apply Kd.R_drewN | apply Kd.R_drew)); exact Kd.R_mono HO.out (fun _ _ => trivial)); (case aS => exact (below_size (by repeat (first | (with_reducible first | exact HB.out | apply pw_below_drewN | apply below_drew1) | exact HB.out)))); (case aL => have := HOL.out; omega); intro v9 wa ho hb hgr hat; (have h4 := blk_grown (g := g4) (o := .cells #[.int .i64 x0, .int .i64 x1, .int .i64 x2, .int .i64 x3, .int .i64 x4, .int .i64 x5] 41 (0, 0)) (by (with_reducible repeat (first | refine blk_drewN ?_ _ | refine blk_drew ?_)); exact H4.out) hgr (Kd.R_ne HO.out H4.out (by decide))); (have h20 := blk_grown (g := g20) (o := .cells #[.int .i64 1, .int .i64 p1, .int .i64 p2, .int .i64 p3, .int .i64 p4, .bool p5] 49 (0, 0)) (by (with_reducible repeat (first | refine blk_drewN ?_ _ | refine blk_drew ?_)); exact H20.out) hgr (Kd.R_ne HO.out H20.out (by decide))); obtain ⟨A5, c5, rfl⟩ := Kd.R_slice ho; clear HB HO H4 H20 hgr hat hs0 hs1 hs2 hs3 hs4 hs5; (try clear hs1d); (have HB := Aside0.mk hb); (have HO := Aside0.mk ho); (have H4 := Aside0.mk h4); (have H20 := Aside0.mk h20); clear hb ho h4 h20)
              repeat (go_quiet (((with_reducible refine gate_builtin (b := .append) (xs := #[.tmp 160, .tmp 167]) rfl ?_); at_builtin; refine Kd.R_append kI (w0 := w) w.heap.size rfl (.tmp 160) (.tmp 167) 23 3 (.int .i64 0) 8 rfl Try.underlying23 info3 rfl (by decide) (by omega) _ out wv [.int .i64 wv] (fun _ => True) (fun _ => False) rfl (by first | (go_simp; done) | (go_simp; rfl)) ?aP (fun _ hk => hk.elim) ?aF ?aO ?aB ?aS ?aL ?_; (case aP => exact rfl); (case aB => exact by repeat (first | (with_reducible first | exact HB.out | apply pw_below_drewN | apply below_drew1) | exact HB.out)); (case aF => exact (fun _ _ => trivial)); (case aO => exact by (with_reducible repeat (first | apply Kd.R_drewN | apply Kd.R_drew)); exact Kd.R_mono HO.out (fun _ _ => trivial)); (case aS => exact (below_size (by repeat (first | (with_reducible first | exact HB.out | apply pw_below_drewN | apply below_drew1) | exact HB.out)))); (case aL => have := HOL.out; omega); intro v9 wa ho hb hgr hat; (have h4 := blk_grown (g := g4) (o := .cells #[.int .i64 x0, .int .i64 x1, .int .i64 x2, .int .i64 x3, .int .i64 x4, .int .i64 x5] 41 (0, 0)) (by (with_reducible repeat (first | refine blk_drewN ?_ _ | refine blk_drew ?_)); exact H4.out) hgr (Kd.R_ne HO.out H4.out (by decide))); (have h20 := blk_grown (g := g20) (o := .cells #[.int .i64 1, .int .i64 p1, .int .i64 p2, .int .i64 p3, .int .i64 p4, .bool p5] 49 (0, 0)) (by (with_reducible repeat (first | refine blk_drewN ?_ _ | refine blk_drew ?_)); exact H20.out) hgr (Kd.R_ne HO.out H20.out (by decide))); obtain ⟨A5, c5, rfl⟩ := Kd.R_slice ho; clear HB HO H4 H20 hgr hat hs0 hs1 hs2 hs3 hs4 hs5; (try clear hs1d); (have HB := Aside0.mk hb); (have HO := Aside0.mk ho); (have H4 := Aside0.mk h4); (have H20 := Aside0.mk h20); clear hb ho h4 h20)); try go_wp2_with ((with_reducible refine gate_builtin (b := .append) (xs := #[.tmp 160, .tmp 167]) rfl ?_); at_builtin; refine Kd.R_append kI (w0 := w) w.heap.size rfl (.tmp 160) (.tmp 167) 23 3 (.int .i64 0) 8 rfl Try.underlying23 info3 rfl (by decide) (by omega) _ out wv [.int .i64 wv] (fun _ => True) (fun _ => False) rfl (by first | (go_simp; done) | (go_simp; rfl)) ?aP (fun _ hk => hk.elim) ?aF ?aO ?aB ?aS ?aL ?_; (case aP => exact rfl); (case aB => exact by repeat (first | (with_reducible first | exact HB.out | apply pw_below_drewN | apply below_drew1) | exact HB.out)); (case aF => exact (fun _ _ => trivial)); (case aO => exact by (with_reducible repeat (first | apply Kd.R_drewN | apply Kd.R_drew)); exact Kd.R_mono HO.out (fun _ _ => trivial)); (case aS => exact (below_size (by repeat (first | (with_reducible first | exact HB.out | apply pw_below_drewN | apply below_drew1) | exact HB.out)))); (case aL => have := HOL.out; omega); intro v9 wa ho hb hgr hat; (have h4 := blk_grown (g := g4) (o := .cells #[.int .i64 x0, .int .i64 x1, .int .i64 x2, .int .i64 x3, .int .i64 x4, .int .i64 x5] 41 (0, 0)) (by (with_reducible repeat (first | refine blk_drewN ?_ _ | refine blk_drew ?_)); exact H4.out) hgr (Kd.R_ne HO.out H4.out (by decide))); (have h20 := blk_grown (g := g20) (o := .cells #[.int .i64 1, .int .i64 p1, .int .i64 p2, .int .i64 p3, .int .i64 p4, .bool p5] 49 (0, 0)) (by (with_reducible repeat (first | refine blk_drewN ?_ _ | refine blk_drew ?_)); exact H20.out) hgr (Kd.R_ne HO.out H20.out (by decide))); obtain ⟨A5, c5, rfl⟩ := Kd.R_slice ho; clear HB HO H4 H20 hgr hat hs0 hs1 hs2 hs3 hs4 hs5; (try clear hs1d); (have HB := Aside0.mk hb); (have HO := Aside0.mk ho); (have H4 := Aside0.mk h4); (have H20 := Aside0.mk h20); clear hb ho h4 h20))
              go_roundw
              case measure => exact HMS.out
              case rel => exact ⟨i + 1, by first | rfl | rw [wi], by rw [HIF.out], HI.out.1, HI.out.2, ⟨by rw [HGW.out]; have h := HO.out; simp only [List.length_append, List.length_singleton] at h; (with_reducible repeat (first | apply Kd.R_drewN | apply Kd.R_drew)); exact Kd.R_mono h (fun _ _ => trivial)⟩, ⟨by repeat (first | (with_reducible first | exact HB.out | apply pw_below_drewN | apply below_drew1) | exact HB.out)⟩, ⟨by (with_reducible repeat (first | refine blk_drewN ?_ _ | refine blk_drew ?_)); exact H4.out⟩⟩
          · have c2b : (p0 != 1) = true := bne_iff_ne.2 c2
            obtain ⟨rfl, rfl⟩ := hgg c2
            have hf : fillH s (⟨p0, p1, 0, 0, p4, p5⟩ : S49) = 0 := by unfold fillH; split <;> rfl
            rw [hf, Int.add_zero] at hss
            rw [if_neg c2, List.append_nil] at hgw
            have HSS := Aside0.mk hss
            have HGW := Aside0.mk hgw
            clear hss hgw hf hgg
            go_wp2
            repeat (go_quiet (fail); try go_wp2)
            go_roundw
            case measure => exact HMS.out
            case rel => exact ⟨i + 1, by first | rfl | rw [wi], by rw [HS1.out, HSS.out], HI.out.1, HI.out.2, ⟨by rw [HGW.out]; (with_reducible repeat (first | apply Kd.R_drewN | apply Kd.R_drew)); exact Kd.R_mono HO.out (fun _ _ => trivial)⟩, ⟨by repeat (first | (with_reducible first | exact HB.out | apply pw_below_drewN | apply below_drew1) | exact HB.out)⟩, ⟨by (with_reducible repeat (first | refine blk_drewN ?_ _ | refine blk_drew ?_)); exact H4.out⟩⟩
        · have hie : i = x1 - x0 := by omega
          subst hie
          have hltd : decide (x1 - x0 < (y.length : Int)) = false := decide_eq_false (by omega)
          clear hyl ci
          generalize (if 0 < c then upS s L x0 (x1 - x0) else 0) = vv
          go_wp2
          (try simp only [Act.put, List.setIfInBounds_toArray, List.set_cons_zero, List.set_cons_succ])
          go_ret2
          exact ⟨_, rfl, by rw [HDEF.out]; exact HO.out, HB.out⟩
end
set_option maxHeartbeats 8000000 in
set_option maxRecDepth 100000 in
theorem fill_err (L : List S49) (A0 : Option Addr) (c0 : Nat) (x0 x1 x2 x3 x4 x5 : Int) (jy : Bool) (kc : Nat) (er E : Int) (hkc : lines_Check.f kc L = some er) (hE : E ≠ 0) (hx : if er = 0 then E = 2 ∧ (x0 < 0 ∨ x1 < x0 ∨ (L.length : Int) < x1 ∨ x5 < 1 ∨ 100000 < x5) else E = er) (w : World) (hL : Kd.C k49 w A0 L.length L) (hc : L.length ≤ c0) :
    Calls Try.prog 17 #[.slice A0 L.length c0, .agg #[.int .i64 x0, .int .i64 x1, .int .i64 x2, .int .i64 x3, .int .i64 x4, .int .i64 x5], .bool jy] w fun e w' => e = .returned (.tuple #[.slice none 0 0, .int .i64 E]) ∧ Below w.heap.size w w' := by
 have hu41 := Try.underlying41
 have hu49 := Try.underlying49
 have HL := Aside0.mk hL
 have HKC := Aside0.mk (fun W2 h => lines_Check.calls kc A0 c0 L er W2 h hc hkc)
 have HB := Aside0.mk (Below.refl w.heap.size w)
 clear hL hc hkc
 by_cases q : er = 0
 · rw [if_pos q] at hx
   obtain ⟨hE2, hx⟩ := hx
   subst q
   have HE2 := Aside0.mk hE2
   clear hE2 hE
   go_enter Try.func17, Try.ntmps17
   go_upto_region 4 with (first
    | ((with_reducible refine gate_dst (N := 4) rfl ?_); refine box_event ?hg (N := 4) ?hd (cs := #[.int .i64 x0, .int .i64 x1, .int .i64 x2, .int .i64 x3, .int .i64 x4, .int .i64 x5]) (t := 41) ?hr ?_; (case hd => rfl); (case hg => rfl); (case hr => first | (go_simp; done) | (go_simp; rfl)); intro g4 hg wb4 hbox hb; (have hbb := below_step HB.out hb); clear HB; (have HB := Aside0.mk hbb); (have H4 := Aside0.mk hbox); clear hg hbox hb hbb)
    | (go_at_call 12; refine (HKC.out _ (Kd.C_below HL.out HB.out)).mono ?_; rintro e w3 ⟨rfl, hb⟩; (have hbb := below_step HB.out hb); (have h4 := blk_below H4.out hb); clear HB H4; (have HB := Aside0.mk hbb); (have H4 := Aside0.mk h4); clear hb hbb h4))
   obtain ⟨hs0, hs1, hs2, hs3, hs4, hs5⟩ := cells6 H4.out
   go_cut [54] (fun v54 wc => v54 = .bool true ∧ Aside0 (Below w.heap.size w wc))
   case first =>
    by_cases b0 : x0 < 0
    · have d0 : decide (x0 < 0) = true := decide_eq_true b0
      clear hx
      go_wp2
      repeat (go_quiet (fail); try go_wp2)
      go_meet
      case rel => exact ⟨rfl, ⟨by repeat (first | (with_reducible first | exact HB.out | apply pw_below_drewN | apply below_drew1) | exact HB.out)⟩⟩
    · have d0 : decide (x0 < 0) = false := decide_eq_false b0
      by_cases b1 : x1 < x0
      · have d1 : decide (x1 < x0) = true := decide_eq_true b1
        clear hx
        go_wp2
        repeat (go_quiet (fail); try go_wp2)
        go_meet
        case rel => exact ⟨rfl, ⟨by repeat (first | (with_reducible first | exact HB.out | apply pw_below_drewN | apply below_drew1) | exact HB.out)⟩⟩
      · have d1 : decide (x1 < x0) = false := decide_eq_false b1
        by_cases b2 : (L.length : Int) < x1
        · have d2 : decide ((L.length : Int) < x1) = true := decide_eq_true b2
          clear hx
          go_wp2
          repeat (go_quiet (fail); try go_wp2)
          go_meet
          case rel => exact ⟨rfl, ⟨by repeat (first | (with_reducible first | exact HB.out | apply pw_below_drewN | apply below_drew1) | exact HB.out)⟩⟩
        · have d2 : decide ((L.length : Int) < x1) = false := decide_eq_false b2
          by_cases b3 : x5 < 1
          · have d3 : decide (x5 < 1) = true := decide_eq_true b3
            clear hx
            go_wp2
            repeat (go_quiet (fail); try go_wp2)
            go_meet
            case rel => exact ⟨rfl, ⟨by repeat (first | (with_reducible first | exact HB.out | apply pw_below_drewN | apply below_drew1) | exact HB.out)⟩⟩
          · have d3 : decide (x5 < 1) = false := decide_eq_false b3
            have d4 : decide (100000 < x5) = true := decide_eq_true (by omega)
            clear hx
            go_wp2
            repeat (go_quiet (fail); try go_wp2)
            go_meet
            case rel => exact ⟨rfl, ⟨by repeat (first | (with_reducible first | exact HB.out | apply pw_below_drewN | apply below_drew1) | exact HB.out)⟩⟩
   case rest =>
    clear HB H4 hs0 hs1 hs2 hs3 hs4 hs5 hx
    obtain ⟨rfl, HB⟩ := hcut
    go_wp2
    (try simp only [Act.put, List.setIfInBounds_toArray, List.set_cons_zero, List.set_cons_succ])
    go_ret2
    exact ⟨by rw [HE2.out]; rfl, HB.out⟩
 · rw [if_neg q] at hx
   have hne : (er != 0) = true := bne_iff_ne.2 q
   have HX := Aside0.mk hx
   clear hx hE
   go_enter Try.func17, Try.ntmps17
   go_wp2_with (first
    | ((with_reducible refine gate_dst (N := 4) rfl ?_); refine box_event ?hg (N := 4) ?hd (cs := #[.int .i64 x0, .int .i64 x1, .int .i64 x2, .int .i64 x3, .int .i64 x4, .int .i64 x5]) (t := 41) ?hr ?_; (case hd => rfl); (case hg => rfl); (case hr => first | (go_simp; done) | (go_simp; rfl)); intro g4 hg wb4 hbox hb; (have hbb := below_step HB.out hb); clear HB; (have HB := Aside0.mk hbb); clear hg hbox hb hbb)
    | (go_at_call 12; refine (HKC.out _ (Kd.C_below HL.out HB.out)).mono ?_; rintro e w3 ⟨rfl, hb⟩; (have hbb := below_step HB.out hb); clear HB; (have HB := Aside0.mk hbb); clear hb hbb))
   repeat (go_quiet (fail); try go_wp2)
   (try simp only [Act.put, List.setIfInBounds_toArray, List.set_cons_zero, List.set_cons_succ])
   go_ret2
   exact ⟨by rw [HX.out]; rfl, by repeat (first | (with_reducible first | exact HB.out | apply pw_below_drewN | apply below_drew1) | exact HB.out)⟩
end Go.Proofs.Ythapclmfkjldaaa.HandLN
