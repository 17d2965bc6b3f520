import Derived.Test.YthapclmfkjldaaaHandLNa
namespace Go.Proofs.Ythapclmfkjldaaa.HandLN
set_option linter.unusedSectionVars false
set_option linter.unusedVariables false
set_option linter.unusedSimpArgs false
open Go.Proofs.Ythapclmfkjldaaa.Lib (w64)
open Go.RowKit Go.Proofs.YthapclmfkjldaaaW.PrintWords Go.Proofs.YthapclmfkjldaaaW.PrintLast Go.Proofs.YthapclmfkjldaaaW.PrintMore Go.Proofs.Ythapclmfkjldaaa.QLN
attribute [local go_sem] max2_int min2_int max_two min_two
section
variable {P : Program} {ops : Array Oper} {rest : List Oper} {o : Oper} {a : Act} {Q : Exit → Act → World → Prop}
theorem agg_event {w0 W : World} (hgd : o.guard = none) (hN : o.dst = none) (t : TypeId) (p x : Operand) (ho : o.op = .store t p x) {g : Nat} {e : TypeId} {cur : Array Value} (u : Value) (seg : List Value)
    (haddr : a.eval p = .pointer (some ⟨g, 0, none⟩)) (hx : a.eval x = u) (hu : u.cells.toList = seg) (ht : (P.info? t).map (·.size) = some seg.length) (hh : W.heap[g]? = some (.cells cur e (0, 0))) (hfit : cur.size = seg.length) (h1 : ∀ q ∈ seg, q.oneCell' = true)
    (HB : Below w0.heap.size w0 W) (hge : w0.heap.size ≤ g)
    (h : ∀ w1, w1.heap[g]? = some (.cells seg.toArray e (0, 0)) → Below w0.heap.size w0 w1 → W.grownBy w1 (some g) → wpList P ops Q rest a w1) : wpList P ops Q (o :: rest) a W := by
 have hrun : (Instr.storeAt t (.pointer (some ⟨g, 0, none⟩)) u).run P W = .ok () (W.setCells g 0 seg) := run_store_run t u seg hh hu ht (by omega) h1
 obtain ⟨cur', hrow, _, hl⟩ := setCells_row (g := g) (e := e) seg 0 W cur hh (by omega)
 have hcur : cur' = seg.toArray := by
  rw [List.drop_eq_nil_of_le (by rw [Array.length_toList]; omega), List.take_zero, List.append_nil, List.nil_append] at hl
  rw [← hl]
 rw [hcur] at hrow
 have hs := setCells_same g seg 0 W
 have hg : W.grownBy (W.setCells g 0 seg) (some g) := ⟨hs.1, hs.2.1, hs.2.2.1, by omega, fun k _ hk => setCells_far seg 0 k (fun e => hk (by rw [e]))⟩
 have hB : Below w0.heap.size w0 (W.setCells g 0 seg) := pw_below_grown HB (some g) HB.size hg (fun k hk => by cases hk; exact hge)
 refine wpList_plain hgd fun K hK => ?_
 unfold Oper.wp execOp
 simp only [ho, haddr, hx, Sem.run_bind, Sem.run_pure, Result.andThen_ok, hrun]
 show K (a.put o.dst undef) _
 rw [hN]
 exact hK a _ (h _ hrow hB hg)
end
def fullA (x : S41) : Bool := decide (x.f2 - x.f4 > x.f5)
def fullB (x : S41) (a : Int) : Bool := decide (x.f2 - a - x.f4 > x.f5)
def badP (by_ can : Int) : Int := if by_ = 0 then 0 else if can = 0 then 10000 else mn (mn (1000 * by_ / can) 5000 * mn (1000 * by_ / can) 5000 * mn (1000 * by_ / can) 5000 / 10000000) 10000
set_option maxHeartbeats 2000000 in
set_option maxRecDepth 100000 in
theorem full_ok (w : World) (x : S41) (a : Int) (b1 : wrap64 (x.f2 - x.f4) = x.f2 - x.f4) (b2 : wrap64 (x.f2 - a) = x.f2 - a) (b3 : wrap64 (x.f2 - a - x.f4) = x.f2 - a - x.f4) :
    Calls Try.prog 39 #[.agg #[.int .i64 x.f0, .int .i64 x.f1, .int .i64 x.f2, .int .i64 x.f3, .int .i64 x.f4, .int .i64 x.f5], .int .i64 a] w fun e w' => e = .returned (.tuple #[.bool (fullA x), .bool (fullB x a)]) ∧ Below w.heap.size w w' := by
 obtain ⟨x0, x1, x2, x3, x4, x5⟩ := x
 simp only at b1 b2 b3
 have hu41 := Try.underlying41
 have HB := Aside0.mk (Below.refl w.heap.size w)
 have y1 := (i64_w (x2 - x4)).trans b1
 have y2 := (i64_w (x2 - a)).trans b2
 have y3 := (i64_w (x2 - a - x4)).trans b3
 go_enter Try.func39, Try.ntmps39
 go_upto_region 1 with ((with_reducible refine gate_dst (N := 2) rfl ?_); refine box_event ?hg (N := 2) ?hd (cs := #[.int .i64 x0, .int .i64 x1, .int .i64 x2, .int .i64 x3, .int .i64 x4, .int .i64 x5]) (t := 41) ?hr ?_; (case hd => rfl); (case hg => rfl); (case hr => first | (go_simp; done) | (go_simp; rfl)); intro g2 hg w5 hbox hb; (have hbb := below_step HB.out hb); clear HB; (have HB := Aside0.mk hbb); (have hs2 : w5.cell? ⟨g2, 2, none⟩ = some (.int .i64 x2) := (blk_cell hbox 2).trans rfl); (have hs4 : w5.cell? ⟨g2, 4, none⟩ = some (.int .i64 x4) := (blk_cell hbox 4).trans rfl); (have hs5 : w5.cell? ⟨g2, 5, none⟩ = some (.int .i64 x5) := (blk_cell hbox 5).trans rfl); clear hb hbox hg hbb)
 go_quiet (fail)
 go_wp2
 go_ret2
 exact ⟨rfl, pw_below_drewN HB.out _⟩
set_option maxHeartbeats 2000000 in
set_option maxRecDepth 100000 in
theorem bad_ok (w : World) (d can : Int) (h0 : 0 ≤ d) (h1 : d ≤ 1000000000000) (c0 : 0 ≤ can) (c1 : can ≤ 1000000000000) :
    Calls Try.prog 41 #[.int .i64 d, .int .i64 can] w fun e w' => e = .returned (.int .i64 (badP d can)) ∧ Below w.heap.size w w' := by
 by_cases e : d = 0
 · have eb : (d == 0) = true := beq_iff_eq.2 e
   have EP : Aside0 (badP d can = 0) := ⟨if_pos e⟩
   clear e
   go_enter Try.func41, Try.ntmps41
   go_wp2
   go_ret
   exact ⟨by rw [EP.out]; rfl, Below.refl _ _⟩
 · have eb : (d == 0) = false := beq_eq_false_iff_ne.2 e
   by_cases c : can = 0
   · have cb : (can == 0) = true := beq_iff_eq.2 c
     have EP : Aside0 (badP d can = 10000) := ⟨(if_neg e).trans (if_pos c)⟩
     clear e c
     go_enter Try.func41, Try.ntmps41
     go_wp2
     go_ret
     exact ⟨by rw [EP.out]; rfl, Below.refl _ _⟩
   · have cb : (can == 0) = false := beq_eq_false_iff_ne.2 c
     have p0 : 0 ≤ 1000 * d := by omega
     have k1 : wrap64 (1000 * d) = 1000 * d := w64 (by omega) (by omega)
     obtain ⟨t, ht⟩ : ∃ t, 1000 * d / can = t := ⟨_, rfl⟩
     have t1 : Int.tdiv (1000 * d) can = t := (Lib.tdiv_nn p0).trans ht
     have tb : 0 ≤ t ∧ t ≤ 1000000000000000 := by
      have := Int.ediv_le_self can p0
      rw [← ht]
      exact ⟨Int.ediv_nonneg p0 c0, by omega⟩
     have k2 : wrap64 t = t := w64 (by omega) (by omega)
     obtain ⟨q, hq⟩ : ∃ q, mn t 5000 = q := ⟨_, rfl⟩
     have hq_ : (if 5000 < t then 5000 else t) = q := hq
     have qb : 0 ≤ q ∧ q ≤ 5000 := by rw [← hq]; unfold mn; split <;> omega
     have m1 : 0 ≤ q * q ∧ q * q ≤ 5000 * 5000 := ⟨Int.mul_nonneg qb.1 qb.1, Int.mul_le_mul qb.2 qb.2 qb.1 (by omega)⟩
     have m2 : 0 ≤ q * q * q ∧ q * q * q ≤ 5000 * 5000 * 5000 := ⟨Int.mul_nonneg m1.1 qb.1, Int.mul_le_mul m1.2 qb.2 qb.1 (by omega)⟩
     have k3 : wrap64 (q * q) = q * q := w64 (by omega) (by omega)
     have k4 : wrap64 (q * q * q) = q * q * q := w64 (by omega) (by omega)
     obtain ⟨u, hu⟩ : ∃ u, q * q * q / 10000000 = u := ⟨_, rfl⟩
     have t2 : Int.tdiv (q * q * q) 10000000 = u := (Lib.tdiv_nn m2.1).trans hu
     have k5 : wrap64 u = u := w64 (by omega) (by omega)
     obtain ⟨r, hr⟩ : ∃ r, mn u 10000 = r := ⟨_, rfl⟩
     have hr_ : (if 10000 < u then 10000 else u) = r := hr
     have EP : Aside0 (badP d can = r) := ⟨by unfold badP; rw [if_neg e, if_neg c, ht, hq, hu, hr]⟩
     clear e ht hq hu hr tb qb m1 m2 p0
     go_enter Try.func41, Try.ntmps41
     go_wp2
     go_ret
     exact ⟨by rw [EP.out]; rfl, Below.refl _ _⟩
section
variable (w : World) (g : Nat) (L : List S49) (W : List Int) (D : Int) (wi gr yi be : List Int) (i : Int) (hM : MK w g L W D wi gr yi be) (hi0 : 0 ≤ i) (hi1 : i ≤ L.length) (hin : L.length ≤ 1000000)
include hM hi0 hi1 hin
set_option maxHeartbeats 2000000 in
set_option maxRecDepth 100000 in
theorem last_ok (hbe : be.length = L.length + 2) : Calls Try.prog 25 #[.pointer (some ⟨g, 0, none⟩), .int .i64 i] w fun e w' => e = .returned (.bool (afterP L be i == L.length)) ∧ Below w.heap.size w w' := by
 have hu57 := Try.underlying57
 have hA : ∀ m : Nat, Calls Try.prog 26 #[.pointer (some ⟨g, 0, none⟩), .int .i64 i] (w.drewN m) fun e w' => e = .returned (.int .i64 (afterP L be i)) ∧ w' = w.drewN m := fun m => after_ok (w.drewN m) g L W D wi gr yi be i (MK.below hM (pw_below_drewN (Below.refl _ _) m)) hi0 hi1 hin hbe
 have HA := Aside0.mk hA
 obtain ⟨A0, c0, A1, c1, A2, c2, A3, c3, A4, c4, A5, c5, hbk, hL, hW, h2, h3, h4, h5⟩ := hM
 have hc0 : w.cell? ⟨g, 0, none⟩ = some (.slice A0 L.length c0) := (blk_cell hbk 0).trans rfl
 clear hW h2 h3 h4 h5 hbk hL hA
 go_enter Try.func25, Try.ntmps25
 go_wp2
 go_quiet (first | (go_at_call 26; exact Calls.quiet_of_same (HA.out _)))
 go_wp2
 go_ret
 exact ⟨rfl, pw_below_drewN (Below.refl _ _) _⟩
set_option maxHeartbeats 4000000 in
set_option maxRecDepth 100000 in
theorem may_ok : Calls Try.prog 37 #[.pointer (some ⟨g, 0, none⟩), .int .i64 i] w fun e w' => e = .returned (.bool (mayP L i)) ∧ Below w.heap.size w w' := by
 have hu57 := Try.underlying57
 have hu49 := Try.underlying49
 obtain ⟨A0, c0, A1, c1, A2, c2, A3, c3, A4, c4, A5, c5, hbk, hL, hW, h2, h3, h4, h5⟩ := hM
 have hc0 : w.cell? ⟨g, 0, none⟩ = some (.slice A0 L.length c0) := (blk_cell hbk 0).trans rfl
 have HBK := Aside0.mk hbk
 clear hW h2 h3 h4 h5 hbk
 by_cases e : i = L.length
 · have eb : (i == (L.length : Int)) = true := beq_iff_eq.2 e
   have EP : Aside0 (mayP L i = true) := ⟨by simp [mayP, eb]⟩
   clear e hL
   go_enter Try.func37, Try.ntmps37
   go_wp2
   go_ret
   exact ⟨by rw [EP.out]; rfl, Below.refl _ _⟩
 · have hlt : i < (L.length : Int) := by omega
   have eb : (i == (L.length : Int)) = false := beq_eq_false_iff_ne.2 e
   obtain ⟨ad, rfl, hx0, hx1, hx2, hx3, hx4, hx5⟩ := at_T49 hL i hi0 hlt
   have HL := Aside0.mk hL
   have HB := Aside0.mk (Below.refl w.heap.size w)
   clear e hL
   obtain ⟨p, hp⟩ : ∃ p, rd_T49 L i = p := ⟨_, rfl⟩
   rw [hp] at hx0 hx1 hx2 hx3 hx4 hx5
   have HPP : Aside0 (pt L i = p) := ⟨hp⟩
   clear hp
   go_enter Try.func37, Try.ntmps37
   go_upto_region 4 with (first
    | ((with_reducible refine gate_dst (N := 5) rfl ?_); refine box_event ?hg (N := 5) ?hd (cs := #[.int .i64 0, .int .i64 0, .int .i64 0, .int .i64 0, .int .i64 0, .bool false]) (t := 49) ?hr ?_; (case hd => rfl); (case hg => rfl); (case hr => first | (go_simp; done) | (go_simp; rfl)); intro g5 hg w5 hbox hb; (have hge : w.heap.size ≤ g5 := by rw [hg]; exact Nat.le_refl _); (have hbb := below_step HB.out hb); clear HB; (have HB := Aside0.mk hbb); (have HG := Aside0.mk hbox); (have HGE := Aside0.mk hge); clear hg hbox hb hbb hge)
    | ((with_reducible refine gate_store (t := 49) (p := 5) rfl ?_); refine agg_event (w0 := w) rfl rfl 49 (.tmp 5) (.tmp 19) rfl (g := g5) (e := 49) (.agg #[.int .i64 p.f0, .int .i64 p.f1, .int .i64 p.f2, .int .i64 p.f3, .int .i64 p.f4, .bool p.f5]) [.int .i64 p.f0, .int .i64 p.f1, .int .i64 p.f2, .int .i64 p.f3, .int .i64 p.f4, .bool p.f5] rfl rfl rfl (by kernel_rfl) HG.out rfl (by simp only [List.mem_cons, List.not_mem_nil, or_false, forall_eq_or_imp, forall_eq]; exact ⟨rfl, rfl, rfl, rfl, rfl, rfl⟩) HB.out HGE.out ?_; intro w6 hbox hb hgr; clear HG HB; (have HB := Aside0.mk hb); (have hs0 : w6.cell? ⟨g5, 0, none⟩ = some (.int .i64 p.f0) := (blk_cell hbox 0).trans rfl); (have hs4 : w6.cell? ⟨g5, 4, none⟩ = some (.int .i64 p.f4) := (blk_cell hbox 4).trans rfl); clear hbox hb hgr))
   have hc0 : w6.cell? ⟨g, 0, none⟩ = some (.slice (some ad) L.length c0) := (blk_cell (blk_below HBK.out HB.out) 0).trans rfl
   by_cases k1 : p.f0 = 1
   · have k1b : (p.f0 == 1) = true := beq_iff_eq.2 k1
     by_cases ip : i > 0
     · have ib : decide (i > 0) = true := decide_eq_true ip
       obtain ⟨j, hj⟩ : ∃ j, i - 1 = j := ⟨_, rfl⟩
       have him : wrap64 (i - 1) = j := (w64 (by omega) (by omega)).trans hj
       have hge1 : 0 ≤ j := by omega
       have hlt1 : j < (L.length : Int) := by omega
       obtain ⟨ad2, e2, hz0, -⟩ := at_T49 HL.out j hge1 hlt1
       cases e2
       replace hz0 := (HB.out.cell (World.block_lt_of_cell? _ _ hz0)).trans hz0
       have EP : Aside0 (mayP L i = ((rd_T49 L j).f0 == 0)) := ⟨by
        unfold mayP
        rw [HPP.out, hj]
        simp [eb, k1, ib]⟩
       have hb1 : 1 ≤ i := by omega
       have hb2 : i - 1 < (L.length : Int) := by omega
       have hz1 := hz0
       rw [show j.toNat = i.toNat - 1 by omega] at hz1
       clear k1 ip hj
       go_wp2
       go_ret
       exact ⟨by rw [EP.out]; rfl, HB.out⟩
     · have ib : decide (i > 0) = false := decide_eq_false ip
       have EP : Aside0 (mayP L i = false) := ⟨by
        unfold mayP
        rw [HPP.out]
        simp [eb, k1, ib]⟩
       clear k1 ip
       go_wp2
       go_ret
       exact ⟨by rw [EP.out]; rfl, HB.out⟩
   · have k1b : (p.f0 == 1) = false := beq_eq_false_iff_ne.2 k1
     by_cases k2 : p.f0 = 2
     · have k2b : (p.f0 == 2) = true := beq_iff_eq.2 k2
       have EP : Aside0 (mayP L i = decide (p.f4 < 10000)) := ⟨by
        unfold mayP
        rw [HPP.out]
        simp [eb, k2]⟩
       clear k1 k2
       go_wp2
       go_ret
       exact ⟨by rw [EP.out]; rfl, HB.out⟩
     · have k2b : (p.f0 == 2) = false := beq_eq_false_iff_ne.2 k2
       have EP : Aside0 (mayP L i = false) := ⟨by
        unfold mayP
        rw [HPP.out]
        simp [eb, k1, k2]⟩
       clear k1 k2
       go_wp2
       go_ret
       exact ⟨by rw [EP.out]; rfl, HB.out⟩
end
end Go.Proofs.Ythapclmfkjldaaa.HandLN
