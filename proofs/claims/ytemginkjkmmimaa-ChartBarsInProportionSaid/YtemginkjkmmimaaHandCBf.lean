/- Walked by hand: the statement's own bars: they are chart.Bars' bars, where everything is in order. -/
import Derived.Test.YtemginkjkmmimaaHandCBe
import Derived.Test.YtemginkjkmmimaaQCNx1
import Derived.Deep.QuietTactic
import Derived.BigQuiet
namespace Go.Proofs.Ytemginkjkmmimaa.HandCB
open Go.Proofs.Ytemginkjkmmimaa.Lib (w64)
open Go.RowKit Go.Proofs.YtemginkjkmmimaaW.PrintWords Go.Proofs.YtemginkjkmmimaaW.PrintLast Go.Proofs.YtemginkjkmmimaaW.PrintMore Go.Proofs.Ytemginkjkmmimaa.QCB
open Go.Proofs.Ytemginkjkmmimaa.QCN (chanceryref3_Near.f chanceryref3_Near.calls)
set_option linter.unusedVariables false
set_option linter.unusedSimpArgs false
attribute [local go_sem] max2_int min2_int max_two min_two
section
variable {P : Program} {ops : Array Oper} {rest : List Oper} {o : Oper} {a : Act} {Q : Exit → Act → World → Prop}
/-- A whole structure is stored into a block of one's own. -/
theorem agg_event {w0 W : World} (hgd : o.guard = none) (hN : o.dst = none) (t : TypeId) (p x : Operand) (ho : o.op = .store t p x) {g : Nat} {e : TypeId} {cur : Array Value} (u : Value) (seg : List Value)
    (haddr : a.eval p = .pointer (some ⟨g, 0, none⟩)) (hx : a.eval x = u) (hu : u.cells.toList = seg) (ht : (P.info? t).map (·.size) = some seg.length) (hh : W.heap[g]? = some (.cells cur e (0, 0))) (hfit : cur.size = seg.length) (h1 : ∀ q ∈ seg, q.oneCell' = true)
    (HB : Below w0.heap.size w0 W) (hge : w0.heap.size ≤ g)
    (h : ∀ w1, w1.heap[g]? = some (.cells seg.toArray e (0, 0)) → Below w0.heap.size w0 w1 → W.grownBy w1 (some g) → wpList P ops Q rest a w1) : wpList P ops Q (o :: rest) a W := by
  have hrun : (Instr.storeAt t (.pointer (some ⟨g, 0, none⟩)) u).run P W = .ok () (W.setCells g 0 seg) := run_store_run t u seg hh hu ht (by omega) h1
  obtain ⟨cur', hrow, _, hl⟩ := setCells_row (g := g) (e := e) seg 0 W cur hh (by omega)
  have hcur : cur' = seg.toArray := by
    rw [List.drop_eq_nil_of_le (by rw [Array.length_toList]; omega), List.take_zero, List.append_nil, List.nil_append] at hl
    rw [← hl]
  rw [hcur] at hrow
  have hs := setCells_same g seg 0 W
  have hg : W.grownBy (W.setCells g 0 seg) (some g) := ⟨hs.1, hs.2.1, hs.2.2.1, by omega, fun k _ hk => setCells_far seg 0 k (fun e => hk (by rw [e]))⟩
  have hB : Below w0.heap.size w0 (W.setCells g 0 seg) := pw_below_grown HB (some g) HB.size hg (fun k hk => by cases hk; exact hge)
  refine wpList_plain hgd fun K hK => ?_
  unfold Oper.wp execOp
  simp only [ho, haddr, hx, Sem.run_bind, Sem.run_pure, Result.andThen_ok, hrun]
  show K (a.put o.dst undef) _
  rw [hN]
  exact hK a _ (h _ hrow hB hg)
end
set_option maxHeartbeats 2000000 in
set_option maxRecDepth 100000 in
/-- The closure: the height of a value below the upper edge. -/
theorem clos_ok (lo hi st ht v n : Int) (g5 g7 : Nat) (w : World) (h5 : w.heap[g5]? = some (.cells #[.int .i64 lo, .int .i64 hi, .int .i64 st] 27 (0, 0))) (h7 : w.heap[g7]? = some (.cells #[.int .i64 ht] 3 (0, 0))) (hN : chanceryref3_Near.f (wrap64 (wrap64 (v - lo) * ht)) (wrap64 (hi - lo)) = some n) :
    Calls Try.prog 23 #[.int .i64 v, .pointer (some ⟨g7, 0, none⟩), .pointer (some ⟨g5, 0, none⟩)] w fun e w' => e = .returned (.int .i64 (wrap64 (ht - n))) ∧ Below w.heap.size w w' := by
  have hu27 := Try.underlying27
  have hc0 : w.cell? ⟨g5, 0, none⟩ = some (.int .i64 lo) := (blk_cell h5 0).trans rfl
  have hc1 : w.cell? ⟨g5, 1, none⟩ = some (.int .i64 hi) := (blk_cell h5 1).trans rfl
  have hc7 : w.cell? ⟨g7, 0, none⟩ = some (.int .i64 ht) := (blk_cell h7 0).trans rfl
  have hK : ∀ m : Nat, Calls Try.prog 24 #[.int .i64 (wrap64 (wrap64 (v - lo) * ht)), .int .i64 (wrap64 (hi - lo))] (w.drewN m) fun e w' => e = .returned (.int .i64 n) ∧ ∃ q, w' = (w.drewN m).drewN q := fun m => (chanceryref3_Near.calls _ _ n _ hN).mono fun e w' ⟨h1, h2⟩ => ⟨h1, h2.out⟩
  have HK := Aside0.mk hK
  clear h5 h7 hN hK
  go_enter Try.func23, Try.ntmps23
  go_wp2
  go_quiet (first | (go_at_call 24; exact Calls.quiet_of (HK.out _)))
  go_wp2
  go_ret
  exact ⟨by first | (simp only [i64_w]; done) | (simp only [i64_w]; rfl), pw_below_drewN (Below.refl _ _) _⟩
theorem PL_mono (lo hi ht v v' : Int) (h : lo < hi) (h1 : v ≤ v') (h3 : 0 ≤ ht) : PL lo hi ht v ≤ PL lo hi ht v' := by
  unfold PL
  have := Int.mul_le_mul_of_nonneg_right (show v - lo ≤ v' - lo by omega) h3
  exact Int.ediv_le_ediv (by omega) (by omega)
theorem PL_bd (lo hi ht v : Int) (h : lo < hi) (h1 : lo ≤ v) (h2 : v ≤ hi) (h3 : 0 ≤ ht) : 0 ≤ PL lo hi ht v ∧ PL lo hi ht v ≤ ht := by
  have a : 0 ≤ (v - lo) * ht := Int.mul_nonneg (by omega) h3
  have b := Int.mul_le_mul_of_nonneg_right (show v - lo ≤ hi - lo by omega) h3
  unfold PL
  refine ⟨Int.ediv_nonneg (by omega) (by omega), Int.le_of_lt_add_one ((Int.ediv_lt_iff_lt_mul (by omega)).2 ?_)⟩
  have c : (ht + 1) * (2 * (hi - lo)) = 2 * ((hi - lo) * ht) + 2 * (hi - lo) := by rw [Int.add_mul, Int.one_mul, ← Int.mul_assoc, Int.mul_comm (ht * 2), Int.mul_comm ht 2, ← Int.mul_assoc, Int.mul_comm (hi - lo) 2, Int.mul_assoc]
  omega
theorem bar_high (a b : Int) (a0 : 0 ≤ a) (a1 : a ≤ 100000) (b0 : 0 ≤ b) (b1 : b ≤ 100000) : (if a - b < b - a then b - a else a - b) = wrap64 (mx a b - mn a b) := by
  unfold mx mn
  split <;> split <;> split <;> first | omega | (rw [w64 (by omega) (by omega)]; done) | (rw [w64 (by omega) (by omega)]; omega)
/-- The three blocks of the function's own variables. -/
def EN (W : World) (g4 g5 g7 : Nat) (v4 v5 v7 : Array Value) : Prop := W.heap[g4]? = some (.cells v4 25 (0, 0)) ∧ W.heap[g5]? = some (.cells v5 27 (0, 0)) ∧ W.heap[g7]? = some (.cells v7 3 (0, 0))
section
variable {W w1 : World} {g4 g5 g7 : Nat} {v4 v5 v7 : Array Value}
theorem EN.below (h : EN W g4 g5 g7 v4 v5 v7) (hb : Below W.heap.size W w1) : EN w1 g4 g5 g7 v4 v5 v7 := ⟨blk_below h.1 hb, blk_below h.2.1 hb, blk_below h.2.2 hb⟩
theorem own_ne {k g e : Nat} {cs cs' : Array Value} (h1 : W.heap[k]? = some (.cells cs e (0, 0))) (h2 : W.heap[g]? = some (.cells cs' 42 (0, 0))) (he : e ≠ 42) : k ≠ g := fun h => by
  rw [h, h2] at h1
  injection h1 with h1
  injection h1 with _ h1
  exact he h1.symm
theorem EN.grown (h : EN W g4 g5 g7 v4 v5 v7) {row : Option Nat} (hg : W.grownBy w1 row) (hty : ∀ k, row = some k → ∃ cells, W.heap[k]? = some (.cells cells 42 (0, 0))) : EN w1 g4 g5 g7 v4 v5 v7 := by
  have key : ∀ (k e : Nat) (cs : Array Value), W.heap[k]? = some (.cells cs e (0, 0)) → e ≠ 42 → w1.heap[k]? = some (.cells cs e (0, 0)) := fun k e cs hk he => by
    refine (hg.block k (blk_lt hk) fun er => ?_).trans hk
    obtain ⟨cells, hc⟩ := hty k er.symm
    exact own_ne hk hc he rfl
  exact ⟨key _ _ _ h.1 (by decide), key _ _ _ h.2.1 (by decide), key _ _ _ h.2.2 (by decide)⟩
theorem EN.set (h : EN W g4 g5 g7 v4 v5 v7) {g : Nat} {cs : Array Value} (hg : W.heap[g]? = some (.cells cs 42 (0, 0))) (i : Nat) (u : Value) : EN (W.setCell ⟨g, i, none⟩ u) g4 g5 g7 v4 v5 v7 :=
  ⟨blk_far h.1 (own_ne h.1 hg (by decide)) u, blk_far h.2.1 (own_ne h.2.1 hg (by decide)) u, blk_far h.2.2 (own_ne h.2.2 hg (by decide)) u⟩
end
set_option maxHeartbeats 8000000 in
set_option maxRecDepth 100000 in
theorem lawbars_ok (kind : Int) (A1 : Option Addr) (c1 : Nat) (nm : List ByteArray) (A2 : Option Addr) (c2 : Nat) (ss : List (List Int)) (lo hi st wd ht : Int) (w : World)
    (hr1 : Kd.C Kd.string w A1 nm.length nm) (hc1 : nm.length ≤ c1) (hr2 : kL.C w A2 ss.length ss) (hc2 : ss.length ≤ c2)
    (hk : kind = 0 ∨ kind = 1 ∨ kind = 2) (hn1 : 1 ≤ nm.length) (hn : nm.length ≤ 200) (hm1 : 1 ≤ ss.length) (hm : ss.length ≤ 12) (hlh : -4000000000000 ≤ lo ∧ lo < hi ∧ hi ≤ 4000000000000) (hwd : 1 ≤ wd ∧ wd ≤ 100000) (hht : 1 ≤ ht ∧ ht ≤ 100000)
    (hN : ∀ v, lo ≤ v → v ≤ hi → chanceryref3_Near.f (wrap64 (wrap64 (v - lo) * ht)) (wrap64 (hi - lo)) = some (PL lo hi ht v))
    (hV : kind ≠ 1 → ∀ i j : Int, 0 ≤ i → i < nm.length → 0 ≤ j → j < ss.length → lo ≤ rd (rd_L1 ss j) i ∧ rd (rd_L1 ss j) i ≤ hi)
    (hS : kind = 1 → ∀ i : Int, 0 ≤ i → i < nm.length → (∀ j : Nat, j ≤ ss.length → lo ≤ sumS (mn (mx 0 lo) hi) ss i j ∧ sumS (mn (mx 0 lo) hi) ss i j ≤ hi) ∧ ∀ j : Nat, j < ss.length → 0 ≤ rd (rd_L1 ss j) i ∧ rd (rd_L1 ss j) i ≤ 100000000000)
    (hZ : lo ≤ mn (mx 0 lo) hi ∧ mn (mx 0 lo) hi ≤ hi) (hL : ∀ j : Int, 0 ≤ j → j < ss.length → (rd_L1 ss j).length = nm.length) :
    Calls Try.prog 13 #[.agg #[.int .i64 kind, .slice A1 nm.length c1, .slice A2 ss.length c2], .agg #[.int .i64 lo, .int .i64 hi, .int .i64 st], .int .i64 wd, .int .i64 ht] w fun e w' => ∃ v0_ : Value, e = .returned v0_ ∧ Kd.R k42 42 w' w.heap.size (fun _ => True) v0_ (barsC kind ss lo hi ht (edg wd nm.length) nm.length) ∧ Below w.heap.size w w' := by
  have hu25 := Try.underlying25
  have hu27 := Try.underlying27
  have hu42 := Try.underlying42
  have hmf : ∀ (fn : Fn) (first cap : Array Value) (w : World), (Instr.makeFunc fn first cap).run Try.prog w = .ok (.func fn first cap) w := fun _ _ _ _ => rfl
  have HR1 := Aside0.mk hr1
  have HC1 := Aside0.mk hc1
  have HR2 := Aside0.mk hr2
  have HC2 := Aside0.mk hc2
  have HN := Aside0.mk hN
  have HV := Aside0.mk hV
  have HS := Aside0.mk hS
  have HZ := Aside0.mk hZ
  have HL := Aside0.mk hL
  have HB := Aside0.mk (Below.refl w.heap.size w)
  clear hr1 hc1 hr2 hc2 hN hV hS hZ hL
  go_enter Try.func13, Try.ntmps13
  go_upto_region 3 with (first
    | ((with_reducible refine gate_dst (N := 4) rfl ?_); refine box_event ?hg (N := 4) ?hd (cs := #[.int .i64 kind, .slice A1 nm.length c1, .slice A2 ss.length c2]) (t := 25) ?hr ?_; (case hd => rfl); (case hg => rfl); (case hr => first | (go_simp; done) | (go_simp; rfl)); intro gb4 hg w4 hbox hb; (have hbb := below_step (by repeat (first | (with_reducible first | exact HB.out | apply below_alloc | apply pw_below_drewN | apply below_drew1) | exact HB.out)) hb);  clear HB; (have HB := Aside0.mk hbb); (have Bgb4 := Aside0.mk hbox); clear hb hbox hg hbb)
    | ((with_reducible refine gate_dst (N := 5) rfl ?_); refine box_event ?hg (N := 5) ?hd (cs := #[.int .i64 lo, .int .i64 hi, .int .i64 st]) (t := 27) ?hr ?_; (case hd => rfl); (case hg => rfl); (case hr => first | (go_simp; done) | (go_simp; rfl)); intro gb5 hg w5 hbox hb; (have hbb := below_step (by repeat (first | (with_reducible first | exact HB.out | apply below_alloc | apply pw_below_drewN | apply below_drew1) | exact HB.out)) hb); (have hk4 := blk_below Bgb4.out hb); clear Bgb4; (have Bgb4 := Aside0.mk hk4); clear hk4; clear HB; (have HB := Aside0.mk hbb); (have Bgb5 := Aside0.mk hbox); clear hb hbox hg hbb)
    | ((with_reducible refine gate_dst (N := 7) rfl ?_); refine box_event ?hg (N := 7) ?hd (cs := #[.int .i64 ht]) (t := 3) ?hr ?_; (case hd => rfl); (case hg => rfl); (case hr => first | (go_simp; done) | (go_simp; rfl)); intro gb7 hg w6 hbox hb; (have hbb := below_step (by repeat (first | (with_reducible first | exact HB.out | apply below_alloc | apply pw_below_drewN | apply below_drew1) | exact HB.out)) hb); (have hk4 := blk_below Bgb4.out hb); (have hk5 := blk_below Bgb5.out hb); clear Bgb4 Bgb5; (have Bgb4 := Aside0.mk hk4); (have Bgb5 := Aside0.mk hk5); clear hk4 hk5; clear HB; (have HB := Aside0.mk hbb); (have Bgb7 := Aside0.mk hbox); clear hb hbox hg hbb))
  have hcz4_1 : w6.cell? ⟨gb4, 1, none⟩ = some (.slice A1 nm.length c1) := (blk_cell Bgb4.out 1).trans rfl
  have hcz4_2 : w6.cell? ⟨gb4, 2, none⟩ = some (.slice A2 ss.length c2) := (blk_cell Bgb4.out 2).trans rfl
  go_quiet (fail)
  go_upto_region 4 with (fail)
  -- LOOPS
  generalize hw7 : w6.drewN nq = w7
  have hb67 : Below w6.heap.size w6 w7 := by rw [← hw7]; exact pw_below_drewN (Below.refl _ _) nq
  have hen : EN w7 gb4 gb5 gb7 #[.int .i64 kind, .slice A1 nm.length c1, .slice A2 ss.length c2] #[.int .i64 lo, .int .i64 hi, .int .i64 st] #[.int .i64 ht] := EN.below ⟨Bgb4.out, Bgb5.out, Bgb7.out⟩ hb67
  have hbb := below_step HB.out hb67
  clear HB Bgb4 Bgb5 Bgb7 hb67 hcz4_1 hcz4_2 hw7
  have HB := Aside0.mk hbb
  have HE := Aside0.mk hen
  have hcz4_1 : w7.cell? ⟨gb4, 1, none⟩ = some (.slice A1 nm.length c1) := (blk_cell hen.1 1).trans rfl
  clear hbb hen
  go_wp2
  go_loopw [34, 10] (fun v34 v10 w' => ∃ i : Int, v34 = .int .i64 i ∧ 0 ≤ i ∧ i ≤ (nm.length : Int) ∧ Aside0 (Kd.R k42 42 w' w.heap.size (fun _ => True) v10 (barsC kind ss lo hi ht (edg wd nm.length) i.toNat)) ∧ Aside0 (Below w.heap.size w w') ∧ Aside0 (EN w' gb4 gb5 gb7 #[.int .i64 kind, .slice A1 nm.length c1, .slice A2 ss.length c2] #[.int .i64 lo, .int .i64 hi, .int .i64 st] #[.int .i64 ht])) (fun v34 _ _ => nm.length - (intOf v34).toNat)
  case atStart => exact ⟨0, rfl, by omega, by omega, ⟨Kd.R_nil _ _ _ _ _⟩, HB, HE⟩
  case round =>
    clear HB HE hcz4_1
    obtain ⟨i, rfl, hi0, hi1, HO, HB, HE⟩ := hrel
    by_cases hlt : i < (nm.length : Int)
    · have hst := ChartB.edg_step wd nm.length i (by omega) (by omega) (by omega) hi0 hlt
      obtain ⟨q1, hq1⟩ : ∃ q, wd * i / (nm.length : Int) = q := ⟨_, rfl⟩
      obtain ⟨q3, hq3⟩ : ∃ q, wd * (i + 1) / (nm.length : Int) = q := ⟨_, rfl⟩
      have hX1 : rd (edg wd nm.length) i = q1 := (ChartB.edg_at wd nm.length i hi0 (by omega)).trans hq1
      have hX3 : rd (edg wd nm.length) (i + 1) = q3 := (ChartB.edg_at wd nm.length (i + 1) (by omega) (by omega)).trans hq3
      rw [hq1, hq3] at hst
      obtain ⟨hst0, hst1, hst2, hst3, hst4⟩ := hst
      have p0 : 0 ≤ wd * i := Int.mul_nonneg (by omega) hi0
      have p1 : wd * i ≤ 100000 * 200 := Int.mul_le_mul (by omega) (by omega) hi0 (by omega)
      have p2 : 0 ≤ wd * (i + 1) := Int.mul_nonneg (by omega) (by omega)
      have p3 : wd * (i + 1) ≤ 100000 * 200 := Int.mul_le_mul (by omega) (by omega) (by omega) (by omega)
      have d1 : Int.tdiv (wd * i) (nm.length : Int) = q1 := (Lib.tdiv_nn p0).trans hq1
      have d3 : Int.tdiv (wd * (i + 1)) (nm.length : Int) = q3 := (Lib.tdiv_nn p2).trans hq3
      have hXX : Aside0 (rd (edg wd nm.length) i = q1 ∧ rd (edg wd nm.length) (i + 1) = q3) := ⟨⟨hX1, hX3⟩⟩
      have u1 : wrap64 (i + 1) = i + 1 := w64 (by omega) (by omega)
      have u2 : wrap64 (wd * i) = wd * i := w64 (by omega) (by omega)
      have u3 : wrap64 (wd * (i + 1)) = wd * (i + 1) := w64 (by omega) (by omega)
      have u4 : wrap64 q1 = q1 := w64 (by omega) (by omega)
      have u5 : wrap64 q3 = q3 := w64 (by omega) (by omega)
      have u6 : wrap64 (q3 - q1) = q3 - q1 := w64 (by omega) (by omega)
      have y1 := (i64_w (i + 1)).trans u1
      have y2 := (i64_w (wd * i)).trans u2
      have y3 := (i64_w (wd * (i + 1))).trans u3
      have y4 := (i64_w q1).trans u4
      have y5 := (i64_w q3).trans u5
      have y6 := (i64_w (q3 - q1)).trans u6
      have hn0 : (nm.length : Int) ≠ 0 := by omega
      have hnb0 : ((nm.length : Int) == 0) = false := beq_eq_false_iff_ne.2 hn0
      have hnb1 : decide ((nm.length : Int) = 0) = false := decide_eq_false hn0
      have hnb2 : ((nm.length : Int) = 0) = False := eq_false hn0
      have hnb3 : (nm.length = 0) = False := eq_false (by omega)
      clear hst0 hX1 hX3 hq1 hq3 p0 p1 p2 p3
      obtain ⟨z, hz⟩ : ∃ z, mn (mx 0 lo) hi = z := ⟨_, rfl⟩
      obtain ⟨z1, hz1⟩ : ∃ z, mx 0 lo = z := ⟨_, rfl⟩
      rw [hz1] at hz
      have hz1_ : (if 0 < lo then lo else 0) = z1 := hz1
      have hz_ : (if hi < z1 then hi else z1) = z := hz
      have HZE : Aside0 (mn (mx 0 lo) hi = z) := ⟨by rw [hz1]; exact hz⟩
      clear hz hz1
      go_wp2
      go_quiet (fail)
      generalize hw7 : wr.drewN nq = w7
      have hb67 : Below wr.heap.size wr w7 := by rw [← hw7]; exact pw_below_drewN (Below.refl _ _) nq
      have hen := EN.below HE.out hb67
      have hbb := below_step HB.out hb67
      have hoo := Kd.R_below HO.out hb67
      clear HB HE HO hb67 hw7
      have HB := Aside0.mk hbb
      have HE := Aside0.mk hen
      have HO := Aside0.mk hoo
      have hc40 : w7.cell? ⟨gb4, 0, none⟩ = some (.int .i64 kind) := (blk_cell hen.1 0).trans rfl
      have hc42 : w7.cell? ⟨gb4, 2, none⟩ = some (.slice A2 ss.length c2) := (blk_cell hen.1 2).trans rfl
      have hc50 : w7.cell? ⟨gb5, 0, none⟩ = some (.int .i64 lo) := (blk_cell hen.2.1 0).trans rfl
      have hc51 : w7.cell? ⟨gb5, 1, none⟩ = some (.int .i64 hi) := (blk_cell hen.2.1 1).trans rfl
      clear hbb hen hoo
      -- KINDS
      rcases hk with rfl | rfl | rfl
      · generalize hWW : q3 - q1 = W at u6 y6 ⊢
        have hW0 : 0 ≤ W := by omega
        have hW1 : W ≤ 1000000 := by omega
        have HWW := Aside0.mk hWW
        clear hWW
        go_wp2
        go_loopw [63, 10, 16] (fun v63 v10 v16 w' => ∃ j : Int, v63 = .int .i64 j ∧ v16 = .int .i64 (z) ∧ 0 ≤ j ∧ j ≤ (ss.length : Int) ∧ Aside0 (Kd.R k42 42 w' w.heap.size (fun _ => True) v10 (barsC 0 ss lo hi ht (edg wd nm.length) i.toNat ++ besideL ht i q1 (PL lo hi ht z) (edg W (2 * ss.length + 2)) (fun j => PL lo hi ht (rd (rd_L1 ss j) i)) j.toNat)) ∧ Aside0 (Below w.heap.size w w') ∧ Aside0 (EN w' gb4 gb5 gb7 #[.int .i64 0, .slice A1 nm.length c1, .slice A2 ss.length c2] #[.int .i64 lo, .int .i64 hi, .int .i64 st] #[.int .i64 ht])) (fun v63 _ _ _ => ss.length - (intOf v63).toNat)
        case atStart => exact ⟨0, rfl, rfl, by omega, by omega, ⟨by rw [show besideL ht i q1 (PL lo hi ht z) (edg W (2 * ss.length + 2)) (fun j => PL lo hi ht (rd (rd_L1 ss j) i)) (0 : Int).toNat = [] from rfl, List.append_nil]; exact HO.out⟩, HB, HE⟩
        case round =>
          clear HB HE HO hc40 hc42 hc50 hc51
          obtain ⟨j, rfl, rfl, hj0, hj1, HO, HB, HE⟩ := hrel
          by_cases hlj : j < (ss.length : Int)
          · have hjm : wrap64 (j + 1) = j + 1 := w64 (by omega) (by omega)
            obtain ⟨ad, Al, cl, ea, hx0, hcl, hC⟩ := at_L1 HR2.out j hj0 hlj
            subst ea
            have hil : i < (rd_L1 ss j).length := by rw [HL.out j hj0 hlj]; exact hlt
            have hZZ : lo ≤ z ∧ z ≤ hi := by rw [← HZE.out]; exact HZ.out
            have hvv := HV.out (by decide) i j hi0 hlt hj0 hlj
            have hpv := HN.out _ hvv.1 hvv.2
            have hpz := HN.out _ hZZ.1 hZZ.2
            have bz := PL_bd lo hi ht z hlh.2.1 hZZ.1 hZZ.2 (by omega)
            have bv := PL_bd lo hi ht _ hlh.2.1 hvv.1 hvv.2 (by omega)
            have p0 : 0 ≤ W * (2 * j + 1) := Int.mul_nonneg hW0 (by omega)
            have p1 : W * (2 * j + 1) ≤ 1000000 * 30 := Int.mul_le_mul hW1 (by omega) (by omega) (by omega)
            have p2 : 0 ≤ W * (2 * j + 3) := Int.mul_nonneg hW0 (by omega)
            have p3 : W * (2 * j + 3) ≤ 1000000 * 30 := Int.mul_le_mul hW1 (by omega) (by omega) (by omega)
            have k1 : wrap64 (2 * j) = 2 * j := w64 (by omega) (by omega)
            have k2 : wrap64 (2 * j + 1) = 2 * j + 1 := w64 (by omega) (by omega)
            have k3 : wrap64 (2 * j + 3) = 2 * j + 3 := w64 (by omega) (by omega)
            have k4 : wrap64 (W * (2 * j + 1)) = W * (2 * j + 1) := w64 (by omega) (by omega)
            have k5 : wrap64 (W * (2 * j + 3)) = W * (2 * j + 3) := w64 (by omega) (by omega)
            have k6 : wrap64 (2 * (ss.length : Int)) = 2 * (ss.length : Int) := w64 (by omega) (by omega)
            have k7 : wrap64 (2 * (ss.length : Int) + 2) = 2 * (ss.length : Int) + 2 := w64 (by omega) (by omega)
            obtain ⟨p, hp⟩ : ∃ p, W * (2 * j + 1) / (2 * (ss.length : Int) + 2) = p := ⟨_, rfl⟩
            obtain ⟨q, hq⟩ : ∃ q, W * (2 * j + 3) / (2 * (ss.length : Int) + 2) = q := ⟨_, rfl⟩
            have t1 : Int.tdiv (W * (2 * j + 1)) (2 * (ss.length : Int) + 2) = p := (Lib.tdiv_nn p0).trans hp
            have t2 : Int.tdiv (W * (2 * j + 3)) (2 * (ss.length : Int) + 2) = q := (Lib.tdiv_nn p2).trans hq
            have g1 : 0 ≤ p ∧ p ≤ 30000000 := by
              have := Int.ediv_le_self (2 * (ss.length : Int) + 2) p0
              rw [← hp]
              exact ⟨Int.ediv_nonneg p0 (by omega), by omega⟩
            have g2 : 0 ≤ q ∧ q ≤ 30000000 := by
              have := Int.ediv_le_self (2 * (ss.length : Int) + 2) p2
              rw [← hq]
              exact ⟨Int.ediv_nonneg p2 (by omega), by omega⟩
            have k8 : wrap64 p = p := w64 (by omega) (by omega)
            have k9 : wrap64 q = q := w64 (by omega) (by omega)
            have ka : wrap64 (q1 + p) = q1 + p := w64 (by omega) (by omega)
            have kb : wrap64 (q - p) = q - p := w64 (by omega) (by omega)
            have e1 : rd (edg W (2 * ss.length + 2)) (2 * j + 1) = p := (ChartB.edg_at _ _ _ (by omega) (by omega)).trans hp
            have e2 : rd (edg W (2 * ss.length + 2)) (2 * j + 3) = q := (ChartB.edg_at _ _ _ (by omega) (by omega)).trans hq
            obtain ⟨pz, hpz2⟩ : ∃ q, PL lo hi ht z = q := ⟨_, rfl⟩
            obtain ⟨pv, hpv2⟩ : ∃ q, PL lo hi ht (rd (rd_L1 ss j) i) = q := ⟨_, rfl⟩
            rw [hpz2] at hpz bz
            rw [hpv2] at hpv bv
            obtain ⟨ya, hya⟩ : ∃ y, wrap64 (ht - pz) = y := ⟨_, rfl⟩
            obtain ⟨yb, hyb⟩ : ∃ y, wrap64 (ht - pv) = y := ⟨_, rfl⟩
            have ga : 0 ≤ ya ∧ ya ≤ 100000 := by rw [← hya, w64 (by omega) (by omega)]; omega
            have gb : 0 ≤ yb ∧ yb ≤ 100000 := by rw [← hyb, w64 (by omega) (by omega)]; omega
            have kc : wrap64 (ya - yb) = ya - yb := w64 (by omega) (by omega)
            have kd : wrap64 (yb - ya) = yb - ya := w64 (by omega) (by omega)
            obtain ⟨m1, hm1e⟩ : ∃ a, mn ya yb = a := ⟨_, rfl⟩
            have hm1_ : (if yb < ya then yb else ya) = m1 := hm1e
            obtain ⟨H, hHe⟩ : ∃ a, wrap64 (mx ya yb - mn ya yb) = a := ⟨_, rfl⟩
            have hH_ : (if ya - yb < yb - ya then yb - ya else ya - yb) = H := (bar_high ya yb ga.1 ga.2 gb.1 gb.2).trans hHe
            have HLM : Aside0 (besideL ht i q1 (PL lo hi ht z) (edg W (2 * ss.length + 2)) (fun j => PL lo hi ht (rd (rd_L1 ss j) i)) (j.toNat + 1) = besideL ht i q1 (PL lo hi ht z) (edg W (2 * ss.length + 2)) (fun j => PL lo hi ht (rd (rd_L1 ss j) i)) j.toNat ++ [⟨j, i, q1 + p, m1, q - p, H⟩]) := ⟨by
              rw [besideL_succ, show ((j.toNat : Nat) : Int) = j by omega, barOf, e1, e2, hpz2, hpv2, hya, hyb, hm1e, ka, kb]
              rw [hm1e] at hHe
              rw [hHe]⟩
            have y21 := (i64_w (2 * j)).trans k1
            have y22 := (i64_w (2 * j + 1)).trans k2
            have y23 := (i64_w (2 * j + 3)).trans k3
            have y24 := (i64_w (W * (2 * j + 1))).trans k4
            have y25 := (i64_w (W * (2 * j + 3))).trans k5
            have y26 := (i64_w (2 * (ss.length : Int))).trans k6
            have y27 := (i64_w (2 * (ss.length : Int) + 2)).trans k7
            have y28 := (i64_w p).trans k8
            have y29 := (i64_w q).trans k9
            have hd0 : (2 * (ss.length : Int) + 2) ≠ 0 := by omega
            have hd1 : (2 * (ss.length : Int) + 2 == 0) = false := beq_eq_false_iff_ne.2 hd0
            have hd2 : decide (2 * (ss.length : Int) + 2 = 0) = false := decide_eq_false hd0
            have hd3 : (2 * (ss.length : Int) + 2 = 0) = False := eq_false hd0
            have HYA := Aside0.mk hya
            have HYB := Aside0.mk hyb
            have HPZ := Aside0.mk hpz
            have HLL := Aside0.mk hpv
            clear hya hyb hpz hpv hpz2 hpv2 hp hq e1 e2 p0 p1 p2 p3 hm1e hHe hvv hZZ bz bv ga gb g1 g2
            obtain ⟨l, hl⟩ : ∃ l, rd_L1 ss j = l := ⟨_, rfl⟩
            rw [hl] at hx0 hcl hC hil HLL
            replace hx0 := (HB.out.cell (World.block_lt_of_cell? _ _ hx0)).trans hx0
            clear hl
            obtain ⟨al, cs9, ea, -, hK9, hc9⟩ := Kd.C_get hC (0 : Int) i hi0 (by omega)
            subst ea
            obtain rfl : cs9 = [.int .i64 (l.getD i.toNat 0)] := hK9
            have hv00 : w.cell? (al.add i.toNat) = some (.int .i64 (rd l i)) := by have hq := hc9 0 _ rfl; rwa [show i.toNat * kI.sz + 0 = i.toNat from by show i.toNat * 1 + 0 = i.toNat; omega] at hq
            have hv0 : wr.cell? (al.add i.toNat) = some (.int .i64 (rd l i)) := (HB.out.cell (World.block_lt_of_cell? _ _ hv00)).trans hv00
            clear hc9 hC hv00
            obtain ⟨vv, hvv⟩ : ∃ x, rd l i = x := ⟨_, rfl⟩
            rw [hvv] at hv0 HLL
            clear hvv
            obtain ⟨OUT, hOUT⟩ : ∃ O, barsC 0 ss lo hi ht (edg wd nm.length) i.toNat ++ besideL ht i q1 (PL lo hi ht z) (edg W (2 * ss.length + 2)) (fun j => PL lo hi ht (rd (rd_L1 ss j) i)) j.toNat = O := ⟨_, rfl⟩
            have hOL : OUT.length ≤ 1000000 := by
              have h1 : i.toNat * ss.length ≤ 200 * 12 := Nat.mul_le_mul (by omega) hm
              rw [← hOUT, List.length_append, barsC_length]
              first | (rw [besideL, List.length_map, List.length_range]; omega) | (rw [stackL, List.length_map, List.length_range]; omega) | (rw [lineL, List.length_map, List.length_range]; omega)
            have HOL := Aside0.mk hOL
            have HOUT := Aside0.mk hOUT
            rw [hOUT] at HO
            clear hOL hOUT
            have hc42 : wr.cell? ⟨gb4, 2, none⟩ = some (.slice (some ad) ss.length c2) := (blk_cell HE.out.1 2).trans rfl
            go_upto_region 14 with (first
              | ((with_reducible refine gate_dst (N := 19) rfl ?_); refine box_event ?hg (N := 19) ?hd (cs := #[.int .i64 0, .int .i64 0, .int .i64 0, .int .i64 0, .int .i64 0, .int .i64 0]) (t := 42) ?hr ?_; (case hd => rfl); (case hg => rfl); (case hr => first | (go_simp; done) | (go_simp; rfl)); intro g19 hg w11 hbox hb; (have ho19 := Kd.R_below (Kd.R_elderB HO.out g19 (Nat.le_of_eq hg.symm)) hb); (have hbb := below_step HB.out hb); (have hen := EN.below HE.out hb); (have hge : w.heap.size ≤ g19 := by rw [hg]; exact HB.out.size); clear HO HB HE; (have HO := Aside0.mk ho19); (have HB := Aside0.mk hbb); (have HE := Aside0.mk hen); (have HG := Aside0.mk hbox); (have HGE := Aside0.mk hge); clear ho19 hbb hen hbox hge hg hb)
              | ((with_reducible refine gate_store (t := 42) (p := 19) rfl ?_); refine agg_event (w0 := w) rfl rfl 42 (.tmp 19) (.tmp 76) rfl (g := g19) (e := 42) (.agg #[.int .i64 j, .int .i64 i, .int .i64 0, .int .i64 0, .int .i64 0, .int .i64 0]) [.int .i64 j, .int .i64 i, .int .i64 0, .int .i64 0, .int .i64 0, .int .i64 0] rfl rfl rfl (by kernel_rfl) HG.out rfl (by simp only [List.mem_cons, List.not_mem_nil, or_false, forall_eq_or_imp, forall_eq]; exact ⟨rfl, rfl, rfl, rfl, rfl, rfl⟩) HB.out HGE.out ?_; intro w12 hbox hbb hgr; (have ho19 := Kd.R_grown HO.out hgr (fun k hk e => hk.2 (by injection e))); (have hen := EN.grown HE.out hgr (fun k hk => by injection hk with hk; subst hk; exact ⟨_, HG.out⟩)); clear HO HB HE HG; (have HO := Aside0.mk ho19); (have HB := Aside0.mk hbb); (have HE := Aside0.mk hen); (have HG := Aside0.mk hbox); clear ho19 hbb hen hbox hgr))
            clear hc42 hx0 hv0
            have hc40 : w12.cell? ⟨gb4, 0, none⟩ = some (.int .i64 0) := (blk_cell HE.out.1 0).trans rfl
            go_upto_region 22 with (fail)
            go_quiet (fail)
            generalize hw7 : w12.drewN nq = w14
            have hb67 : Below w12.heap.size w12 w14 := by rw [← hw7]; exact pw_below_drewN (Below.refl _ _) nq
            have hen := EN.below HE.out hb67
            have hbb := below_step HB.out hb67
            have hoo := Kd.R_below HO.out hb67
            have hg14 := blk_below HG.out hb67
            clear HB HE HO HG hb67 hw7 hc40
            have HB := Aside0.mk hbb
            have HE := Aside0.mk hen
            have HO := Aside0.mk hoo
            have HG := Aside0.mk hg14
            have hs2 : w14.cell? ⟨g19, 2, none⟩ = some (.int .i64 0) := (blk_cell hg14 2).trans rfl
            have hs4 : w14.cell? ⟨g19, 4, none⟩ = some (.int .i64 0) := (blk_cell hg14 4).trans rfl
            have hf2 := blk_frozen hg14 2
            have hf4 := blk_frozen hg14 4
            clear hbb hen hoo hg14
            go_upto_region 24 with (fail)
            clear hs2 hs4 hf2 hf4
            have hg13 := HG.out
            have hen := EN.set (EN.set HE.out hg13 2 (.int .i64 (q1 + p))) (blk_set hg13 2 (.int .i64 (q1 + p))) 4 (.int .i64 (q - p))
            have hbb := below_set (j := 4) (v := .int .i64 (q - p)) (below_set (j := 2) (v := .int .i64 (q1 + p)) HB.out HGE.out) HGE.out
            have hoo := Kd.R_far (p := ⟨g19, 4, none⟩) (Kd.R_far (p := ⟨g19, 2, none⟩) HO.out (fun _ hk => hk.2) (.int .i64 (q1 + p))) (fun _ hk => hk.2) (.int .i64 (q - p))
            have hgz := blk_set (blk_set hg13 2 (.int .i64 (q1 + p))) 4 (.int .i64 (q - p))
            generalize (w14.setCell ⟨g19, 2, none⟩ (.int .i64 (q1 + p))).setCell ⟨g19, 4, none⟩ (.int .i64 (q - p)) = w15 at hen hbb hoo hgz ⊢
            clear HB HE HO HG hg13
            have HB := Aside0.mk hbb
            have HE := Aside0.mk hen
            have HO := Aside0.mk hoo
            have HG := Aside0.mk hgz
            clear hbb hen hoo hgz
            go_upto_region 25 with (first | (go_at_call_of 23 (Value.int IntKind.i64 z); refine (clos_ok lo hi st ht z pz gb5 gb7 _ ?h5 ?h7 HPZ.out).mono ?_; (case h5 => exact HE.out.2.1); (case h7 => exact HE.out.2.2); rintro e w13 ⟨rfl, hb⟩; rw [HYA.out]; (have hg13 := blk_below HG.out hb); (have hen := EN.below HE.out hb); (have hbb := below_step HB.out hb); (have hoo := Kd.R_below HO.out hb); clear HB HE HO HG hb; (try clear hs3 hs5 hf3 hf5); (have HB := Aside0.mk hbb); (have HE := Aside0.mk hen); (have HO := Aside0.mk hoo); (have HG := Aside0.mk hg13); (have hs3 : w13.cell? ⟨g19, 3, none⟩ = some (.int .i64 0) := (blk_cell hg13 3).trans rfl); (have hs5 : w13.cell? ⟨g19, 5, none⟩ = some (.int .i64 0) := (blk_cell hg13 5).trans rfl); (have hf3 := blk_frozen hg13 3); (have hf5 := blk_frozen hg13 5); clear hbb hen hoo hg13) | (go_at_call_of 23 (Value.int IntKind.i64 vv); refine (clos_ok lo hi st ht vv pv gb5 gb7 _ ?h5 ?h7 HLL.out).mono ?_; (case h5 => exact HE.out.2.1); (case h7 => exact HE.out.2.2); rintro e w13 ⟨rfl, hb⟩; rw [HYB.out]; (have hg13 := blk_below HG.out hb); (have hen := EN.below HE.out hb); (have hbb := below_step HB.out hb); (have hoo := Kd.R_below HO.out hb); clear HB HE HO HG hb; (try clear hs3 hs5 hf3 hf5); (have HB := Aside0.mk hbb); (have HE := Aside0.mk hen); (have HO := Aside0.mk hoo); (have HG := Aside0.mk hg13); (have hs3 : w13.cell? ⟨g19, 3, none⟩ = some (.int .i64 0) := (blk_cell hg13 3).trans rfl); (have hs5 : w13.cell? ⟨g19, 5, none⟩ = some (.int .i64 0) := (blk_cell hg13 5).trans rfl); (have hf3 := blk_frozen hg13 3); (have hf5 := blk_frozen hg13 5); clear hbb hen hoo hg13))
            clear hs3 hs5 hf3 hf5
            have hg13 := HG.out
            have hen := EN.set (EN.set HE.out hg13 3 (.int .i64 (m1))) (blk_set hg13 3 (.int .i64 (m1))) 5 (.int .i64 (H))
            have hbb := below_set (j := 5) (v := .int .i64 (H)) (below_set (j := 3) (v := .int .i64 (m1)) HB.out HGE.out) HGE.out
            have hoo := Kd.R_far (p := ⟨g19, 5, none⟩) (Kd.R_far (p := ⟨g19, 3, none⟩) HO.out (fun _ hk => hk.2) (.int .i64 (m1))) (fun _ hk => hk.2) (.int .i64 (H))
            have hgz := blk_set (blk_set hg13 3 (.int .i64 (m1))) 5 (.int .i64 (H))
            generalize (w13.setCell ⟨g19, 3, none⟩ (.int .i64 (m1))).setCell ⟨g19, 5, none⟩ (.int .i64 (H)) = wz at hen hbb hoo hgz ⊢
            clear HB HE HO HG hg13
            have HB := Aside0.mk hbb
            have HE := Aside0.mk hen
            have HO := Aside0.mk hoo
            have HG := Aside0.mk hgz
            clear hbb hen hoo hgz
            -- the element is appended
            have hs0 : wz.cell? ⟨g19, 0, none⟩ = some (.int .i64 j) := (blk_cell HG.out 0).trans rfl
            have hs1 : wz.cell? ⟨g19, 1, none⟩ = some (.int .i64 i) := (blk_cell HG.out 1).trans rfl
            have hs2 : wz.cell? ⟨g19, 2, none⟩ = some (.int .i64 (q1 + p)) := (blk_cell HG.out 2).trans rfl
            have hs3 : wz.cell? ⟨g19, 3, none⟩ = some (.int .i64 (m1)) := (blk_cell HG.out 3).trans rfl
            have hs4 : wz.cell? ⟨g19, 4, none⟩ = some (.int .i64 (q - p)) := (blk_cell HG.out 4).trans rfl
            have hs5 : wz.cell? ⟨g19, 5, none⟩ = some (.int .i64 (H)) := (blk_cell HG.out 5).trans rfl
            have HO2 := Aside0.mk (Kd.R_mono HO.out (fun _ _ => trivial : ∀ k : Nat, _ → True))
            go_wp2_with ((with_reducible refine gate_builtin (b := .append) (xs := #[.tmp 179, .tmp 181]) rfl ?_); at_builtin; refine Kd.R_append k42 (w0 := w) w.heap.size rfl (.tmp 179) (.tmp 181) 32 42 (.agg #[(.int .i64 0), (.int .i64 0), (.int .i64 0), (.int .i64 0), (.int .i64 0), (.int .i64 0)]) 48 rfl Try.underlying32 info42 rfl (by decide) (by omega) _ OUT (⟨j, i, q1 + p, m1, q - p, H⟩ : S42) [.int .i64 j, .int .i64 i, .int .i64 (q1 + p), .int .i64 (m1), .int .i64 (q - p), .int .i64 (H)] (fun _ => True) (fun _ => False) rfl rfl ?aP (fun _ hk => hk.elim) ?aF ?aO ?aB ?aS ?aL ?_; (case aP => exact k42_mkM _ _ _ (⟨j, i, q1 + p, m1, q - p, H⟩ : S42)); (case aB => exact HB.out); (case aF => exact (fun _ _ => trivial)); (case aO => exact HO2.out); (case aS => exact HB.out.size); (case aL => have := HOL.out; omega); intro v4 w4 ho hb hgr hat; have hen := EN.grown HE.out hgr (fun k hk => Kd.R_typed HO2.out k hk); clear HO HO2 HB HE HG; have HO := Aside0.mk ho; have HB := Aside0.mk hb; have HE := Aside0.mk hen; clear ho hb hgr hat hen)
            go_roundw
            case rel => exact ⟨j + 1, by first | rfl | rw [hjm], by first | rfl | (rw [HFR.out]), by omega, by omega, ⟨by rw [show (j + 1).toNat = j.toNat + 1 by omega, HLM.out, ← List.append_assoc, HOUT.out]; exact HO.out⟩, HB, HE⟩
            case measure => first | (simp [intOf]; omega) | (rw [hjm]; simp [intOf]; omega)
          · obtain rfl : j = (ss.length : Int) := by omega
            go_wp2
            go_roundw
            case rel =>
              refine ⟨i + 1, by first | rfl | rw [u1], by omega, by omega, ⟨?_⟩, HB, HE⟩
              rw [show (i + 1).toNat = i.toNat + 1 by omega, barsC_succ, show ((i.toNat : Nat) : Int) = i by omega, itemC, if_pos rfl, hXX.out.1, hXX.out.2]
              rw [HWW.out, u6, HZE.out]
              exact HO.out
            case measure => first | (simp [intOf]; omega) | (rw [u1]; simp [intOf]; omega)
      · generalize hWW : q3 - q1 = W at u6 y6 ⊢
        have hW0 : 0 ≤ W := by omega
        have hW1 : W ≤ 1000000 := by omega
        have HWW := Aside0.mk hWW
        clear hWW
        go_wp2
        go_loopw [63, 10, 16] (fun v63 v10 v16 w' => ∃ j : Int, v63 = .int .i64 j ∧ v16 = .int .i64 (sumS z ss i j.toNat) ∧ 0 ≤ j ∧ j ≤ (ss.length : Int) ∧ Aside0 (Kd.R k42 42 w' w.heap.size (fun _ => True) v10 (barsC 1 ss lo hi ht (edg wd nm.length) i.toNat ++ stackL ht i q1 (edg W 4) (fun j => PL lo hi ht (sumS z ss i j)) j.toNat)) ∧ Aside0 (Below w.heap.size w w') ∧ Aside0 (EN w' gb4 gb5 gb7 #[.int .i64 1, .slice A1 nm.length c1, .slice A2 ss.length c2] #[.int .i64 lo, .int .i64 hi, .int .i64 st] #[.int .i64 ht])) (fun v63 _ _ _ => ss.length - (intOf v63).toNat)
        case atStart => exact ⟨0, rfl, rfl, by omega, by omega, ⟨by rw [show stackL ht i q1 (edg W 4) (fun j => PL lo hi ht (sumS z ss i j)) (0 : Int).toNat = [] from rfl, List.append_nil]; exact HO.out⟩, HB, HE⟩
        case round =>
          clear HB HE HO hc40 hc42 hc50 hc51
          obtain ⟨j, rfl, rfl, hj0, hj1, HO, HB, HE⟩ := hrel
          by_cases hlj : j < (ss.length : Int)
          · have hjm : wrap64 (j + 1) = j + 1 := w64 (by omega) (by omega)
            obtain ⟨ad, Al, cl, ea, hx0, hcl, hC⟩ := at_L1 HR2.out j hj0 hlj
            subst ea
            have hil : i < (rd_L1 ss j).length := by rw [HL.out j hj0 hlj]; exact hlt
            have hZZ : lo ≤ z ∧ z ≤ hi := by rw [← HZE.out]; exact HZ.out
            have hss := HS.out (by first | trivial | rfl) i hi0 hlt
            rw [HZE.out] at hss
            have hb1 := hss.1 j.toNat (by omega)
            have hb2 := hss.1 (j.toNat + 1) (by omega)
            have hv1 := hss.2 j.toNat (by omega)
            have hsu : sumS z ss i (j.toNat + 1) = wrap64 (sumS z ss i j.toNat + rd (rd_L1 ss j) i) := by rw [sumS, show ((j.toNat : Nat) : Int) = j by omega]
            rw [show ((j.toNat : Nat) : Int) = j by omega] at hv1
            obtain ⟨S, hSS⟩ : ∃ S, sumS z ss i j.toNat = S := ⟨_, rfl⟩
            rw [hSS] at hsu hb1 ⊢
            have k1 : wrap64 (S + rd (rd_L1 ss j) i) = S + rd (rd_L1 ss j) i := w64 (by omega) (by omega)
            rw [k1] at hsu
            rw [hsu] at hb2
            have hnS := HN.out _ hb1.1 hb1.2
            have hnT := HN.out _ hb2.1 hb2.2
            have bS := PL_bd lo hi ht S hlh.2.1 hb1.1 hb1.2 (by omega)
            have bT := PL_bd lo hi ht _ hlh.2.1 hb2.1 hb2.2 (by omega)
            have bM := PL_mono lo hi ht S (S + rd (rd_L1 ss j) i) hlh.2.1 (by omega) (by omega)
            have hFT : PL lo hi ht (sumS z ss i (j.toNat + 1)) = PL lo hi ht (S + rd (rd_L1 ss j) i) := by rw [hsu]
            have hFS : PL lo hi ht (sumS z ss i j.toNat) = PL lo hi ht S := by rw [hSS]
            obtain ⟨pS, hpS⟩ : ∃ q, PL lo hi ht S = q := ⟨_, rfl⟩
            obtain ⟨pT, hpT⟩ : ∃ q, PL lo hi ht (S + rd (rd_L1 ss j) i) = q := ⟨_, rfl⟩
            rw [hpS] at hnS bS bM hFS
            rw [hpT] at hnT bT bM hFT
            obtain ⟨p, hp⟩ : ∃ p, W * 1 / 4 = p := ⟨_, rfl⟩
            obtain ⟨q, hq⟩ : ∃ q, W * 3 / 4 = q := ⟨_, rfl⟩
            have e1 : rd (edg W 4) 1 = p := (ChartB.edg_at _ _ _ (by omega) (by omega)).trans hp
            have e2 : rd (edg W 4) 3 = q := (ChartB.edg_at _ _ _ (by omega) (by omega)).trans hq
            have t1 : Int.tdiv W 4 = p := (Lib.tdiv_nn hW0).trans (by rw [← hp, Int.mul_one])
            have t2 : Int.tdiv (W * 3) 4 = q := (Lib.tdiv_nn (by omega)).trans hq
            have k2 : wrap64 (W * 3) = W * 3 := w64 (by omega) (by omega)
            have k8 : wrap64 p = p := w64 (by omega) (by omega)
            have k9 : wrap64 q = q := w64 (by omega) (by omega)
            have ka : wrap64 (q1 + p) = q1 + p := w64 (by omega) (by omega)
            have kb : wrap64 (q - p) = q - p := w64 (by omega) (by omega)
            obtain ⟨ya, hya⟩ : ∃ y, wrap64 (ht - pS) = y := ⟨_, rfl⟩
            obtain ⟨yb, hyb⟩ : ∃ y, wrap64 (ht - pT) = y := ⟨_, rfl⟩
            have gab : 0 ≤ yb ∧ yb ≤ ya ∧ ya ≤ 100000 := by
              have h1 := hya
              have h2 := hyb
              rw [w64 (by omega) (by omega)] at h1 h2
              omega
            have kc : wrap64 (ya - yb) = ya - yb := w64 (by omega) (by omega)
            have hmn : mn ya yb = yb := by unfold mn; split <;> omega
            have hmx : mx ya yb = ya := by unfold mx; split <;> omega
            have HLM : Aside0 (stackL ht i q1 (edg W 4) (fun j => PL lo hi ht (sumS z ss i j)) (j.toNat + 1) = stackL ht i q1 (edg W 4) (fun j => PL lo hi ht (sumS z ss i j)) j.toNat ++ [⟨j, i, q1 + p, yb, q - p, ya - yb⟩]) := ⟨by
              rw [stackL_succ, show ((j.toNat : Nat) : Int) = j by omega, barOf, e1, e2, hFS, hFT, hya, hyb, hmn, hmx, ka, kb, kc]⟩
            have y22 := (i64_w (W * 3)).trans k2
            have HYA := Aside0.mk hya
            have HYB := Aside0.mk hyb
            have HPZ := Aside0.mk hnS
            have HLL : Aside0 (chanceryref3_Near.f (wrap64 (wrap64 ((S + rd (rd_L1 ss j) i) - lo) * ht)) (wrap64 (hi - lo)) = some pT ∧ sumS z ss i (j + 1).toNat = S + rd (rd_L1 ss j) i ∧ wrap64 (S + rd (rd_L1 ss j) i) = S + rd (rd_L1 ss j) i) := ⟨⟨hnT, by rw [show (j + 1).toNat = j.toNat + 1 by omega]; exact hsu, k1⟩⟩
            clear hya hyb hnS hnT hp hq e1 e2 hmn hmx gab bS bT bM hFT hFS hpS hpT hb1 hb2 hv1 hss hsu hSS hZZ k1
            obtain ⟨l, hl⟩ : ∃ l, rd_L1 ss j = l := ⟨_, rfl⟩
            rw [hl] at hx0 hcl hC hil HLL
            replace hx0 := (HB.out.cell (World.block_lt_of_cell? _ _ hx0)).trans hx0
            clear hl
            obtain ⟨al, cs9, ea, -, hK9, hc9⟩ := Kd.C_get hC (0 : Int) i hi0 (by omega)
            subst ea
            obtain rfl : cs9 = [.int .i64 (l.getD i.toNat 0)] := hK9
            have hv00 : w.cell? (al.add i.toNat) = some (.int .i64 (rd l i)) := by have hq := hc9 0 _ rfl; rwa [show i.toNat * kI.sz + 0 = i.toNat from by show i.toNat * 1 + 0 = i.toNat; omega] at hq
            have hv0 : wr.cell? (al.add i.toNat) = some (.int .i64 (rd l i)) := (HB.out.cell (World.block_lt_of_cell? _ _ hv00)).trans hv00
            clear hc9 hC hv00
            obtain ⟨vv, hvv⟩ : ∃ x, rd l i = x := ⟨_, rfl⟩
            rw [hvv] at hv0 HLL
            clear hvv
            obtain ⟨OUT, hOUT⟩ : ∃ O, barsC 1 ss lo hi ht (edg wd nm.length) i.toNat ++ stackL ht i q1 (edg W 4) (fun j => PL lo hi ht (sumS z ss i j)) j.toNat = O := ⟨_, rfl⟩
            have hOL : OUT.length ≤ 1000000 := by
              have h1 : i.toNat * ss.length ≤ 200 * 12 := Nat.mul_le_mul (by omega) hm
              rw [← hOUT, List.length_append, barsC_length]
              first | (rw [besideL, List.length_map, List.length_range]; omega) | (rw [stackL, List.length_map, List.length_range]; omega) | (rw [lineL, List.length_map, List.length_range]; omega)
            have HOL := Aside0.mk hOL
            have HOUT := Aside0.mk hOUT
            rw [hOUT] at HO
            clear hOL hOUT
            have hc42 : wr.cell? ⟨gb4, 2, none⟩ = some (.slice (some ad) ss.length c2) := (blk_cell HE.out.1 2).trans rfl
            go_upto_region 14 with (first
              | ((with_reducible refine gate_dst (N := 19) rfl ?_); refine box_event ?hg (N := 19) ?hd (cs := #[.int .i64 0, .int .i64 0, .int .i64 0, .int .i64 0, .int .i64 0, .int .i64 0]) (t := 42) ?hr ?_; (case hd => rfl); (case hg => rfl); (case hr => first | (go_simp; done) | (go_simp; rfl)); intro g19 hg w11 hbox hb; (have ho19 := Kd.R_below (Kd.R_elderB HO.out g19 (Nat.le_of_eq hg.symm)) hb); (have hbb := below_step HB.out hb); (have hen := EN.below HE.out hb); (have hge : w.heap.size ≤ g19 := by rw [hg]; exact HB.out.size); clear HO HB HE; (have HO := Aside0.mk ho19); (have HB := Aside0.mk hbb); (have HE := Aside0.mk hen); (have HG := Aside0.mk hbox); (have HGE := Aside0.mk hge); clear ho19 hbb hen hbox hge hg hb)
              | ((with_reducible refine gate_store (t := 42) (p := 19) rfl ?_); refine agg_event (w0 := w) rfl rfl 42 (.tmp 19) (.tmp 76) rfl (g := g19) (e := 42) (.agg #[.int .i64 j, .int .i64 i, .int .i64 0, .int .i64 0, .int .i64 0, .int .i64 0]) [.int .i64 j, .int .i64 i, .int .i64 0, .int .i64 0, .int .i64 0, .int .i64 0] rfl rfl rfl (by kernel_rfl) HG.out rfl (by simp only [List.mem_cons, List.not_mem_nil, or_false, forall_eq_or_imp, forall_eq]; exact ⟨rfl, rfl, rfl, rfl, rfl, rfl⟩) HB.out HGE.out ?_; intro w12 hbox hbb hgr; (have ho19 := Kd.R_grown HO.out hgr (fun k hk e => hk.2 (by injection e))); (have hen := EN.grown HE.out hgr (fun k hk => by injection hk with hk; subst hk; exact ⟨_, HG.out⟩)); clear HO HB HE HG; (have HO := Aside0.mk ho19); (have HB := Aside0.mk hbb); (have HE := Aside0.mk hen); (have HG := Aside0.mk hbox); clear ho19 hbb hen hbox hgr))
            clear hc42 hx0 hv0
            have hc40 : w12.cell? ⟨gb4, 0, none⟩ = some (.int .i64 1) := (blk_cell HE.out.1 0).trans rfl
            have k1 := HLL.out.2.2
            have HFR := Aside0.mk HLL.out.2.1
            have HPV := Aside0.mk HLL.out.1
            have y21 := (i64_w (S + vv)).trans k1
            clear HLL
            have hs2 : w12.cell? ⟨g19, 2, none⟩ = some (.int .i64 0) := (blk_cell HG.out 2).trans rfl
            have hs4 : w12.cell? ⟨g19, 4, none⟩ = some (.int .i64 0) := (blk_cell HG.out 4).trans rfl
            have hf2 := blk_frozen HG.out 2
            have hf4 := blk_frozen HG.out 4
            go_upto_region 17 with (fail)
            clear hs2 hs4 hf2 hf4 hc40
            have hg13 := HG.out
            have hen := EN.set (EN.set HE.out hg13 2 (.int .i64 (q1 + p))) (blk_set hg13 2 (.int .i64 (q1 + p))) 4 (.int .i64 (q - p))
            have hbb := below_set (j := 4) (v := .int .i64 (q - p)) (below_set (j := 2) (v := .int .i64 (q1 + p)) HB.out HGE.out) HGE.out
            have hoo := Kd.R_far (p := ⟨g19, 4, none⟩) (Kd.R_far (p := ⟨g19, 2, none⟩) HO.out (fun _ hk => hk.2) (.int .i64 (q1 + p))) (fun _ hk => hk.2) (.int .i64 (q - p))
            have hgz := blk_set (blk_set hg13 2 (.int .i64 (q1 + p))) 4 (.int .i64 (q - p))
            generalize (w12.setCell ⟨g19, 2, none⟩ (.int .i64 (q1 + p))).setCell ⟨g19, 4, none⟩ (.int .i64 (q - p)) = w15 at hen hbb hoo hgz ⊢
            clear HB HE HO HG hg13
            have HB := Aside0.mk hbb
            have HE := Aside0.mk hen
            have HO := Aside0.mk hoo
            have HG := Aside0.mk hgz
            clear hbb hen hoo hgz
            go_upto_region 25 with (first | (go_at_call_of 23 (Value.int IntKind.i64 S); refine (clos_ok lo hi st ht S pS gb5 gb7 _ ?h5 ?h7 HPZ.out).mono ?_; (case h5 => exact HE.out.2.1); (case h7 => exact HE.out.2.2); rintro e w13 ⟨rfl, hb⟩; rw [HYA.out]; (have hg13 := blk_below HG.out hb); (have hen := EN.below HE.out hb); (have hbb := below_step HB.out hb); (have hoo := Kd.R_below HO.out hb); clear HB HE HO HG hb; (try clear hs3 hs5 hf3 hf5); (have HB := Aside0.mk hbb); (have HE := Aside0.mk hen); (have HO := Aside0.mk hoo); (have HG := Aside0.mk hg13); (have hs3 : w13.cell? ⟨g19, 3, none⟩ = some (.int .i64 0) := (blk_cell hg13 3).trans rfl); (have hs5 : w13.cell? ⟨g19, 5, none⟩ = some (.int .i64 0) := (blk_cell hg13 5).trans rfl); (have hf3 := blk_frozen hg13 3); (have hf5 := blk_frozen hg13 5); clear hbb hen hoo hg13) | (go_at_call_of 23 (Value.int IntKind.i64 (S + vv)); refine (clos_ok lo hi st ht (S + vv) pT gb5 gb7 _ ?h5 ?h7 HPV.out).mono ?_; (case h5 => exact HE.out.2.1); (case h7 => exact HE.out.2.2); rintro e w13 ⟨rfl, hb⟩; rw [HYB.out]; (have hg13 := blk_below HG.out hb); (have hen := EN.below HE.out hb); (have hbb := below_step HB.out hb); (have hoo := Kd.R_below HO.out hb); clear HB HE HO HG hb; (try clear hs3 hs5 hf3 hf5); (have HB := Aside0.mk hbb); (have HE := Aside0.mk hen); (have HO := Aside0.mk hoo); (have HG := Aside0.mk hg13); (have hs3 : w13.cell? ⟨g19, 3, none⟩ = some (.int .i64 0) := (blk_cell hg13 3).trans rfl); (have hs5 : w13.cell? ⟨g19, 5, none⟩ = some (.int .i64 0) := (blk_cell hg13 5).trans rfl); (have hf3 := blk_frozen hg13 3); (have hf5 := blk_frozen hg13 5); clear hbb hen hoo hg13))
            clear hs3 hs5 hf3 hf5
            have hg13 := HG.out
            have hen := EN.set (EN.set HE.out hg13 3 (.int .i64 (yb))) (blk_set hg13 3 (.int .i64 (yb))) 5 (.int .i64 (ya - yb))
            have hbb := below_set (j := 5) (v := .int .i64 (ya - yb)) (below_set (j := 3) (v := .int .i64 (yb)) HB.out HGE.out) HGE.out
            have hoo := Kd.R_far (p := ⟨g19, 5, none⟩) (Kd.R_far (p := ⟨g19, 3, none⟩) HO.out (fun _ hk => hk.2) (.int .i64 (yb))) (fun _ hk => hk.2) (.int .i64 (ya - yb))
            have hgz := blk_set (blk_set hg13 3 (.int .i64 (yb))) 5 (.int .i64 (ya - yb))
            generalize (w13.setCell ⟨g19, 3, none⟩ (.int .i64 (yb))).setCell ⟨g19, 5, none⟩ (.int .i64 (ya - yb)) = wz at hen hbb hoo hgz ⊢
            clear HB HE HO HG hg13
            have HB := Aside0.mk hbb
            have HE := Aside0.mk hen
            have HO := Aside0.mk hoo
            have HG := Aside0.mk hgz
            clear hbb hen hoo hgz
            -- the element is appended
            have hs0 : wz.cell? ⟨g19, 0, none⟩ = some (.int .i64 j) := (blk_cell HG.out 0).trans rfl
            have hs1 : wz.cell? ⟨g19, 1, none⟩ = some (.int .i64 i) := (blk_cell HG.out 1).trans rfl
            have hs2 : wz.cell? ⟨g19, 2, none⟩ = some (.int .i64 (q1 + p)) := (blk_cell HG.out 2).trans rfl
            have hs3 : wz.cell? ⟨g19, 3, none⟩ = some (.int .i64 (yb)) := (blk_cell HG.out 3).trans rfl
            have hs4 : wz.cell? ⟨g19, 4, none⟩ = some (.int .i64 (q - p)) := (blk_cell HG.out 4).trans rfl
            have hs5 : wz.cell? ⟨g19, 5, none⟩ = some (.int .i64 (ya - yb)) := (blk_cell HG.out 5).trans rfl
            have HO2 := Aside0.mk (Kd.R_mono HO.out (fun _ _ => trivial : ∀ k : Nat, _ → True))
            go_wp2_with ((with_reducible refine gate_builtin (b := .append) (xs := #[.tmp 179, .tmp 181]) rfl ?_); at_builtin; refine Kd.R_append k42 (w0 := w) w.heap.size rfl (.tmp 179) (.tmp 181) 32 42 (.agg #[(.int .i64 0), (.int .i64 0), (.int .i64 0), (.int .i64 0), (.int .i64 0), (.int .i64 0)]) 48 rfl Try.underlying32 info42 rfl (by decide) (by omega) _ OUT (⟨j, i, q1 + p, yb, q - p, ya - yb⟩ : S42) [.int .i64 j, .int .i64 i, .int .i64 (q1 + p), .int .i64 (yb), .int .i64 (q - p), .int .i64 (ya - yb)] (fun _ => True) (fun _ => False) rfl rfl ?aP (fun _ hk => hk.elim) ?aF ?aO ?aB ?aS ?aL ?_; (case aP => exact k42_mkM _ _ _ (⟨j, i, q1 + p, yb, q - p, ya - yb⟩ : S42)); (case aB => exact HB.out); (case aF => exact (fun _ _ => trivial)); (case aO => exact HO2.out); (case aS => exact HB.out.size); (case aL => have := HOL.out; omega); intro v4 w4 ho hb hgr hat; have hen := EN.grown HE.out hgr (fun k hk => Kd.R_typed HO2.out k hk); clear HO HO2 HB HE HG; have HO := Aside0.mk ho; have HB := Aside0.mk hb; have HE := Aside0.mk hen; clear ho hb hgr hat hen)
            go_roundw
            case rel => exact ⟨j + 1, by first | rfl | rw [hjm], by rw [HFR.out], by omega, by omega, ⟨by rw [show (j + 1).toNat = j.toNat + 1 by omega, HLM.out, ← List.append_assoc, HOUT.out]; exact HO.out⟩, HB, HE⟩
            case measure => first | (simp [intOf]; omega) | (rw [hjm]; simp [intOf]; omega)
          · obtain rfl : j = (ss.length : Int) := by omega
            go_wp2
            go_roundw
            case rel =>
              refine ⟨i + 1, by first | rfl | rw [u1], by omega, by omega, ⟨?_⟩, HB, HE⟩
              rw [show (i + 1).toNat = i.toNat + 1 by omega, barsC_succ, show ((i.toNat : Nat) : Int) = i by omega, itemC, if_neg (by decide), if_pos rfl, hXX.out.1, hXX.out.2]
              rw [HWW.out, u6, HZE.out]
              exact HO.out
            case measure => first | (simp [intOf]; omega) | (rw [u1]; simp [intOf]; omega)
      · go_wp2
        go_loopw [63, 10, 16] (fun v63 v10 v16 w' => ∃ j : Int, v63 = .int .i64 j ∧ v16 = .int .i64 (z) ∧ 0 ≤ j ∧ j ≤ (ss.length : Int) ∧ Aside0 (Kd.R k42 42 w' w.heap.size (fun _ => True) v10 (barsC 2 ss lo hi ht (edg wd nm.length) i.toNat ++ lineL ht i (wrap64 (Int.tdiv (wrap64 (q1 + q3)) 2)) (fun j => PL lo hi ht (rd (rd_L1 ss j) i)) j.toNat)) ∧ Aside0 (Below w.heap.size w w') ∧ Aside0 (EN w' gb4 gb5 gb7 #[.int .i64 2, .slice A1 nm.length c1, .slice A2 ss.length c2] #[.int .i64 lo, .int .i64 hi, .int .i64 st] #[.int .i64 ht])) (fun v63 _ _ _ => ss.length - (intOf v63).toNat)
        case atStart => exact ⟨0, rfl, rfl, by omega, by omega, ⟨by rw [show lineL ht i (wrap64 (Int.tdiv (wrap64 (q1 + q3)) 2)) (fun j => PL lo hi ht (rd (rd_L1 ss j) i)) (0 : Int).toNat = [] from rfl, List.append_nil]; exact HO.out⟩, HB, HE⟩
        case round =>
          clear HB HE HO hc40 hc42 hc50 hc51
          obtain ⟨j, rfl, rfl, hj0, hj1, HO, HB, HE⟩ := hrel
          by_cases hlj : j < (ss.length : Int)
          · have hjm : wrap64 (j + 1) = j + 1 := w64 (by omega) (by omega)
            obtain ⟨ad, Al, cl, ea, hx0, hcl, hC⟩ := at_L1 HR2.out j hj0 hlj
            subst ea
            have hil : i < (rd_L1 ss j).length := by rw [HL.out j hj0 hlj]; exact hlt
            have hpv := HN.out _ (HV.out (by decide) i j hi0 hlt hj0 hlj).1 (HV.out (by decide) i j hi0 hlt hj0 hlj).2
            have hyy : lineL ht i (wrap64 (Int.tdiv (wrap64 (q1 + q3)) 2)) (fun j => PL lo hi ht (rd (rd_L1 ss j) i)) (j.toNat + 1) = lineL ht i (wrap64 (Int.tdiv (wrap64 (q1 + q3)) 2)) (fun j => PL lo hi ht (rd (rd_L1 ss j) i)) j.toNat ++ [⟨j, i, wrap64 (Int.tdiv (wrap64 (q1 + q3)) 2), wrap64 (ht - PL lo hi ht (rd (rd_L1 ss j) i)), 0, 0⟩] := by
              rw [lineL_succ, show ((j.toNat : Nat) : Int) = j by omega]
              rfl
            obtain ⟨pv, hpv2⟩ : ∃ q, PL lo hi ht (rd (rd_L1 ss j) i) = q := ⟨_, rfl⟩
            have hLL := And.intro hpv hyy
            clear hpv hyy
            have HLL : Aside0 (chanceryref3_Near.f (wrap64 (wrap64 (rd (rd_L1 ss j) i - lo) * ht)) (wrap64 (hi - lo)) = some pv) := ⟨by rw [← hpv2]; exact hLL.1⟩
            have HLM : Aside0 (lineL ht i (wrap64 (Int.tdiv (wrap64 (q1 + q3)) 2)) (fun j => PL lo hi ht (rd (rd_L1 ss j) i)) (j.toNat + 1) = lineL ht i (wrap64 (Int.tdiv (wrap64 (q1 + q3)) 2)) (fun j => PL lo hi ht (rd (rd_L1 ss j) i)) j.toNat ++ [⟨j, i, wrap64 (Int.tdiv (wrap64 (q1 + q3)) 2), wrap64 (ht - pv), 0, 0⟩]) := ⟨by rw [← hpv2]; exact hLL.2⟩
            clear hLL hpv2
            obtain ⟨l, hl⟩ : ∃ l, rd_L1 ss j = l := ⟨_, rfl⟩
            rw [hl] at hx0 hcl hC hil HLL
            replace hx0 := (HB.out.cell (World.block_lt_of_cell? _ _ hx0)).trans hx0
            clear hl
            obtain ⟨al, cs9, ea, -, hK9, hc9⟩ := Kd.C_get hC (0 : Int) i hi0 (by omega)
            subst ea
            obtain rfl : cs9 = [.int .i64 (l.getD i.toNat 0)] := hK9
            have hv00 : w.cell? (al.add i.toNat) = some (.int .i64 (rd l i)) := by have hq := hc9 0 _ rfl; rwa [show i.toNat * kI.sz + 0 = i.toNat from by show i.toNat * 1 + 0 = i.toNat; omega] at hq
            have hv0 : wr.cell? (al.add i.toNat) = some (.int .i64 (rd l i)) := (HB.out.cell (World.block_lt_of_cell? _ _ hv00)).trans hv00
            clear hc9 hC hv00
            obtain ⟨vv, hvv⟩ : ∃ x, rd l i = x := ⟨_, rfl⟩
            rw [hvv] at hv0 HLL
            clear hvv
            obtain ⟨OUT, hOUT⟩ : ∃ O, barsC 2 ss lo hi ht (edg wd nm.length) i.toNat ++ lineL ht i (wrap64 (Int.tdiv (wrap64 (q1 + q3)) 2)) (fun j => PL lo hi ht (rd (rd_L1 ss j) i)) j.toNat = O := ⟨_, rfl⟩
            have hOL : OUT.length ≤ 1000000 := by
              have h1 : i.toNat * ss.length ≤ 200 * 12 := Nat.mul_le_mul (by omega) hm
              rw [← hOUT, List.length_append, barsC_length]
              first | (rw [besideL, List.length_map, List.length_range]; omega) | (rw [stackL, List.length_map, List.length_range]; omega) | (rw [lineL, List.length_map, List.length_range]; omega)
            have HOL := Aside0.mk hOL
            have HOUT := Aside0.mk hOUT
            rw [hOUT] at HO
            clear hOL hOUT
            have hc42 : wr.cell? ⟨gb4, 2, none⟩ = some (.slice (some ad) ss.length c2) := (blk_cell HE.out.1 2).trans rfl
            go_upto_region 14 with (first
              | ((with_reducible refine gate_dst (N := 19) rfl ?_); refine box_event ?hg (N := 19) ?hd (cs := #[.int .i64 0, .int .i64 0, .int .i64 0, .int .i64 0, .int .i64 0, .int .i64 0]) (t := 42) ?hr ?_; (case hd => rfl); (case hg => rfl); (case hr => first | (go_simp; done) | (go_simp; rfl)); intro g19 hg w11 hbox hb; (have ho19 := Kd.R_below (Kd.R_elderB HO.out g19 (Nat.le_of_eq hg.symm)) hb); (have hbb := below_step HB.out hb); (have hen := EN.below HE.out hb); (have hge : w.heap.size ≤ g19 := by rw [hg]; exact HB.out.size); clear HO HB HE; (have HO := Aside0.mk ho19); (have HB := Aside0.mk hbb); (have HE := Aside0.mk hen); (have HG := Aside0.mk hbox); (have HGE := Aside0.mk hge); clear ho19 hbb hen hbox hge hg hb)
              | ((with_reducible refine gate_store (t := 42) (p := 19) rfl ?_); refine agg_event (w0 := w) rfl rfl 42 (.tmp 19) (.tmp 76) rfl (g := g19) (e := 42) (.agg #[.int .i64 j, .int .i64 i, .int .i64 0, .int .i64 0, .int .i64 0, .int .i64 0]) [.int .i64 j, .int .i64 i, .int .i64 0, .int .i64 0, .int .i64 0, .int .i64 0] rfl rfl rfl (by kernel_rfl) HG.out rfl (by simp only [List.mem_cons, List.not_mem_nil, or_false, forall_eq_or_imp, forall_eq]; exact ⟨rfl, rfl, rfl, rfl, rfl, rfl⟩) HB.out HGE.out ?_; intro w12 hbox hbb hgr; (have ho19 := Kd.R_grown HO.out hgr (fun k hk e => hk.2 (by injection e))); (have hen := EN.grown HE.out hgr (fun k hk => by injection hk with hk; subst hk; exact ⟨_, HG.out⟩)); clear HO HB HE HG; (have HO := Aside0.mk ho19); (have HB := Aside0.mk hbb); (have HE := Aside0.mk hen); (have HG := Aside0.mk hbox); clear ho19 hbb hen hbox hgr))
            clear hc42 hx0 hv0
            have hc40 : w12.cell? ⟨gb4, 0, none⟩ = some (.int .i64 2) := (blk_cell HE.out.1 0).trans rfl
            have hf2 : w12.frozen? ⟨g19, 2, none⟩ = false := blk_frozen HG.out 2
            have hf3 : w12.frozen? ⟨g19, 3, none⟩ = false := blk_frozen HG.out 3
            have hs2 : w12.cell? ⟨g19, 2, none⟩ = some (.int .i64 0) := (blk_cell HG.out 2).trans rfl
            have hs3 : w12.cell? ⟨g19, 3, none⟩ = some (.int .i64 0) := (blk_cell HG.out 3).trans rfl
            go_upto_region 20 with (fail)
            go_region_with (go_at_call 23; refine (clos_ok lo hi st ht vv pv gb5 gb7 _ ?h5 ?h7 HLL.out).mono ?_; (case h5 => exact HE.out.2.1); (case h7 => exact HE.out.2.2); rintro e w13 ⟨rfl, hb⟩; (have hb2 : Below w12.heap.size w12 w13 := below_step (pw_below_drewN (Below.refl w12.heap.size w12) 1) hb); (have hs2 : w13.cell? ⟨g19, 2, none⟩ = some (.int .i64 0) := (blk_cell (blk_below HG.out hb2) 2).trans rfl); (have hs3 : w13.cell? ⟨g19, 3, none⟩ = some (.int .i64 0) := (blk_cell (blk_below HG.out hb2) 3).trans rfl); (have hf2 : w13.frozen? ⟨g19, 2, none⟩ = false := blk_frozen (blk_below HG.out hb2) 2); (have hf3 : w13.frozen? ⟨g19, 3, none⟩ = false := blk_frozen (blk_below HG.out hb2) 3); have HB2 := Aside0.mk hb2; clear hb hb2)
            simp only [i64_w]
            have hg13 := blk_below HG.out HB2.out
            have hen := EN.set (EN.set (EN.below HE.out HB2.out) hg13 2 (.int .i64 (wrap64 (Int.tdiv (wrap64 (q1 + q3)) 2)))) (blk_set hg13 2 (.int .i64 (wrap64 (Int.tdiv (wrap64 (q1 + q3)) 2)))) 3 (.int .i64 (wrap64 (ht - pv)))
            have hbb := below_set (j := 3) (v := .int .i64 (wrap64 (ht - pv))) (below_set (j := 2) (v := .int .i64 (wrap64 (Int.tdiv (wrap64 (q1 + q3)) 2))) (below_step HB.out HB2.out) HGE.out) HGE.out
            have hoo := Kd.R_far (p := ⟨g19, 3, none⟩) (Kd.R_far (p := ⟨g19, 2, none⟩) (Kd.R_below HO.out HB2.out) (fun _ hk => hk.2) (.int .i64 (wrap64 (Int.tdiv (wrap64 (q1 + q3)) 2)))) (fun _ hk => hk.2) (.int .i64 (wrap64 (ht - pv)))
            have hgz := blk_set (blk_set hg13 2 (.int .i64 (wrap64 (Int.tdiv (wrap64 (q1 + q3)) 2)))) 3 (.int .i64 (wrap64 (ht - pv)))
            generalize (w13.setCell ⟨g19, 2, none⟩ (.int .i64 (wrap64 (Int.tdiv (wrap64 (q1 + q3)) 2)))).setCell ⟨g19, 3, none⟩ (.int .i64 (wrap64 (ht - pv))) = wz at hen hbb hoo hgz ⊢
            clear HB HE HO HG HB2 hs2 hs3 hf2 hf3 hg13
            have HB := Aside0.mk hbb
            have HE := Aside0.mk hen
            have HO := Aside0.mk hoo
            have HG := Aside0.mk hgz
            clear hbb hen hoo hgz
            -- the element is appended
            have hs0 : wz.cell? ⟨g19, 0, none⟩ = some (.int .i64 j) := (blk_cell HG.out 0).trans rfl
            have hs1 : wz.cell? ⟨g19, 1, none⟩ = some (.int .i64 i) := (blk_cell HG.out 1).trans rfl
            have hs2 : wz.cell? ⟨g19, 2, none⟩ = some (.int .i64 (wrap64 (Int.tdiv (wrap64 (q1 + q3)) 2))) := (blk_cell HG.out 2).trans rfl
            have hs3 : wz.cell? ⟨g19, 3, none⟩ = some (.int .i64 (wrap64 (ht - pv))) := (blk_cell HG.out 3).trans rfl
            have hs4 : wz.cell? ⟨g19, 4, none⟩ = some (.int .i64 (0)) := (blk_cell HG.out 4).trans rfl
            have hs5 : wz.cell? ⟨g19, 5, none⟩ = some (.int .i64 (0)) := (blk_cell HG.out 5).trans rfl
            have HO2 := Aside0.mk (Kd.R_mono HO.out (fun _ _ => trivial : ∀ k : Nat, _ → True))
            go_wp2_with ((with_reducible refine gate_builtin (b := .append) (xs := #[.tmp 179, .tmp 181]) rfl ?_); at_builtin; refine Kd.R_append k42 (w0 := w) w.heap.size rfl (.tmp 179) (.tmp 181) 32 42 (.agg #[(.int .i64 0), (.int .i64 0), (.int .i64 0), (.int .i64 0), (.int .i64 0), (.int .i64 0)]) 48 rfl Try.underlying32 info42 rfl (by decide) (by omega) _ OUT (⟨j, i, wrap64 (Int.tdiv (wrap64 (q1 + q3)) 2), wrap64 (ht - pv), 0, 0⟩ : S42) [.int .i64 j, .int .i64 i, .int .i64 (wrap64 (Int.tdiv (wrap64 (q1 + q3)) 2)), .int .i64 (wrap64 (ht - pv)), .int .i64 (0), .int .i64 (0)] (fun _ => True) (fun _ => False) rfl rfl ?aP (fun _ hk => hk.elim) ?aF ?aO ?aB ?aS ?aL ?_; (case aP => exact k42_mkM _ _ _ (⟨j, i, wrap64 (Int.tdiv (wrap64 (q1 + q3)) 2), wrap64 (ht - pv), 0, 0⟩ : S42)); (case aB => exact HB.out); (case aF => exact (fun _ _ => trivial)); (case aO => exact HO2.out); (case aS => exact HB.out.size); (case aL => have := HOL.out; omega); intro v4 w4 ho hb hgr hat; have hen := EN.grown HE.out hgr (fun k hk => Kd.R_typed HO2.out k hk); clear HO HO2 HB HE HG; have HO := Aside0.mk ho; have HB := Aside0.mk hb; have HE := Aside0.mk hen; clear ho hb hgr hat hen)
            go_roundw
            case rel => exact ⟨j + 1, by first | rfl | rw [hjm], by first | rfl | (rw [HFR.out]), by omega, by omega, ⟨by rw [show (j + 1).toNat = j.toNat + 1 by omega, HLM.out, ← List.append_assoc, HOUT.out]; exact HO.out⟩, HB, HE⟩
            case measure => first | (simp [intOf]; omega) | (rw [hjm]; simp [intOf]; omega)
          · obtain rfl : j = (ss.length : Int) := by omega
            go_wp2
            go_roundw
            case rel =>
              refine ⟨i + 1, by first | rfl | rw [u1], by omega, by omega, ⟨?_⟩, HB, HE⟩
              rw [show (i + 1).toNat = i.toNat + 1 by omega, barsC_succ, show ((i.toNat : Nat) : Int) = i by omega, itemC, if_neg (by decide), if_neg (by decide), hXX.out.1, hXX.out.2]
              skip
              exact HO.out
            case measure => first | (simp [intOf]; omega) | (rw [u1]; simp [intOf]; omega)
    · obtain rfl : i = (nm.length : Int) := by omega
      go_wp2
      go_ret
      exact ⟨_, rfl, HO.out, HB.out⟩
end Go.Proofs.Ytemginkjkmmimaa.HandCB
