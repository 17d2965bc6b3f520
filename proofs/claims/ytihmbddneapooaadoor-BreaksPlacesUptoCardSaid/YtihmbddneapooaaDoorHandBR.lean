/- Walked by hand: breaks.Places: a scan (a local structure, handed to its own methods) goes over the text and the places are gathered in a slice. -/
import Derived.Test.YtihmbddneapooaaDoorQBSx0
import Derived.Test.YtihmbddneapooaaDoorLib
import Derived.Outline
namespace Go.Proofs.YtihmbddneapooaaDoor.HandBR
open Go.RowKit Go.Proofs.YtihmbddneapooaaDoorW.PrintWords Go.Proofs.YtihmbddneapooaaDoorW.PrintLast Go.Proofs.YtihmbddneapooaaDoorW.PrintMore Go.Proofs.YtihmbddneapooaaDoor.HandMB
open QBS (S34 k34) 
set_option linter.unusedVariables false
/-- The scan's fields. -/
structure Sc where
  base : Int
  before : Int
  spaces : Int
  firm : Int
  any : Bool
  joined : Bool
/-- One character: the places behind it, the scan behind it. -/
def stepS (k : Nat) (l : List Int) (i : Int) (out : List S34) (s : Sc) : Option (List S34 × Sc) :=
  if i > 0 then
    (QBR.breaks_scan_may.f k s.base s.before s.spaces s.firm s.any s.joined (rd l i)).bind fun m =>
      if m.2.1 = true then
        (if out.length < 8796093022208 then (QBR.breaks_scan_step.f k m.2.2.1 m.2.2.2.1 m.2.2.2.2.1 m.2.2.2.2.2.1 m.2.2.2.2.2.2.1 m.2.2.2.2.2.2.2 (rd l i)).bind fun t => some (out ++ [⟨i, m.1⟩], ⟨t.1, t.2.1, t.2.2.1, t.2.2.2.1, t.2.2.2.2.1, t.2.2.2.2.2⟩) else none)
      else (QBR.breaks_scan_step.f k m.2.2.1 m.2.2.2.1 m.2.2.2.2.1 m.2.2.2.2.2.1 m.2.2.2.2.2.2.1 m.2.2.2.2.2.2.2 (rd l i)).bind fun t => some (out, ⟨t.1, t.2.1, t.2.2.1, t.2.2.2.1, t.2.2.2.2.1, t.2.2.2.2.2⟩)
  else (QBR.breaks_scan_step.f k s.base s.before s.spaces s.firm s.any s.joined (rd l i)).bind fun t => some (out, ⟨t.1, t.2.1, t.2.2.1, t.2.2.2.1, t.2.2.2.2.1, t.2.2.2.2.2⟩)
def breaks_Places.l0 (q : Nat) (l : List Int) : Nat → Int → List S34 → Sc → Option (List S34 × Int)
  | 0, _, _, _ => none
  | k + 1, i, out, s => if i < (l.length : Int) then (if 0 ≤ i then ((stepS q l i out s).bind fun p => breaks_Places.l0 q l k (wrap64 (i + 1)) p.1 p.2) else none) else some (out, 0)
theorem info34 : (Tryd.prog.info? 34).map (fun i => (i.zero, i.size, i.bytes)) = some (some (.agg #[.int .i64 0, .int .i64 0]), 2, 16) := by kernel_rfl
def breaks_Places.f (k : Nat) (l0 : List Int) : Option (List S34 × Int) :=
  (QBR.breaks_check.f k l0).bind fun e => if e = 0 then breaks_Places.l0 k l0 k 0 [] ⟨0, 1, 0, 0, false, false⟩ else some ([], e)
theorem stepS_mono (q : Nat) (l : List Int) (i : Int) (out : List S34) (s : Sc) : LeO (stepS q l i out s) (stepS (q + 1) l i out s) := by
  unfold stepS
  refine LeO.ite (LeO.bind (QBR.breaks_scan_may.mono _ _ _ _ _ _ _ _) fun m => LeO.ite (LeO.ite (LeO.bind (QBR.breaks_scan_step.mono _ _ _ _ _ _ _ _) fun _ => LeO.refl _) (LeO.refl _)) (LeO.bind (QBR.breaks_scan_step.mono _ _ _ _ _ _ _ _) fun _ => LeO.refl _)) (LeO.bind (QBR.breaks_scan_step.mono _ _ _ _ _ _ _ _) fun _ => LeO.refl _)
theorem l0_q (q : Nat) (l : List Int) : ∀ (k : Nat) (i : Int) (out : List S34) (s : Sc), LeO (breaks_Places.l0 q l k i out s) (breaks_Places.l0 (q + 1) l k i out s)
  | 0, _, _, _ => LeO.none _
  | k + 1, i, out, s => LeO.ite (LeO.ite (LeO.bind (stepS_mono q l i out s) fun p => l0_q q l k _ _ _) (LeO.refl _)) (LeO.refl _)
theorem l0_k (q : Nat) (l : List Int) : ∀ (k : Nat) (i : Int) (out : List S34) (s : Sc), LeO (breaks_Places.l0 q l k i out s) (breaks_Places.l0 q l (k + 1) i out s)
  | 0, _, _, _ => LeO.none _
  | k + 1, i, out, s => LeO.ite (LeO.ite (LeO.bind (LeO.refl _) fun p => l0_k q l k _ _ _) (LeO.refl _)) (LeO.refl _)
theorem breaks_Places.mono (a0 : List Int) (k : Nat) : LeO (breaks_Places.f k a0) (breaks_Places.f (k + 1) a0) := by
  unfold breaks_Places.f
  exact LeO.bind (QBR.breaks_check.mono _ _) fun e => LeO.ite (LeO.trans (l0_q k a0 k 0 [] _) (l0_k (k + 1) a0 k 0 [] _)) (LeO.refl _)
section
variable {P : Program} {ops : Array Oper} {rest : List Oper} {o : Oper} {a : Act} {Q : Exit → Act → World → Prop}
/-- A whole structure is stored into a block of one's own. -/
theorem agg_event {w0 W : World} (hgd : o.guard = none) (hN : o.dst = none) (t : TypeId) (p x : Operand) (ho : o.op = .store t p x) {g : Nat} {e : TypeId} {cur : Array Value} (u : Value) (seg : List Value)
    (haddr : a.eval p = .pointer (some ⟨g, 0, none⟩)) (hx : a.eval x = u) (hu : u.cells.toList = seg) (ht : (P.info? t).map (·.size) = some seg.length) (hh : W.heap[g]? = some (.cells cur e (0, 0))) (hfit : cur.size = seg.length) (h1 : ∀ q ∈ seg, q.oneCell' = true)
    (HB : Below w0.heap.size w0 W) (hge : w0.heap.size ≤ g)
    (h : ∀ w1, w1.heap[g]? = some (.cells seg.toArray e (0, 0)) → Below w0.heap.size w0 w1 → W.grownBy w1 (some g) → wpList P ops Q rest a w1) : wpList P ops Q (o :: rest) a W := by
  have hrun : (Instr.storeAt t (.pointer (some ⟨g, 0, none⟩)) u).run P W = .ok () (W.setCells g 0 seg) := run_store_run t u seg hh hu ht (by omega) h1
  obtain ⟨cur', hrow, _, hl⟩ := setCells_row (g := g) (e := e) seg 0 W cur hh (by omega)
  have hcur : cur' = seg.toArray := by
    rw [List.drop_eq_nil_of_le (by rw [Array.length_toList]; omega), List.take_zero, List.append_nil, List.nil_append] at hl
    rw [← hl]
  rw [hcur] at hrow
  have hs := setCells_same g seg 0 W
  have hg : W.grownBy (W.setCells g 0 seg) (some g) := ⟨hs.1, hs.2.1, hs.2.2.1, by omega, fun k _ hk => setCells_far seg 0 k (fun e => hk (by rw [e]))⟩
  have hB : Below w0.heap.size w0 (W.setCells g 0 seg) := pw_below_grown HB (some g) HB.size hg (fun k hk => by cases hk; exact hge)
  refine wpList_plain hgd fun K hK => ?_
  unfold Oper.wp execOp
  simp only [ho, haddr, hx, Sem.run_bind, Sem.run_pure, Result.andThen_ok, hrun]
  show K (a.put o.dst undef) _
  rw [hN]
  exact hK a _ (h _ hrow hB hg)
end
set_option maxHeartbeats 4000000 in
theorem breaks_Places.calls (k : Nat) (A0 : Option Addr) (c0 : Nat) (l0 : List Int) (r1 : List S34) (r2 : Int) (w : World) (hr0 : Kd.C (Kd.int .i64) w A0 l0.length l0) (hc0 : l0.length ≤ c0) (h : breaks_Places.f k l0 = some (r1, r2)) (hL : LaidW w) :
    Calls Tryd.prog 23 #[.slice A0 l0.length c0] w fun e w' => ∃ v0_ : Value, e = .returned (.tuple #[v0_, .int .i64 r2]) ∧ Kd.R k34 34 w' w.heap.size (fun _ => True) v0_ r1 ∧ Below w.heap.size w w' := by
  have hu63 := Tryd.underlying63
  have hu34 := Tryd.underlying34
  have HR0 := Aside0.mk hr0
  have HC0 := Aside0.mk hc0
  have HL := Aside0.mk hL
  have HB := Aside0.mk (Below.refl w.heap.size w)
  clear hr0 hc0 hL
  obtain ⟨e, he, h⟩ := Option.bind_eq_some_iff.1 h
  have HE := Aside0.mk he
  clear he
  by_cases e0 : e = 0
  · subst e0
    rw [if_pos rfl] at h
    have H := Aside0.mk h
    clear h
    go_enter Tryd.func23, Tryd.ntmps23
    go_wp2_with (first | (go_at_call 31; refine (QBR.breaks_check.calls k A0 c0 l0 0 _ HR0.out HC0.out HE.out).mono ?_; rintro e w' ⟨rfl, ⟨nd, rfl⟩⟩) | ((with_reducible refine gate_dst (N := 6) rfl ?_); refine box_event ?hg (N := 6) ?hd (cs := #[.int .i64 0, .int .i64 0, .int .i64 0, .int .i64 0, .bool false, .bool false]) (t := 63) ?hr ?_; (case hd => rfl); (case hg => rfl); (case hr => first | (go_simp; done) | (go_simp; rfl)); intro g hg w1 hbox hb; have HBX := Aside0.mk hbox; have HGE := Aside0.mk (show w.heap.size ≤ g by rw [hg]; exact (below_size (by repeat (first | exact HB.out | apply below_alloc | apply pw_below_drewN | apply below_drew)))); have HB1 := Aside0.mk (below_step (by repeat (first | exact HB.out | apply below_alloc | apply pw_below_drewN | apply below_drew)) hb); clear hbox hg hb HB; have HB := HB1; clear HB1) | ((with_reducible refine gate_store (t := 63) (p := 6) rfl ?_); refine agg_event (w0 := w) rfl rfl 63 (.tmp 6) (.tmp 16) rfl (g := g) (e := 63) (.agg #[.int .i64 0, .int .i64 1, .int .i64 0, .int .i64 0, .bool false, .bool false]) [.int .i64 0, .int .i64 1, .int .i64 0, .int .i64 0, .bool false, .bool false] rfl rfl rfl (by kernel_rfl) HBX.out rfl (by simp only [List.mem_cons, List.not_mem_nil, or_false, forall_eq_or_imp, forall_eq]; exact ⟨rfl, rfl, rfl, rfl, rfl, rfl⟩) HB.out HGE.out ?_; intro w2 hbox hb hgr; clear HBX HB; have HBX := Aside0.mk hbox; have HB := Aside0.mk hb; clear hbox hb hgr))
    go_loopg [5, 19] k (fun kq v5 v19 w' => ∃ (out : List S34) (i : Int) (s : Sc), v19 = .int .i64 i ∧ Aside0 (breaks_Places.l0 k l0 kq i out s = some (r1, r2)) ∧ Aside0 (kq ≤ k) ∧ Aside0 (Kd.R k34 34 w' w.heap.size (fun _ => True) v5 out) ∧ Aside0 (QBR.IsS63 w w' g s.base s.before s.spaces s.firm s.any s.joined) ∧ Aside0 (Below w.heap.size w w'))
    case atStart => exact ⟨[], 0, ⟨0, 1, 0, 0, false, false⟩, rfl, H, ⟨Nat.le_refl _⟩, ⟨Kd.R_nil _ _ _ _ _⟩, ⟨⟨HBX.out, HGE.out⟩⟩, HB⟩
    case round =>
      clear H HBX HB
      obtain ⟨out, i, s, rfl, HA, HK1, HO, HI, HB⟩ := hrel
      cases gk with
      | zero => exact absurd HA.out (by simp [breaks_Places.l0])
      | succ k1 =>
        have H := HA.out
        clear HA
        simp only [breaks_Places.l0] at H
        by_cases c1 : i < (l0.length : Int)
        · rw [if_pos c1] at H
          by_cases c2 : 0 ≤ i
          · rw [if_pos c2] at H
            obtain ⟨⟨p1, p2⟩, hp, H⟩ := Option.bind_eq_some_iff.1 H
            have H' := Aside0.mk H
            clear H
            obtain ⟨ad, e126, hx⟩ := Kd.at_int HR0.out i c2 c1
            cases e126
            replace hx := (HB.out.cell (World.block_lt_of_cell? w _ hx)).trans hx
            have c2t := eq_true c2
            have c1t := eq_true c1
            have c1b : decide (i < (l0.length : Int)) = true := decide_eq_true c1
            unfold stepS at hp
            by_cases c3 : i > 0
            · rw [if_pos c3] at hp
              have c3b : decide (i > 0) = true := decide_eq_true c3
              have c3c : decide (0 < i) = true := decide_eq_true c3
              obtain ⟨⟨m1, m2, mb, mf, ms, mi, ma, mj⟩, hm, hp⟩ := Option.bind_eq_some_iff.1 hp
              have HM := Aside0.mk hm
              clear hm c1 c2 c3
              cases m2
              · rw [if_neg (by simp)] at hp
                obtain ⟨⟨t1, t2, t3, t4, t5, t6⟩, ht, hp⟩ := Option.bind_eq_some_iff.1 hp
                obtain ⟨rfl, rfl⟩ := Prod.mk.inj (Option.some.inj hp)
                have HT := Aside0.mk ht
                clear ht hp
                go_wp2_with (first | (go_at_call 32; refine (QBR.breaks_scan_may.calls k g s.base s.before s.spaces s.firm s.any s.joined (rd l0 i) m1 false mb mf ms mi ma mj w _ HI.out HB.out HM.out ?sL).mono ?_; (case sL => exact LaidW.now HL.out HB.out); rintro e w3 ⟨rfl, hi, hb, hk⟩; have n1_ := Aside0.mk (Kd.R_mono (Kd.R_keep (QBR.IsS63.apart HI.out HO.out (by decide)) hk (fun _ hk => hk.2)) (fun _ _ => trivial : ∀ k : Nat, _ → True)); have n2_ := Aside0.mk hi; have n3_ := Aside0.mk hb; clear HO HI HB; have HO := n1_; have HI := n2_; have HB := n3_; clear n1_ n2_ n3_ hi hb hk) | (go_at_call 33; refine (QBR.breaks_scan_step.calls k g mb mf ms mi ma mj (rd l0 i) t1 t2 t3 t4 t5 t6 w _ HI.out HB.out HT.out ?sL).mono ?_; (case sL => exact LaidW.now HL.out HB.out); rintro e w5 ⟨rfl, hi, hb, hk⟩; have n1_ := Aside0.mk (Kd.R_mono (Kd.R_keep (QBR.IsS63.apart HI.out HO.out (by decide)) hk (fun _ hk => hk.2)) (fun _ _ => trivial : ∀ k : Nat, _ → True)); have n2_ := Aside0.mk hi; have n3_ := Aside0.mk hb; clear HO HI HB; have HO := n1_; have HI := n2_; have HB := n3_; clear n1_ n2_ n3_ hi hb hk))
                go_roundg k1
                case measure => have := HK1.out; omega
                case rel => exact ⟨out, wrap64 (i + 1), ⟨t1, t2, t3, t4, t5, t6⟩, rfl, H', ⟨by have := HK1.out; omega⟩, HO, HI, HB⟩
              · rw [if_pos rfl] at hp
                by_cases c5 : out.length < 8796093022208
                · rw [if_pos c5] at hp
                  have LMc := Aside0.mk c5
                  clear c5
                  obtain ⟨⟨t1, t2, t3, t4, t5, t6⟩, ht, hp⟩ := Option.bind_eq_some_iff.1 hp
                  obtain ⟨rfl, rfl⟩ := Prod.mk.inj (Option.some.inj hp)
                  have HT := Aside0.mk ht
                  clear ht hp
                  go_wp2_with (first | (go_at_call 32; refine (QBR.breaks_scan_may.calls k g s.base s.before s.spaces s.firm s.any s.joined (rd l0 i) m1 true mb mf ms mi ma mj w _ HI.out HB.out HM.out ?sL).mono ?_; (case sL => exact LaidW.now HL.out HB.out); rintro e w3 ⟨rfl, hi, hb, hk⟩; have n1_ := Aside0.mk (Kd.R_mono (Kd.R_keep (QBR.IsS63.apart HI.out HO.out (by decide)) hk (fun _ hk => hk.2)) (fun _ _ => trivial : ∀ k : Nat, _ → True)); have n2_ := Aside0.mk hi; have n3_ := Aside0.mk hb; clear HO HI HB; have HO := n1_; have HI := n2_; have HB := n3_; clear n1_ n2_ n3_ hi hb hk) | ((with_reducible refine gate_builtin (b := .append) (xs := #[.tmp 32, .tmp 36]) rfl ?_); at_builtin; refine Kd.R_append k34 (w0 := w) w.heap.size rfl (.tmp 32) (.tmp 36) 29 34 (.agg #[(.int .i64 0), (.int .i64 0)]) 16 rfl Tryd.underlying29 info34 rfl (by decide) (by omega) u5 out (⟨i, m1⟩ : S34) [.int .i64 i, .int .i64 m1] (fun _ => True) (fun _ => False) rfl rfl ?aP (fun _ hk => hk.elim) ?aF ?aO ?aB ?aS ?aL ?_; (case aP => exact QBS.k34_mkM _ _ _ (⟨i, m1⟩ : S34)); (case aB => exact HB.out); (case aF => exact (fun _ _ => trivial)); (case aO => exact HO.out); (case aS => exact (below_size HB.out)); (case aL => have := LMc.out; omega); intro v4 w4 ho hb hg hat; have n1_ := Aside0.mk ho; have n2_ := Aside0.mk (QBR.IsS63.grown HI.out hg (QBR.IsS63.own_ne HI.out HO.out (by decide))); have n3_ := Aside0.mk hb; clear HO HI HB; have HO := n1_; have HI := n2_; have HB := n3_; clear n1_ n2_ n3_ ho hb hg hat) | (go_at_call 33; refine (QBR.breaks_scan_step.calls k g mb mf ms mi ma mj (rd l0 i) t1 t2 t3 t4 t5 t6 w _ HI.out HB.out HT.out ?sL).mono ?_; (case sL => exact LaidW.now HL.out HB.out); rintro e w5 ⟨rfl, hi, hb, hk⟩; have n1_ := Aside0.mk (Kd.R_mono (Kd.R_keep (QBR.IsS63.apart HI.out HO.out (by decide)) hk (fun _ hk => hk.2)) (fun _ _ => trivial : ∀ k : Nat, _ → True)); have n2_ := Aside0.mk hi; have n3_ := Aside0.mk hb; clear HO HI HB; have HO := n1_; have HI := n2_; have HB := n3_; clear n1_ n2_ n3_ hi hb hk))
                  go_roundg k1
                  case measure => have := HK1.out; omega
                  case rel => exact ⟨out ++ [⟨i, m1⟩], wrap64 (i + 1), ⟨t1, t2, t3, t4, t5, t6⟩, rfl, H', ⟨by have := HK1.out; omega⟩, HO, HI, HB⟩
                · rw [if_neg c5] at hp
                  exact absurd hp (by simp)
            · rw [if_neg c3] at hp
              have c3b : decide (i > 0) = false := decide_eq_false c3
              have c3c : decide (0 < i) = false := decide_eq_false c3
              clear c1 c2 c3
              obtain ⟨⟨t1, t2, t3, t4, t5, t6⟩, ht, hp⟩ := Option.bind_eq_some_iff.1 hp
              obtain ⟨rfl, rfl⟩ := Prod.mk.inj (Option.some.inj hp)
              have HT := Aside0.mk ht
              clear ht hp
              go_wp2_with ((go_at_call 33; refine (QBR.breaks_scan_step.calls k g s.base s.before s.spaces s.firm s.any s.joined (rd l0 i) t1 t2 t3 t4 t5 t6 w _ HI.out HB.out HT.out ?sL).mono ?_; (case sL => exact LaidW.now HL.out HB.out); rintro e w5 ⟨rfl, hi, hb, hk⟩; have n1_ := Aside0.mk (Kd.R_mono (Kd.R_keep (QBR.IsS63.apart HI.out HO.out (by decide)) hk (fun _ hk => hk.2)) (fun _ _ => trivial : ∀ k : Nat, _ → True)); have n2_ := Aside0.mk hi; have n3_ := Aside0.mk hb; clear HO HI HB; have HO := n1_; have HI := n2_; have HB := n3_; clear n1_ n2_ n3_ hi hb hk))
              go_roundg k1
              case measure => have := HK1.out; omega
              case rel => exact ⟨out, wrap64 (i + 1), ⟨t1, t2, t3, t4, t5, t6⟩, rfl, H', ⟨by have := HK1.out; omega⟩, HO, HI, HB⟩
          · rw [if_neg c2] at H
            exact absurd H (by simp)
        · rw [if_neg c1] at H
          have c1b : decide (i < (l0.length : Int)) = false := decide_eq_false c1
          obtain ⟨rfl, rfl⟩ := Prod.mk.inj (Option.some.inj H)
          clear H c1
          go_wp2
          go_ret2
          exact ⟨_, rfl, HO.out, HB.out⟩
  · rw [if_neg e0] at h
    obtain ⟨rfl, rfl⟩ := Prod.mk.inj (Option.some.inj h)
    clear h
    have e0b : (e == 0) = false := beq_eq_false_iff_ne.2 e0
    have e0c : (e != 0) = true := bne_iff_ne.2 e0
    clear e0
    go_enter Tryd.func23, Tryd.ntmps23
    go_wp2_with (go_at_call 31; refine (QBR.breaks_check.calls k A0 c0 l0 e _ HR0.out HC0.out HE.out).mono ?_; rintro e w' ⟨rfl, ⟨nd, rfl⟩⟩)
    go_ret2
    exact ⟨_, rfl, Kd.R_nil _ _ _ _ _, by repeat (first | exact HB.out | apply below_alloc | apply pw_below_drewN | apply below_drew)⟩
end Go.Proofs.YtihmbddneapooaaDoor.HandBR
