import Derived.Test.YthapclmfkjldaaaHandLNd
import Derived.Test.YthapclmfkjldaaaCells
namespace Go.Proofs.Ythapclmfkjldaaa.HandLN
set_option linter.unusedSectionVars false
set_option linter.unusedVariables false
set_option linter.unusedSimpArgs false
open Go.Proofs.Ythapclmfkjldaaa.Lib (w64)
open Go.RowKit Go.Proofs.YthapclmfkjldaaaW.PrintWords Go.Proofs.YthapclmfkjldaaaW.PrintLast Go.Proofs.YthapclmfkjldaaaW.PrintMore Go.Proofs.Ythapclmfkjldaaa.QLN
attribute [local go_sem] max2_int min2_int max_two min_two
theorem info41 : (Try.prog.info? 41).map (fun i => (i.zero, i.size, i.bytes)) = some (some (.agg #[.int .i64 0, .int .i64 0, .int .i64 0, .int .i64 0, .int .i64 0, .int .i64 0]), 6, 48) := by kernel_rfl
def endsGo (L : List S49) (W wi gr yi : List Int) (f num : Int) : Nat → Int → List S41 → List S41
 | 0, _, out => out
 | k + 1, t, out =>
  if t ≤ L.length then
   if (mayP L t && (decide (t > f) || mustP L t)) = true then
    let out' := if fullA (lineP L W wi gr yi f t num) = false ∨ out = [] then out ++ [lineP L W wi gr yi f t num] else out
    if fullB (lineP L W wi gr yi f t num) (addP L t) = true then out' else if mustP L t = true then out' else endsGo L W wi gr yi f num k (t + 1) out'
   else if mustP L t = true then out else endsGo L W wi gr yi f num k (t + 1) out
  else out
def endsP (L : List S49) (W wi gr yi : List Int) (f num : Int) : List S41 := endsGo L W wi gr yi f num (L.length + 2) f []
theorem addP_bd (L : List S49) (W wi gr yi be : List Int) (hD : Bd L W wi gr yi be) (t : Int) (t0 : 0 ≤ t) : 0 ≤ addP L t ∧ addP L t ≤ 100000 := by
 unfold addP
 split
 · rename_i h
   have := hD.2.2.2.2.2.2.2.2.1 t t0 h.1
   omega
 · omega
theorem line_bd (L : List S49) (W wi gr yi be : List Int) (hD : Bd L W wi gr yi be) (f t num : Int) (f0 : 0 ≤ f) (ft : f ≤ t) (t1 : t ≤ L.length) (n0 : 0 ≤ num) :
    let x := lineP L W wi gr yi f t num
    (-800000000 ≤ x.f2 ∧ x.f2 ≤ 900000000) ∧ (-800000000 ≤ x.f3 ∧ x.f3 ≤ 800000000) ∧ (-800000000 ≤ x.f4 ∧ x.f4 ≤ 800000000) ∧ (1 ≤ x.f5 ∧ x.f5 ≤ 100000) := by
 have ha := addP_bd L W wi gr yi be hD t (by omega)
 have h1 := hD.2.2.2.2.2.2.2.1 t (by omega) t1
 have h2 := hD.2.2.2.2.2.2.2.1 f f0 (by omega)
 have hm : 0 ≤ mn num ((W.length : Int) - 1) ∧ mn num ((W.length : Int) - 1) < W.length := by
  have := hD.2.1
  unfold mn
  split <;> omega
 have h3 := hD.2.2.2.2.2.2.2.2.2 _ hm.1 hm.2
 simp only [lineP]
 omega
section
variable (w : World) (g : Nat) (L : List S49) (W : List Int) (D : Int) (wi gr yi be : List Int) (hM : MK w g L W D wi gr yi be) (hD : Bd L W wi gr yi be)
include hM hD
set_option maxHeartbeats 8000000 in
set_option maxRecDepth 100000 in
theorem ends_ok (f num : Int) (f0 : 0 ≤ f) (f1 : f ≤ L.length) (n0 : 0 ≤ num) (n1 : num ≤ 1000000) :
    Calls Try.prog 30 #[.pointer (some ⟨g, 0, none⟩), .int .i64 f, .int .i64 num] w fun e w' => ∃ v : Value, e = .returned v ∧ Kd.R k41 41 w' w.heap.size (fun _ => True) v (endsP L W wi gr yi f num) ∧ Below w.heap.size w w' := by
 have hu57 := Try.underlying57
 have hu41 := Try.underlying41
 have hin : L.length ≤ 1000000 := by have := hD.1; omega
 have HM := Aside0.mk hM
 have HD := Aside0.mk hD
 have HB := Aside0.mk (Below.refl w.heap.size w)
 clear hM hD
 go_enter Try.func30, Try.ntmps30
 go_wp2
 go_loopw [8, 7] (fun v8 v7 w' => ∃ (t : Int) (k : Nat) (out : List S41), v8 = .int .i64 t ∧ f ≤ t ∧ t ≤ (L.length : Int) + 1 ∧ t + k = (L.length : Int) + 2 + f ∧ (out.length : Int) ≤ t - f ∧ Aside0 (endsP L W wi gr yi f num = endsGo L W wi gr yi f num k t out) ∧ Aside0 (Kd.R k41 41 w' w.heap.size (fun _ => True) v7 out) ∧ Aside0 (Below w.heap.size w w')) (fun v8 _ _ => L.length + 1 - (intOf v8).toNat)
 case atStart => exact ⟨f, L.length + 2, [], rfl, by omega, by omega, by omega, by simp, ⟨rfl⟩, ⟨Kd.R_nil _ _ _ _ _⟩, HB⟩
 case round =>
  clear HB
  obtain ⟨t, k, out, rfl, ht0, ht1, hk, hol, HE, HO, HB⟩ := hrel
  obtain ⟨A0, c0, A1, c1, A2, c2, A3, c3, A4, c4, A5, c5, hbk, -⟩ := MK.below HM.out HB.out
  have hc0 : wr.cell? ⟨g, 0, none⟩ = some (.slice A0 L.length c0) := (blk_cell hbk 0).trans rfl
  have HBK := Aside0.mk hbk
  clear hbk
  obtain ⟨Ao, co, rfl⟩ := Kd.R_slice HO.out
  by_cases hlt : t ≤ (L.length : Int)
  · have hltb : decide (t ≤ (L.length : Int)) = true := decide_eq_true hlt
    obtain ⟨k', rfl⟩ : ∃ k', k = k' + 1 := ⟨k - 1, by omega⟩
    have htt : wrap64 (t + 1) = t + 1 := w64 (by omega) (by omega)
    have he := HE.out
    rw [endsGo, if_pos hlt] at he
    obtain ⟨my, hmy⟩ : ∃ b, mayP L t = b := ⟨_, rfl⟩
    obtain ⟨mu, hmu⟩ : ∃ b, mustP L t = b := ⟨_, rfl⟩
    obtain ⟨gt, hgt⟩ : ∃ b, decide (t > f) = b := ⟨_, rfl⟩
    rw [hmy, hmu, hgt] at he
    have HMY := Aside0.mk hmy
    have HMU := Aside0.mk hmu
    have HE := Aside0.mk he
    clear he hmy hmu
    go_upto_region 5 with (fail)
    go_cut [34] (fun v34 wc => v34 = .bool (my && (gt || mu)) ∧ Aside0 (Kd.R k41 41 wc w.heap.size (fun _ => True) (.slice Ao out.length co) out) ∧ Aside0 (Below w.heap.size w wc))
    case first =>
     cases my <;> cases gt <;> cases mu
     all_goals (go_wp2_with (first | (go_at_call 37; refine (may_ok _ g L W D wi gr yi be t (MK.below HM.out HB.out) (by omega) hlt hin).mono ?_; rintro e w2 ⟨rfl, hb⟩; rw [HMY.out]; (have hbb := below_step HB.out hb); (have hoo := Kd.R_below HO.out hb); clear HB HO; (have HB := Aside0.mk hbb); (have HO := Aside0.mk hoo); clear hb hbb hoo) | (go_at_call 38; refine (must_ok _ g L W D wi gr yi be t (MK.below HM.out HB.out) (by omega) hlt hin).mono ?_; rintro e w3 ⟨rfl, rfl⟩; rw [HMU.out])))
     all_goals go_meet
     all_goals exact ⟨rfl, HO, HB⟩
    case rest =>
     clear HO HB hc0 HMY
     obtain ⟨rfl, HO, HB⟩ := hcut
     obtain ⟨cn, hcn⟩ : ∃ c, (my && (gt || mu)) = c := ⟨_, rfl⟩
     rw [hcn]
     rw [hcn] at HE
     clear hcn hgt
     cases cn with
     | false =>
      have he := HE.out
      rw [if_neg (by decide)] at he
      cases mu with
      | true =>
       rw [if_pos rfl] at he
       have HE2 := Aside0.mk he
       clear he
       go_wp2_with (go_at_call 38; refine (must_ok _ g L W D wi gr yi be t (MK.below HM.out HB.out) (by omega) hlt hin).mono ?_; rintro e w3 ⟨rfl, rfl⟩; rw [HMU.out])
       go_ret
       exact ⟨_, rfl, by rw [HE2.out]; exact HO.out, HB.out⟩
      | false =>
       rw [if_neg (by decide)] at he
       have HE2 := Aside0.mk he
       clear he
       go_wp2_with (go_at_call 38; refine (must_ok _ g L W D wi gr yi be t (MK.below HM.out HB.out) (by omega) hlt hin).mono ?_; rintro e w3 ⟨rfl, rfl⟩; rw [HMU.out])
       go_roundw
       case rel => exact ⟨t + 1, k', out, by first | rfl | rw [htt], by omega, by omega, by omega, by omega, HE2, HO, HB⟩
       case measure => first | (simp [intOf]; omega) | (rw [htt]; simp [intOf]; omega)
     | true =>
      have he := HE.out
      rw [if_pos rfl] at he
      have xb := line_bd L W wi gr yi be HD.out f t num f0 ht0 hlt n0
      have ab := addP_bd L W wi gr yi be HD.out t (by omega)
      obtain ⟨x, hx⟩ : ∃ x, lineP L W wi gr yi f t num = x := ⟨_, rfl⟩
      obtain ⟨a, ha⟩ : ∃ a, addP L t = a := ⟨_, rfl⟩
      simp only [hx, ha] at he xb ab
      obtain ⟨fa, hfa⟩ : ∃ b, fullA x = b := ⟨_, rfl⟩
      obtain ⟨fb, hfb⟩ : ∃ b, fullB x a = b := ⟨_, rfl⟩
      rw [hfa, hfb] at he
      have HX := Aside0.mk hx
      have HA := Aside0.mk ha
      have HFA := Aside0.mk hfa
      have HFB := Aside0.mk hfb
      have HE2 := Aside0.mk he
      have z1 : wrap64 (x.f2 - x.f4) = x.f2 - x.f4 := w64 (by omega) (by omega)
      have z2 : wrap64 (x.f2 - a) = x.f2 - a := w64 (by omega) (by omega)
      have z3 : wrap64 (x.f2 - a - x.f4) = x.f2 - a - x.f4 := w64 (by omega) (by omega)
      have Z := Aside0.mk (And.intro z1 (And.intro z2 z3))
      clear HE he hx ha hfa hfb xb ab z1 z2 z3
      go_upto_region 7 with (first
       | (go_at_call 24; refine (line_ok _ g L W D wi gr yi be (MK.below HM.out HB.out) HD.out f t num f0 ht0 hlt n0 n1).mono ?_; rintro e w10 ⟨rfl, hb⟩; rw [HX.out]; (have hbb := below_step HB.out hb); (have hoo := Kd.R_below HO.out hb); clear HB HO; (have HB := Aside0.mk hbb); (have HO := Aside0.mk hoo); clear hb hbb hoo)
       | ((with_reducible refine gate_dst (N := 9) rfl ?_); refine box_event ?hg (N := 9) ?hd (cs := #[.int .i64 0, .int .i64 0, .int .i64 0, .int .i64 0, .int .i64 0, .int .i64 0]) (t := 41) ?hr ?_; (case hd => rfl); (case hg => rfl); (case hr => first | (go_simp; done) | (go_simp; rfl)); intro g9 hg w11 hbox hb; (have hoo := Kd.R_below (Kd.R_elderB HO.out g9 (Nat.le_of_eq hg.symm)) hb); (have hge : w.heap.size ≤ g9 := by rw [hg]; exact HB.out.size); (have hbb := below_step HB.out hb); clear HB HO; (have HB := Aside0.mk hbb); (have HO := Aside0.mk hoo); (have H9 := Aside0.mk hbox); (have G9 := Aside0.mk hge); clear hg hbox hb hbb hge hoo)
       | ((with_reducible refine gate_store (t := 41) (p := 9) rfl ?_); refine agg_event (w0 := w) rfl rfl 41 (.tmp 9) (.tmp 39) rfl (g := g9) (e := 41) (.agg #[.int .i64 x.f0, .int .i64 x.f1, .int .i64 x.f2, .int .i64 x.f3, .int .i64 x.f4, .int .i64 x.f5]) [.int .i64 x.f0, .int .i64 x.f1, .int .i64 x.f2, .int .i64 x.f3, .int .i64 x.f4, .int .i64 x.f5] rfl rfl rfl (by kernel_rfl) H9.out rfl (by simp only [List.mem_cons, List.not_mem_nil, or_false, forall_eq_or_imp, forall_eq]; exact ⟨rfl, rfl, rfl, rfl, rfl, rfl⟩) HB.out G9.out ?_; intro w12 hbox hb hgr; (have hoo := Kd.R_grown HO.out hgr (fun k hk e => hk.2 (by injection e))); clear HB H9 HO; (have HB := Aside0.mk hb); (have H9 := Aside0.mk hbox); (have HO := Aside0.mk hoo); clear hbox hb hgr hoo))
      obtain ⟨hs0, hs1, hs2, hs3, hs4, hs5⟩ := Go.Proofs.Ythapclmfkjldaaa.Cells.cells6 H9.out
      have hFF : ∀ W2 : World, Calls Try.prog 39 #[.agg #[.int .i64 x.f0, .int .i64 x.f1, .int .i64 x.f2, .int .i64 x.f3, .int .i64 x.f4, .int .i64 x.f5], .int .i64 a] W2 fun e w' => e = .returned (.tuple #[.bool fa, .bool fb]) ∧ Below W2.heap.size W2 w' := fun W2 => (full_ok W2 x a Z.out.1 Z.out.2.1 Z.out.2.2).mono fun e w' ⟨h1, h2⟩ => ⟨by rw [h1, HFA.out, HFB.out], h2⟩
      have HFF := Aside0.mk hFF
      clear hFF
      (try simp only [Act.put, List.setIfInBounds_toArray, List.set_cons_zero, List.set_cons_succ])
      go_cut [10, 11] (fun v10 v11 wc => v10 = .bool fa ∧ v11 = .bool fb ∧ Aside0 (Kd.R k41 41 wc w.heap.size (fun k => True ∧ k ≠ g9) (.slice Ao out.length co) out) ∧ Aside0 (Below w.heap.size w wc) ∧ Aside0 (wc.heap[g9]? = some (.cells #[.int .i64 x.f0, .int .i64 x.f1, .int .i64 x.f2, .int .i64 x.f3, .int .i64 x.f4, .int .i64 x.f5] 41 (0, 0))))
      case first =>
       go_region_with (first
        | (go_at_call 40; refine (add_ok _ g L W D wi gr yi be t ?hq (by omega) hlt hin).mono ?_; (case hq => exact MK.below (MK.below HM.out HB.out) (pw_below_drewN (Below.refl _ _) 1)); rintro e w13 ⟨rfl, rfl⟩; rw [HA.out])
        | (go_at_call 39; refine (HFF.out _).mono ?_; rintro e w14 ⟨rfl, hb⟩; (have hb2 : Below w12.heap.size w12 w14 := below_step (pw_below_drewN (Below.refl w12.heap.size w12) 1) hb); have HB2 := Aside0.mk hb2; clear hb hb2))
       all_goals go_wp2
       all_goals go_meet
       all_goals exact ⟨rfl, rfl, ⟨Kd.R_below HO.out HB2.out⟩, ⟨below_step HB.out HB2.out⟩, ⟨blk_below H9.out HB2.out⟩⟩
      case rest =>
       clear HO HB H9 hs0 hs1 hs2 hs3 hs4 hs5
       obtain ⟨rfl, rfl, HO, HB, H9⟩ := hcut
       obtain ⟨hs0, hs1, hs2, hs3, hs4, hs5⟩ := Go.Proofs.Ythapclmfkjldaaa.Cells.cells6 H9.out
       have HO2 := Aside0.mk (Kd.R_mono HO.out (fun _ _ => trivial : ∀ k : Nat, _ → True))
       have hk8 : out.length ≤ 9000 := by have := HD.out.1; omega
       have he := HE2.out
       by_cases hz : (out.length : Int) = 0
       · have hzb : ((out.length : Int) == 0) = true := beq_iff_eq.2 hz
         have hout : out = [] := List.length_eq_zero_iff.1 (by omega)
         rw [show (if fa = false ∨ out = [] then out ++ [x] else out) = out ++ [x] from if_pos (.inr hout)] at he
         clear HE2 hout
         cases fa
         all_goals (go_upto_region 10 with ((with_reducible refine gate_builtin (b := .append) (xs := #[.tmp 55, .tmp 57]) rfl ?_); at_builtin; refine Kd.R_append k41 (w0 := w) w.heap.size rfl (.tmp 55) (.tmp 57) 27 41 (.agg #[(.int .i64 0), (.int .i64 0), (.int .i64 0), (.int .i64 0), (.int .i64 0), (.int .i64 0)]) 48 rfl Try.underlying27 info41 rfl (by decide) (by omega) _ out (⟨x.f0, x.f1, x.f2, x.f3, x.f4, x.f5⟩ : S41) [.int .i64 x.f0, .int .i64 x.f1, .int .i64 x.f2, .int .i64 x.f3, .int .i64 x.f4, .int .i64 x.f5] (fun _ => True) (fun _ => False) rfl rfl ?aP (fun _ hk => hk.elim) ?aF ?aO ?aB ?aS ?aL ?_; (case aP => exact k41_mkM _ _ _ (⟨x.f0, x.f1, x.f2, x.f3, x.f4, x.f5⟩ : S41)); (case aB => exact HB.out); (case aF => exact (fun _ _ => trivial)); (case aO => exact HO2.out); (case aS => exact HB.out.size); (case aL => omega); intro v4 w16 ho hb hgr hat; obtain ⟨A4, c4_, rfl⟩ := Kd.R_slice ho; simp only [List.length_append, List.length_singleton] at ho; clear HO HO2 HB H9; have HO3 := Aside0.mk ho; have HB := Aside0.mk hb; clear ho hb hgr hat))
         all_goals (clear hs0 hs1 hs2 hs3 hs4 hs5)
         · cases fb with
           | true =>
            rw [if_pos rfl] at he
            have HE3 := Aside0.mk he
            clear he
            go_wp2
            go_ret
            exact ⟨_, rfl, by rw [HE3.out]; exact HO3.out, HB.out⟩
           | false =>
            rw [if_neg (by decide)] at he
            cases mu with
            | true =>
             rw [if_pos rfl] at he
             have HE3 := Aside0.mk he
             clear he
             go_wp2_with (go_at_call 38; refine (must_ok _ g L W D wi gr yi be t (MK.below HM.out HB.out) (by omega) hlt hin).mono ?_; rintro e w3 ⟨rfl, rfl⟩; rw [HMU.out])
             go_ret
             exact ⟨_, rfl, by rw [HE3.out]; exact HO3.out, HB.out⟩
            | false =>
             rw [if_neg (by decide)] at he
             have HE3 := Aside0.mk he
             clear he
             go_wp2_with (go_at_call 38; refine (must_ok _ g L W D wi gr yi be t (MK.below HM.out HB.out) (by omega) hlt hin).mono ?_; rintro e w3 ⟨rfl, rfl⟩; rw [HMU.out])
             go_roundw
             case rel => exact ⟨t + 1, k', (out ++ [⟨x.f0, x.f1, x.f2, x.f3, x.f4, x.f5⟩]), by first | rfl | rw [htt], by omega, by omega, by omega, by first | omega | (rw [List.length_append, List.length_singleton]; omega), HE3, HO3, HB⟩
             case measure => first | (simp [intOf]; omega) | (rw [htt]; simp [intOf]; omega)
         · cases fb with
           | true =>
            rw [if_pos rfl] at he
            have HE3 := Aside0.mk he
            clear he
            go_wp2
            go_ret
            exact ⟨_, rfl, by rw [HE3.out]; exact HO3.out, HB.out⟩
           | false =>
            rw [if_neg (by decide)] at he
            cases mu with
            | true =>
             rw [if_pos rfl] at he
             have HE3 := Aside0.mk he
             clear he
             go_wp2_with (go_at_call 38; refine (must_ok _ g L W D wi gr yi be t (MK.below HM.out HB.out) (by omega) hlt hin).mono ?_; rintro e w3 ⟨rfl, rfl⟩; rw [HMU.out])
             go_ret
             exact ⟨_, rfl, by rw [HE3.out]; exact HO3.out, HB.out⟩
            | false =>
             rw [if_neg (by decide)] at he
             have HE3 := Aside0.mk he
             clear he
             go_wp2_with (go_at_call 38; refine (must_ok _ g L W D wi gr yi be t (MK.below HM.out HB.out) (by omega) hlt hin).mono ?_; rintro e w3 ⟨rfl, rfl⟩; rw [HMU.out])
             go_roundw
             case rel => exact ⟨t + 1, k', (out ++ [⟨x.f0, x.f1, x.f2, x.f3, x.f4, x.f5⟩]), by first | rfl | rw [htt], by omega, by omega, by omega, by first | omega | (rw [List.length_append, List.length_singleton]; omega), HE3, HO3, HB⟩
             case measure => first | (simp [intOf]; omega) | (rw [htt]; simp [intOf]; omega)
       · have hzb : ((out.length : Int) == 0) = false := beq_eq_false_iff_ne.2 hz
         have hout : out ≠ [] := fun e => hz (by rw [e]; rfl)
         cases fa with
         | false =>
          rw [show (if (false : Bool) = false ∨ out = [] then out ++ [x] else out) = out ++ [x] from if_pos (.inl rfl)] at he
          clear HE2 hout
          go_upto_region 10 with ((with_reducible refine gate_builtin (b := .append) (xs := #[.tmp 55, .tmp 57]) rfl ?_); at_builtin; refine Kd.R_append k41 (w0 := w) w.heap.size rfl (.tmp 55) (.tmp 57) 27 41 (.agg #[(.int .i64 0), (.int .i64 0), (.int .i64 0), (.int .i64 0), (.int .i64 0), (.int .i64 0)]) 48 rfl Try.underlying27 info41 rfl (by decide) (by omega) _ out (⟨x.f0, x.f1, x.f2, x.f3, x.f4, x.f5⟩ : S41) [.int .i64 x.f0, .int .i64 x.f1, .int .i64 x.f2, .int .i64 x.f3, .int .i64 x.f4, .int .i64 x.f5] (fun _ => True) (fun _ => False) rfl rfl ?aP (fun _ hk => hk.elim) ?aF ?aO ?aB ?aS ?aL ?_; (case aP => exact k41_mkM _ _ _ (⟨x.f0, x.f1, x.f2, x.f3, x.f4, x.f5⟩ : S41)); (case aB => exact HB.out); (case aF => exact (fun _ _ => trivial)); (case aO => exact HO2.out); (case aS => exact HB.out.size); (case aL => omega); intro v4 w16 ho hb hgr hat; obtain ⟨A4, c4_, rfl⟩ := Kd.R_slice ho; simp only [List.length_append, List.length_singleton] at ho; clear HO HO2 HB H9; have HO3 := Aside0.mk ho; have HB := Aside0.mk hb; clear ho hb hgr hat)
          clear hs0 hs1 hs2 hs3 hs4 hs5
          cases fb with
          | true =>
           rw [if_pos rfl] at he
           have HE3 := Aside0.mk he
           clear he
           go_wp2
           go_ret
           exact ⟨_, rfl, by rw [HE3.out]; exact HO3.out, HB.out⟩
          | false =>
           rw [if_neg (by decide)] at he
           cases mu with
           | true =>
            rw [if_pos rfl] at he
            have HE3 := Aside0.mk he
            clear he
            go_wp2_with (go_at_call 38; refine (must_ok _ g L W D wi gr yi be t (MK.below HM.out HB.out) (by omega) hlt hin).mono ?_; rintro e w3 ⟨rfl, rfl⟩; rw [HMU.out])
            go_ret
            exact ⟨_, rfl, by rw [HE3.out]; exact HO3.out, HB.out⟩
           | false =>
            rw [if_neg (by decide)] at he
            have HE3 := Aside0.mk he
            clear he
            go_wp2_with (go_at_call 38; refine (must_ok _ g L W D wi gr yi be t (MK.below HM.out HB.out) (by omega) hlt hin).mono ?_; rintro e w3 ⟨rfl, rfl⟩; rw [HMU.out])
            go_roundw
            case rel => exact ⟨t + 1, k', (out ++ [⟨x.f0, x.f1, x.f2, x.f3, x.f4, x.f5⟩]), by first | rfl | rw [htt], by omega, by omega, by omega, by first | omega | (rw [List.length_append, List.length_singleton]; omega), HE3, HO3, HB⟩
            case measure => first | (simp [intOf]; omega) | (rw [htt]; simp [intOf]; omega)
         | true =>
          rw [show (if (true : Bool) = false ∨ out = [] then out ++ [x] else out) = out from if_neg (fun h => h.elim (by decide) hout)] at he
          clear HE2 hout
          go_upto_region 10 with (fail)
          clear hs0 hs1 hs2 hs3 hs4 hs5
          cases fb with
          | true =>
           rw [if_pos rfl] at he
           have HE3 := Aside0.mk he
           clear he
           go_wp2
           go_ret
           exact ⟨_, rfl, by rw [HE3.out]; exact HO2.out, HB.out⟩
          | false =>
           rw [if_neg (by decide)] at he
           cases mu with
           | true =>
            rw [if_pos rfl] at he
            have HE3 := Aside0.mk he
            clear he
            go_wp2_with (go_at_call 38; refine (must_ok _ g L W D wi gr yi be t (MK.below HM.out HB.out) (by omega) hlt hin).mono ?_; rintro e w3 ⟨rfl, rfl⟩; rw [HMU.out])
            go_ret
            exact ⟨_, rfl, by rw [HE3.out]; exact HO2.out, HB.out⟩
           | false =>
            rw [if_neg (by decide)] at he
            have HE3 := Aside0.mk he
            clear he
            go_wp2_with (go_at_call 38; refine (must_ok _ g L W D wi gr yi be t (MK.below HM.out HB.out) (by omega) hlt hin).mono ?_; rintro e w3 ⟨rfl, rfl⟩; rw [HMU.out])
            go_roundw
            case rel => exact ⟨t + 1, k', out, by first | rfl | rw [htt], by omega, by omega, by omega, by first | omega | (rw [List.length_append, List.length_singleton]; omega), HE3, HO2, HB⟩
            case measure => first | (simp [intOf]; omega) | (rw [htt]; simp [intOf]; omega)
  · have hltb : decide (t ≤ (L.length : Int)) = false := decide_eq_false hlt
    have EP : Aside0 (endsP L W wi gr yi f num = out) := ⟨by
     rw [HE.out]
     cases k with
     | zero => rfl
     | succ k => rw [endsGo, if_neg hlt]⟩
    go_wp2
    go_ret
    exact ⟨_, rfl, by rw [EP.out]; exact HO.out, HB.out⟩
end
end Go.Proofs.Ythapclmfkjldaaa.HandLN
