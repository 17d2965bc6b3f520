import Derived.Test.YthapclmfkjldaaaPureLNa
import Derived.Test.YthapclmfkjldaaaQLNx5
namespace Go.Proofs.Ythapclmfkjldaaa.LinesP
set_option linter.unusedSectionVars false
set_option linter.unusedVariables false
set_option linter.unusedSimpArgs false
open Go.RowKit Go.Proofs.Ythapclmfkjldaaa.QLN Go.Proofs.YthapclmfkjldaaaW.PrintWords Go.Proofs.YthapclmfkjldaaaW.PrintLast Go.Proofs.YthapclmfkjldaaaW.PrintMore Go.Proofs.Ythapclmfkjldaaa.Lib Go.Proofs.Ythapclmfkjldaaa.HandLN
def Fine (L : List S49) : Prop := L.length ≤ 8000 ∧ ∀ i : Int, 0 ≤ i → i < L.length → 0 ≤ (pt L i).f1 ∧ (pt L i).f1 ≤ 100000 ∧ 0 ≤ (pt L i).f2 ∧ (pt L i).f2 ≤ 100000 ∧ 0 ≤ (pt L i).f3 ∧ (pt L i).f3 ≤ (pt L i).f1 ∧ -10000 ≤ (pt L i).f4 ∧ (pt L i).f4 ≤ 10000
theorem sub_at (L : List S49) (f t x : Int) (f0 : 0 ≤ f) (ft : f ≤ t) (t1 : t ≤ L.length) (x0 : 0 ≤ x) (x1 : x < t - f) : rd_T49 ((L.take t.toNat).drop f.toNat) x = pt L (f + x) := by
 unfold pt rd_T49
 rw [List.getD_eq_getElem?_getD, List.getD_eq_getElem?_getD, List.getElem?_drop, List.getElem?_take_of_lt (by omega), show f.toNat + x.toNat = (f + x).toNat by omega]
theorem sub_len (L : List S49) (f t : Int) (f0 : 0 ≤ f) (ft : f ≤ t) (t1 : t ≤ L.length) : (((L.take t.toNat).drop f.toNat).length : Int) = t - f := by
 rw [List.length_drop, List.length_take]
 omega
theorem fill_end (h : S49 → Int) (L : List S49) (j : Int) (j0 : 0 ≤ j) (j1 : j ≤ L.length) : rd (fillT h L (L.length : Int)) j = sumU h L j.toNat := (rd_tab j0 (by omega)).trans (if_pos j1)
theorem oneLine_pure (L : List S49) (W : List Int) (D : Int) (hF : Fine L) (w1 : 1 ≤ W.length) (w2 : W.length ≤ 20) (f t num : Int) (f0 : 0 ≤ f) (ft : f ≤ t) (t1 : t ≤ L.length) (n0 : 0 ≤ num) :
    let x := lineP L W (fillT hW1 L (L.length : Int)) (fillT (·.f2) L (L.length : Int)) (fillT (·.f3) L (L.length : Int)) f t num
    Ev (fun k => chanceryref3_OneLine.f k L W D f t num) (x.f0, x.f1, x.f2, x.f3, x.f4, x.f5) := by
 intro x
 obtain ⟨hn, hp⟩ := hF
 have bW := fun k hk => sumU_bd hW1 L (fun j j0 j1 => by have := hp j j0 j1; unfold hW1; split <;> omega) k hk
 have bG := fun k hk => sumU_bd (·.f2) L (fun j j0 j1 => by have := hp j j0 j1; exact ⟨by omega, by omega⟩) k hk
 have bY := fun k hk => sumU_bd (·.f3) L (fun j j0 j1 => by have := hp j j0 j1; exact ⟨by omega, by omega⟩) k hk
 have hend : Ev (fun k => chanceryref3_OneLine.l0 k L t num ((L.take t.toNat).drop f.toNat) (t - f) (t - f) W D f t (sumU hW1 L t.toNat - sumU hW1 L f.toNat) (sumU (·.f2) L t.toNat - sumU (·.f2) L f.toNat) (sumU (·.f3) L t.toNat - sumU (·.f3) L f.toNat) 0) (x.f0, x.f1, x.f2, x.f3, x.f4, x.f5) := by
  have hm : x.f5 = rd W (if num ≥ (W.length : Int) then (W.length : Int) - 1 else num) := by
   show rd W (mn num ((W.length : Int) - 1)) = _
   unfold mn
   by_cases c : num ≥ (W.length : Int)
   · rw [if_pos c, if_pos (by omega)]
   · rw [if_neg c, if_neg (by omega)]
  have h2 : x.f2 = sumU hW1 L t.toNat - sumU hW1 L f.toNat + addP L t := by
   show rd _ t - rd _ f + addP L t = _
   rw [fill_end hW1 L t (by omega) t1, fill_end hW1 L f f0 (by omega)]
  have h3 : x.f3 = sumU (·.f2) L t.toNat - sumU (·.f2) L f.toNat := by
   show rd _ t - rd _ f = _
   rw [fill_end (·.f2) L t (by omega) t1, fill_end (·.f2) L f f0 (by omega)]
  have h4 : x.f4 = sumU (·.f3) L t.toNat - sumU (·.f3) L f.toNat := by
   show rd _ t - rd _ f = _
   rw [fill_end (·.f3) L t (by omega) t1, fill_end (·.f3) L f f0 (by omega)]
  have kw : wrap64 ((W.length : Int) - 1) = (W.length : Int) - 1 := w64 (by omega) (by omega)
  have q1 := bW t.toNat (by omega)
  have q2 := bW f.toNat (by omega)
  refine Ev.step (fun k => by rw [chanceryref3_OneLine.l0]) (Ev.neg (by omega) ?_)
  have fin : ∀ (b : Bool), b = decide (t < L.length ∧ (pt L t).f0 = 2) → Ev (fun k => chanceryref3_OneLine.j1 k L t num b W D f t (sumU hW1 L t.toNat - sumU hW1 L f.toNat) (sumU (·.f2) L t.toNat - sumU (·.f2) L f.toNat) (sumU (·.f3) L t.toNat - sumU (·.f3) L f.toNat) 0) (x.f0, x.f1, x.f2, x.f3, x.f4, x.f5) := by
   intro b hb
   rw [show x.f0 = f from rfl, show x.f1 = t from rfl, h2, h3, h4, hm]
   refine Ev.step (fun k => by rw [chanceryref3_OneLine.j1]) ?_
   by_cases c : t < L.length ∧ (pt L t).f0 = 2
   · rw [decide_eq_true c] at hb
     have q3 := hp t (by omega) c.1
     have ea : addP L t = (rd_T49 L t).f1 := if_pos c
     refine Ev.pos hb (Ev.pos (by omega) (Ev.pos c.1 ?_))
     rw [ea, w64 (n := sumU hW1 L t.toNat - sumU hW1 L f.toNat + (rd_T49 L t).f1) (by unfold pt at q3; omega) (by unfold pt at q3; omega), kw]
     by_cases d : num ≥ (W.length : Int)
     · exact Ev.pos d (Ev.pos (by omega) (Ev.pos (by omega) (Ev.ret (by rw [if_pos d]))))
     · exact Ev.neg d (Ev.pos n0 (Ev.pos (by omega) (Ev.ret (by rw [if_neg d]))))
   · rw [decide_eq_false c] at hb
     have ea : addP L t = 0 := if_neg c
     refine Ev.neg (by rw [hb]; simp) ?_
     rw [ea, Int.add_zero, kw]
     by_cases d : num ≥ (W.length : Int)
     · exact Ev.pos d (Ev.pos (by omega) (Ev.pos (by omega) (Ev.ret (by rw [if_pos d]))))
     · exact Ev.neg d (Ev.pos n0 (Ev.pos (by omega) (Ev.ret (by rw [if_neg d]))))
  by_cases c : t < (L.length : Int)
  · refine Ev.pos c (Ev.pos (by omega) (fin _ ?_))
    by_cases d : (rd_T49 L t).f0 = 2
    · rw [decide_eq_true ⟨c, d⟩]; simpa using d
    · rw [decide_eq_false (fun h => d h.2)]; simpa using d
  · exact Ev.neg c (fin _ (by rw [decide_eq_false (fun h => c h.1)]))
 unfold chanceryref3_OneLine.f
 refine Ev.pos f0 (Ev.pos ft (Ev.pos t1 ?_))
 show Ev (fun k => chanceryref3_OneLine.l0 k L t num ((L.take t.toNat).drop f.toNat) (((L.take t.toNat).drop f.toNat).length : Int) 0 W D f t 0 0 0 0) _
 rw [sub_len L f t f0 ft t1]
 have key := climb (g := fun i k => chanceryref3_OneLine.l0 k L t num ((L.take t.toNat).drop f.toNat) (t - f) i W D f t (sumU hW1 L (f + i).toNat - sumU hW1 L f.toNat) (sumU (·.f2) L (f + i).toNat - sumU (·.f2) L f.toNat) (sumU (·.f3) L (f + i).toNat - sumU (·.f3) L f.toNat) 0) (r := (x.f0, x.f1, x.f2, x.f3, x.f4, x.f5)) (a := 0) (n := t - f) (by omega) (by rw [show f + (t - f) = t by omega]; exact hend) fun i i0 i1 hi => by
  have q1 := bW (f + i).toNat (by omega)
  have q2 := bW f.toNat (by omega)
  have q3 := bG (f + i).toNat (by omega)
  have q4 := bG f.toNat (by omega)
  have q5 := bY (f + i).toNat (by omega)
  have q6 := bY f.toNat (by omega)
  have qp := hp (f + i) (by omega) (by omega)
  have hs := sub_at L f t i f0 ft t1 i0 (by omega)
  rw [show (f + (i + 1)).toNat = (f + i).toNat + 1 by omega, sumU, sumU, sumU, show (((f + i).toNat : Nat) : Int) = f + i by omega] at hi
  refine Ev.step (fun k => by rw [chanceryref3_OneLine.l0]) (Ev.pos i1 (Ev.pos i0 (Ev.pos (by rw [sub_len L f t f0 ft t1]; omega) ?_)))
  rw [hs, w64 (n := i + 1) (by omega) (by omega), w64 (n := sumU (·.f2) L (f + i).toNat - sumU (·.f2) L f.toNat + (pt L (f + i)).f2) (by omega) (by omega), w64 (n := sumU (·.f3) L (f + i).toNat - sumU (·.f3) L f.toNat + (pt L (f + i)).f3) (by omega) (by omega)]
  rw [show sumU (fun x => x.f2) L (f + i).toNat + (pt L (f + i)).f2 - sumU (fun x => x.f2) L f.toNat = sumU (fun x => x.f2) L (f + i).toNat - sumU (fun x => x.f2) L f.toNat + (pt L (f + i)).f2 by omega, show sumU (fun x => x.f3) L (f + i).toNat + (pt L (f + i)).f3 - sumU (fun x => x.f3) L f.toNat = sumU (fun x => x.f3) L (f + i).toNat - sumU (fun x => x.f3) L f.toNat + (pt L (f + i)).f3 by omega] at hi
  by_cases k2 : (pt L (f + i)).f0 = 2
  · refine Ev.pos k2 ?_
    rw [show hW1 (pt L (f + i)) = 0 from if_pos k2, Int.add_zero] at hi
    exact hi
  · refine Ev.neg k2 ?_
    rw [show hW1 (pt L (f + i)) = (pt L (f + i)).f1 from if_neg k2, show sumU hW1 L (f + i).toNat + (pt L (f + i)).f1 - sumU hW1 L f.toNat = sumU hW1 L (f + i).toNat - sumU hW1 L f.toNat + (pt L (f + i)).f1 by omega] at hi
    rw [w64 (n := sumU hW1 L (f + i).toNat - sumU hW1 L f.toNat + (pt L (f + i)).f1) (by omega) (by omega)]
    exact hi
 rw [Int.add_zero] at key
 simp only [Int.sub_self] at key
 exact key
end Go.Proofs.Ythapclmfkjldaaa.LinesP
