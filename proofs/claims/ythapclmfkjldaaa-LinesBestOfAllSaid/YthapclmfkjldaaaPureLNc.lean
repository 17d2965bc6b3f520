import Derived.Test.YthapclmfkjldaaaPureLNb
namespace Go.Proofs.Ythapclmfkjldaaa.LinesP
set_option linter.unusedSectionVars false
set_option linter.unusedVariables false
set_option linter.unusedSimpArgs false
open Go.RowKit Go.Proofs.Ythapclmfkjldaaa.QLN Go.Proofs.YthapclmfkjldaaaW.PrintWords Go.Proofs.YthapclmfkjldaaaW.PrintLast Go.Proofs.YthapclmfkjldaaaW.PrintMore Go.Proofs.Ythapclmfkjldaaa.Lib Go.Proofs.Ythapclmfkjldaaa.HandLN
def ln (L : List S49) (W : List Int) (f num t : Int) : S41 := lineP L W (fillT hW1 L (L.length : Int)) (fillT (·.f2) L (L.length : Int)) (fillT (·.f3) L (L.length : Int)) f t num
def Glue (L : List S49) : Prop := ∀ i : Int, 0 ≤ i → i < L.length → (pt L i).f0 ≠ 1 → (pt L i).f2 = 0 ∧ (pt L i).f3 = 0
theorem sum_mono (L : List S49) (hF : Fine L) (hG : Glue L) (a b : Nat) (h : a ≤ b) (hb : b ≤ L.length) : sumU hW1 L a - sumU (·.f3) L a ≤ sumU hW1 L b - sumU (·.f3) L b := by
 induction b with
 | zero => rw [show a = 0 by omega]; omega
 | succ b ih =>
  by_cases c : a = b + 1
  · subst c; omega
  · have h1 := ih (by omega) (by omega)
    have h2 := hF.2 b (by omega) (by omega)
    have h3 : (pt L b).f3 ≤ hW1 (pt L b) := by
     unfold hW1
     by_cases k : (pt L b).f0 = 2
     · have := hG b (by omega) (by omega) (by omega)
       rw [if_pos k]; omega
     · rw [if_neg k]; omega
    have e1 : sumU hW1 L (b + 1) = sumU hW1 L b + hW1 (pt L b) := rfl
    have e2 : sumU (·.f3) L (b + 1) = sumU (·.f3) L b + (pt L b).f3 := rfl
    rw [e1, e2]
    omega
theorem addP_nn (L : List S49) (hF : Fine L) (t : Int) (t0 : 0 ≤ t) : 0 ≤ addP L t := by
 unfold addP
 split
 · rename_i h; exact (hF.2 t t0 h.1).1
 · omega
theorem ln_f2 (L : List S49) (W : List Int) (f num t : Int) (f0 : 0 ≤ f) (ft : f ≤ t) (t1 : t ≤ L.length) : (ln L W f num t).f2 = sumU hW1 L t.toNat - sumU hW1 L f.toNat + addP L t := by
 show rd _ t - rd _ f + addP L t = _
 rw [fill_end hW1 L t (by omega) t1, fill_end hW1 L f f0 (by omega)]
theorem ln_f4 (L : List S49) (W : List Int) (f num t : Int) (f0 : 0 ≤ f) (ft : f ≤ t) (t1 : t ≤ L.length) : (ln L W f num t).f4 = sumU (·.f3) L t.toNat - sumU (·.f3) L f.toNat := by
 show rd _ t - rd _ f = _
 rw [fill_end (·.f3) L t (by omega) t1, fill_end (·.f3) L f f0 (by omega)]
end Go.Proofs.Ythapclmfkjldaaa.LinesP
namespace Go.Proofs.Ythapclmfkjldaaa.HandLN
open Go.RowKit Go.Proofs.Ythapclmfkjldaaa.QLN Go.Proofs.YthapclmfkjldaaaW.PrintMore Go.Proofs.Ythapclmfkjldaaa.LinesP
def costR (L : List S49) (D : Int) (x : S41) (beh : Bool) : Int := costP L (begT L (-1)) x + if (beh && flagP L x.f1) = true then D else 0
end Go.Proofs.Ythapclmfkjldaaa.HandLN
