import Derived.Test.YthapclmfkjldaaaPureLNc
namespace Go.Proofs.Ythapclmfkjldaaa.HandLN
set_option linter.unusedSectionVars false
set_option linter.unusedVariables false
set_option linter.unusedSimpArgs false
open Go.RowKit Go.Proofs.YthapclmfkjldaaaW.PrintWords Go.Proofs.YthapclmfkjldaaaW.PrintLast Go.Proofs.YthapclmfkjldaaaW.PrintMore Go.Proofs.Ythapclmfkjldaaa.QLN Go.Proofs.Ythapclmfkjldaaa.LinesP
def fineP (p : S49) : Bool := decide (0 ≤ p.f1 ∧ p.f1 ≤ 100000 ∧ 0 ≤ p.f2 ∧ p.f2 ≤ 100000 ∧ 0 ≤ p.f3 ∧ p.f3 ≤ p.f1 ∧ -10000 ≤ p.f4 ∧ p.f4 ≤ 10000)
def fineB (L : List S49) : Bool := decide (L.length ≤ 8000) && L.all fineP
theorem fine_of (L : List S49) (h : fineB L = true) : Fine L := by
 unfold fineB at h
 rw [Bool.and_eq_true, decide_eq_true_eq, List.all_eq_true] at h
 refine ⟨h.1, fun i i0 i1 => ?_⟩
 have := h.2 (rd_T49 L i) (Lib.getD_mem i0 i1)
 unfold fineP at this
 exact of_decide_eq_true this
theorem bd_of (L : List S49) (W : List Int) (hF : Fine L) (w1 : 1 ≤ W.length) (w2 : W.length ≤ 20) (hW : ∀ i : Int, 0 ≤ i → i < W.length → 1 ≤ rd W i ∧ rd W i ≤ 100000) : Bd L W (fillT hW1 L (L.length : Int)) (fillT (·.f2) L (L.length : Int)) (fillT (·.f3) L (L.length : Int)) (begT L (-1)) := by
 have hn := hF.1
 refine ⟨hF.1, w1, w2, fillT_length _ _ _, fillT_length _ _ _, fillT_length _ _ _, Lib.tab_length _ _, fun i i0 i1 => ?_, fun i i0 i1 => ?_, hW⟩
 · have q1 := sumU_bd hW1 L (fun j j0 j1 => by have := hF.2 j j0 j1; unfold hW1; split <;> omega) i.toNat (by omega)
   have q2 := sumU_bd (·.f2) L (fun j j0 j1 => by have := hF.2 j j0 j1; exact ⟨by omega, by omega⟩) i.toNat (by omega)
   have q3 := sumU_bd (·.f3) L (fun j j0 j1 => by have := hF.2 j j0 j1; exact ⟨by omega, by omega⟩) i.toNat (by omega)
   rw [fill_end hW1 L i i0 i1, fill_end (·.f2) L i i0 i1, fill_end (·.f3) L i i0 i1]
   omega
 · have := hF.2 i i0 i1
   omega
end Go.Proofs.Ythapclmfkjldaaa.HandLN
