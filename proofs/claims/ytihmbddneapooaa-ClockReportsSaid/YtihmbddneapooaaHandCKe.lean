/- clock.Report: the walks of the texts beside put together: what it answers for every list of events and every time. -/
import Derived.Test.YtihmbddneapooaaHandCKd
namespace Go.Proofs.Ytihmbddneapooaa.HandCK
open Go.RowKit Go.Proofs.YtihmbddneapooaaW.PrintWords Go.Proofs.YtihmbddneapooaaW.PrintLast Go.Proofs.YtihmbddneapooaaW.PrintMore Go.Proofs.Ytihmbddneapooaa.PClockLeft
theorem clock_Report.calls (k : Nat) (A0 : Option Addr) (c0 : Nat) (l0 : List S72) (a1 : Int) (r1 : Bool) (r2 : Int) (r3 : Int) (r4 : List S74) (r5 : Int) (w : World) (hr0 : Kd.C k72 w A0 l0.length l0) (hc0 : l0.length ≤ c0) (h : clock_Report.f k l0 a1 = some (r1, r2, r3, r4, r5)) :
    Calls Try.prog 34 #[.slice A0 l0.length c0, .int .i64 a1] w fun e w' => ∃ v0_ : Value, e = .returned (.tuple #[.agg #[.bool r1, .int .i64 r2, .int .i64 r3, v0_], .int .i64 r5]) ∧ Kd.R k74 74 w' w.heap.size (fun _ => True) v0_ r4 ∧ Below w.heap.size w w' := by
  unfold clock_Report.f at h
  obtain ⟨e, he, h⟩ := Option.bind_eq_some_iff.1 h
  by_cases e0 : e = 0
  · subst e0
    rw [if_pos rfl] at h
    by_cases hat : a1 < 0 ∨ a1 > 10000000
    · rw [if_pos hat] at h
      simp only [Option.some.injEq, Prod.mk.injEq] at h
      obtain ⟨rfl, rfl, rfl, rfl, rfl⟩ := h
      by_cases hlo : a1 < 0
      · exact report_low k A0 c0 l0 a1 w hr0 hc0 he hlo
      · exact report_high k A0 c0 l0 a1 w hr0 hc0 he hlo (by omega)
    · rw [if_neg hat] at h
      by_cases hl : l0.length ≤ 1000
      · rw [if_pos hl] at h
        simp only [Option.some.injEq, Prod.mk.injEq] at h
        obtain ⟨rfl, rfl, rfl, rfl, rfl⟩ := h
        exact report_ok k A0 c0 l0 a1 w hr0 hc0 he (by omega) (by omega) hl
      · rw [if_neg hl] at h
        cases h
  · rw [if_neg e0] at h
    simp only [Option.some.injEq, Prod.mk.injEq] at h
    obtain ⟨rfl, rfl, rfl, rfl, rfl⟩ := h
    exact report_err k A0 c0 l0 a1 e w hr0 hc0 he e0
end Go.Proofs.Ytihmbddneapooaa.HandCK
