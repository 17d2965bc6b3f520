/- Walked by hand: charted: there are charts. -/
import Derived.Test.YtemginkjkmmimaaHandCBg
namespace Go.Proofs.Ytemginkjkmmimaa.HandCB
open Go.RowKit Go.Proofs.YtemginkjkmmimaaW.PrintWords Go.Proofs.YtemginkjkmmimaaW.PrintLast Go.Proofs.YtemginkjkmmimaaW.PrintMore Go.Proofs.Ytemginkjkmmimaa.QCB
set_option linter.unusedVariables false
theorem one_bars : chart_Bars.f 60 2 [(⟨#[97]⟩ : ByteArray)] [[10]] 0 10 5 100 100 = some ([⟨0, 0, 50, 0, 0, 0⟩], 0) := by
  have h1 : chart_Range.f 60 2 [(⟨#[97]⟩ : ByteArray)] [[10]] = some (10, 10, 0) := by decide +kernel
  have h2 : scale_Check.f 60 0 10 5 = some 0 := by decide +kernel
  unfold chart_Bars.f
  rw [h1, Option.bind_some, if_pos rfl, h2, Option.bind_some, if_pos rfl, if_neg (by decide), if_neg (by decide)]
  have h3 : barsC 2 [[10]] 0 10 100 (edg 100 ([(⟨#[97]⟩ : ByteArray)].length : Int)) [(⟨#[97]⟩ : ByteArray)].length = [⟨0, 0, 50, 0, 0, 0⟩] := by kernel_rfl
  rw [h3]
def chancerylaw3_charted.f : Option Bool := some true
set_option maxHeartbeats 4000000 in
set_option maxRecDepth 100000 in
theorem chancerylaw3_charted.calls (r : Bool) (w : World) (h : chancerylaw3_charted.f = some r) :
    Calls Try.prog 5 #[] w fun e w' => e = .returned (.bool r) ∧ Below w.heap.size w w' := by
  obtain rfl := Option.some.inj h
  have hu42 := Try.underlying42
  have hu27 := Try.underlying27
  have HB := Aside0.mk (Below.refl w.heap.size w)
  clear h
  go_enter Try.func5, Try.ntmps5
  go_wp2_with (first
    | (go_at_call 17; refine (chancerylaw3_one.calls 2 2 [(⟨#[97]⟩ : ByteArray)] [[10]] _ rfl).mono ?_; rintro e w6 ⟨v1, v2, rfl, ho0, ho1, hb⟩; (have n0 := Aside0.mk ho0); (have n1 := Aside0.mk ho1); (have n2 := Aside0.mk (below_step HB.out hb)); clear HB hb ho0 ho1; (obtain ⟨Ao7, co7, eo7⟩ := Kd.R_slice n0.out); subst eo7; (obtain ⟨Ao8, co8, eo8⟩ := Kd.N_slice n1.out); subst eo8)
    | (go_at_call 7; refine (chart_Bars.calls 60 2 Ao7 co7 [(⟨#[97]⟩ : ByteArray)] Ao8 co8 [[10]] 0 10 5 100 100 [⟨0, 0, 50, 0, 0, 0⟩] 0 _ (Kd.R_reads' n0.out).2.2 (Kd.R_reads' n0.out).2.1 (Kd.N_reads' n1.out).2.2 (Kd.N_reads' n1.out).2.1 one_bars).mono ?_; rintro e w9 ⟨v3, rfl, ho, hb⟩; (have n3 := Aside0.mk ho); (have n4 := Aside0.mk (below_step n2.out hb)); clear n2 hb ho n0 n1; (obtain ⟨A3, c3, e3⟩ := Kd.R_slice n3.out); subst e3; (obtain ⟨ad, ea, hx0, hx1, hx2, hx3, hx4, hx5⟩ := at_T42 (Kd.R_reads' n3.out).2.2 0 (by decide) (by decide)); cases ea; (rw [show ((0 : Int).toNat * 6) = 0 from rfl, Addr.add_zero'] at hx0 hx1 hx2 hx3 hx4 hx5); (simp only [show rd_T42 [(⟨0, 0, 50, 0, 0, 0⟩ : S42)] 0 = ⟨0, 0, 50, 0, 0, 0⟩ from rfl] at hx0 hx1 hx2 hx3 hx4 hx5)))
  go_ret
  exact ⟨by first | rfl | (simp; done), n4.out⟩
end Go.Proofs.Ytemginkjkmmimaa.HandCB
