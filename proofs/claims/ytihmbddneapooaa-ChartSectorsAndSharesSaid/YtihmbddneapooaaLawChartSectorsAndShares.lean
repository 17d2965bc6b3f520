/- Proved: the row of chancerylaw3.ChartSectorsAndShares: for every chart and every list of numbers that the form lets in the call returns true and leaves its arguments as they were. No condition of our own. -/
import Derived.Test.YtihmbddneapooaaRows
import Derived.Test.YtihmbddneapooaaPChartSectorsAndSharesx8
import Derived.Test.YtihmbddneapooaaPureChartSectorsAndShares
import Derived.Test.YtihmbddneapooaaOpens
import Derived.WalkKit
import Derived.ProofKit
import Derived.OpenShut
import Derived.ShutString
import Derived.ChangeOld
import Derived.Below
import Derived.SizedLaws
namespace Go.Proofs.Ytihmbddneapooaa.chartSectorsAndShares
open Go.ChangeShapes Go.WideShapes Go.ChangeAt Go.RowKit Go.Proofs.Ytihmbddneapooaa.Opens Go.Proofs.YtihmbddneapooaaW.PrintWords
theorem own : ownKnob Try.prog.godebug = none := by kernel_rfl
theorem laidOut : laidOutB Try.prog = true := by kernel_rfl
theorem op_ints : Opn Try.prog 34 (Kd.slice 3 (Kd.int .i64)) (fun l => l.length ≤ maxLen ∧ l.length * 8 ≤ 140737488351232 ∧ ∀ x ∈ l, (Lit.int .i64 x).wf = true) :=
  op_slice Try.underlying34 (by kernel_rfl) (op_int Try.underlying3 (by kernel_rfl)) (by kernel_rfl)
theorem op_chart : ∃ I, Opn Try.prog 55 (Kd.pair (Kd.int .i64) (Kd.pair (Kd.slice 9 Kd.string) (Kd.slice 34 (Kd.slice 3 (Kd.int .i64))))) I :=
  ⟨_, op_struct0 Try.underlying55 (by kernel_rfl)
    (opF_cons (op_int Try.underlying3 (by kernel_rfl)) rfl (opF_cons (op_slice (B := 16) Try.underlying53 (by kernel_rfl) (op_string Try.underlying9 (by kernel_rfl)) (by kernel_rfl)) rfl
      (opF_one (op_slice (B := 24) Try.underlying46 (by kernel_rfl) op_ints (by kernel_rfl)) rfl)))⟩
set_option maxRecDepth 100000 in
theorem lifted (os : Os) (started : os.Started) (H : Type) (enc : TypeId × Value → H) :
    ReturnsInHanded {} Try.checked os 8 .any (Rows.chartSectorsAndSharesSpec.pre6 enc Try.prog Try.f8 Rows.chartSectorsAndSharesRow.domain false) (Rows.chartSectorsAndSharesSpec.post enc Try.prog Try.f8 false true false false) := by
  refine returnsInHanded_of_change_sized (C := Try.checked) own started (by kernel_rfl) Try.func8
    (ChangeSpec.witness6 (enc := enc) (C := Try.checked) false ⟨#[], #[.agg #[.int .i64 0, .slice none 0 0, .slice none 0 0], .slice none 0 0], []⟩ 8 (by kernel_rfl) (by kernel_rfl) (by kernel_rfl) (by kernel_rfl)) ?_
  intro W base args ds gs before hval0 hW hcnd hsz0 _
  have hsz : (DataW.weightsEach Try.prog (Try.f8.params.toList ++ Rows.chartSectorsAndSharesSpec.plain.varTypes Try.prog) (ds ++ gs)).all (· ≤ reachBytes) = true := hsz0
  have hval : ∀ (j : Nat) t v, Try.f8.params[j]? = some t → args[j]? = some v → Value.okWide Try.prog W .any base t v := hval0
  have hW' := hW
  obtain ⟨p, q, hA0, hV, rfl, hfz, hnd⟩ := hW
  have hA : DataW.TrodAll enc Try.prog W 0 (fun _ => true) true Try.f8.params.toList args.toList ds p := hA0
  rw [Try.params8] at hA hval hsz
  obtain ⟨v0, vs0, d0, ds0, p0, q0, hargs, rfl, rfl, h0, r0⟩ := trodAll_cons hA
  obtain ⟨v1, vs1, d1, ds1, p1, q1, rfl, rfl, rfl, h1, r1⟩ := trodAll_cons r0
  obtain ⟨rfl, rfl, rfl⟩ := trodAll_nil r1
  obtain rfl : args = #[v0, v1] := by cases args; simp_all
  obtain ⟨rfl, rfl⟩ := trodVars_none hV
  obtain ⟨I, hop⟩ := op_chart
  obtain ⟨x0, hx0, _⟩ := arg hop hsz (j := 0) rfl rfl h0
  obtain ⟨x1, hx1, i1, _, _⟩ := arg op_ints hsz (j := 1) rfl rfl h1
  obtain ⟨cs0, rfl⟩ := agg_form Try.underlying55 (hval 0 55 v0 rfl rfl)
  obtain ⟨a1, n1, c1, rfl⟩ := okWide_slice Try.underlying34 (hval 1 34 v1 rfl rfl)
  obtain ⟨rfl, hc1, hC1⟩ := slice_form hx1
  have lt0 := arg_lt h0
  have lt1 := arg_lt h1
  have k0 := h0
  have k1 := h1
  obtain ⟨z0, z1, e0, hz0, y0, y1, e1, hz1, hz2⟩ := hx0
  obtain ⟨A1, C1, rfl, hl1, hr1⟩ := hz1
  obtain ⟨A2, C2, rfl, hl2, hr2⟩ := hz2
  rw [show z0 = [.int .i64 x0.1] from hz0, e1] at e0
  obtain rfl := agg_arr e0
  clear hA0 hval0 hsz0 hsz
  obtain ⟨k, hk⟩ := Pure.ChartSectorsAndShares x0.1 x0.2.1 x0.2.2 x1 (by unfold maxLen at i1; omega)
  refine (PChartSectorsAndShares.chancerylaw3_ChartSectorsAndShares.calls k x0.1 A1 C1 x0.2.1 A2 C2 x0.2.2 a1 c1 x1 true W hr1 hl1 hr2 hl2 hC1 hc1 hk).mono fun e W' ⟨he, bel⟩ => ?_
  subst he
  exact ⟨_, rfl, _, _, _, [], _, [], hW', trodAll_mk1 (shut_bool Try.underlying4 _),
    (trodAll_cons_mk (Below.trod laidOut (by kernel_rfl) (of_decide_eq_true (by kernel_rfl)) k0 bel lt0) (trodAll_cons_mk (Below.trod laidOut (by kernel_rfl) (of_decide_eq_true (by kernel_rfl)) k1 bel lt1) trodAll_mk0)), rfl, bel.frame _, fun h => by cases h⟩
theorem over : Rows.chartSectorsAndSharesRow.holds Try.pinned (OpenSpec.ofChange Rows.chartSectorsAndSharesSpec) :=
  OpenClaim.holds_of_wide 8 Try.f8 rfl rfl rfl rfl rfl rfl rfl ⟨rfl, rfl, rfl, rfl, rfl⟩ rfl rfl rfl rfl rfl (by kernel_rfl) Try.func8 (by kernel_rfl)
    (of_decide_eq_true (by kernel_rfl)) (by unfold Func.isWrapper; first | (rw [if_pos (by decide +kernel)]; kernel_rfl) | (rw [if_neg (by decide +kernel)]; exact ⟨rfl, rfl⟩))
    (fun os started H enc _ => lifted os started H enc)
theorem proved : Rows.ChartSectorsAndSharesSaid := over
#print axioms proved
end Go.Proofs.Ytihmbddneapooaa.chartSectorsAndShares
namespace Go.Proofs.Ytihmbddneapooaa
/-- The row, under a short name, for the claim. -/
theorem chartSectorsAndShares_holds : Rows.ChartSectorsAndSharesSaid := chartSectorsAndShares.proved
end Go.Proofs.Ytihmbddneapooaa
