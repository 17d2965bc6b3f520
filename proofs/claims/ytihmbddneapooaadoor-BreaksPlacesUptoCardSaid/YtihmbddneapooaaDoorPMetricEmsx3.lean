-- PRINTED BY print.sh 35421559b90ae4d0a3588c463048766b98c2df88dd9212a6774a882060cdf62d: not written by this session
import Derived.Test.YtihmbddneapooaaDoorPMetricEmsx0
import Derived.Test.YtihmbddneapooaaDoorPMetricEmsx2
namespace Go.Proofs.YtihmbddneapooaaDoor.PMetricEms
open Go.RowKit Go.Proofs.YtihmbddneapooaaDoorW.PrintWords Go.Proofs.YtihmbddneapooaaDoorW.PrintLast Go.Proofs.YtihmbddneapooaaDoorW.PrintMore
attribute [local go_sem] max2_int min2_int max_two min_two max_three min_three max_four min_four   -- for this text's walks alone
set_option linter.unusedVariables false
set_option linter.unusedSimpArgs false

/-! ### chanceryref3_IsMark: function 22 -/
def chanceryref3_IsMark.f (a0 : Int) : Option (Bool) := if a0 = 173 then (some true) else ((chanceryref3_In.f a0 768 879).bind fun t123 => (if t123 = true then (some true) else ((chanceryref3_In.f a0 1425 1469).bind fun t124 => (if t124 = true then (some true) else (if a0 = 1471 then (some true) else (if a0 = 1473 then (some true) else (if a0 = 1474 then (some true) else ((chanceryref3_In.f a0 1552 1562).bind fun t125 => (if t125 = true then (some true) else ((chanceryref3_In.f a0 1611 1631).bind fun t126 => (if t126 = true then (some true) else ((chanceryref3_In.f a0 8203 8207).bind fun t127 => (if t127 = true then (some true) else ((chanceryref3_In.f a0 8234 8238).bind fun t128 => (if t128 = true then (some true) else ((chanceryref3_In.f a0 8288 8297).bind fun t129 => (if t129 = true then (some true) else ((chanceryref3_In.f a0 65024 65039).bind fun t130 => (if t130 = true then (some true) else (some (a0 == 65532)))))))))))))))))))))
set_option maxHeartbeats 8000000 in
set_option maxRecDepth 100000 in
theorem chanceryref3_IsMark.calls (a0 : Int) (r : Bool) (w : World) (h : chanceryref3_IsMark.f a0 = some r) :
    Calls Tryd.prog 22 #[.int .i64 a0] w fun e w' => e = .returned (.bool r) ∧ Drawn0 w w' := by
  have H : (if a0 = 173 then (some true) else ((chanceryref3_In.f a0 768 879).bind fun t123 => (if t123 = true then (some true) else ((chanceryref3_In.f a0 1425 1469).bind fun t124 => (if t124 = true then (some true) else (if a0 = 1471 then (some true) else (if a0 = 1473 then (some true) else (if a0 = 1474 then (some true) else ((chanceryref3_In.f a0 1552 1562).bind fun t125 => (if t125 = true then (some true) else ((chanceryref3_In.f a0 1611 1631).bind fun t126 => (if t126 = true then (some true) else ((chanceryref3_In.f a0 8203 8207).bind fun t127 => (if t127 = true then (some true) else ((chanceryref3_In.f a0 8234 8238).bind fun t128 => (if t128 = true then (some true) else ((chanceryref3_In.f a0 8288 8297).bind fun t129 => (if t129 = true then (some true) else ((chanceryref3_In.f a0 65024 65039).bind fun t130 => (if t130 = true then (some true) else (some (a0 == 65532)))))))))))))))))))))) = some r := h
  clear h
  by_cases c2 : a0 = 173
  · rw [if_pos c2] at H
    have c2b0 : (a0 == 173) = true := beq_iff_eq.mpr c2
    have c2b1 : (a0 != 173) = false := bne_eq_false_iff_eq.mpr c2
    clear c2
    obtain rfl := Option.some.inj H
    go_enter Tryd.func22, Tryd.ntmps22
    go_wp2
    go_ret
    exact ⟨by first | rfl | (simp; done) | (simp [*]; done), by repeat (first | exact Drawn0.refl _ | apply Drawn0.step)⟩
  · rw [if_neg c2] at H
    have c2b0 : (a0 == 173) = false := beq_eq_false_iff_ne.mpr c2
    have c2b1 : (a0 != 173) = true := bne_iff_ne.mpr c2
    replace H := Option.bind_eq_some_iff.mp H
    obtain ⟨t123, A30, H⟩ := H
    replace H : (if t123 = true then (some true) else ((chanceryref3_In.f a0 1425 1469).bind fun t124 => (if t124 = true then (some true) else (if a0 = 1471 then (some true) else (if a0 = 1473 then (some true) else (if a0 = 1474 then (some true) else ((chanceryref3_In.f a0 1552 1562).bind fun t125 => (if t125 = true then (some true) else ((chanceryref3_In.f a0 1611 1631).bind fun t126 => (if t126 = true then (some true) else ((chanceryref3_In.f a0 8203 8207).bind fun t127 => (if t127 = true then (some true) else ((chanceryref3_In.f a0 8234 8238).bind fun t128 => (if t128 = true then (some true) else ((chanceryref3_In.f a0 8288 8297).bind fun t129 => (if t129 = true then (some true) else ((chanceryref3_In.f a0 65024 65039).bind fun t130 => (if t130 = true then (some true) else (some (a0 == 65532)))))))))))))))))))) = some r := H
    have A3 := Aside0.mk A30
    clear A30
    by_cases c4 : t123 = true
    · subst c4
      have H1 : (some true) = some r := by rw [if_pos rfl] at H; exact H
      clear H
      have H := H1
      clear H1
      obtain rfl := Option.some.inj H
      go_enter Tryd.func22, Tryd.ntmps22
      go_wp2_with (first | (go_at_call 16; (with_reducible refine (chanceryref3_In.calls a0 768 879 true _ A3.out).mono ?_); rintro e w' ⟨rfl, ⟨nd, rfl⟩⟩))
      go_ret
      exact ⟨by first | rfl | (simp; done) | (simp [*]; done), by repeat (first | exact Drawn0.refl _ | apply Drawn0.step)⟩
    · replace c4 := Bool.eq_false_iff.mpr c4
      subst c4
      have H1 : ((chanceryref3_In.f a0 1425 1469).bind fun t124 => (if t124 = true then (some true) else (if a0 = 1471 then (some true) else (if a0 = 1473 then (some true) else (if a0 = 1474 then (some true) else ((chanceryref3_In.f a0 1552 1562).bind fun t125 => (if t125 = true then (some true) else ((chanceryref3_In.f a0 1611 1631).bind fun t126 => (if t126 = true then (some true) else ((chanceryref3_In.f a0 8203 8207).bind fun t127 => (if t127 = true then (some true) else ((chanceryref3_In.f a0 8234 8238).bind fun t128 => (if t128 = true then (some true) else ((chanceryref3_In.f a0 8288 8297).bind fun t129 => (if t129 = true then (some true) else ((chanceryref3_In.f a0 65024 65039).bind fun t130 => (if t130 = true then (some true) else (some (a0 == 65532))))))))))))))))))) = some r := by rw [if_neg (show ¬ (false = true) by decide)] at H; exact H
      clear H
      have H := H1
      clear H1
      replace H := Option.bind_eq_some_iff.mp H
      obtain ⟨t124, A50, H⟩ := H
      replace H : (if t124 = true then (some true) else (if a0 = 1471 then (some true) else (if a0 = 1473 then (some true) else (if a0 = 1474 then (some true) else ((chanceryref3_In.f a0 1552 1562).bind fun t125 => (if t125 = true then (some true) else ((chanceryref3_In.f a0 1611 1631).bind fun t126 => (if t126 = true then (some true) else ((chanceryref3_In.f a0 8203 8207).bind fun t127 => (if t127 = true then (some true) else ((chanceryref3_In.f a0 8234 8238).bind fun t128 => (if t128 = true then (some true) else ((chanceryref3_In.f a0 8288 8297).bind fun t129 => (if t129 = true then (some true) else ((chanceryref3_In.f a0 65024 65039).bind fun t130 => (if t130 = true then (some true) else (some (a0 == 65532)))))))))))))))))) = some r := H
      have A5 := Aside0.mk A50
      clear A50
      by_cases c6 : t124 = true
      · subst c6
        have H1 : (some true) = some r := by rw [if_pos rfl] at H; exact H
        clear H
        have H := H1
        clear H1
        obtain rfl := Option.some.inj H
        go_enter Tryd.func22, Tryd.ntmps22
        go_wp2_with (first | (go_at_call 16; (with_reducible refine (chanceryref3_In.calls a0 768 879 false _ A3.out).mono ?_); rintro e w' ⟨rfl, ⟨nd, rfl⟩⟩) | (go_at_call 16; (with_reducible refine (chanceryref3_In.calls a0 1425 1469 true _ A5.out).mono ?_); rintro e w' ⟨rfl, ⟨nd, rfl⟩⟩))
        go_ret
        exact ⟨by first | rfl | (simp; done) | (simp [*]; done), by repeat (first | exact Drawn0.refl _ | apply Drawn0.step)⟩
      · replace c6 := Bool.eq_false_iff.mpr c6
        subst c6
        have H1 : (if a0 = 1471 then (some true) else (if a0 = 1473 then (some true) else (if a0 = 1474 then (some true) else ((chanceryref3_In.f a0 1552 1562).bind fun t125 => (if t125 = true then (some true) else ((chanceryref3_In.f a0 1611 1631).bind fun t126 => (if t126 = true then (some true) else ((chanceryref3_In.f a0 8203 8207).bind fun t127 => (if t127 = true then (some true) else ((chanceryref3_In.f a0 8234 8238).bind fun t128 => (if t128 = true then (some true) else ((chanceryref3_In.f a0 8288 8297).bind fun t129 => (if t129 = true then (some true) else ((chanceryref3_In.f a0 65024 65039).bind fun t130 => (if t130 = true then (some true) else (some (a0 == 65532))))))))))))))))) = some r := by rw [if_neg (show ¬ (false = true) by decide)] at H; exact H
        clear H
        have H := H1
        clear H1
        by_cases c7 : a0 = 1471
        · rw [if_pos c7] at H
          have c7b0 : (a0 == 1471) = true := beq_iff_eq.mpr c7
          have c7b1 : (a0 != 1471) = false := bne_eq_false_iff_eq.mpr c7
          clear c7
          obtain rfl := Option.some.inj H
          go_enter Tryd.func22, Tryd.ntmps22
          go_wp2_with (first | (go_at_call 16; (with_reducible refine (chanceryref3_In.calls a0 768 879 false _ A3.out).mono ?_); rintro e w' ⟨rfl, ⟨nd, rfl⟩⟩) | (go_at_call 16; (with_reducible refine (chanceryref3_In.calls a0 1425 1469 false _ A5.out).mono ?_); rintro e w' ⟨rfl, ⟨nd, rfl⟩⟩))
          go_ret
          exact ⟨by first | rfl | (simp; done) | (simp [*]; done), by repeat (first | exact Drawn0.refl _ | apply Drawn0.step)⟩
        · rw [if_neg c7] at H
          have c7b0 : (a0 == 1471) = false := beq_eq_false_iff_ne.mpr c7
          have c7b1 : (a0 != 1471) = true := bne_iff_ne.mpr c7
          by_cases c8 : a0 = 1473
          · rw [if_pos c8] at H
            have c8b0 : (a0 == 1473) = true := beq_iff_eq.mpr c8
            have c8b1 : (a0 != 1473) = false := bne_eq_false_iff_eq.mpr c8
            clear c8
            obtain rfl := Option.some.inj H
            go_enter Tryd.func22, Tryd.ntmps22
            go_wp2_with (first | (go_at_call 16; (with_reducible refine (chanceryref3_In.calls a0 768 879 false _ A3.out).mono ?_); rintro e w' ⟨rfl, ⟨nd, rfl⟩⟩) | (go_at_call 16; (with_reducible refine (chanceryref3_In.calls a0 1425 1469 false _ A5.out).mono ?_); rintro e w' ⟨rfl, ⟨nd, rfl⟩⟩))
            go_ret
            exact ⟨by first | rfl | (simp; done) | (simp [*]; done), by repeat (first | exact Drawn0.refl _ | apply Drawn0.step)⟩
          · rw [if_neg c8] at H
            have c8b0 : (a0 == 1473) = false := beq_eq_false_iff_ne.mpr c8
            have c8b1 : (a0 != 1473) = true := bne_iff_ne.mpr c8
            by_cases c9 : a0 = 1474
            · rw [if_pos c9] at H
              have c9b0 : (a0 == 1474) = true := beq_iff_eq.mpr c9
              have c9b1 : (a0 != 1474) = false := bne_eq_false_iff_eq.mpr c9
              clear c9
              obtain rfl := Option.some.inj H
              go_enter Tryd.func22, Tryd.ntmps22
              go_wp2_with (first | (go_at_call 16; (with_reducible refine (chanceryref3_In.calls a0 768 879 false _ A3.out).mono ?_); rintro e w' ⟨rfl, ⟨nd, rfl⟩⟩) | (go_at_call 16; (with_reducible refine (chanceryref3_In.calls a0 1425 1469 false _ A5.out).mono ?_); rintro e w' ⟨rfl, ⟨nd, rfl⟩⟩))
              go_ret
              exact ⟨by first | rfl | (simp; done) | (simp [*]; done), by repeat (first | exact Drawn0.refl _ | apply Drawn0.step)⟩
            · rw [if_neg c9] at H
              have c9b0 : (a0 == 1474) = false := beq_eq_false_iff_ne.mpr c9
              have c9b1 : (a0 != 1474) = true := bne_iff_ne.mpr c9
              replace H := Option.bind_eq_some_iff.mp H
              obtain ⟨t125, A100, H⟩ := H
              replace H : (if t125 = true then (some true) else ((chanceryref3_In.f a0 1611 1631).bind fun t126 => (if t126 = true then (some true) else ((chanceryref3_In.f a0 8203 8207).bind fun t127 => (if t127 = true then (some true) else ((chanceryref3_In.f a0 8234 8238).bind fun t128 => (if t128 = true then (some true) else ((chanceryref3_In.f a0 8288 8297).bind fun t129 => (if t129 = true then (some true) else ((chanceryref3_In.f a0 65024 65039).bind fun t130 => (if t130 = true then (some true) else (some (a0 == 65532))))))))))))) = some r := H
              have A10 := Aside0.mk A100
              clear A100
              by_cases c11 : t125 = true
              · subst c11
                have H1 : (some true) = some r := by rw [if_pos rfl] at H; exact H
                clear H
                have H := H1
                clear H1
                obtain rfl := Option.some.inj H
                go_enter Tryd.func22, Tryd.ntmps22
                go_wp2_with (first | (go_at_call 16; (with_reducible refine (chanceryref3_In.calls a0 768 879 false _ A3.out).mono ?_); rintro e w' ⟨rfl, ⟨nd, rfl⟩⟩) | (go_at_call 16; (with_reducible refine (chanceryref3_In.calls a0 1425 1469 false _ A5.out).mono ?_); rintro e w' ⟨rfl, ⟨nd, rfl⟩⟩) | (go_at_call 16; (with_reducible refine (chanceryref3_In.calls a0 1552 1562 true _ A10.out).mono ?_); rintro e w' ⟨rfl, ⟨nd, rfl⟩⟩))
                go_ret
                exact ⟨by first | rfl | (simp; done) | (simp [*]; done), by repeat (first | exact Drawn0.refl _ | apply Drawn0.step)⟩
              · replace c11 := Bool.eq_false_iff.mpr c11
                subst c11
                have H1 : ((chanceryref3_In.f a0 1611 1631).bind fun t126 => (if t126 = true then (some true) else ((chanceryref3_In.f a0 8203 8207).bind fun t127 => (if t127 = true then (some true) else ((chanceryref3_In.f a0 8234 8238).bind fun t128 => (if t128 = true then (some true) else ((chanceryref3_In.f a0 8288 8297).bind fun t129 => (if t129 = true then (some true) else ((chanceryref3_In.f a0 65024 65039).bind fun t130 => (if t130 = true then (some true) else (some (a0 == 65532)))))))))))) = some r := by rw [if_neg (show ¬ (false = true) by decide)] at H; exact H
                clear H
                have H := H1
                clear H1
                replace H := Option.bind_eq_some_iff.mp H
                obtain ⟨t126, A120, H⟩ := H
                replace H : (if t126 = true then (some true) else ((chanceryref3_In.f a0 8203 8207).bind fun t127 => (if t127 = true then (some true) else ((chanceryref3_In.f a0 8234 8238).bind fun t128 => (if t128 = true then (some true) else ((chanceryref3_In.f a0 8288 8297).bind fun t129 => (if t129 = true then (some true) else ((chanceryref3_In.f a0 65024 65039).bind fun t130 => (if t130 = true then (some true) else (some (a0 == 65532))))))))))) = some r := H
                have A12 := Aside0.mk A120
                clear A120
                by_cases c13 : t126 = true
                · subst c13
                  have H1 : (some true) = some r := by rw [if_pos rfl] at H; exact H
                  clear H
                  have H := H1
                  clear H1
                  obtain rfl := Option.some.inj H
                  go_enter Tryd.func22, Tryd.ntmps22
                  go_wp2_with (first | (go_at_call 16; (with_reducible refine (chanceryref3_In.calls a0 768 879 false _ A3.out).mono ?_); rintro e w' ⟨rfl, ⟨nd, rfl⟩⟩) | (go_at_call 16; (with_reducible refine (chanceryref3_In.calls a0 1425 1469 false _ A5.out).mono ?_); rintro e w' ⟨rfl, ⟨nd, rfl⟩⟩) | (go_at_call 16; (with_reducible refine (chanceryref3_In.calls a0 1552 1562 false _ A10.out).mono ?_); rintro e w' ⟨rfl, ⟨nd, rfl⟩⟩) | (go_at_call 16; (with_reducible refine (chanceryref3_In.calls a0 1611 1631 true _ A12.out).mono ?_); rintro e w' ⟨rfl, ⟨nd, rfl⟩⟩))
                  go_ret
                  exact ⟨by first | rfl | (simp; done) | (simp [*]; done), by repeat (first | exact Drawn0.refl _ | apply Drawn0.step)⟩
                · replace c13 := Bool.eq_false_iff.mpr c13
                  subst c13
                  have H1 : ((chanceryref3_In.f a0 8203 8207).bind fun t127 => (if t127 = true then (some true) else ((chanceryref3_In.f a0 8234 8238).bind fun t128 => (if t128 = true then (some true) else ((chanceryref3_In.f a0 8288 8297).bind fun t129 => (if t129 = true then (some true) else ((chanceryref3_In.f a0 65024 65039).bind fun t130 => (if t130 = true then (some true) else (some (a0 == 65532)))))))))) = some r := by rw [if_neg (show ¬ (false = true) by decide)] at H; exact H
                  clear H
                  have H := H1
                  clear H1
                  replace H := Option.bind_eq_some_iff.mp H
                  obtain ⟨t127, A140, H⟩ := H
                  replace H : (if t127 = true then (some true) else ((chanceryref3_In.f a0 8234 8238).bind fun t128 => (if t128 = true then (some true) else ((chanceryref3_In.f a0 8288 8297).bind fun t129 => (if t129 = true then (some true) else ((chanceryref3_In.f a0 65024 65039).bind fun t130 => (if t130 = true then (some true) else (some (a0 == 65532))))))))) = some r := H
                  have A14 := Aside0.mk A140
                  clear A140
                  by_cases c15 : t127 = true
                  · subst c15
                    have H1 : (some true) = some r := by rw [if_pos rfl] at H; exact H
                    clear H
                    have H := H1
                    clear H1
                    obtain rfl := Option.some.inj H
                    go_enter Tryd.func22, Tryd.ntmps22
                    go_wp2_with (first | (go_at_call 16; (with_reducible refine (chanceryref3_In.calls a0 768 879 false _ A3.out).mono ?_); rintro e w' ⟨rfl, ⟨nd, rfl⟩⟩) | (go_at_call 16; (with_reducible refine (chanceryref3_In.calls a0 1425 1469 false _ A5.out).mono ?_); rintro e w' ⟨rfl, ⟨nd, rfl⟩⟩) | (go_at_call 16; (with_reducible refine (chanceryref3_In.calls a0 1552 1562 false _ A10.out).mono ?_); rintro e w' ⟨rfl, ⟨nd, rfl⟩⟩) | (go_at_call 16; (with_reducible refine (chanceryref3_In.calls a0 1611 1631 false _ A12.out).mono ?_); rintro e w' ⟨rfl, ⟨nd, rfl⟩⟩) | (go_at_call 16; (with_reducible refine (chanceryref3_In.calls a0 8203 8207 true _ A14.out).mono ?_); rintro e w' ⟨rfl, ⟨nd, rfl⟩⟩))
                    go_ret
                    exact ⟨by first | rfl | (simp; done) | (simp [*]; done), by repeat (first | exact Drawn0.refl _ | apply Drawn0.step)⟩
                  · replace c15 := Bool.eq_false_iff.mpr c15
                    subst c15
                    have H1 : ((chanceryref3_In.f a0 8234 8238).bind fun t128 => (if t128 = true then (some true) else ((chanceryref3_In.f a0 8288 8297).bind fun t129 => (if t129 = true then (some true) else ((chanceryref3_In.f a0 65024 65039).bind fun t130 => (if t130 = true then (some true) else (some (a0 == 65532)))))))) = some r := by rw [if_neg (show ¬ (false = true) by decide)] at H; exact H
                    clear H
                    have H := H1
                    clear H1
                    replace H := Option.bind_eq_some_iff.mp H
                    obtain ⟨t128, A160, H⟩ := H
                    replace H : (if t128 = true then (some true) else ((chanceryref3_In.f a0 8288 8297).bind fun t129 => (if t129 = true then (some true) else ((chanceryref3_In.f a0 65024 65039).bind fun t130 => (if t130 = true then (some true) else (some (a0 == 65532))))))) = some r := H
                    have A16 := Aside0.mk A160
                    clear A160
                    by_cases c17 : t128 = true
                    · subst c17
                      have H1 : (some true) = some r := by rw [if_pos rfl] at H; exact H
                      clear H
                      have H := H1
                      clear H1
                      obtain rfl := Option.some.inj H
                      go_enter Tryd.func22, Tryd.ntmps22
                      go_wp2_with (first | (go_at_call 16; (with_reducible refine (chanceryref3_In.calls a0 768 879 false _ A3.out).mono ?_); rintro e w' ⟨rfl, ⟨nd, rfl⟩⟩) | (go_at_call 16; (with_reducible refine (chanceryref3_In.calls a0 1425 1469 false _ A5.out).mono ?_); rintro e w' ⟨rfl, ⟨nd, rfl⟩⟩) | (go_at_call 16; (with_reducible refine (chanceryref3_In.calls a0 1552 1562 false _ A10.out).mono ?_); rintro e w' ⟨rfl, ⟨nd, rfl⟩⟩) | (go_at_call 16; (with_reducible refine (chanceryref3_In.calls a0 1611 1631 false _ A12.out).mono ?_); rintro e w' ⟨rfl, ⟨nd, rfl⟩⟩) | (go_at_call 16; (with_reducible refine (chanceryref3_In.calls a0 8203 8207 false _ A14.out).mono ?_); rintro e w' ⟨rfl, ⟨nd, rfl⟩⟩) | (go_at_call 16; (with_reducible refine (chanceryref3_In.calls a0 8234 8238 true _ A16.out).mono ?_); rintro e w' ⟨rfl, ⟨nd, rfl⟩⟩))
                      go_ret
                      exact ⟨by first | rfl | (simp; done) | (simp [*]; done), by repeat (first | exact Drawn0.refl _ | apply Drawn0.step)⟩
                    · replace c17 := Bool.eq_false_iff.mpr c17
                      subst c17
                      have H1 : ((chanceryref3_In.f a0 8288 8297).bind fun t129 => (if t129 = true then (some true) else ((chanceryref3_In.f a0 65024 65039).bind fun t130 => (if t130 = true then (some true) else (some (a0 == 65532)))))) = some r := by rw [if_neg (show ¬ (false = true) by decide)] at H; exact H
                      clear H
                      have H := H1
                      clear H1
                      replace H := Option.bind_eq_some_iff.mp H
                      obtain ⟨t129, A180, H⟩ := H
                      replace H : (if t129 = true then (some true) else ((chanceryref3_In.f a0 65024 65039).bind fun t130 => (if t130 = true then (some true) else (some (a0 == 65532))))) = some r := H
                      have A18 := Aside0.mk A180
                      clear A180
                      by_cases c19 : t129 = true
                      · subst c19
                        have H1 : (some true) = some r := by rw [if_pos rfl] at H; exact H
                        clear H
                        have H := H1
                        clear H1
                        obtain rfl := Option.some.inj H
                        go_enter Tryd.func22, Tryd.ntmps22
                        go_wp2_with (first | (go_at_call 16; (with_reducible refine (chanceryref3_In.calls a0 768 879 false _ A3.out).mono ?_); rintro e w' ⟨rfl, ⟨nd, rfl⟩⟩) | (go_at_call 16; (with_reducible refine (chanceryref3_In.calls a0 1425 1469 false _ A5.out).mono ?_); rintro e w' ⟨rfl, ⟨nd, rfl⟩⟩) | (go_at_call 16; (with_reducible refine (chanceryref3_In.calls a0 1552 1562 false _ A10.out).mono ?_); rintro e w' ⟨rfl, ⟨nd, rfl⟩⟩) | (go_at_call 16; (with_reducible refine (chanceryref3_In.calls a0 1611 1631 false _ A12.out).mono ?_); rintro e w' ⟨rfl, ⟨nd, rfl⟩⟩) | (go_at_call 16; (with_reducible refine (chanceryref3_In.calls a0 8203 8207 false _ A14.out).mono ?_); rintro e w' ⟨rfl, ⟨nd, rfl⟩⟩) | (go_at_call 16; (with_reducible refine (chanceryref3_In.calls a0 8234 8238 false _ A16.out).mono ?_); rintro e w' ⟨rfl, ⟨nd, rfl⟩⟩) | (go_at_call 16; (with_reducible refine (chanceryref3_In.calls a0 8288 8297 true _ A18.out).mono ?_); rintro e w' ⟨rfl, ⟨nd, rfl⟩⟩))
                        go_ret
                        exact ⟨by first | rfl | (simp; done) | (simp [*]; done), by repeat (first | exact Drawn0.refl _ | apply Drawn0.step)⟩
                      · replace c19 := Bool.eq_false_iff.mpr c19
                        subst c19
                        have H1 : ((chanceryref3_In.f a0 65024 65039).bind fun t130 => (if t130 = true then (some true) else (some (a0 == 65532)))) = some r := by rw [if_neg (show ¬ (false = true) by decide)] at H; exact H
                        clear H
                        have H := H1
                        clear H1
                        replace H := Option.bind_eq_some_iff.mp H
                        obtain ⟨t130, A200, H⟩ := H
                        replace H : (if t130 = true then (some true) else (some (a0 == 65532))) = some r := H
                        have A20 := Aside0.mk A200
                        clear A200
                        by_cases c21 : t130 = true
                        · subst c21
                          have H1 : (some true) = some r := by rw [if_pos rfl] at H; exact H
                          clear H
                          have H := H1
                          clear H1
                          obtain rfl := Option.some.inj H
                          go_enter Tryd.func22, Tryd.ntmps22
                          go_wp2_with (first | (go_at_call 16; (with_reducible refine (chanceryref3_In.calls a0 768 879 false _ A3.out).mono ?_); rintro e w' ⟨rfl, ⟨nd, rfl⟩⟩) | (go_at_call 16; (with_reducible refine (chanceryref3_In.calls a0 1425 1469 false _ A5.out).mono ?_); rintro e w' ⟨rfl, ⟨nd, rfl⟩⟩) | (go_at_call 16; (with_reducible refine (chanceryref3_In.calls a0 1552 1562 false _ A10.out).mono ?_); rintro e w' ⟨rfl, ⟨nd, rfl⟩⟩) | (go_at_call 16; (with_reducible refine (chanceryref3_In.calls a0 1611 1631 false _ A12.out).mono ?_); rintro e w' ⟨rfl, ⟨nd, rfl⟩⟩) | (go_at_call 16; (with_reducible refine (chanceryref3_In.calls a0 8203 8207 false _ A14.out).mono ?_); rintro e w' ⟨rfl, ⟨nd, rfl⟩⟩) | (go_at_call 16; (with_reducible refine (chanceryref3_In.calls a0 8234 8238 false _ A16.out).mono ?_); rintro e w' ⟨rfl, ⟨nd, rfl⟩⟩) | (go_at_call 16; (with_reducible refine (chanceryref3_In.calls a0 8288 8297 false _ A18.out).mono ?_); rintro e w' ⟨rfl, ⟨nd, rfl⟩⟩) | (go_at_call 16; (with_reducible refine (chanceryref3_In.calls a0 65024 65039 true _ A20.out).mono ?_); rintro e w' ⟨rfl, ⟨nd, rfl⟩⟩))
                          go_ret
                          exact ⟨by first | rfl | (simp; done) | (simp [*]; done), by repeat (first | exact Drawn0.refl _ | apply Drawn0.step)⟩
                        · replace c21 := Bool.eq_false_iff.mpr c21
                          subst c21
                          have H1 : (some (a0 == 65532)) = some r := by rw [if_neg (show ¬ (false = true) by decide)] at H; exact H
                          clear H
                          have H := H1
                          clear H1
                          obtain rfl := Option.some.inj H
                          go_enter Tryd.func22, Tryd.ntmps22
                          go_wp2_with (first | (go_at_call 16; (with_reducible refine (chanceryref3_In.calls a0 768 879 false _ A3.out).mono ?_); rintro e w' ⟨rfl, ⟨nd, rfl⟩⟩) | (go_at_call 16; (with_reducible refine (chanceryref3_In.calls a0 1425 1469 false _ A5.out).mono ?_); rintro e w' ⟨rfl, ⟨nd, rfl⟩⟩) | (go_at_call 16; (with_reducible refine (chanceryref3_In.calls a0 1552 1562 false _ A10.out).mono ?_); rintro e w' ⟨rfl, ⟨nd, rfl⟩⟩) | (go_at_call 16; (with_reducible refine (chanceryref3_In.calls a0 1611 1631 false _ A12.out).mono ?_); rintro e w' ⟨rfl, ⟨nd, rfl⟩⟩) | (go_at_call 16; (with_reducible refine (chanceryref3_In.calls a0 8203 8207 false _ A14.out).mono ?_); rintro e w' ⟨rfl, ⟨nd, rfl⟩⟩) | (go_at_call 16; (with_reducible refine (chanceryref3_In.calls a0 8234 8238 false _ A16.out).mono ?_); rintro e w' ⟨rfl, ⟨nd, rfl⟩⟩) | (go_at_call 16; (with_reducible refine (chanceryref3_In.calls a0 8288 8297 false _ A18.out).mono ?_); rintro e w' ⟨rfl, ⟨nd, rfl⟩⟩) | (go_at_call 16; (with_reducible refine (chanceryref3_In.calls a0 65024 65039 false _ A20.out).mono ?_); rintro e w' ⟨rfl, ⟨nd, rfl⟩⟩))
                          go_ret
                          exact ⟨by first | rfl | (simp; done) | (simp [*]; done), by repeat (first | exact Drawn0.refl _ | apply Drawn0.step)⟩

-- NOT PRINTED: function 30 (chanceryref3_has)

-- NOT PRINTED: function 20 (chanceryref3_Em)

-- NOT PRINTED: function 5 (chancerylaw3_MetricEms)

end Go.Proofs.YtihmbddneapooaaDoor.PMetricEms
