-- WRITTEN BY wip/print2.py, a program of this session, over contracts of this session's own; no print of print.sh
import Derived.Test.YtihmbddneapooaaDoorQBCx0
namespace Go.Proofs.YtihmbddneapooaaDoor.QBC
open Go.RowKit Go.Proofs.YtihmbddneapooaaDoor.HandBC Go.Proofs.YtihmbddneapooaaDoorW.PrintWords Go.Proofs.YtihmbddneapooaaDoorW.PrintLast Go.Proofs.YtihmbddneapooaaDoorW.PrintMore
attribute [local go_sem] max2_int min2_int max_two min_two max_three min_three max_four min_four   -- for this text's walks alone
set_option linter.unusedVariables false
set_option linter.unusedSimpArgs false

-- BY HAND: function 12 (bidi_Class)

-- BY HAND: function 13 (bidi_Mirror)

/-! ### chancerylaw3_within: function 9 -/
def chancerylaw3_within.f (a0 : Int) (a1 : Int) (a2 : Int) : Option (Int) := if (wrap64 ((wrap64 (a2 - a1)) + 1)) = 0 then (none) else (some (wrap64 (a1 + (Int.tmod (wrap64 ((Int.tmod a0 (wrap64 ((wrap64 (a2 - a1)) + 1))) + (wrap64 ((wrap64 (a2 - a1)) + 1)))) (wrap64 ((wrap64 (a2 - a1)) + 1))))))
set_option maxHeartbeats 8000000 in
set_option maxRecDepth 100000 in
theorem chancerylaw3_within.calls (a0 : Int) (a1 : Int) (a2 : Int) (r : Int) (w : World) (h : chancerylaw3_within.f a0 a1 a2 = some r) :
    Calls Tryd.prog 9 #[.int .i64 a0, .int .i64 a1, .int .i64 a2] w fun e w' => e = .returned (.int .i64 r) ∧ Drawn0 w w' := by
  have H : (if (wrap64 ((wrap64 (a2 - a1)) + 1)) = 0 then (none) else (some (wrap64 (a1 + (Int.tmod (wrap64 ((Int.tmod a0 (wrap64 ((wrap64 (a2 - a1)) + 1))) + (wrap64 ((wrap64 (a2 - a1)) + 1)))) (wrap64 ((wrap64 (a2 - a1)) + 1))))))) = some r := h
  clear h
  by_cases c4 : (wrap64 ((wrap64 (a2 - a1)) + 1)) = 0
  · rw [if_pos c4] at H
    exact absurd H (by simp)
  · rw [if_neg c4] at H
    have c4b0 : ((wrap64 ((wrap64 (a2 - a1)) + 1)) == 0) = false := beq_eq_false_iff_ne.mpr c4
    have c4b1 : ((wrap64 ((wrap64 (a2 - a1)) + 1)) != 0) = true := bne_iff_ne.mpr c4
    obtain rfl := Option.some.inj H
    go_enter Tryd.func9, Tryd.ntmps9
    go_wp2
    go_ret
    exact ⟨by first | rfl | (simp; done) | (simp [*]; done), by repeat (first | exact Drawn0.refl _ | apply Drawn0.step)⟩

/-! ### chancerylaw3_some: function 14 -/
def chancerylaw3_some.f (a0 : Int) : Option (List Int) := (some (([9, 10, 32, 33, 48, 57, 65, 90, 97, 122, 126, 127, 159, 160, 173, 192, 222, 223, 591, 768, 879, 880, 1327, 1424, 1471, 1535, 1536, 1552, 1632, 1776, 1983, 1984, 2143, 2144, 2303, 4352, 4447, 8192, 8202, 8203, 8207, 8208, 8212, 8234, 8239, 8287, 8288, 8297, 8352, 8592, 11263, 11904, 12288, 12296, 12320, 42191, 44032, 55203, 63744, 64255, 64285, 64336, 65023, 65024, 65136, 65279, 65280, 65376, 65529, 65532, 131072, 262141] : List Int) : List Int)).bind fun y101 => ((chancerylaw3_within.f a0 0 (wrap64 ((y101.length : Int) - 1))).bind fun t104 => (if 0 ≤ t104 then (if t104 < (y101.length : Int) then ((chancerylaw3_within.f a0 0 12288).bind fun t106 => (some (([a0, t106, wrap64 ((rd y101 t104) - 1), rd y101 t104, wrap64 ((rd y101 t104) + 1)] : List Int)))) else (none)) else (none)))
set_option maxHeartbeats 8000000 in
set_option maxRecDepth 100000 in
theorem chancerylaw3_some.calls (a0 : Int) (r : List Int) (w : World) (h : chancerylaw3_some.f a0 = some r) :
    Calls Tryd.prog 14 #[.int .i64 a0] w fun e w' => ∃ v0_ : Value, e = .returned (v0_) ∧ Kd.R (Kd.int .i64) 3 w' w.heap.size (fun _ => True) v0_ r ∧ Below w.heap.size w w' := by
  have HB := Aside0.mk (Below.refl w.heap.size w)
  have H : ((some (([9, 10, 32, 33, 48, 57, 65, 90, 97, 122, 126, 127, 159, 160, 173, 192, 222, 223, 591, 768, 879, 880, 1327, 1424, 1471, 1535, 1536, 1552, 1632, 1776, 1983, 1984, 2143, 2144, 2303, 4352, 4447, 8192, 8202, 8203, 8207, 8208, 8212, 8234, 8239, 8287, 8288, 8297, 8352, 8592, 11263, 11904, 12288, 12296, 12320, 42191, 44032, 55203, 63744, 64255, 64285, 64336, 65023, 65024, 65136, 65279, 65280, 65376, 65529, 65532, 131072, 262141] : List Int) : List Int)).bind fun y101 => ((chancerylaw3_within.f a0 0 (wrap64 ((y101.length : Int) - 1))).bind fun t104 => (if 0 ≤ t104 then (if t104 < (y101.length : Int) then ((chancerylaw3_within.f a0 0 12288).bind fun t106 => (some (([a0, t106, wrap64 ((rd y101 t104) - 1), rd y101 t104, wrap64 ((rd y101 t104) + 1)] : List Int)))) else (none)) else (none)))) = some r := h
  clear h
  obtain ⟨y101, hy101⟩ : ∃ y_ : List Int, y_ = (([9, 10, 32, 33, 48, 57, 65, 90, 97, 122, 126, 127, 159, 160, 173, 192, 222, 223, 591, 768, 879, 880, 1327, 1424, 1471, 1535, 1536, 1552, 1632, 1776, 1983, 1984, 2143, 2144, 2303, 4352, 4447, 8192, 8202, 8203, 8207, 8208, 8212, 8234, 8239, 8287, 8288, 8297, 8352, 8592, 11263, 11904, 12288, 12296, 12320, 42191, 44032, 55203, 63744, 64255, 64285, 64336, 65023, 65024, 65136, 65279, 65280, 65376, 65529, 65532, 131072, 262141] : List Int)) := ⟨_, rfl⟩
  replace H : ((chancerylaw3_within.f a0 0 (wrap64 ((y101.length : Int) - 1))).bind fun t104 => (if 0 ≤ t104 then (if t104 < (y101.length : Int) then ((chancerylaw3_within.f a0 0 12288).bind fun t106 => (some (([a0, t106, wrap64 ((rd y101 t104) - 1), rd y101 t104, wrap64 ((rd y101 t104) + 1)] : List Int)))) else (none)) else (none))) = some r := by first | (rw [hy101]; with_reducible exact H) | (have H2_ := (Option.bind_some _ _).symm.trans H; rw [hy101]; with_reducible exact H2_) | (have H2_ := (Option.bind_some _ _).symm.trans H; with_reducible exact H2_) | with_reducible exact H | (rw [hy101]; exact H) | exact H
  have Ny101 := Aside0.mk hy101
  clear hy101
  replace H := Option.bind_eq_some_iff.mp H
  obtain ⟨t104, A20, H⟩ := H
  replace H : (if 0 ≤ t104 then (if t104 < (y101.length : Int) then ((chancerylaw3_within.f a0 0 12288).bind fun t106 => (some (([a0, t106, wrap64 ((rd y101 t104) - 1), rd y101 t104, wrap64 ((rd y101 t104) + 1)] : List Int)))) else (none)) else (none)) = some r := H
  have A2 := Aside0.mk A20
  clear A20
  by_cases c3 : 0 ≤ t104
  · rw [if_pos c3] at H
    have c3b0 : decide (0 ≤ t104) = true := decide_eq_true c3
    clear c3
    by_cases c4 : t104 < (y101.length : Int)
    · rw [if_pos c4] at H
      have c4b0 : decide (t104 < (y101.length : Int)) = true := decide_eq_true c4
      clear c4
      replace H := Option.bind_eq_some_iff.mp H
      obtain ⟨t106, A50, H⟩ := H
      replace H : (some (([a0, t106, wrap64 ((rd y101 t104) - 1), rd y101 t104, wrap64 ((rd y101 t104) + 1)] : List Int))) = some r := H
      have A5 := Aside0.mk A50
      clear A50
      obtain ⟨y107, hy107⟩ : ∃ y_ : List Int, y_ = (([a0, t106, wrap64 ((rd y101 t104) - 1), rd y101 t104, wrap64 ((rd y101 t104) + 1)] : List Int)) := ⟨_, rfl⟩
      replace H : (some y107) = some r := by first | (rw [hy107]; with_reducible exact H) | (have H2_ := (Option.bind_some _ _).symm.trans H; rw [hy107]; with_reducible exact H2_) | (have H2_ := (Option.bind_some _ _).symm.trans H; with_reducible exact H2_) | with_reducible exact H | (rw [hy107]; exact H) | exact H
      have Ny107 := Aside0.mk hy107
      clear hy107
      obtain rfl := Option.some.inj H
      go_enter Tryd.func14, Tryd.ntmps14
      go_wp2_with (first | ((with_reducible refine gate_dst (N := 5) rfl ?_); refine Kd.R_lit (Kd.int .i64) _ 3 ?hg (N := 5) ?hd (xs := ([9, 10, 32, 33, 48, 57, 65, 90, 97, 122, 126, 127, 159, 160, 173, 192, 222, 223, 591, 768, 879, 880, 1327, 1424, 1471, 1535, 1536, 1552, 1632, 1776, 1983, 1984, 2143, 2144, 2303, 4352, 4447, 8192, 8202, 8203, 8207, 8208, 8212, 8234, 8239, 8287, 8288, 8297, 8352, 8592, 11263, 11904, 12288, 12296, 12320, 42191, 44032, 55203, 63744, 64255, 64285, 64336, 65023, 65024, 65136, 65279, 65280, 65376, 65529, 65532, 131072, 262141] : List Int)) (inner := [.int .i64 9, .int .i64 10, .int .i64 32, .int .i64 33, .int .i64 48, .int .i64 57, .int .i64 65, .int .i64 90, .int .i64 97, .int .i64 122, .int .i64 126, .int .i64 127, .int .i64 159, .int .i64 160, .int .i64 173, .int .i64 192, .int .i64 222, .int .i64 223, .int .i64 591, .int .i64 768, .int .i64 879, .int .i64 880, .int .i64 1327, .int .i64 1424, .int .i64 1471, .int .i64 1535, .int .i64 1536, .int .i64 1552, .int .i64 1632, .int .i64 1776, .int .i64 1983, .int .i64 1984, .int .i64 2143, .int .i64 2144, .int .i64 2303, .int .i64 4352, .int .i64 4447, .int .i64 8192, .int .i64 8202, .int .i64 8203, .int .i64 8207, .int .i64 8208, .int .i64 8212, .int .i64 8234, .int .i64 8239, .int .i64 8287, .int .i64 8288, .int .i64 8297, .int .i64 8352, .int .i64 8592, .int .i64 11263, .int .i64 11904, .int .i64 12288, .int .i64 12296, .int .i64 12320, .int .i64 42191, .int .i64 44032, .int .i64 55203, .int .i64 63744, .int .i64 64255, .int .i64 64285, .int .i64 64336, .int .i64 65023, .int .i64 65024, .int .i64 65136, .int .i64 65279, .int .i64 65280, .int .i64 65376, .int .i64 65529, .int .i64 65532, .int .i64 131072, .int .i64 262141]) (ok := fun _ => True) (okp := fun _ => True) ?hr ?hp (fun _ hk => hk) trivial (Below.refl _ _) (Nat.le_refl _) (by simp) ?_; (case hd => rfl); (case hg => rfl); (case hr => first | (go_simp; done) | (go_simp; rfl)); (case hp => exact (Reps.one (show Kd.M (Kd.int .i64) _ _ _ 9 [.int .i64 9] from rfl) (Reps.one (show Kd.M (Kd.int .i64) _ _ _ 10 [.int .i64 10] from rfl) (Reps.one (show Kd.M (Kd.int .i64) _ _ _ 32 [.int .i64 32] from rfl) (Reps.one (show Kd.M (Kd.int .i64) _ _ _ 33 [.int .i64 33] from rfl) (Reps.one (show Kd.M (Kd.int .i64) _ _ _ 48 [.int .i64 48] from rfl) (Reps.one (show Kd.M (Kd.int .i64) _ _ _ 57 [.int .i64 57] from rfl) (Reps.one (show Kd.M (Kd.int .i64) _ _ _ 65 [.int .i64 65] from rfl) (Reps.one (show Kd.M (Kd.int .i64) _ _ _ 90 [.int .i64 90] from rfl) (Reps.one (show Kd.M (Kd.int .i64) _ _ _ 97 [.int .i64 97] from rfl) (Reps.one (show Kd.M (Kd.int .i64) _ _ _ 122 [.int .i64 122] from rfl) (Reps.one (show Kd.M (Kd.int .i64) _ _ _ 126 [.int .i64 126] from rfl) (Reps.one (show Kd.M (Kd.int .i64) _ _ _ 127 [.int .i64 127] from rfl) (Reps.one (show Kd.M (Kd.int .i64) _ _ _ 159 [.int .i64 159] from rfl) (Reps.one (show Kd.M (Kd.int .i64) _ _ _ 160 [.int .i64 160] from rfl) (Reps.one (show Kd.M (Kd.int .i64) _ _ _ 173 [.int .i64 173] from rfl) (Reps.one (show Kd.M (Kd.int .i64) _ _ _ 192 [.int .i64 192] from rfl) (Reps.one (show Kd.M (Kd.int .i64) _ _ _ 222 [.int .i64 222] from rfl) (Reps.one (show Kd.M (Kd.int .i64) _ _ _ 223 [.int .i64 223] from rfl) (Reps.one (show Kd.M (Kd.int .i64) _ _ _ 591 [.int .i64 591] from rfl) (Reps.one (show Kd.M (Kd.int .i64) _ _ _ 768 [.int .i64 768] from rfl) (Reps.one (show Kd.M (Kd.int .i64) _ _ _ 879 [.int .i64 879] from rfl) (Reps.one (show Kd.M (Kd.int .i64) _ _ _ 880 [.int .i64 880] from rfl) (Reps.one (show Kd.M (Kd.int .i64) _ _ _ 1327 [.int .i64 1327] from rfl) (Reps.one (show Kd.M (Kd.int .i64) _ _ _ 1424 [.int .i64 1424] from rfl) (Reps.one (show Kd.M (Kd.int .i64) _ _ _ 1471 [.int .i64 1471] from rfl) (Reps.one (show Kd.M (Kd.int .i64) _ _ _ 1535 [.int .i64 1535] from rfl) (Reps.one (show Kd.M (Kd.int .i64) _ _ _ 1536 [.int .i64 1536] from rfl) (Reps.one (show Kd.M (Kd.int .i64) _ _ _ 1552 [.int .i64 1552] from rfl) (Reps.one (show Kd.M (Kd.int .i64) _ _ _ 1632 [.int .i64 1632] from rfl) (Reps.one (show Kd.M (Kd.int .i64) _ _ _ 1776 [.int .i64 1776] from rfl) (Reps.one (show Kd.M (Kd.int .i64) _ _ _ 1983 [.int .i64 1983] from rfl) (Reps.one (show Kd.M (Kd.int .i64) _ _ _ 1984 [.int .i64 1984] from rfl) (Reps.one (show Kd.M (Kd.int .i64) _ _ _ 2143 [.int .i64 2143] from rfl) (Reps.one (show Kd.M (Kd.int .i64) _ _ _ 2144 [.int .i64 2144] from rfl) (Reps.one (show Kd.M (Kd.int .i64) _ _ _ 2303 [.int .i64 2303] from rfl) (Reps.one (show Kd.M (Kd.int .i64) _ _ _ 4352 [.int .i64 4352] from rfl) (Reps.one (show Kd.M (Kd.int .i64) _ _ _ 4447 [.int .i64 4447] from rfl) (Reps.one (show Kd.M (Kd.int .i64) _ _ _ 8192 [.int .i64 8192] from rfl) (Reps.one (show Kd.M (Kd.int .i64) _ _ _ 8202 [.int .i64 8202] from rfl) (Reps.one (show Kd.M (Kd.int .i64) _ _ _ 8203 [.int .i64 8203] from rfl) (Reps.one (show Kd.M (Kd.int .i64) _ _ _ 8207 [.int .i64 8207] from rfl) (Reps.one (show Kd.M (Kd.int .i64) _ _ _ 8208 [.int .i64 8208] from rfl) (Reps.one (show Kd.M (Kd.int .i64) _ _ _ 8212 [.int .i64 8212] from rfl) (Reps.one (show Kd.M (Kd.int .i64) _ _ _ 8234 [.int .i64 8234] from rfl) (Reps.one (show Kd.M (Kd.int .i64) _ _ _ 8239 [.int .i64 8239] from rfl) (Reps.one (show Kd.M (Kd.int .i64) _ _ _ 8287 [.int .i64 8287] from rfl) (Reps.one (show Kd.M (Kd.int .i64) _ _ _ 8288 [.int .i64 8288] from rfl) (Reps.one (show Kd.M (Kd.int .i64) _ _ _ 8297 [.int .i64 8297] from rfl) (Reps.one (show Kd.M (Kd.int .i64) _ _ _ 8352 [.int .i64 8352] from rfl) (Reps.one (show Kd.M (Kd.int .i64) _ _ _ 8592 [.int .i64 8592] from rfl) (Reps.one (show Kd.M (Kd.int .i64) _ _ _ 11263 [.int .i64 11263] from rfl) (Reps.one (show Kd.M (Kd.int .i64) _ _ _ 11904 [.int .i64 11904] from rfl) (Reps.one (show Kd.M (Kd.int .i64) _ _ _ 12288 [.int .i64 12288] from rfl) (Reps.one (show Kd.M (Kd.int .i64) _ _ _ 12296 [.int .i64 12296] from rfl) (Reps.one (show Kd.M (Kd.int .i64) _ _ _ 12320 [.int .i64 12320] from rfl) (Reps.one (show Kd.M (Kd.int .i64) _ _ _ 42191 [.int .i64 42191] from rfl) (Reps.one (show Kd.M (Kd.int .i64) _ _ _ 44032 [.int .i64 44032] from rfl) (Reps.one (show Kd.M (Kd.int .i64) _ _ _ 55203 [.int .i64 55203] from rfl) (Reps.one (show Kd.M (Kd.int .i64) _ _ _ 63744 [.int .i64 63744] from rfl) (Reps.one (show Kd.M (Kd.int .i64) _ _ _ 64255 [.int .i64 64255] from rfl) (Reps.one (show Kd.M (Kd.int .i64) _ _ _ 64285 [.int .i64 64285] from rfl) (Reps.one (show Kd.M (Kd.int .i64) _ _ _ 64336 [.int .i64 64336] from rfl) (Reps.one (show Kd.M (Kd.int .i64) _ _ _ 65023 [.int .i64 65023] from rfl) (Reps.one (show Kd.M (Kd.int .i64) _ _ _ 65024 [.int .i64 65024] from rfl) (Reps.one (show Kd.M (Kd.int .i64) _ _ _ 65136 [.int .i64 65136] from rfl) (Reps.one (show Kd.M (Kd.int .i64) _ _ _ 65279 [.int .i64 65279] from rfl) (Reps.one (show Kd.M (Kd.int .i64) _ _ _ 65280 [.int .i64 65280] from rfl) (Reps.one (show Kd.M (Kd.int .i64) _ _ _ 65376 [.int .i64 65376] from rfl) (Reps.one (show Kd.M (Kd.int .i64) _ _ _ 65529 [.int .i64 65529] from rfl) (Reps.one (show Kd.M (Kd.int .i64) _ _ _ 65532 [.int .i64 65532] from rfl) (Reps.one (show Kd.M (Kd.int .i64) _ _ _ 131072 [.int .i64 131072] from rfl) (Reps.one (show Kd.M (Kd.int .i64) _ _ _ 262141 [.int .i64 262141] from rfl) (Reps.none _ _)))))))))))))))))))))))))))))))))))))))))))))))))))))))))))))))))))))))))); intro v102 w6 ho7 hb hg_ hnew_; clear hg_ hnew_; (first | rw [← Ny101.out] at ho7 | (simp only [Int.reduceToNat] at ho7; rw [← Ny101.out] at ho7)); have n0_ := Aside0.mk (Kd.R_lower ho7 (below_size (by repeat (first | (with_reducible first | exact HB.out | apply below_alloc | apply pw_below_drewN | apply below_drew1) | exact HB.out)))); have n1_ := Aside0.mk (below_step (by repeat (first | (with_reducible first | exact HB.out | apply below_alloc | apply pw_below_drewN | apply below_drew1) | exact HB.out)) hb); clear HB; have HO103 := n0_; have HB := n1_; clear n0_ n1_; clear hb ho7; obtain ⟨Ao8, co8, eo8⟩ := Kd.R_slice HO103.out; subst eo8) | ((with_reducible refine gate_callee (f := 9) rfl ?_); refine goesL_ (some 11) rfl rfl Tryd.func9 (by kernel_rfl) rfl #[.int .i64 a0, .int .i64 0, .int .i64 (wrap64 ((y101.length : Int) - 1))] rfl (by (try simp only [List.map_toArray, List.map_cons, List.map_nil]); first | done | rfl | (simp only [List.length_drop, List.length_take]; rfl)) ?_; (with_reducible refine (chancerylaw3_within.calls a0 0 (wrap64 ((y101.length : Int) - 1)) t104 _ A2.out).mono ?_); rintro e w' ⟨rfl, ⟨nd, rfl⟩⟩; refine ⟨_, rfl, ?_⟩; have p105 : 0 ≤ (t104 : Int) := of_decide_eq_true (by first | (with_reducible assumption) | assumption); have q105 : t104 < (y101.length : Int) := of_decide_eq_true (by first | (with_reducible assumption) | assumption); obtain ⟨ad105, e105, hx105_0⟩ := Kd.at_int (Kd.R_reads' HO103.out).2.2 t104 p105 q105; cases e105; replace p105 := eq_true p105; replace q105 := eq_true q105) | ((with_reducible refine gate_callee (f := 9) rfl ?_); refine goesL_ (some 16) rfl rfl Tryd.func9 (by kernel_rfl) rfl #[.int .i64 a0, .int .i64 0, .int .i64 12288] rfl (by (try simp only [List.map_toArray, List.map_cons, List.map_nil]); first | done | rfl | (simp only [List.length_drop, List.length_take]; rfl)) ?_; (with_reducible refine (chancerylaw3_within.calls a0 0 12288 t106 _ A5.out).mono ?_); rintro e w' ⟨rfl, ⟨nd, rfl⟩⟩; refine ⟨_, rfl, ?_⟩) | ((with_reducible refine gate_dst (N := 22) rfl ?_); refine Kd.R_lit (Kd.int .i64) _ 3 ?hg (N := 22) ?hd (xs := ([a0, t106, wrap64 ((rd y101 t104) - 1), rd y101 t104, wrap64 ((rd y101 t104) + 1)] : List Int)) (inner := [.int .i64 a0, .int .i64 t106, .int .i64 (wrap64 ((rd y101 t104) - 1)), .int .i64 (rd y101 t104), .int .i64 (wrap64 ((rd y101 t104) + 1))]) (ok := fun _ => True) (okp := fun _ => True) ?hr ?hp (fun _ hk => hk) trivial (Below.refl _ _) (Nat.le_refl _) (by simp) ?_; (case hd => rfl); (case hg => rfl); (case hr => first | (go_simp; done) | (go_simp; rfl)); (case hp => exact (Reps.one (show Kd.M (Kd.int .i64) _ _ _ a0 [.int .i64 a0] from rfl) (Reps.one (show Kd.M (Kd.int .i64) _ _ _ t106 [.int .i64 t106] from rfl) (Reps.one (show Kd.M (Kd.int .i64) _ _ _ (wrap64 ((rd y101 t104) - 1)) [.int .i64 (wrap64 ((rd y101 t104) - 1))] from rfl) (Reps.one (show Kd.M (Kd.int .i64) _ _ _ (rd y101 t104) [.int .i64 (rd y101 t104)] from rfl) (Reps.one (show Kd.M (Kd.int .i64) _ _ _ (wrap64 ((rd y101 t104) + 1)) [.int .i64 (wrap64 ((rd y101 t104) + 1))] from rfl) (Reps.none _ _))))))); intro v108 w9 ho10 hb hg_ hnew_; clear hg_ hnew_; (first | rw [← Ny107.out] at ho10 | (simp only [Int.reduceToNat] at ho10; rw [← Ny107.out] at ho10)); have n0_ := Aside0.mk (Kd.R_elder' (by (with_reducible repeat (first | apply Kd.R_alloc | apply Kd.R_drewN | apply Kd.R_drew)); exact HO103.out) (Kd.R_base ho10) hb); have n1_ := Aside0.mk (Kd.R_lower (Kd.R_new' ho10 (Kd.R_lt (by (with_reducible repeat (first | apply Kd.R_alloc | apply Kd.R_drewN | apply Kd.R_drew)); exact HO103.out))) (below_size (by repeat (first | (with_reducible first | exact HB.out | apply below_alloc | apply pw_below_drewN | apply below_drew1) | exact HB.out)))); have n2_ := Aside0.mk (below_step (by repeat (first | (with_reducible first | exact HB.out | apply below_alloc | apply pw_below_drewN | apply below_drew1) | exact HB.out)) hb); clear HO103; clear HB; have HO103 := n0_; have HO109 := n1_; have HB := n2_; clear n0_ n1_ n2_; clear hb ho10))
      go_ret
      exact ⟨_, by first | rfl | (simp [errW_none, errW_some] <;> rfl) | (simp [*, errW_none, errW_some] <;> rfl), by (with_reducible repeat (first | apply Kd.R_alloc | apply Kd.R_drewN | apply Kd.R_drew)); exact Kd.R_mono HO109.out (fun _ hk => trivial), by repeat (first | (with_reducible first | exact HB.out | apply below_alloc | apply pw_below_drewN | apply below_drew1) | exact HB.out)⟩
    · rw [if_neg c4] at H
      exact absurd H (by simp)
  · rw [if_neg c3] at H
    exact absurd H (by simp)

/-! ### chanceryref3_In: function 16 -/
def chanceryref3_In.f (a0 : Int) (a1 : Int) (a2 : Int) : Option (Bool) := if a0 ≥ a1 then (some (decide (a0 ≤ a2))) else (some false)
set_option maxHeartbeats 8000000 in
set_option maxRecDepth 100000 in
theorem chanceryref3_In.calls (a0 : Int) (a1 : Int) (a2 : Int) (r : Bool) (w : World) (h : chanceryref3_In.f a0 a1 a2 = some r) :
    Calls Tryd.prog 16 #[.int .i64 a0, .int .i64 a1, .int .i64 a2] w fun e w' => e = .returned (.bool r) ∧ Drawn0 w w' := by
  have H : (if a0 ≥ a1 then (some (decide (a0 ≤ a2))) else (some false)) = some r := h
  clear h
  by_cases c4 : a0 ≥ a1
  · rw [if_pos c4] at H
    have c4b0 : decide (a1 ≤ a0) = true := decide_eq_true c4
    clear c4
    obtain rfl := Option.some.inj H
    go_enter Tryd.func16, Tryd.ntmps16
    go_wp2
    go_ret
    exact ⟨by first | rfl | (simp; done) | (simp [*]; done), by repeat (first | exact Drawn0.refl _ | apply Drawn0.step)⟩
  · rw [if_neg c4] at H
    have c4b0 : decide (a1 ≤ a0) = false := decide_eq_false c4
    clear c4
    obtain rfl := Option.some.inj H
    go_enter Tryd.func16, Tryd.ntmps16
    go_wp2
    go_ret
    exact ⟨by first | rfl | (simp; done) | (simp [*]; done), by repeat (first | exact Drawn0.refl _ | apply Drawn0.step)⟩

end Go.Proofs.YtihmbddneapooaaDoor.QBC
