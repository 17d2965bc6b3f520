import Derived.Test.YtmheeekbbhkmkaaDoorQSIx0
import Derived.Test.YtmheeekbbhkmkaaDoorQSIx1
namespace Go.Proofs.YtmheeekbbhkmkaaDoor.QSI
open Go.RowKit Go.Proofs.YtmheeekbbhkmkaaDoor.QSH Go.Proofs.YtmheeekbbhkmkaaDoor.HandSH Go.Proofs.YtmheeekbbhkmkaaDoor.Cells Go.Proofs.YtmheeekbbhkmkaaDoorW.PrintWords Go.Proofs.YtmheeekbbhkmkaaDoorW.PrintLast Go.Proofs.YtmheeekbbhkmkaaDoorW.PrintMore
attribute [local go_sem] max2_int min2_int max_two min_two max_three min_three max_four min_four 
set_option linter.unusedVariables false
set_option linter.unusedSimpArgs false
attribute [local go_sem high] eqA37
def chancerylaw3_shaped.f (k : Nat)  : Option (Bool) := (shape_Corners.f k (([(⟨1, 0, 0, 0, 0, 10, 20, 900, 0, 0, (⟨#[]⟩ : ByteArray), (⟨#[]⟩ : ByteArray)⟩ : S45)] : List (S45))) 1).bind fun bt104 => (if bt104.2 = 0 then (if (bt104.1.length : Int) = 4 then (if 0 < (bt104.1.length : Int) then (if (((rd_T37 bt104.1 0).f0) == 15 && (((rd_T37 bt104.1 0).f1) == 5)) = true then (if 2 < (bt104.1.length : Int) then (some (((rd_T37 bt104.1 2).f0) == (-5) && (((rd_T37 bt104.1 2).f1) == 15))) else (none)) else (some false)) else (none)) else (some false)) else (some false))
theorem chancerylaw3_shaped.mono : ∀ k, LeO (chancerylaw3_shaped.f k ) (chancerylaw3_shaped.f (k + 1) ) := by
 intro  k
 unfold chancerylaw3_shaped.f
 repeat' first
   | (with_reducible exact shape_Corners.mono _ _ _)
   | (with_reducible exact LeO.refl _)
   | (with_reducible exact LeO.none _)
   | (with_reducible refine LeO.ite ?_ ?_)
   | (with_reducible refine LeO.bind ?_ (fun _ => ?_))
   | exact shape_Corners.mono _ _ _
   | exact LeO.none _
   | refine LeO.ite ?_ ?_
   | refine LeO.bind ?_ (fun _ => ?_)
set_option maxHeartbeats 8000000 in
set_option maxRecDepth 100000 in
theorem chancerylaw3_shaped.calls (k : Nat)  (r : Bool) (w : World) (h : chancerylaw3_shaped.f k  = some r) (hL : LaidW w) :
  Calls Tryd.prog 5 #[] w fun e w' => e = .returned (.bool r) ∧ Below w.heap.size w w' := by
 have HLd := Aside0.mk hL
 clear hL
 have hu45 := Tryd.underlying45
 have hu37 := Tryd.underlying37
 have HB := Aside0.mk (Below.refl w.heap.size w)
 have H : ((shape_Corners.f k (([(⟨1, 0, 0, 0, 0, 10, 20, 900, 0, 0, (⟨#[]⟩ : ByteArray), (⟨#[]⟩ : ByteArray)⟩ : S45)] : List (S45))) 1).bind fun bt104 => (if bt104.2 = 0 then (if (bt104.1.length : Int) = 4 then (if 0 < (bt104.1.length : Int) then (if (((rd_T37 bt104.1 0).f0) == 15 && (((rd_T37 bt104.1 0).f1) == 5)) = true then (if 2 < (bt104.1.length : Int) then (some (((rd_T37 bt104.1 2).f0) == (-5) && (((rd_T37 bt104.1 2).f1) == 15))) else (none)) else (some false)) else (none)) else (some false)) else (some false))) = some r := h
 clear h
 obtain ⟨y101, hy101⟩ : ∃ y_ : List (S45), y_ = (([(⟨1, 0, 0, 0, 0, 10, 20, 900, 0, 0, (⟨#[]⟩ : ByteArray), (⟨#[]⟩ : ByteArray)⟩ : S45)] : List (S45))) := ⟨_, rfl⟩
 replace H : ((shape_Corners.f k y101 1).bind fun bt104 => (if bt104.2 = 0 then (if (bt104.1.length : Int) = 4 then (if 0 < (bt104.1.length : Int) then (if (((rd_T37 bt104.1 0).f0) == 15 && (((rd_T37 bt104.1 0).f1) == 5)) = true then (if 2 < (bt104.1.length : Int) then (some (((rd_T37 bt104.1 2).f0) == (-5) && (((rd_T37 bt104.1 2).f1) == 15))) else (none)) else (some false)) else (none)) else (some false)) else (some false))) = some r := by first | (rw [hy101]; with_reducible exact H) | (have H2_ := (Option.bind_some _ _).symm.trans H; rw [hy101]; with_reducible exact H2_) | (have H2_ := (Option.bind_some _ _).symm.trans H; with_reducible exact H2_) | with_reducible exact H | (rw [hy101]; exact H) | exact H
 have Ny101 := Aside0.mk hy101
 clear hy101
 replace H := Option.bind_eq_some_iff.mp H
 obtain ⟨⟨t104, t105⟩, A10, H⟩ := H
 replace H : (if t105 = 0 then (if (t104.length : Int) = 4 then (if 0 < (t104.length : Int) then (if (((rd_T37 t104 0).f0) == 15 && (((rd_T37 t104 0).f1) == 5)) = true then (if 2 < (t104.length : Int) then (some (((rd_T37 t104 2).f0) == (-5) && (((rd_T37 t104 2).f1) == 15))) else (none)) else (some false)) else (none)) else (some false)) else (some false)) = some r := H
 have A1 := Aside0.mk A10
 clear A10
 by_cases c2 : t105 = 0
 ·rw [if_pos c2] at H
  have c2b0 : (t105 == 0) = true := beq_iff_eq.mpr c2
  have c2b1 : (t105 != 0) = false := bne_eq_false_iff_eq.mpr c2
  clear c2
  by_cases c3 : (t104.length : Int) = 4
  ·rw [if_pos c3] at H
   have c3b0 : ((t104.length : Int) == 4) = true := beq_iff_eq.mpr c3
   have c3b1 : ((t104.length : Int) != 4) = false := bne_eq_false_iff_eq.mpr c3
   clear c3
   by_cases c4 : 0 < (t104.length : Int)
   ·rw [if_pos c4] at H
    have c4b0 : decide (0 < (t104.length : Int)) = true := decide_eq_true c4
    have c4b1 : decide (0 < t104.length) = true := decide_eq_true (by omega)
    clear c4
    by_cases c5 : (((rd_T37 t104 0).f0) == 15 && (((rd_T37 t104 0).f1) == 5)) = true
    ·rw [if_pos c5] at H
     have c5b0 : (((rd_T37 t104 0).f0) == 15 && (((rd_T37 t104 0).f1) == 5)) = true := c5
     (try (have c5b1 : decide (((rd_T37 t104 0).f0) = 15 && (((rd_T37 t104 0).f1) == 5)) = true := by simpa using c5))
     (try (have c5b2 : (((rd_T37 t104 0).f0) == 15 && (((rd_T37 t104 0).f1) == 5)) = true := by simpa using c5))
     clear c5
     by_cases c6 : 2 < (t104.length : Int)
     ·rw [if_pos c6] at H
      have c6b0 : decide (2 < (t104.length : Int)) = true := decide_eq_true c6
      have c6b1 : decide (2 < t104.length) = true := decide_eq_true (by omega)
      clear c6
      obtain rfl := Option.some.inj H
      go_enter Tryd.func5, Tryd.ntmps5
      go_wp2_with (first | ((with_reducible refine gate_dst (N := 5) rfl ?_); (try (refine gate_guard (by rfl) ?_; dsimp only)); refine Kd.R_lit k45 _ 45 ?hg (N := 5) ?hd (xs := ([(⟨1, 0, 0, 0, 0, 10, 20, 900, 0, 0, (⟨#[]⟩ : ByteArray), (⟨#[]⟩ : ByteArray)⟩ : S45)] : List (S45))) (inner := [.int .i64 1, .int .i64 0, .int .i64 0, .int .i64 0, .int .i64 0, .int .i64 10, .int .i64 20, .int .i64 900, .int .i64 0, .int .i64 0, .string (⟨#[]⟩ : ByteArray), .string (⟨#[]⟩ : ByteArray)]) (ok := fun _ => True) (okp := fun _ => True) ?hr ?hp (fun _ hk => hk) trivial (Below.refl _ _) (Nat.le_refl _) (by simp) ?_; (case hd => rfl); (case hg => rfl); (case hr => first | (go_simp; done) | (go_simp; rfl)); (case hp => exact (Reps.front (show Kd.M k45 _ _ _ (⟨1, 0, 0, 0, 0, 10, 20, 900, 0, 0, (⟨#[]⟩ : ByteArray), (⟨#[]⟩ : ByteArray)⟩ : S45) [.int .i64 1, .int .i64 0, .int .i64 0, .int .i64 0, .int .i64 0, .int .i64 10, .int .i64 20, .int .i64 900, .int .i64 0, .int .i64 0, .string (⟨#[]⟩ : ByteArray), .string (⟨#[]⟩ : ByteArray)] from (k45_mkM _ _ _ (⟨1, 0, 0, 0, 0, 10, 20, 900, 0, 0, (⟨#[]⟩ : ByteArray), (⟨#[]⟩ : ByteArray)⟩ : S45) )) rfl (Reps.none _ _) rfl)); intro v102 w7 ho8 hb hg_ hnew_; clear hg_ hnew_; (first | rw [← Ny101.out] at ho8 | (simp only [Int.reduceToNat] at ho8; rw [← Ny101.out] at ho8)); have n0_ := Aside0.mk (Kd.R_lower ho8 (below_size (by repeat (first | (with_reducible first | exact HB.out | apply below_alloc | apply pw_below_drewN | apply below_drew1) | exact HB.out)))); have n1_ := Aside0.mk (below_step (by repeat (first | (with_reducible first | exact HB.out | apply below_alloc | apply pw_below_drewN | apply below_drew1) | exact HB.out)) hb); clear HB; have HO103 := n0_; have HB := n1_; clear n0_ n1_; clear hb ho8; obtain ⟨Ao9, co9, eo9⟩ := Kd.R_slice HO103.out; subst eo9) | ((with_reducible refine gate_callee (f := 7) rfl ?_); refine goesL_ (some 6) rfl rfl Tryd.func7 (by kernel_rfl) rfl #[.slice Ao9 y101.length co9, .int .i64 1] rfl (by (try simp only [List.map_toArray, List.map_cons, List.map_nil]); first | done | rfl) ?_; (with_reducible refine (shape_Corners.calls k _ _ y101 1 t104 t105 _ ?side1 ?side2 A1.out ?sL).mono ?_); (case sL => first | ((repeat (first | (with_reducible exact HLd.out) | (with_reducible refine LaidW.drewN ?_ _) | (with_reducible refine LaidW.drew ?_) | (with_reducible refine LaidW.alloc ?_ _))); done) | exact LaidW.now HLd.out (by repeat (first | (with_reducible first | exact HB.out | apply below_alloc | apply pw_below_drewN | apply below_drew1) | exact HB.out))); (case side1 => repeat (first | exact (Kd.R_reads' HO103.out).2.2 | (with_reducible refine Kd.C_alloc ?_ _) | (with_reducible refine Kd.C_drewN ?_ _) | (with_reducible refine Kd.C_drew ?_))); (case side2 => exact (Kd.R_reads' HO103.out).2.1); rintro e w10 ⟨v106, rfl, ho0, hb⟩; refine ⟨_, rfl, ?_⟩; have n0_ := Aside0.mk (Kd.R_below (by (with_reducible repeat (first | apply Kd.R_alloc | apply Kd.R_drewN | apply Kd.R_drew)); exact HO103.out) hb); have n1_ := Aside0.mk (Kd.R_lower ho0 (below_size (by repeat (first | (with_reducible first | exact HB.out | apply below_alloc | apply pw_below_drewN | apply below_drew1) | exact HB.out)))); have n2_ := Aside0.mk (below_step (by repeat (first | (with_reducible first | exact HB.out | apply below_alloc | apply pw_below_drewN | apply below_drew1) | exact HB.out)) hb); clear HO103; clear HB; have HO103 := n0_; have HO107 := n1_; have HB := n2_; clear n0_ n1_ n2_; (try clear hb); (try clear hb2); (try clear hk); (try clear hi); (try clear ho0); obtain ⟨Ao11, co11, eo11⟩ := Kd.R_slice HO107.out; subst eo11; have p108 : 0 ≤ (0 : Int) := (by omega); have q108 : 0 < (t104.length : Int) := of_decide_eq_true (by first | (with_reducible assumption) | assumption); obtain ⟨ad108, e108, hx108_0, hx108_1⟩ := at_T37 (Kd.R_reads' HO107.out).2.2 0 p108 q108; cases e108; have qi108 : (0 < t104.length) = True := eq_true (by omega); (try rw [show ((0 : Int)).toNat = 0 from rfl] at hx108_0); (try rw [show 0 * 2 = 0 from rfl] at hx108_0); (try rw [Addr.add_zero'] at hx108_0); (try rw [show ((0 : Int)).toNat = 0 from rfl] at hx108_1); (try rw [show 0 * 2 = 0 from rfl] at hx108_1); (try rw [Addr.add_zero'] at hx108_1); replace p108 := eq_true p108; replace q108 := eq_true q108; have p109 : 0 ≤ (2 : Int) := (by omega); have q109 : 2 < (t104.length : Int) := of_decide_eq_true (by first | (with_reducible assumption) | assumption); obtain ⟨ad109, e109, hx109_0, hx109_1⟩ := at_T37 (Kd.R_reads' HO107.out).2.2 2 p109 q109; obtain rfl : ad108 = ad109 := (by injection e109); (try simp only [show (2 : Int).toNat = 2 from rfl, Nat.reduceMul, Nat.reduceEqDiff, Go.Addr.add, ↓reduceIte] at hx109_0); (try simp only [show (2 : Int).toNat = 2 from rfl, Nat.reduceMul, Nat.reduceEqDiff, Go.Addr.add, ↓reduceIte] at hx109_1); have qi109 : (2 < t104.length) = True := eq_true (by omega); (try rw [show ((2 : Int)).toNat = 2 from rfl] at hx109_0); (try rw [show 2 * 2 = 4 from rfl] at hx109_0); (try rw [show ((2 : Int)).toNat = 2 from rfl] at hx109_1); (try rw [show 2 * 2 = 4 from rfl] at hx109_1); replace p109 := eq_true p109; replace q109 := eq_true q109))
      go_ret
      exact ⟨by first | rfl | (simp [errW_none, errW_some] <;> rfl) | (simp [*, errW_none, errW_some] <;> rfl), by repeat (first | (with_reducible first | exact HB.out | apply below_alloc | apply pw_below_drewN | apply below_drew1) | exact HB.out)⟩
     ·rw [if_neg c6] at H
      exact absurd H (by simp)
    ·rw [if_neg c5] at H
     have c5b0 : (((rd_T37 t104 0).f0) == 15 && (((rd_T37 t104 0).f1) == 5)) = false := by simpa using c5
     (try (have c5b1 : decide (((rd_T37 t104 0).f0) = 15 && (((rd_T37 t104 0).f1) == 5)) = false := by simpa using c5))
     (try (have c5b2 : (((rd_T37 t104 0).f0) == 15 && (((rd_T37 t104 0).f1) == 5)) = false := by simpa using c5))
     (try (have c5b3 : ¬ (((rd_T37 t104 0).f0) = 15 && (((rd_T37 t104 0).f1) == 5)) := by simpa using c5))
     clear c5
     obtain rfl := Option.some.inj H
     go_enter Tryd.func5, Tryd.ntmps5
     go_wp2_with (first | ((with_reducible refine gate_dst (N := 5) rfl ?_); (try (refine gate_guard (by rfl) ?_; dsimp only)); refine Kd.R_lit k45 _ 45 ?hg (N := 5) ?hd (xs := ([(⟨1, 0, 0, 0, 0, 10, 20, 900, 0, 0, (⟨#[]⟩ : ByteArray), (⟨#[]⟩ : ByteArray)⟩ : S45)] : List (S45))) (inner := [.int .i64 1, .int .i64 0, .int .i64 0, .int .i64 0, .int .i64 0, .int .i64 10, .int .i64 20, .int .i64 900, .int .i64 0, .int .i64 0, .string (⟨#[]⟩ : ByteArray), .string (⟨#[]⟩ : ByteArray)]) (ok := fun _ => True) (okp := fun _ => True) ?hr ?hp (fun _ hk => hk) trivial (Below.refl _ _) (Nat.le_refl _) (by simp) ?_; (case hd => rfl); (case hg => rfl); (case hr => first | (go_simp; done) | (go_simp; rfl)); (case hp => exact (Reps.front (show Kd.M k45 _ _ _ (⟨1, 0, 0, 0, 0, 10, 20, 900, 0, 0, (⟨#[]⟩ : ByteArray), (⟨#[]⟩ : ByteArray)⟩ : S45) [.int .i64 1, .int .i64 0, .int .i64 0, .int .i64 0, .int .i64 0, .int .i64 10, .int .i64 20, .int .i64 900, .int .i64 0, .int .i64 0, .string (⟨#[]⟩ : ByteArray), .string (⟨#[]⟩ : ByteArray)] from (k45_mkM _ _ _ (⟨1, 0, 0, 0, 0, 10, 20, 900, 0, 0, (⟨#[]⟩ : ByteArray), (⟨#[]⟩ : ByteArray)⟩ : S45) )) rfl (Reps.none _ _) rfl)); intro v102 w12 ho13 hb hg_ hnew_; clear hg_ hnew_; (first | rw [← Ny101.out] at ho13 | (simp only [Int.reduceToNat] at ho13; rw [← Ny101.out] at ho13)); have n0_ := Aside0.mk (Kd.R_lower ho13 (below_size (by repeat (first | (with_reducible first | exact HB.out | apply below_alloc | apply pw_below_drewN | apply below_drew1) | exact HB.out)))); have n1_ := Aside0.mk (below_step (by repeat (first | (with_reducible first | exact HB.out | apply below_alloc | apply pw_below_drewN | apply below_drew1) | exact HB.out)) hb); clear HB; have HO103 := n0_; have HB := n1_; clear n0_ n1_; clear hb ho13; obtain ⟨Ao14, co14, eo14⟩ := Kd.R_slice HO103.out; subst eo14) | ((with_reducible refine gate_callee (f := 7) rfl ?_); refine goesL_ (some 6) rfl rfl Tryd.func7 (by kernel_rfl) rfl #[.slice Ao14 y101.length co14, .int .i64 1] rfl (by (try simp only [List.map_toArray, List.map_cons, List.map_nil]); first | done | rfl) ?_; (with_reducible refine (shape_Corners.calls k _ _ y101 1 t104 t105 _ ?side1 ?side2 A1.out ?sL).mono ?_); (case sL => first | ((repeat (first | (with_reducible exact HLd.out) | (with_reducible refine LaidW.drewN ?_ _) | (with_reducible refine LaidW.drew ?_) | (with_reducible refine LaidW.alloc ?_ _))); done) | exact LaidW.now HLd.out (by repeat (first | (with_reducible first | exact HB.out | apply below_alloc | apply pw_below_drewN | apply below_drew1) | exact HB.out))); (case side1 => repeat (first | exact (Kd.R_reads' HO103.out).2.2 | (with_reducible refine Kd.C_alloc ?_ _) | (with_reducible refine Kd.C_drewN ?_ _) | (with_reducible refine Kd.C_drew ?_))); (case side2 => exact (Kd.R_reads' HO103.out).2.1); rintro e w15 ⟨v106, rfl, ho0, hb⟩; refine ⟨_, rfl, ?_⟩; have n0_ := Aside0.mk (Kd.R_below (by (with_reducible repeat (first | apply Kd.R_alloc | apply Kd.R_drewN | apply Kd.R_drew)); exact HO103.out) hb); have n1_ := Aside0.mk (Kd.R_lower ho0 (below_size (by repeat (first | (with_reducible first | exact HB.out | apply below_alloc | apply pw_below_drewN | apply below_drew1) | exact HB.out)))); have n2_ := Aside0.mk (below_step (by repeat (first | (with_reducible first | exact HB.out | apply below_alloc | apply pw_below_drewN | apply below_drew1) | exact HB.out)) hb); clear HO103; clear HB; have HO103 := n0_; have HO107 := n1_; have HB := n2_; clear n0_ n1_ n2_; (try clear hb); (try clear hb2); (try clear hk); (try clear hi); (try clear ho0); obtain ⟨Ao16, co16, eo16⟩ := Kd.R_slice HO107.out; subst eo16; have p108 : 0 ≤ (0 : Int) := (by omega); have q108 : 0 < (t104.length : Int) := of_decide_eq_true (by first | (with_reducible assumption) | assumption); obtain ⟨ad108, e108, hx108_0, hx108_1⟩ := at_T37 (Kd.R_reads' HO107.out).2.2 0 p108 q108; cases e108; have qi108 : (0 < t104.length) = True := eq_true (by omega); (try rw [show ((0 : Int)).toNat = 0 from rfl] at hx108_0); (try rw [show 0 * 2 = 0 from rfl] at hx108_0); (try rw [Addr.add_zero'] at hx108_0); (try rw [show ((0 : Int)).toNat = 0 from rfl] at hx108_1); (try rw [show 0 * 2 = 0 from rfl] at hx108_1); (try rw [Addr.add_zero'] at hx108_1); replace p108 := eq_true p108; replace q108 := eq_true q108))
     go_ret
     exact ⟨by first | rfl | (simp [errW_none, errW_some] <;> rfl) | (simp [*, errW_none, errW_some] <;> rfl), by repeat (first | (with_reducible first | exact HB.out | apply below_alloc | apply pw_below_drewN | apply below_drew1) | exact HB.out)⟩
   ·rw [if_neg c4] at H
    exact absurd H (by simp)
  ·rw [if_neg c3] at H
   have c3b0 : ((t104.length : Int) == 4) = false := beq_eq_false_iff_ne.mpr c3
   have c3b1 : ((t104.length : Int) != 4) = true := bne_iff_ne.mpr c3
   obtain rfl := Option.some.inj H
   go_enter Tryd.func5, Tryd.ntmps5
   go_wp2_with (first | ((with_reducible refine gate_dst (N := 5) rfl ?_); (try (refine gate_guard (by rfl) ?_; dsimp only)); refine Kd.R_lit k45 _ 45 ?hg (N := 5) ?hd (xs := ([(⟨1, 0, 0, 0, 0, 10, 20, 900, 0, 0, (⟨#[]⟩ : ByteArray), (⟨#[]⟩ : ByteArray)⟩ : S45)] : List (S45))) (inner := [.int .i64 1, .int .i64 0, .int .i64 0, .int .i64 0, .int .i64 0, .int .i64 10, .int .i64 20, .int .i64 900, .int .i64 0, .int .i64 0, .string (⟨#[]⟩ : ByteArray), .string (⟨#[]⟩ : ByteArray)]) (ok := fun _ => True) (okp := fun _ => True) ?hr ?hp (fun _ hk => hk) trivial (Below.refl _ _) (Nat.le_refl _) (by simp) ?_; (case hd => rfl); (case hg => rfl); (case hr => first | (go_simp; done) | (go_simp; rfl)); (case hp => exact (Reps.front (show Kd.M k45 _ _ _ (⟨1, 0, 0, 0, 0, 10, 20, 900, 0, 0, (⟨#[]⟩ : ByteArray), (⟨#[]⟩ : ByteArray)⟩ : S45) [.int .i64 1, .int .i64 0, .int .i64 0, .int .i64 0, .int .i64 0, .int .i64 10, .int .i64 20, .int .i64 900, .int .i64 0, .int .i64 0, .string (⟨#[]⟩ : ByteArray), .string (⟨#[]⟩ : ByteArray)] from (k45_mkM _ _ _ (⟨1, 0, 0, 0, 0, 10, 20, 900, 0, 0, (⟨#[]⟩ : ByteArray), (⟨#[]⟩ : ByteArray)⟩ : S45) )) rfl (Reps.none _ _) rfl)); intro v102 w17 ho18 hb hg_ hnew_; clear hg_ hnew_; (first | rw [← Ny101.out] at ho18 | (simp only [Int.reduceToNat] at ho18; rw [← Ny101.out] at ho18)); have n0_ := Aside0.mk (Kd.R_lower ho18 (below_size (by repeat (first | (with_reducible first | exact HB.out | apply below_alloc | apply pw_below_drewN | apply below_drew1) | exact HB.out)))); have n1_ := Aside0.mk (below_step (by repeat (first | (with_reducible first | exact HB.out | apply below_alloc | apply pw_below_drewN | apply below_drew1) | exact HB.out)) hb); clear HB; have HO103 := n0_; have HB := n1_; clear n0_ n1_; clear hb ho18; obtain ⟨Ao19, co19, eo19⟩ := Kd.R_slice HO103.out; subst eo19) | ((with_reducible refine gate_callee (f := 7) rfl ?_); refine goesL_ (some 6) rfl rfl Tryd.func7 (by kernel_rfl) rfl #[.slice Ao19 y101.length co19, .int .i64 1] rfl (by (try simp only [List.map_toArray, List.map_cons, List.map_nil]); first | done | rfl) ?_; (with_reducible refine (shape_Corners.calls k _ _ y101 1 t104 t105 _ ?side1 ?side2 A1.out ?sL).mono ?_); (case sL => first | ((repeat (first | (with_reducible exact HLd.out) | (with_reducible refine LaidW.drewN ?_ _) | (with_reducible refine LaidW.drew ?_) | (with_reducible refine LaidW.alloc ?_ _))); done) | exact LaidW.now HLd.out (by repeat (first | (with_reducible first | exact HB.out | apply below_alloc | apply pw_below_drewN | apply below_drew1) | exact HB.out))); (case side1 => repeat (first | exact (Kd.R_reads' HO103.out).2.2 | (with_reducible refine Kd.C_alloc ?_ _) | (with_reducible refine Kd.C_drewN ?_ _) | (with_reducible refine Kd.C_drew ?_))); (case side2 => exact (Kd.R_reads' HO103.out).2.1); rintro e w20 ⟨v106, rfl, ho0, hb⟩; refine ⟨_, rfl, ?_⟩; have n0_ := Aside0.mk (Kd.R_below (by (with_reducible repeat (first | apply Kd.R_alloc | apply Kd.R_drewN | apply Kd.R_drew)); exact HO103.out) hb); have n1_ := Aside0.mk (Kd.R_lower ho0 (below_size (by repeat (first | (with_reducible first | exact HB.out | apply below_alloc | apply pw_below_drewN | apply below_drew1) | exact HB.out)))); have n2_ := Aside0.mk (below_step (by repeat (first | (with_reducible first | exact HB.out | apply below_alloc | apply pw_below_drewN | apply below_drew1) | exact HB.out)) hb); clear HO103; clear HB; have HO103 := n0_; have HO107 := n1_; have HB := n2_; clear n0_ n1_ n2_; (try clear hb); (try clear hb2); (try clear hk); (try clear hi); (try clear ho0); obtain ⟨Ao21, co21, eo21⟩ := Kd.R_slice HO107.out; subst eo21))
   go_ret
   exact ⟨by first | rfl | (simp [errW_none, errW_some] <;> rfl) | (simp [*, errW_none, errW_some] <;> rfl), by repeat (first | (with_reducible first | exact HB.out | apply below_alloc | apply pw_below_drewN | apply below_drew1) | exact HB.out)⟩
 ·rw [if_neg c2] at H
  have c2b0 : (t105 == 0) = false := beq_eq_false_iff_ne.mpr c2
  have c2b1 : (t105 != 0) = true := bne_iff_ne.mpr c2
  obtain rfl := Option.some.inj H
  go_enter Tryd.func5, Tryd.ntmps5
  go_wp2_with (first | ((with_reducible refine gate_dst (N := 5) rfl ?_); (try (refine gate_guard (by rfl) ?_; dsimp only)); refine Kd.R_lit k45 _ 45 ?hg (N := 5) ?hd (xs := ([(⟨1, 0, 0, 0, 0, 10, 20, 900, 0, 0, (⟨#[]⟩ : ByteArray), (⟨#[]⟩ : ByteArray)⟩ : S45)] : List (S45))) (inner := [.int .i64 1, .int .i64 0, .int .i64 0, .int .i64 0, .int .i64 0, .int .i64 10, .int .i64 20, .int .i64 900, .int .i64 0, .int .i64 0, .string (⟨#[]⟩ : ByteArray), .string (⟨#[]⟩ : ByteArray)]) (ok := fun _ => True) (okp := fun _ => True) ?hr ?hp (fun _ hk => hk) trivial (Below.refl _ _) (Nat.le_refl _) (by simp) ?_; (case hd => rfl); (case hg => rfl); (case hr => first | (go_simp; done) | (go_simp; rfl)); (case hp => exact (Reps.front (show Kd.M k45 _ _ _ (⟨1, 0, 0, 0, 0, 10, 20, 900, 0, 0, (⟨#[]⟩ : ByteArray), (⟨#[]⟩ : ByteArray)⟩ : S45) [.int .i64 1, .int .i64 0, .int .i64 0, .int .i64 0, .int .i64 0, .int .i64 10, .int .i64 20, .int .i64 900, .int .i64 0, .int .i64 0, .string (⟨#[]⟩ : ByteArray), .string (⟨#[]⟩ : ByteArray)] from (k45_mkM _ _ _ (⟨1, 0, 0, 0, 0, 10, 20, 900, 0, 0, (⟨#[]⟩ : ByteArray), (⟨#[]⟩ : ByteArray)⟩ : S45) )) rfl (Reps.none _ _) rfl)); intro v102 w22 ho23 hb hg_ hnew_; clear hg_ hnew_; (first | rw [← Ny101.out] at ho23 | (simp only [Int.reduceToNat] at ho23; rw [← Ny101.out] at ho23)); have n0_ := Aside0.mk (Kd.R_lower ho23 (below_size (by repeat (first | (with_reducible first | exact HB.out | apply below_alloc | apply pw_below_drewN | apply below_drew1) | exact HB.out)))); have n1_ := Aside0.mk (below_step (by repeat (first | (with_reducible first | exact HB.out | apply below_alloc | apply pw_below_drewN | apply below_drew1) | exact HB.out)) hb); clear HB; have HO103 := n0_; have HB := n1_; clear n0_ n1_; clear hb ho23; obtain ⟨Ao24, co24, eo24⟩ := Kd.R_slice HO103.out; subst eo24) | ((with_reducible refine gate_callee (f := 7) rfl ?_); refine goesL_ (some 6) rfl rfl Tryd.func7 (by kernel_rfl) rfl #[.slice Ao24 y101.length co24, .int .i64 1] rfl (by (try simp only [List.map_toArray, List.map_cons, List.map_nil]); first | done | rfl) ?_; (with_reducible refine (shape_Corners.calls k _ _ y101 1 t104 t105 _ ?side1 ?side2 A1.out ?sL).mono ?_); (case sL => first | ((repeat (first | (with_reducible exact HLd.out) | (with_reducible refine LaidW.drewN ?_ _) | (with_reducible refine LaidW.drew ?_) | (with_reducible refine LaidW.alloc ?_ _))); done) | exact LaidW.now HLd.out (by repeat (first | (with_reducible first | exact HB.out | apply below_alloc | apply pw_below_drewN | apply below_drew1) | exact HB.out))); (case side1 => repeat (first | exact (Kd.R_reads' HO103.out).2.2 | (with_reducible refine Kd.C_alloc ?_ _) | (with_reducible refine Kd.C_drewN ?_ _) | (with_reducible refine Kd.C_drew ?_))); (case side2 => exact (Kd.R_reads' HO103.out).2.1); rintro e w25 ⟨v106, rfl, ho0, hb⟩; refine ⟨_, rfl, ?_⟩; have n0_ := Aside0.mk (Kd.R_below (by (with_reducible repeat (first | apply Kd.R_alloc | apply Kd.R_drewN | apply Kd.R_drew)); exact HO103.out) hb); have n1_ := Aside0.mk (Kd.R_lower ho0 (below_size (by repeat (first | (with_reducible first | exact HB.out | apply below_alloc | apply pw_below_drewN | apply below_drew1) | exact HB.out)))); have n2_ := Aside0.mk (below_step (by repeat (first | (with_reducible first | exact HB.out | apply below_alloc | apply pw_below_drewN | apply below_drew1) | exact HB.out)) hb); clear HO103; clear HB; have HO103 := n0_; have HO107 := n1_; have HB := n2_; clear n0_ n1_ n2_; (try clear hb); (try clear hb2); (try clear hk); (try clear hi); (try clear ho0)))
  go_ret
  exact ⟨by first | rfl | (simp [errW_none, errW_some] <;> rfl) | (simp [*, errW_none, errW_some] <;> rfl), by repeat (first | (with_reducible first | exact HB.out | apply below_alloc | apply pw_below_drewN | apply below_drew1) | exact HB.out)⟩
def chancerylaw3_cutShapes.f (l0 : List (S45)) : Option ((List (S45))) := if (l0.length : Int) > 20 then (if 20 ≤ (l0.length : Int) then (some (l0.take 20)) else (none)) else (some l0)
set_option maxHeartbeats 8000000 in
set_option maxRecDepth 100000 in
theorem chancerylaw3_cutShapes.calls (P0_ : Nat → Prop) (A0 : Option Addr) (c0 : Nat) (l0 : List (S45)) (r : List (S45)) (w : World) (hs0 : Kd.V k45 45 w w.heap.size (fun k_ => P0_ k_) (.slice A0 l0.length c0) l0) (h : chancerylaw3_cutShapes.f l0 = some r) :
  Calls Tryd.prog 6 #[.slice A0 l0.length c0] w fun e w' => ∃ v0_ : Value, e = .returned (v0_) ∧ Kd.V k45 45 w' w.heap.size (fun k_ => (P0_ k_ ∨ w.heap.size ≤ k_)) v0_ r ∧ Below w.heap.size w w' := by
 have HO0 := Aside0.mk (show Kd.V k45 45 w w.heap.size (fun k_ => (P0_ k_ ∨ w.heap.size ≤ k_)) (.slice A0 l0.length c0) l0 from Kd.V_mono hs0 (fun k_ hk => .inl hk))
 have HB := Aside0.mk (Below.refl w.heap.size w)
 have H : (if (l0.length : Int) > 20 then (if 20 ≤ (l0.length : Int) then (some (l0.take 20)) else (none)) else (some l0)) = some r := h
 clear h
 by_cases c2 : (l0.length : Int) > 20
 ·rw [if_pos c2] at H
  have c2b0 : decide (20 < (l0.length : Int)) = true := decide_eq_true c2
  have c2b1 : decide (20 < l0.length) = true := decide_eq_true (by omega)
  clear c2
  by_cases c3 : 20 ≤ (l0.length : Int)
  ·rw [if_pos c3] at H
   have c3b0 := eq_true c3
   have c3b1 : decide (20 ≤ (l0.length : Int)) = true := decide_eq_true c3
   clear c3
   obtain ⟨y110, hy110⟩ : ∃ y_ : List (S45), y_ = (l0.take 20) := ⟨_, rfl⟩
   replace H : (some y110) = some r := by first | (rw [hy110]; with_reducible exact H) | (have H2_ := (Option.bind_some _ _).symm.trans H; rw [hy110]; with_reducible exact H2_) | (have H2_ := (Option.bind_some _ _).symm.trans H; with_reducible exact H2_) | with_reducible exact H | (rw [hy110]; exact H) | exact H
   have Ny110 := Aside0.mk hy110
   clear hy110
   obtain rfl := Option.some.inj H
   have q4 : (20 : Int) ≤ ((l0.length : Int) : Int) := of_decide_eq_true (by first | (with_reducible assumption) | assumption)
   obtain ⟨i04, hi04, _, hsz4, _⟩ := info_parts info45
   have hroom4 : l0.length ≤ c0 := (Kd.V_reads' HO0.out).2.1
   have hC4 : Kd.F k45 _ _ A0 l0.length l0 := (Kd.V_at (base := w.heap.size) HO0.out).2.2
   have hcut4 := cut_to (P := Tryd.prog) 22 45 .i64 Tryd.underlying22 hi04 A0 l0.length c0 20 (by omega) q4 hroom4
   have hr4 := Kd.F_take (m := 20) hC4 (by omega)
   have hy4 : y110.length = (20 : Int).toNat := (by rw [Ny110.out, List.length_take]; omega)
   rw [← Ny110.out] at hr4
   rw [← hy4] at hcut4
   have HO114 := Aside0.mk (show Kd.V k45 45 _ w.heap.size _ (.slice A0 y110.length c0) y110 from Kd.V_mk (by omega) hr4)
   have HC114 := Aside0.mk (show y110.length ≤ c0 from by omega)
   clear hr4 hC4 hroom4 hi04 hsz4
   have KY4 := Aside0.mk hy4
   clear hy4
   replace q4 := eq_true q4
   go_enter Tryd.func6, Tryd.ntmps6
   go_wp2
   go_ret
   exact ⟨_, by first | rfl | (simp [errW_none, errW_some] <;> rfl) | (simp [*, errW_none, errW_some] <;> rfl), by (with_reducible repeat (first | apply Kd.V_alloc | apply Kd.V_drewN | apply Kd.V_drew)); exact HO114.out, by repeat (first | (with_reducible first | exact HB.out | apply below_alloc | apply pw_below_drewN | apply below_drew1) | exact HB.out)⟩
  ·rw [if_neg c3] at H
   exact absurd H (by simp)
 ·rw [if_neg c2] at H
  have c2b0 : decide (20 < (l0.length : Int)) = false := decide_eq_false c2
  have c2b1 : decide (20 < l0.length) = false := decide_eq_false (by omega)
  clear c2
  obtain rfl := Option.some.inj H
  go_enter Tryd.func6, Tryd.ntmps6
  go_wp2
  go_ret
  exact ⟨_, by first | rfl | (simp [errW_none, errW_some] <;> rfl) | (simp [*, errW_none, errW_some] <;> rfl), by (with_reducible repeat (first | apply Kd.V_alloc | apply Kd.V_drewN | apply Kd.V_drew)); exact HO0.out, by repeat (first | (with_reducible first | exact HB.out | apply below_alloc | apply pw_below_drewN | apply below_drew1) | exact HB.out)⟩
mutual
def shape_Hit.j0 : Nat → List (S45) → Bool → Int → Int → Option (Int × Int)
 | 0, _, _, _, _ => none
 | k + 1, x0, x33, x116000, x116001 => if x33 = true then (some (0, 2)) else (shape_Hit.l0 k x0 (wrap64 ((x0.length : Int) - 1)) x116000 x116001)
def shape_Hit.l0 : Nat → List (S45) → Int → Int → Int → Option (Int × Int)
 | 0, _, _, _, _ => none
 | k + 1, x0, x7, x116000, x116001 => if x7 ≥ 0 then (if 0 ≤ x7 then (if x7 < (x0.length : Int) then (if ((rd_T45 x0 x7).f2) = 5 then (shape_Hit.j2 k x0 x7 true x116000 x116001 ((rd_T45 x0 x7).f0) ((rd_T45 x0 x7).f1) ((rd_T45 x0 x7).f2) ((rd_T45 x0 x7).f3) ((rd_T45 x0 x7).f4) ((rd_T45 x0 x7).f5) ((rd_T45 x0 x7).f6) ((rd_T45 x0 x7).f7) ((rd_T45 x0 x7).f8) ((rd_T45 x0 x7).f9) ((rd_T45 x0 x7).f10) ((rd_T45 x0 x7).f11)) else (shape_Hit.j2 k x0 x7 (((rd_T45 x0 x7).f2) == 6) x116000 x116001 ((rd_T45 x0 x7).f0) ((rd_T45 x0 x7).f1) ((rd_T45 x0 x7).f2) ((rd_T45 x0 x7).f3) ((rd_T45 x0 x7).f4) ((rd_T45 x0 x7).f5) ((rd_T45 x0 x7).f6) ((rd_T45 x0 x7).f7) ((rd_T45 x0 x7).f8) ((rd_T45 x0 x7).f9) ((rd_T45 x0 x7).f10) ((rd_T45 x0 x7).f11))) else (none)) else (none)) else (some (0, 0))
def shape_Hit.j2 : Nat → List (S45) → Int → Bool → Int → Int → Int → Int → Int → Int → Int → Int → Int → Int → Int → Int → ByteArray → ByteArray → Option (Int × Int)
 | 0, _, _, _, _, _, _, _, _, _, _, _, _, _, _, _, _, _ => none
 | k + 1, x0, x7, x52, x116000, x116001, x119000, x119001, x119002, x119003, x119004, x119005, x119006, x119007, x119008, x119009, x119010, x119011 => if x52 = true then (shape_Hit.l0 k x0 (wrap64 (x7 - 1)) x116000 x116001) else ((shape_local.f k x0 x119000 x119001 x119002 x119003 x119004 x119005 x119006 x119007 x119008 x119009 x119010 x119011 x116000 x116001).bind fun bt119 => ((shape_inside.f k x119000 x119001 x119002 x119003 x119004 x119005 x119006 x119007 x119008 x119009 x119010 x119011 bt119.1 bt119.2).bind fun t121 => (if t121 = true then (some (x119000, 0)) else (shape_Hit.l0 k x0 (wrap64 (x7 - 1)) x116000 x116001))))
end
def shape_Hit.f (k : Nat) (l0 : List (S45)) (a1_0 : Int) (a1_1 : Int) : Option (Int × Int) := (shape_Check.f k l0).bind fun t116 => (if t116 = 0 then (if a1_0 < (-1048576) then (shape_Hit.j0 k l0 true a1_0 a1_1) else (if a1_0 > 1048576 then (shape_Hit.j0 k l0 true a1_0 a1_1) else (if a1_1 < (-1048576) then (shape_Hit.j0 k l0 true a1_0 a1_1) else (shape_Hit.j0 k l0 (decide (a1_1 > 1048576)) a1_0 a1_1)))) else (some (0, t116)))
theorem shape_Hit.mono_l : ∀ k, (∀ y0 y1 y2 y3, LeO (shape_Hit.j0 k y0 y1 y2 y3) (shape_Hit.j0 (k + 1) y0 y1 y2 y3)) ∧ (∀ y0 y1 y2 y3, LeO (shape_Hit.l0 k y0 y1 y2 y3) (shape_Hit.l0 (k + 1) y0 y1 y2 y3)) ∧ (∀ y0 y1 y2 y3 y4 y5 y6 y7 y8 y9 y10 y11 y12 y13 y14 y15 y16, LeO (shape_Hit.j2 k y0 y1 y2 y3 y4 y5 y6 y7 y8 y9 y10 y11 y12 y13 y14 y15 y16) (shape_Hit.j2 (k + 1) y0 y1 y2 y3 y4 y5 y6 y7 y8 y9 y10 y11 y12 y13 y14 y15 y16))
 | 0 => ⟨fun _ _ _ _ r h => by simp [shape_Hit.j0] at h, fun _ _ _ _ r h => by simp [shape_Hit.l0] at h, fun _ _ _ _ _ _ _ _ _ _ _ _ _ _ _ _ _ r h => by simp [shape_Hit.j2] at h⟩
 | k + 1 => by
  obtain ⟨ih0, ih1, ih2⟩ := shape_Hit.mono_l k
  refine ⟨?_, ?_, ?_⟩
  ·intro y0 y1 y2 y3
   unfold shape_Hit.j0
   repeat' first
   | (with_reducible exact ih0 _ _ _ _)
   | (with_reducible exact ih1 _ _ _ _)
   | (with_reducible exact ih2 _ _ _ _ _ _ _ _ _ _ _ _ _ _ _ _ _)
   | (with_reducible exact shape_Check.mono _ _)
   | (with_reducible exact shape_inside.mono _ _ _ _ _ _ _ _ _ _ _ _ _ _ _)
   | (with_reducible exact shape_local.mono _ _ _ _ _ _ _ _ _ _ _ _ _ _ _ _)
   | (with_reducible exact LeO.refl _)
   | (with_reducible exact LeO.none _)
   | (with_reducible refine LeO.ite ?_ ?_)
   | (with_reducible refine LeO.bind ?_ (fun _ => ?_))
   | exact ih0 _ _ _ _
   | exact ih1 _ _ _ _
   | exact ih2 _ _ _ _ _ _ _ _ _ _ _ _ _ _ _ _ _
   | exact shape_Check.mono _ _
   | exact shape_inside.mono _ _ _ _ _ _ _ _ _ _ _ _ _ _ _
   | exact shape_local.mono _ _ _ _ _ _ _ _ _ _ _ _ _ _ _ _
   | exact LeO.none _
   | refine LeO.ite ?_ ?_
   | refine LeO.bind ?_ (fun _ => ?_)
  ·intro y0 y1 y2 y3
   unfold shape_Hit.l0
   repeat' first
   | (with_reducible exact ih0 _ _ _ _)
   | (with_reducible exact ih1 _ _ _ _)
   | (with_reducible exact ih2 _ _ _ _ _ _ _ _ _ _ _ _ _ _ _ _ _)
   | (with_reducible exact shape_Check.mono _ _)
   | (with_reducible exact shape_inside.mono _ _ _ _ _ _ _ _ _ _ _ _ _ _ _)
   | (with_reducible exact shape_local.mono _ _ _ _ _ _ _ _ _ _ _ _ _ _ _ _)
   | (with_reducible exact LeO.refl _)
   | (with_reducible exact LeO.none _)
   | (with_reducible refine LeO.ite ?_ ?_)
   | (with_reducible refine LeO.bind ?_ (fun _ => ?_))
   | exact ih0 _ _ _ _
   | exact ih1 _ _ _ _
   | exact ih2 _ _ _ _ _ _ _ _ _ _ _ _ _ _ _ _ _
   | exact shape_Check.mono _ _
   | exact shape_inside.mono _ _ _ _ _ _ _ _ _ _ _ _ _ _ _
   | exact shape_local.mono _ _ _ _ _ _ _ _ _ _ _ _ _ _ _ _
   | exact LeO.none _
   | refine LeO.ite ?_ ?_
   | refine LeO.bind ?_ (fun _ => ?_)
  ·intro y0 y1 y2 y3 y4 y5 y6 y7 y8 y9 y10 y11 y12 y13 y14 y15 y16
   unfold shape_Hit.j2
   repeat' first
   | (with_reducible exact ih0 _ _ _ _)
   | (with_reducible exact ih1 _ _ _ _)
   | (with_reducible exact ih2 _ _ _ _ _ _ _ _ _ _ _ _ _ _ _ _ _)
   | (with_reducible exact shape_Check.mono _ _)
   | (with_reducible exact shape_inside.mono _ _ _ _ _ _ _ _ _ _ _ _ _ _ _)
   | (with_reducible exact shape_local.mono _ _ _ _ _ _ _ _ _ _ _ _ _ _ _ _)
   | (with_reducible exact LeO.refl _)
   | (with_reducible exact LeO.none _)
   | (with_reducible refine LeO.ite ?_ ?_)
   | (with_reducible refine LeO.bind ?_ (fun _ => ?_))
   | exact ih0 _ _ _ _
   | exact ih1 _ _ _ _
   | exact ih2 _ _ _ _ _ _ _ _ _ _ _ _ _ _ _ _ _
   | exact shape_Check.mono _ _
   | exact shape_inside.mono _ _ _ _ _ _ _ _ _ _ _ _ _ _ _
   | exact shape_local.mono _ _ _ _ _ _ _ _ _ _ _ _ _ _ _ _
   | exact LeO.none _
   | refine LeO.ite ?_ ?_
   | refine LeO.bind ?_ (fun _ => ?_)
theorem shape_Hit.mono : ∀ a0 a1 a2 k, LeO (shape_Hit.f k a0 a1 a2) (shape_Hit.f (k + 1) a0 a1 a2) := by
 intro a0 a1 a2 k
 obtain ⟨ih0, ih1, ih2⟩ := shape_Hit.mono_l k
 unfold shape_Hit.f
 repeat' first
   | (with_reducible exact ih0 _ _ _ _)
   | (with_reducible exact ih1 _ _ _ _)
   | (with_reducible exact ih2 _ _ _ _ _ _ _ _ _ _ _ _ _ _ _ _ _)
   | (with_reducible exact shape_Check.mono _ _)
   | (with_reducible exact shape_inside.mono _ _ _ _ _ _ _ _ _ _ _ _ _ _ _)
   | (with_reducible exact shape_local.mono _ _ _ _ _ _ _ _ _ _ _ _ _ _ _ _)
   | (with_reducible exact LeO.refl _)
   | (with_reducible exact LeO.none _)
   | (with_reducible refine LeO.ite ?_ ?_)
   | (with_reducible refine LeO.bind ?_ (fun _ => ?_))
   | exact ih0 _ _ _ _
   | exact ih1 _ _ _ _
   | exact ih2 _ _ _ _ _ _ _ _ _ _ _ _ _ _ _ _ _
   | exact shape_Check.mono _ _
   | exact shape_inside.mono _ _ _ _ _ _ _ _ _ _ _ _ _ _ _
   | exact shape_local.mono _ _ _ _ _ _ _ _ _ _ _ _ _ _ _ _
   | exact LeO.none _
   | refine LeO.ite ?_ ?_
   | refine LeO.bind ?_ (fun _ => ?_)
set_option maxHeartbeats 8000000 in
set_option maxRecDepth 100000 in
theorem shape_Hit.calls (k : Nat) (A0 : Option Addr) (c0 : Nat) (l0 : List (S45)) (a1_0 : Int) (a1_1 : Int) (r1 : Int) (r2 : Int) (w : World) (hr0 : Kd.C k45 w A0 l0.length l0) (hc0 : l0.length ≤ c0) (h : shape_Hit.f k l0 a1_0 a1_1 = some (r1, r2)) (hL : LaidW w) :
  Calls Tryd.prog 13 #[.slice A0 l0.length c0, .agg #[.int .i64 a1_0, .int .i64 a1_1]] w fun e w' => e = .returned (.tuple #[.int .i64 r1, .int .i64 r2]) ∧ Below w.heap.size w w' := by
 have HLd := Aside0.mk hL
 clear hL
 have hu37 := Tryd.underlying37
 have hu45 := Tryd.underlying45
 have HR0 := Aside0.mk hr0
 have HC0 := Aside0.mk hc0
 clear hr0 hc0
 have HB := Aside0.mk (Below.refl w.heap.size w)
 have H : ((shape_Check.f k l0).bind fun t116 => (if t116 = 0 then (if a1_0 < (-1048576) then (shape_Hit.j0 k l0 true a1_0 a1_1) else (if a1_0 > 1048576 then (shape_Hit.j0 k l0 true a1_0 a1_1) else (if a1_1 < (-1048576) then (shape_Hit.j0 k l0 true a1_0 a1_1) else (shape_Hit.j0 k l0 (decide (a1_1 > 1048576)) a1_0 a1_1)))) else (some (0, t116)))) = some (r1, r2) := h
 clear h
 replace H := Option.bind_eq_some_iff.mp H
 obtain ⟨t116, A30, H⟩ := H
 replace H : (if t116 = 0 then (if a1_0 < (-1048576) then (shape_Hit.j0 k l0 true a1_0 a1_1) else (if a1_0 > 1048576 then (shape_Hit.j0 k l0 true a1_0 a1_1) else (if a1_1 < (-1048576) then (shape_Hit.j0 k l0 true a1_0 a1_1) else (shape_Hit.j0 k l0 (decide (a1_1 > 1048576)) a1_0 a1_1)))) else (some (0, t116))) = some (r1, r2) := H
 have A3 := Aside0.mk A30
 clear A30
 by_cases c4 : t116 = 0
 ·rw [if_pos c4] at H
  have c4b0 : (t116 == 0) = true := beq_iff_eq.mpr c4
  have c4b1 : (t116 != 0) = false := bne_eq_false_iff_eq.mpr c4
  clear c4
  have HC5 := Aside0.mk H
  clear H
  go_enter Tryd.func13, Tryd.ntmps13
  go_upto_region 4 with (first | ((with_reducible refine gate_dst (N := 3) rfl ?_); refine box_event ?hg (N := 3) ?hd (cs := #[.int .i64 a1_0, .int .i64 a1_1]) (t := 37) ?hr ?_; (case hd => rfl); (case hg => rfl); (case hr => first | (go_simp; done) | (go_simp; rfl)); intro gb115 hg w6 hbox hb; have n0_ := Aside0.mk (below_step (by repeat (first | (with_reducible first | exact HB.out | apply below_alloc | apply pw_below_drewN | apply below_drew1) | exact HB.out)) hb); have n1_ := Aside0.mk (hbox); have n2_ := Aside0.mk ((by rw [hg]; exact (below_size (by repeat (first | (with_reducible first | exact HB.out | apply below_alloc | apply pw_below_drewN | apply below_drew1) | exact HB.out))) : w.heap.size ≤ gb115)); have n3_ := Aside0.mk ((by rw [hg]; exact (below_size (by repeat (first | (with_reducible first | exact HB.out | apply below_alloc | apply pw_below_drewN | apply below_drew1) | exact HB.out))) : w.heap.size ≤ gb115)); clear HB; have HB := n0_; have BK115 := n1_; have GW115 := n2_; have GE115 := n3_; clear n0_ n1_ n2_ n3_; clear hb hbox hg) | ((with_reducible refine gate_callee (f := 10) rfl ?_); refine goesL_ (some 12) rfl rfl Tryd.func10 (by kernel_rfl) rfl #[.slice A0 l0.length c0] rfl (by (try simp only [List.map_toArray, List.map_cons, List.map_nil]); first | done | rfl) ?_; (with_reducible refine (shape_Check.calls k _ _ l0 t116 _ ?side1 ?side2 A3.out).mono ?_); (case side1 => repeat (first | exact (Kd.C_below HR0.out HB.out) | (with_reducible refine Kd.C_alloc ?_ _) | (with_reducible refine Kd.C_drewN ?_ _) | (with_reducible refine Kd.C_drew ?_))); (case side2 => exact HC0.out); rintro e w7 ⟨rfl, hb⟩; refine ⟨_, rfl, ?_⟩; have n0_ := Aside0.mk (blk_below (g := gb115) (o := .cells #[.int .i64 a1_0, .int .i64 a1_1] 37 (0, 0)) (by (with_reducible repeat (first | refine blk_drewN ?_ _ | refine blk_drew ?_ | refine blk_alloc ?_ _)); exact BK115.out) hb); have n1_ := Aside0.mk (below_step (by repeat (first | (with_reducible first | exact HB.out | apply below_alloc | apply pw_below_drewN | apply below_drew1 | refine below_set ?_ GE115.out) | exact HB.out)) hb); clear BK115; clear HB; have BK115 := n0_; have HB := n1_; clear n0_ n1_; (try clear hb); (try clear hb2); (try clear hk); (try clear hi)))
  (try simp only [Act.put, List.setIfInBounds_toArray, List.set_cons_zero, List.set_cons_succ])
  go_cut [33] (fun v33 wc => ∃ (kq : Nat) (x33_4 : Bool), v33 = .bool x33_4 ∧ Aside0 (shape_Hit.j0 kq l0 x33_4 a1_0 a1_1 = some (r1, r2)) ∧ Aside0 (kq ≤ k) ∧ Aside0 (wc.heap[gb115]? = some (.cells #[.int .i64 a1_0, .int .i64 a1_1] 37 (0, 0))) ∧ Aside0 (Below w.heap.size w wc))
  case first =>
   have H := HC5.out
   clear HC5
   by_cases c8 : a1_0 < (-1048576)
   ·rw [if_pos c8] at H
    have c8b0 : decide (a1_0 < (-1048576)) = true := decide_eq_true c8
    clear c8
    (first | rw [c8b0] | (simp only [i64_w, i32_w]; rw [c8b0]) | skip)
    have H' := Aside0.mk H
    clear H
    have hcz9_0 : w7.cell? ⟨gb115, 0, none⟩ = some (.int .i64 a1_0) := (blk_cell BK115.out 0).trans rfl
    have hcz9_1 : w7.cell? ⟨gb115, 1, none⟩ = some (.int .i64 a1_1) := (blk_cell BK115.out 1).trans rfl
    have hfz9_0 := blk_frozen BK115.out 0
    have hfz9_1 := blk_frozen BK115.out 1
    go_wp2
    go_meet
    case rel => exact ⟨_, (true), (by first | rfl | (simp; done) | (simp [*]; done)), H', ⟨by first | omega | exact Nat.le_refl _⟩, ⟨by (with_reducible repeat (first | refine blk_drewN ?_ _ | refine blk_drew ?_ | refine blk_alloc ?_ _)); exact BK115.out⟩, ⟨by repeat (first | (with_reducible first | exact HB.out | apply below_alloc | apply pw_below_drewN | apply below_drew1 | refine below_set ?_ GE115.out) | exact HB.out)⟩⟩
   ·rw [if_neg c8] at H
    have c8b0 : decide (a1_0 < (-1048576)) = false := decide_eq_false c8
    clear c8
    (first | rw [c8b0] | (simp only [i64_w, i32_w]; rw [c8b0]) | skip)
    by_cases c10 : a1_0 > 1048576
    ·rw [if_pos c10] at H
     have c10b0 : decide (1048576 < a1_0) = true := decide_eq_true c10
     clear c10
     have H' := Aside0.mk H
     clear H
     have hcz11_0 : w7.cell? ⟨gb115, 0, none⟩ = some (.int .i64 a1_0) := (blk_cell BK115.out 0).trans rfl
     have hcz11_1 : w7.cell? ⟨gb115, 1, none⟩ = some (.int .i64 a1_1) := (blk_cell BK115.out 1).trans rfl
     have hfz11_0 := blk_frozen BK115.out 0
     have hfz11_1 := blk_frozen BK115.out 1
     go_wp2
     go_meet
     case rel => exact ⟨_, (true), (by first | rfl | (simp; done) | (simp [*]; done)), H', ⟨by first | omega | exact Nat.le_refl _⟩, ⟨by (with_reducible repeat (first | refine blk_drewN ?_ _ | refine blk_drew ?_ | refine blk_alloc ?_ _)); exact BK115.out⟩, ⟨by repeat (first | (with_reducible first | exact HB.out | apply below_alloc | apply pw_below_drewN | apply below_drew1 | refine below_set ?_ GE115.out) | exact HB.out)⟩⟩
    ·rw [if_neg c10] at H
     have c10b0 : decide (1048576 < a1_0) = false := decide_eq_false c10
     clear c10
     by_cases c12 : a1_1 < (-1048576)
     ·rw [if_pos c12] at H
      have c12b0 : decide (a1_1 < (-1048576)) = true := decide_eq_true c12
      clear c12
      have H' := Aside0.mk H
      clear H
      have hcz13_0 : w7.cell? ⟨gb115, 0, none⟩ = some (.int .i64 a1_0) := (blk_cell BK115.out 0).trans rfl
      have hcz13_1 : w7.cell? ⟨gb115, 1, none⟩ = some (.int .i64 a1_1) := (blk_cell BK115.out 1).trans rfl
      have hfz13_0 := blk_frozen BK115.out 0
      have hfz13_1 := blk_frozen BK115.out 1
      go_wp2
      go_meet
      case rel => exact ⟨_, (true), (by first | rfl | (simp; done) | (simp [*]; done)), H', ⟨by first | omega | exact Nat.le_refl _⟩, ⟨by (with_reducible repeat (first | refine blk_drewN ?_ _ | refine blk_drew ?_ | refine blk_alloc ?_ _)); exact BK115.out⟩, ⟨by repeat (first | (with_reducible first | exact HB.out | apply below_alloc | apply pw_below_drewN | apply below_drew1 | refine below_set ?_ GE115.out) | exact HB.out)⟩⟩
     ·rw [if_neg c12] at H
      have c12b0 : decide (a1_1 < (-1048576)) = false := decide_eq_false c12
      clear c12
      have H' := Aside0.mk H
      clear H
      have hcz14_0 : w7.cell? ⟨gb115, 0, none⟩ = some (.int .i64 a1_0) := (blk_cell BK115.out 0).trans rfl
      have hcz14_1 : w7.cell? ⟨gb115, 1, none⟩ = some (.int .i64 a1_1) := (blk_cell BK115.out 1).trans rfl
      have hfz14_0 := blk_frozen BK115.out 0
      have hfz14_1 := blk_frozen BK115.out 1
      go_wp2
      go_meet
      case rel => exact ⟨_, (decide (a1_1 > 1048576)), (by first | rfl | (simp; done) | (simp [*]; done)), H', ⟨by first | omega | exact Nat.le_refl _⟩, ⟨by (with_reducible repeat (first | refine blk_drewN ?_ _ | refine blk_drew ?_ | refine blk_alloc ?_ _)); exact BK115.out⟩, ⟨by repeat (first | (with_reducible first | exact HB.out | apply below_alloc | apply pw_below_drewN | apply below_drew1 | refine below_set ?_ GE115.out) | exact HB.out)⟩⟩
  case rest =>
   clear HC5; try clear c1; try clear p2; try clear c4; try clear c4b0; try clear c4b1; try clear c8; try clear c8b0; try clear c10; try clear c10b0; try clear c12; try clear c12b0; try clear c13; try clear hcz11_0; try clear hcz11_1; try clear hcz13_0; try clear hcz13_1; try clear hcz14_0; try clear hcz14_1; try clear hcz9_0; try clear hcz9_1; try clear hfz11_0; try clear hfz11_1; try clear hfz13_0; try clear hfz13_1; try clear hfz14_0; try clear hfz14_1; try clear hfz9_0; try clear hfz9_1
   obtain ⟨kq, x33_4, rfl, HA, HJ4, BK115, HB⟩ := hcut
   cases kq with
   | zero => exact absurd HA.out (by simp [shape_Hit.j0])
   | succ kj4 =>
    have H := HA.out
    clear HA
    simp only [shape_Hit.j0] at H
    by_cases c15 : x33_4 = true
    ·subst c15
     have H1 : (some (0, 2)) = some (r1, r2) := by rw [if_pos rfl] at H; exact H
     clear H
     have H := H1
     clear H1
     simp only [Option.some.injEq, Prod.mk.injEq] at H
     obtain ⟨rfl, rfl⟩ := H
     go_wp2
     go_ret2
     exact ⟨by first | rfl | (simp [errW_none, errW_some] <;> rfl) | (simp [*, errW_none, errW_some] <;> rfl), by repeat (first | (with_reducible first | exact HB.out | apply below_alloc | apply pw_below_drewN | apply below_drew1 | refine below_set ?_ GE115.out) | exact HB.out)⟩
    ·replace c15 := Bool.eq_false_iff.mpr c15
     subst c15
     have H1 : (shape_Hit.l0 kj4 l0 (wrap64 ((l0.length : Int) - 1)) a1_0 a1_1) = some (r1, r2) := by rw [if_neg (show ¬ (false = true) by decide)] at H; exact H
     clear H
     have H := H1
     clear H1
     have H' := Aside0.mk H
     clear H
     go_wp2
     go_loopg [7] kj4 (fun kq v7 w' => ∃ (x7_2 : Int), v7 = .int .i64 x7_2 ∧ Aside0 (shape_Hit.l0 kq l0 x7_2 a1_0 a1_1 = some (r1, r2)) ∧ Aside0 (kq ≤ kj4) ∧ Aside0 (w'.heap[gb115]? = some (.cells #[.int .i64 a1_0, .int .i64 a1_1] 37 (0, 0))) ∧ Aside0 (Below w.heap.size w w'))
     case atStart => exact ⟨(wrap64 ((l0.length : Int) - 1)), (by first | rfl | (simp; done) | (simp [*]; done)), H', ⟨Nat.le_refl _⟩, ⟨by (with_reducible repeat (first | refine blk_drewN ?_ _ | refine blk_drew ?_ | refine blk_alloc ?_ _)); exact BK115.out⟩, ⟨by repeat (first | (with_reducible first | exact HB.out | apply below_alloc | apply pw_below_drewN | apply below_drew1 | refine below_set ?_ GE115.out) | exact HB.out)⟩⟩
     case round =>
      clear H'
      try clear c1; try clear p2; try clear c4; try clear c4b0; try clear c4b1; try clear p6; try clear c8; try clear c8b0; try clear c10; try clear c10b0; try clear c12; try clear c12b0; try clear c13; try clear c15; try clear hcz11_0; try clear hcz11_1; try clear hcz13_0; try clear hcz13_1; try clear hcz14_0; try clear hcz14_1; try clear hcz9_0; try clear hcz9_1; try clear hfz11_0; try clear hfz11_1; try clear hfz13_0; try clear hfz13_1; try clear hfz14_0; try clear hfz14_1; try clear hfz9_0; try clear hfz9_1
      obtain ⟨x7_2, rfl, HA, HK2, BK115, HB⟩ := hrel
      cases gk with
      | zero => exact absurd HA.out (by simp [shape_Hit.l0])
      | succ k2 =>
       have H := HA.out
       clear HA
       simp only [shape_Hit.l0] at H
       by_cases c16 : x7_2 ≥ 0
       ·rw [if_pos c16] at H
        have c16b0 : decide (0 ≤ x7_2) = true := decide_eq_true c16
        clear c16
        by_cases c17 : 0 ≤ x7_2
        ·rw [if_pos c17] at H
         have c17b0 : decide (0 ≤ x7_2) = true := decide_eq_true c17
         clear c17
         by_cases c18 : x7_2 < (l0.length : Int)
         ·rw [if_pos c18] at H
          have c18b0 : decide (x7_2 < (l0.length : Int)) = true := decide_eq_true c18
          clear c18
          have HC19 := Aside0.mk H
          clear H
          have p117 : 0 ≤ (x7_2 : Int) := of_decide_eq_true (by first | (with_reducible assumption) | assumption)
          have q117 : x7_2 < (l0.length : Int) := of_decide_eq_true (by first | (with_reducible assumption) | assumption)
          obtain ⟨ad117, e117, hx117_0, hx117_1, hx117_2, hx117_3, hx117_4, hx117_5, hx117_6, hx117_7, hx117_8, hx117_9, hx117_10, hx117_11⟩ := at_T45 (Kd.C_below HR0.out HB.out) x7_2 p117 q117
          cases e117
          replace p117 := eq_true p117
          replace q117 := eq_true q117
          go_upto_region 10 with (first | ((with_reducible refine gate_dst (N := 8) rfl ?_); refine box_event ?hg (N := 8) ?hd (cs := #[.int .i64 0, .int .i64 0, .int .i64 0, .int .i64 0, .int .i64 0, .int .i64 0, .int .i64 0, .int .i64 0, .int .i64 0, .int .i64 0, .string (⟨#[]⟩ : ByteArray), .string (⟨#[]⟩ : ByteArray)]) (t := 45) ?hr ?_; (case hd => rfl); (case hg => rfl); (case hr => first | (go_simp; done) | (go_simp; rfl)); intro gb118 hg w20 hbox hb; have n0_ := Aside0.mk (blk_below (g := gb115) (o := .cells #[.int .i64 a1_0, .int .i64 a1_1] 37 (0, 0)) (by (with_reducible repeat (first | refine blk_drewN ?_ _ | refine blk_drew ?_ | refine blk_alloc ?_ _)); exact BK115.out) hb); have n1_ := Aside0.mk (below_step (by repeat (first | (with_reducible first | exact HB.out | apply below_alloc | apply pw_below_drewN | apply below_drew1 | refine below_set ?_ GE115.out) | exact HB.out)) hb); have n2_ := Aside0.mk (hbox); have n3_ := Aside0.mk ((by rw [hg]; exact (below_size (by repeat (first | (with_reducible first | exact HB.out | apply below_alloc | apply pw_below_drewN | apply below_drew1 | refine below_set ?_ GE115.out) | exact HB.out))) : w.heap.size ≤ gb118)); have n4_ := Aside0.mk ((by rw [hg]; exact (below_size (by repeat (first | (with_reducible first | exact HB.out | apply below_alloc | apply pw_below_drewN | apply below_drew1 | refine below_set ?_ GE115.out) | exact HB.out))) : w.heap.size ≤ gb118)); have n5_ := Aside0.mk ((by rw [hg]; exact Nat.ne_of_lt (blk_lt (g := gb115) (o := .cells #[.int .i64 a1_0, .int .i64 a1_1] 37 (0, 0)) (by (with_reducible repeat (first | refine blk_drewN ?_ _ | refine blk_drew ?_ | refine blk_alloc ?_ _)); exact BK115.out)) : gb115 ≠ gb118)); have n6_ := Aside0.mk ((by rw [hg]; exact Nat.ne_of_gt (blk_lt (g := gb115) (o := .cells #[.int .i64 a1_0, .int .i64 a1_1] 37 (0, 0)) (by (with_reducible repeat (first | refine blk_drewN ?_ _ | refine blk_drew ?_ | refine blk_alloc ?_ _)); exact BK115.out)) : gb118 ≠ gb115)); clear BK115; clear HB; have BK115 := n0_; have HB := n1_; have BK118 := n2_; have GW118 := n3_; have GE118 := n4_; have NB115_118 := n5_; have NB118_115 := n6_; clear n0_ n1_ n2_ n3_ n4_ n5_ n6_; clear hb hbox hg; have hnb21 := NB118_115.out; have hnc21 := NB115_118.out; obtain ⟨hcz22_0, hcz22_1, hcz22_2, hcz22_3, hcz22_4, hcz22_5, hcz22_6, hcz22_7, hcz22_8, hcz22_9, hcz22_10, hcz22_11⟩ := cells12 BK118.out; have hfz22_ := fun j => blk_frozen BK118.out j))
          (try simp only [Act.put, List.setIfInBounds_toArray, List.set_cons_zero, List.set_cons_succ])
          go_cut [52] (fun v52 wc => ∃ (kq : Nat) (x52_18 : Bool), v52 = .bool x52_18 ∧ Aside0 (shape_Hit.j2 kq l0 x7_2 x52_18 a1_0 a1_1 ((rd_T45 l0 x7_2).f0) ((rd_T45 l0 x7_2).f1) ((rd_T45 l0 x7_2).f2) ((rd_T45 l0 x7_2).f3) ((rd_T45 l0 x7_2).f4) ((rd_T45 l0 x7_2).f5) ((rd_T45 l0 x7_2).f6) ((rd_T45 l0 x7_2).f7) ((rd_T45 l0 x7_2).f8) ((rd_T45 l0 x7_2).f9) ((rd_T45 l0 x7_2).f10) ((rd_T45 l0 x7_2).f11) = some (r1, r2)) ∧ Aside0 (kq ≤ k2) ∧ Aside0 (wc.heap[gb115]? = some (.cells #[.int .i64 a1_0, .int .i64 a1_1] 37 (0, 0))) ∧ Aside0 (wc.heap[gb118]? = some (.cells #[.int .i64 ((rd_T45 l0 x7_2).f0), .int .i64 ((rd_T45 l0 x7_2).f1), .int .i64 ((rd_T45 l0 x7_2).f2), .int .i64 ((rd_T45 l0 x7_2).f3), .int .i64 ((rd_T45 l0 x7_2).f4), .int .i64 ((rd_T45 l0 x7_2).f5), .int .i64 ((rd_T45 l0 x7_2).f6), .int .i64 ((rd_T45 l0 x7_2).f7), .int .i64 ((rd_T45 l0 x7_2).f8), .int .i64 ((rd_T45 l0 x7_2).f9), .string ((rd_T45 l0 x7_2).f10), .string ((rd_T45 l0 x7_2).f11)] 45 (0, 0))) ∧ Aside0 (Below w.heap.size w wc))
          case first =>
           have H := HC19.out
           clear HC19
           by_cases c23 : ((rd_T45 l0 x7_2).f2) = 5
           ·rw [if_pos c23] at H
            have c23b0 : (((rd_T45 l0 x7_2).f2) == 5) = true := beq_iff_eq.mpr c23
            have c23b1 : (((rd_T45 l0 x7_2).f2) != 5) = false := bne_eq_false_iff_eq.mpr c23
            clear c23
            (first | rw [c23b0] | (simp only [i64_w, i32_w]; rw [c23b0]) | skip)
            have H' := Aside0.mk H
            clear H
            have hnb24 := NB118_115.out
            have hnc24 := NB115_118.out
            obtain ⟨hcz25_0, hcz25_1, hcz25_2, hcz25_3, hcz25_4, hcz25_5, hcz25_6, hcz25_7, hcz25_8, hcz25_9, hcz25_10, hcz25_11⟩ := cells12 BK118.out
            have hfz25_ := fun j => blk_frozen BK118.out j
            go_wp2
            go_meet
            case rel => exact ⟨_, (true), (by first | rfl | (simp; done) | (simp [*]; done)), H', ⟨by have := HJ4.out; have := HK2.out; first | omega | exact Nat.le_refl _⟩, ⟨by (with_reducible repeat (first | refine blk_drewN ?_ _ | refine blk_drew ?_ | refine blk_alloc ?_ _)); refine blk_far ?_ NB115_118.out _; (with_reducible repeat (first | refine blk_drewN ?_ _ | refine blk_drew ?_ | refine blk_alloc ?_ _)); refine blk_far ?_ NB115_118.out _; (with_reducible repeat (first | refine blk_drewN ?_ _ | refine blk_drew ?_ | refine blk_alloc ?_ _)); refine blk_far ?_ NB115_118.out _; (with_reducible repeat (first | refine blk_drewN ?_ _ | refine blk_drew ?_ | refine blk_alloc ?_ _)); refine blk_far ?_ NB115_118.out _; (with_reducible repeat (first | refine blk_drewN ?_ _ | refine blk_drew ?_ | refine blk_alloc ?_ _)); refine blk_far ?_ NB115_118.out _; (with_reducible repeat (first | refine blk_drewN ?_ _ | refine blk_drew ?_ | refine blk_alloc ?_ _)); refine blk_far ?_ NB115_118.out _; (with_reducible repeat (first | refine blk_drewN ?_ _ | refine blk_drew ?_ | refine blk_alloc ?_ _)); refine blk_far ?_ NB115_118.out _; (with_reducible repeat (first | refine blk_drewN ?_ _ | refine blk_drew ?_ | refine blk_alloc ?_ _)); refine blk_far ?_ NB115_118.out _; (with_reducible repeat (first | refine blk_drewN ?_ _ | refine blk_drew ?_ | refine blk_alloc ?_ _)); refine blk_far ?_ NB115_118.out _; (with_reducible repeat (first | refine blk_drewN ?_ _ | refine blk_drew ?_ | refine blk_alloc ?_ _)); refine blk_far ?_ NB115_118.out _; (with_reducible repeat (first | refine blk_drewN ?_ _ | refine blk_drew ?_ | refine blk_alloc ?_ _)); refine blk_far ?_ NB115_118.out _; (with_reducible repeat (first | refine blk_drewN ?_ _ | refine blk_drew ?_ | refine blk_alloc ?_ _)); refine blk_far ?_ NB115_118.out _; (with_reducible repeat (first | refine blk_drewN ?_ _ | refine blk_drew ?_ | refine blk_alloc ?_ _)); exact BK115.out⟩, ⟨by (with_reducible repeat (first | refine blk_drewN ?_ _ | refine blk_drew ?_ | refine blk_alloc ?_ _)); refine blk_put (cs := #[.int .i64 ((rd_T45 l0 x7_2).f0), .int .i64 ((rd_T45 l0 x7_2).f1), .int .i64 ((rd_T45 l0 x7_2).f2), .int .i64 ((rd_T45 l0 x7_2).f3), .int .i64 ((rd_T45 l0 x7_2).f4), .int .i64 ((rd_T45 l0 x7_2).f5), .int .i64 ((rd_T45 l0 x7_2).f6), .int .i64 ((rd_T45 l0 x7_2).f7), .int .i64 ((rd_T45 l0 x7_2).f8), .int .i64 ((rd_T45 l0 x7_2).f9), .string ((rd_T45 l0 x7_2).f10), .string (⟨#[]⟩ : ByteArray)]) ?_ 11 _ rfl; (with_reducible repeat (first | refine blk_drewN ?_ _ | refine blk_drew ?_ | refine blk_alloc ?_ _)); refine blk_put (cs := #[.int .i64 ((rd_T45 l0 x7_2).f0), .int .i64 ((rd_T45 l0 x7_2).f1), .int .i64 ((rd_T45 l0 x7_2).f2), .int .i64 ((rd_T45 l0 x7_2).f3), .int .i64 ((rd_T45 l0 x7_2).f4), .int .i64 ((rd_T45 l0 x7_2).f5), .int .i64 ((rd_T45 l0 x7_2).f6), .int .i64 ((rd_T45 l0 x7_2).f7), .int .i64 ((rd_T45 l0 x7_2).f8), .int .i64 ((rd_T45 l0 x7_2).f9), .string (⟨#[]⟩ : ByteArray), .string (⟨#[]⟩ : ByteArray)]) ?_ 10 _ rfl; (with_reducible repeat (first | refine blk_drewN ?_ _ | refine blk_drew ?_ | refine blk_alloc ?_ _)); refine blk_put (cs := #[.int .i64 ((rd_T45 l0 x7_2).f0), .int .i64 ((rd_T45 l0 x7_2).f1), .int .i64 ((rd_T45 l0 x7_2).f2), .int .i64 ((rd_T45 l0 x7_2).f3), .int .i64 ((rd_T45 l0 x7_2).f4), .int .i64 ((rd_T45 l0 x7_2).f5), .int .i64 ((rd_T45 l0 x7_2).f6), .int .i64 ((rd_T45 l0 x7_2).f7), .int .i64 ((rd_T45 l0 x7_2).f8), .int .i64 0, .string (⟨#[]⟩ : ByteArray), .string (⟨#[]⟩ : ByteArray)]) ?_ 9 _ rfl; (with_reducible repeat (first | refine blk_drewN ?_ _ | refine blk_drew ?_ | refine blk_alloc ?_ _)); refine blk_put (cs := #[.int .i64 ((rd_T45 l0 x7_2).f0), .int .i64 ((rd_T45 l0 x7_2).f1), .int .i64 ((rd_T45 l0 x7_2).f2), .int .i64 ((rd_T45 l0 x7_2).f3), .int .i64 ((rd_T45 l0 x7_2).f4), .int .i64 ((rd_T45 l0 x7_2).f5), .int .i64 ((rd_T45 l0 x7_2).f6), .int .i64 ((rd_T45 l0 x7_2).f7), .int .i64 0, .int .i64 0, .string (⟨#[]⟩ : ByteArray), .string (⟨#[]⟩ : ByteArray)]) ?_ 8 _ rfl; (with_reducible repeat (first | refine blk_drewN ?_ _ | refine blk_drew ?_ | refine blk_alloc ?_ _)); refine blk_put (cs := #[.int .i64 ((rd_T45 l0 x7_2).f0), .int .i64 ((rd_T45 l0 x7_2).f1), .int .i64 ((rd_T45 l0 x7_2).f2), .int .i64 ((rd_T45 l0 x7_2).f3), .int .i64 ((rd_T45 l0 x7_2).f4), .int .i64 ((rd_T45 l0 x7_2).f5), .int .i64 ((rd_T45 l0 x7_2).f6), .int .i64 0, .int .i64 0, .int .i64 0, .string (⟨#[]⟩ : ByteArray), .string (⟨#[]⟩ : ByteArray)]) ?_ 7 _ rfl; (with_reducible repeat (first | refine blk_drewN ?_ _ | refine blk_drew ?_ | refine blk_alloc ?_ _)); refine blk_put (cs := #[.int .i64 ((rd_T45 l0 x7_2).f0), .int .i64 ((rd_T45 l0 x7_2).f1), .int .i64 ((rd_T45 l0 x7_2).f2), .int .i64 ((rd_T45 l0 x7_2).f3), .int .i64 ((rd_T45 l0 x7_2).f4), .int .i64 ((rd_T45 l0 x7_2).f5), .int .i64 0, .int .i64 0, .int .i64 0, .int .i64 0, .string (⟨#[]⟩ : ByteArray), .string (⟨#[]⟩ : ByteArray)]) ?_ 6 _ rfl; (with_reducible repeat (first | refine blk_drewN ?_ _ | refine blk_drew ?_ | refine blk_alloc ?_ _)); refine blk_put (cs := #[.int .i64 ((rd_T45 l0 x7_2).f0), .int .i64 ((rd_T45 l0 x7_2).f1), .int .i64 ((rd_T45 l0 x7_2).f2), .int .i64 ((rd_T45 l0 x7_2).f3), .int .i64 ((rd_T45 l0 x7_2).f4), .int .i64 0, .int .i64 0, .int .i64 0, .int .i64 0, .int .i64 0, .string (⟨#[]⟩ : ByteArray), .string (⟨#[]⟩ : ByteArray)]) ?_ 5 _ rfl; (with_reducible repeat (first | refine blk_drewN ?_ _ | refine blk_drew ?_ | refine blk_alloc ?_ _)); refine blk_put (cs := #[.int .i64 ((rd_T45 l0 x7_2).f0), .int .i64 ((rd_T45 l0 x7_2).f1), .int .i64 ((rd_T45 l0 x7_2).f2), .int .i64 ((rd_T45 l0 x7_2).f3), .int .i64 0, .int .i64 0, .int .i64 0, .int .i64 0, .int .i64 0, .int .i64 0, .string (⟨#[]⟩ : ByteArray), .string (⟨#[]⟩ : ByteArray)]) ?_ 4 _ rfl; (with_reducible repeat (first | refine blk_drewN ?_ _ | refine blk_drew ?_ | refine blk_alloc ?_ _)); refine blk_put (cs := #[.int .i64 ((rd_T45 l0 x7_2).f0), .int .i64 ((rd_T45 l0 x7_2).f1), .int .i64 ((rd_T45 l0 x7_2).f2), .int .i64 0, .int .i64 0, .int .i64 0, .int .i64 0, .int .i64 0, .int .i64 0, .int .i64 0, .string (⟨#[]⟩ : ByteArray), .string (⟨#[]⟩ : ByteArray)]) ?_ 3 _ rfl; (with_reducible repeat (first | refine blk_drewN ?_ _ | refine blk_drew ?_ | refine blk_alloc ?_ _)); refine blk_put (cs := #[.int .i64 ((rd_T45 l0 x7_2).f0), .int .i64 ((rd_T45 l0 x7_2).f1), .int .i64 0, .int .i64 0, .int .i64 0, .int .i64 0, .int .i64 0, .int .i64 0, .int .i64 0, .int .i64 0, .string (⟨#[]⟩ : ByteArray), .string (⟨#[]⟩ : ByteArray)]) ?_ 2 _ rfl; (with_reducible repeat (first | refine blk_drewN ?_ _ | refine blk_drew ?_ | refine blk_alloc ?_ _)); refine blk_put (cs := #[.int .i64 ((rd_T45 l0 x7_2).f0), .int .i64 0, .int .i64 0, .int .i64 0, .int .i64 0, .int .i64 0, .int .i64 0, .int .i64 0, .int .i64 0, .int .i64 0, .string (⟨#[]⟩ : ByteArray), .string (⟨#[]⟩ : ByteArray)]) ?_ 1 _ rfl; (with_reducible repeat (first | refine blk_drewN ?_ _ | refine blk_drew ?_ | refine blk_alloc ?_ _)); refine blk_put (cs := #[.int .i64 0, .int .i64 0, .int .i64 0, .int .i64 0, .int .i64 0, .int .i64 0, .int .i64 0, .int .i64 0, .int .i64 0, .int .i64 0, .string (⟨#[]⟩ : ByteArray), .string (⟨#[]⟩ : ByteArray)]) ?_ 0 _ rfl; (with_reducible repeat (first | refine blk_drewN ?_ _ | refine blk_drew ?_ | refine blk_alloc ?_ _)); exact BK118.out⟩, ⟨by repeat (first | (with_reducible first | exact HB.out | apply below_alloc | apply pw_below_drewN | apply below_drew1 | refine below_set ?_ GE115.out | refine below_set ?_ GE118.out) | exact HB.out)⟩⟩
           ·rw [if_neg c23] at H
            have c23b0 : (((rd_T45 l0 x7_2).f2) == 5) = false := beq_eq_false_iff_ne.mpr c23
            have c23b1 : (((rd_T45 l0 x7_2).f2) != 5) = true := bne_iff_ne.mpr c23
            (first | rw [c23b0] | (simp only [i64_w, i32_w]; rw [c23b0]) | skip)
            have H' := Aside0.mk H
            clear H
            have hnb26 := NB118_115.out
            have hnc26 := NB115_118.out
            obtain ⟨hcz27_0, hcz27_1, hcz27_2, hcz27_3, hcz27_4, hcz27_5, hcz27_6, hcz27_7, hcz27_8, hcz27_9, hcz27_10, hcz27_11⟩ := cells12 BK118.out
            have hfz27_ := fun j => blk_frozen BK118.out j
            go_wp2
            go_meet
            case rel => exact ⟨_, ((((rd_T45 l0 x7_2).f2) == 6)), (by first | rfl | (simp; done) | (simp [*]; done)), H', ⟨by have := HJ4.out; have := HK2.out; first | omega | exact Nat.le_refl _⟩, ⟨by (with_reducible repeat (first | refine blk_drewN ?_ _ | refine blk_drew ?_ | refine blk_alloc ?_ _)); refine blk_far ?_ NB115_118.out _; (with_reducible repeat (first | refine blk_drewN ?_ _ | refine blk_drew ?_ | refine blk_alloc ?_ _)); refine blk_far ?_ NB115_118.out _; (with_reducible repeat (first | refine blk_drewN ?_ _ | refine blk_drew ?_ | refine blk_alloc ?_ _)); refine blk_far ?_ NB115_118.out _; (with_reducible repeat (first | refine blk_drewN ?_ _ | refine blk_drew ?_ | refine blk_alloc ?_ _)); refine blk_far ?_ NB115_118.out _; (with_reducible repeat (first | refine blk_drewN ?_ _ | refine blk_drew ?_ | refine blk_alloc ?_ _)); refine blk_far ?_ NB115_118.out _; (with_reducible repeat (first | refine blk_drewN ?_ _ | refine blk_drew ?_ | refine blk_alloc ?_ _)); refine blk_far ?_ NB115_118.out _; (with_reducible repeat (first | refine blk_drewN ?_ _ | refine blk_drew ?_ | refine blk_alloc ?_ _)); refine blk_far ?_ NB115_118.out _; (with_reducible repeat (first | refine blk_drewN ?_ _ | refine blk_drew ?_ | refine blk_alloc ?_ _)); refine blk_far ?_ NB115_118.out _; (with_reducible repeat (first | refine blk_drewN ?_ _ | refine blk_drew ?_ | refine blk_alloc ?_ _)); refine blk_far ?_ NB115_118.out _; (with_reducible repeat (first | refine blk_drewN ?_ _ | refine blk_drew ?_ | refine blk_alloc ?_ _)); refine blk_far ?_ NB115_118.out _; (with_reducible repeat (first | refine blk_drewN ?_ _ | refine blk_drew ?_ | refine blk_alloc ?_ _)); refine blk_far ?_ NB115_118.out _; (with_reducible repeat (first | refine blk_drewN ?_ _ | refine blk_drew ?_ | refine blk_alloc ?_ _)); refine blk_far ?_ NB115_118.out _; (with_reducible repeat (first | refine blk_drewN ?_ _ | refine blk_drew ?_ | refine blk_alloc ?_ _)); exact BK115.out⟩, ⟨by (with_reducible repeat (first | refine blk_drewN ?_ _ | refine blk_drew ?_ | refine blk_alloc ?_ _)); refine blk_put (cs := #[.int .i64 ((rd_T45 l0 x7_2).f0), .int .i64 ((rd_T45 l0 x7_2).f1), .int .i64 ((rd_T45 l0 x7_2).f2), .int .i64 ((rd_T45 l0 x7_2).f3), .int .i64 ((rd_T45 l0 x7_2).f4), .int .i64 ((rd_T45 l0 x7_2).f5), .int .i64 ((rd_T45 l0 x7_2).f6), .int .i64 ((rd_T45 l0 x7_2).f7), .int .i64 ((rd_T45 l0 x7_2).f8), .int .i64 ((rd_T45 l0 x7_2).f9), .string ((rd_T45 l0 x7_2).f10), .string (⟨#[]⟩ : ByteArray)]) ?_ 11 _ rfl; (with_reducible repeat (first | refine blk_drewN ?_ _ | refine blk_drew ?_ | refine blk_alloc ?_ _)); refine blk_put (cs := #[.int .i64 ((rd_T45 l0 x7_2).f0), .int .i64 ((rd_T45 l0 x7_2).f1), .int .i64 ((rd_T45 l0 x7_2).f2), .int .i64 ((rd_T45 l0 x7_2).f3), .int .i64 ((rd_T45 l0 x7_2).f4), .int .i64 ((rd_T45 l0 x7_2).f5), .int .i64 ((rd_T45 l0 x7_2).f6), .int .i64 ((rd_T45 l0 x7_2).f7), .int .i64 ((rd_T45 l0 x7_2).f8), .int .i64 ((rd_T45 l0 x7_2).f9), .string (⟨#[]⟩ : ByteArray), .string (⟨#[]⟩ : ByteArray)]) ?_ 10 _ rfl; (with_reducible repeat (first | refine blk_drewN ?_ _ | refine blk_drew ?_ | refine blk_alloc ?_ _)); refine blk_put (cs := #[.int .i64 ((rd_T45 l0 x7_2).f0), .int .i64 ((rd_T45 l0 x7_2).f1), .int .i64 ((rd_T45 l0 x7_2).f2), .int .i64 ((rd_T45 l0 x7_2).f3), .int .i64 ((rd_T45 l0 x7_2).f4), .int .i64 ((rd_T45 l0 x7_2).f5), .int .i64 ((rd_T45 l0 x7_2).f6), .int .i64 ((rd_T45 l0 x7_2).f7), .int .i64 ((rd_T45 l0 x7_2).f8), .int .i64 0, .string (⟨#[]⟩ : ByteArray), .string (⟨#[]⟩ : ByteArray)]) ?_ 9 _ rfl; (with_reducible repeat (first | refine blk_drewN ?_ _ | refine blk_drew ?_ | refine blk_alloc ?_ _)); refine blk_put (cs := #[.int .i64 ((rd_T45 l0 x7_2).f0), .int .i64 ((rd_T45 l0 x7_2).f1), .int .i64 ((rd_T45 l0 x7_2).f2), .int .i64 ((rd_T45 l0 x7_2).f3), .int .i64 ((rd_T45 l0 x7_2).f4), .int .i64 ((rd_T45 l0 x7_2).f5), .int .i64 ((rd_T45 l0 x7_2).f6), .int .i64 ((rd_T45 l0 x7_2).f7), .int .i64 0, .int .i64 0, .string (⟨#[]⟩ : ByteArray), .string (⟨#[]⟩ : ByteArray)]) ?_ 8 _ rfl; (with_reducible repeat (first | refine blk_drewN ?_ _ | refine blk_drew ?_ | refine blk_alloc ?_ _)); refine blk_put (cs := #[.int .i64 ((rd_T45 l0 x7_2).f0), .int .i64 ((rd_T45 l0 x7_2).f1), .int .i64 ((rd_T45 l0 x7_2).f2), .int .i64 ((rd_T45 l0 x7_2).f3), .int .i64 ((rd_T45 l0 x7_2).f4), .int .i64 ((rd_T45 l0 x7_2).f5), .int .i64 ((rd_T45 l0 x7_2).f6), .int .i64 0, .int .i64 0, .int .i64 0, .string (⟨#[]⟩ : ByteArray), .string (⟨#[]⟩ : ByteArray)]) ?_ 7 _ rfl; (with_reducible repeat (first | refine blk_drewN ?_ _ | refine blk_drew ?_ | refine blk_alloc ?_ _)); refine blk_put (cs := #[.int .i64 ((rd_T45 l0 x7_2).f0), .int .i64 ((rd_T45 l0 x7_2).f1), .int .i64 ((rd_T45 l0 x7_2).f2), .int .i64 ((rd_T45 l0 x7_2).f3), .int .i64 ((rd_T45 l0 x7_2).f4), .int .i64 ((rd_T45 l0 x7_2).f5), .int .i64 0, .int .i64 0, .int .i64 0, .int .i64 0, .string (⟨#[]⟩ : ByteArray), .string (⟨#[]⟩ : ByteArray)]) ?_ 6 _ rfl; (with_reducible repeat (first | refine blk_drewN ?_ _ | refine blk_drew ?_ | refine blk_alloc ?_ _)); refine blk_put (cs := #[.int .i64 ((rd_T45 l0 x7_2).f0), .int .i64 ((rd_T45 l0 x7_2).f1), .int .i64 ((rd_T45 l0 x7_2).f2), .int .i64 ((rd_T45 l0 x7_2).f3), .int .i64 ((rd_T45 l0 x7_2).f4), .int .i64 0, .int .i64 0, .int .i64 0, .int .i64 0, .int .i64 0, .string (⟨#[]⟩ : ByteArray), .string (⟨#[]⟩ : ByteArray)]) ?_ 5 _ rfl; (with_reducible repeat (first | refine blk_drewN ?_ _ | refine blk_drew ?_ | refine blk_alloc ?_ _)); refine blk_put (cs := #[.int .i64 ((rd_T45 l0 x7_2).f0), .int .i64 ((rd_T45 l0 x7_2).f1), .int .i64 ((rd_T45 l0 x7_2).f2), .int .i64 ((rd_T45 l0 x7_2).f3), .int .i64 0, .int .i64 0, .int .i64 0, .int .i64 0, .int .i64 0, .int .i64 0, .string (⟨#[]⟩ : ByteArray), .string (⟨#[]⟩ : ByteArray)]) ?_ 4 _ rfl; (with_reducible repeat (first | refine blk_drewN ?_ _ | refine blk_drew ?_ | refine blk_alloc ?_ _)); refine blk_put (cs := #[.int .i64 ((rd_T45 l0 x7_2).f0), .int .i64 ((rd_T45 l0 x7_2).f1), .int .i64 ((rd_T45 l0 x7_2).f2), .int .i64 0, .int .i64 0, .int .i64 0, .int .i64 0, .int .i64 0, .int .i64 0, .int .i64 0, .string (⟨#[]⟩ : ByteArray), .string (⟨#[]⟩ : ByteArray)]) ?_ 3 _ rfl; (with_reducible repeat (first | refine blk_drewN ?_ _ | refine blk_drew ?_ | refine blk_alloc ?_ _)); refine blk_put (cs := #[.int .i64 ((rd_T45 l0 x7_2).f0), .int .i64 ((rd_T45 l0 x7_2).f1), .int .i64 0, .int .i64 0, .int .i64 0, .int .i64 0, .int .i64 0, .int .i64 0, .int .i64 0, .int .i64 0, .string (⟨#[]⟩ : ByteArray), .string (⟨#[]⟩ : ByteArray)]) ?_ 2 _ rfl; (with_reducible repeat (first | refine blk_drewN ?_ _ | refine blk_drew ?_ | refine blk_alloc ?_ _)); refine blk_put (cs := #[.int .i64 ((rd_T45 l0 x7_2).f0), .int .i64 0, .int .i64 0, .int .i64 0, .int .i64 0, .int .i64 0, .int .i64 0, .int .i64 0, .int .i64 0, .int .i64 0, .string (⟨#[]⟩ : ByteArray), .string (⟨#[]⟩ : ByteArray)]) ?_ 1 _ rfl; (with_reducible repeat (first | refine blk_drewN ?_ _ | refine blk_drew ?_ | refine blk_alloc ?_ _)); refine blk_put (cs := #[.int .i64 0, .int .i64 0, .int .i64 0, .int .i64 0, .int .i64 0, .int .i64 0, .int .i64 0, .int .i64 0, .int .i64 0, .int .i64 0, .string (⟨#[]⟩ : ByteArray), .string (⟨#[]⟩ : ByteArray)]) ?_ 0 _ rfl; (with_reducible repeat (first | refine blk_drewN ?_ _ | refine blk_drew ?_ | refine blk_alloc ?_ _)); exact BK118.out⟩, ⟨by repeat (first | (with_reducible first | exact HB.out | apply below_alloc | apply pw_below_drewN | apply below_drew1 | refine below_set ?_ GE115.out | refine below_set ?_ GE118.out) | exact HB.out)⟩⟩
          case rest =>
           clear HC19; try clear c1; try clear p1; try clear q1; try clear hx1; try clear c2; try clear p2; try clear c4; try clear c4b0; try clear c4b1; try clear p6; try clear c8; try clear c8b0; try clear c10; try clear c10b0; try clear p11; try clear q11; try clear hx11; try clear c12; try clear c12b0; try clear c13; try clear c15; try clear c16; try clear c16b0; try clear c17; try clear c17b0; try clear c18; try clear c18b0; try clear c21; try clear c23; try clear c23b0; try clear c23b1; try clear c24; try clear c26; try clear hcz11_0; try clear hcz11_1; try clear hcz13_0; try clear hcz13_1; try clear hcz14_0; try clear hcz14_1; try clear hcz22_0; try clear hcz22_1; try clear hcz22_10; try clear hcz22_11; try clear hcz22_2; try clear hcz22_3; try clear hcz22_4; try clear hcz22_5; try clear hcz22_6; try clear hcz22_7; try clear hcz22_8; try clear hcz22_9; try clear hcz25_0; try clear hcz25_1; try clear hcz25_10; try clear hcz25_11; try clear hcz25_2; try clear hcz25_3; try clear hcz25_4; try clear hcz25_5; try clear hcz25_6; try clear hcz25_7; try clear hcz25_8; try clear hcz25_9; try clear hcz27_0; try clear hcz27_1; try clear hcz27_10; try clear hcz27_11; try clear hcz27_2; try clear hcz27_3; try clear hcz27_4; try clear hcz27_5; try clear hcz27_6; try clear hcz27_7; try clear hcz27_8; try clear hcz27_9; try clear hcz9_0; try clear hcz9_1; try clear hfz11_0; try clear hfz11_1; try clear hfz13_0; try clear hfz13_1; try clear hfz14_0; try clear hfz14_1; try clear hfz22_0; try clear hfz22_1; try clear hfz22_10; try clear hfz22_11; try clear hfz22_2; try clear hfz22_3; try clear hfz22_4; try clear hfz22_5; try clear hfz22_6; try clear hfz22_7; try clear hfz22_8; try clear hfz22_9; try clear hfz25_0; try clear hfz25_1; try clear hfz25_10; try clear hfz25_11; try clear hfz25_2; try clear hfz25_3; try clear hfz25_4; try clear hfz25_5; try clear hfz25_6; try clear hfz25_7; try clear hfz25_8; try clear hfz25_9; try clear hfz27_0; try clear hfz27_1; try clear hfz27_10; try clear hfz27_11; try clear hfz27_2; try clear hfz27_3; try clear hfz27_4; try clear hfz27_5; try clear hfz27_6; try clear hfz27_7; try clear hfz27_8; try clear hfz27_9; try clear hfz9_0; try clear hfz9_1; try clear hx117_0; try clear hx117_1; try clear hx117_10; try clear hx117_11; try clear hx117_2; try clear hx117_3; try clear hx117_4; try clear hx117_5; try clear hx117_6; try clear hx117_7; try clear hx117_8; try clear hx117_9; try clear p117; try clear q117
           obtain ⟨kq, x52_18, rfl, HA, HJ18, BK115, BK118, HB⟩ := hcut
           cases kq with
           | zero => exact absurd HA.out (by simp [shape_Hit.j2])
           | succ kj18 =>
            have H := HA.out
            clear HA
            simp only [shape_Hit.j2] at H
            by_cases c28 : x52_18 = true
            ·subst c28
             have H1 : (shape_Hit.l0 kj18 l0 (wrap64 (x7_2 - 1)) a1_0 a1_1) = some (r1, r2) := by rw [if_pos rfl] at H; exact H
             clear H
             have H := H1
             clear H1
             have H' := Aside0.mk H
             clear H
             go_wp2
             go_roundg kj18
             case measure => have := HJ4.out; have := HK2.out; have := HJ18.out; omega
             case rel => exact ⟨(wrap64 (x7_2 - 1)), (by first | rfl | (simp; done) | (simp [*]; done)), H', ⟨by have := HJ4.out; have := HK2.out; have := HJ18.out; omega⟩, ⟨by (with_reducible repeat (first | refine blk_drewN ?_ _ | refine blk_drew ?_ | refine blk_alloc ?_ _)); exact BK115.out⟩, ⟨by repeat (first | (with_reducible first | exact HB.out | apply below_alloc | apply pw_below_drewN | apply below_drew1 | refine below_set ?_ GE115.out | refine below_set ?_ GE118.out) | exact HB.out)⟩⟩
            ·replace c28 := Bool.eq_false_iff.mpr c28
             subst c28
             have H1 : ((shape_local.f kj18 l0 ((rd_T45 l0 x7_2).f0) ((rd_T45 l0 x7_2).f1) ((rd_T45 l0 x7_2).f2) ((rd_T45 l0 x7_2).f3) ((rd_T45 l0 x7_2).f4) ((rd_T45 l0 x7_2).f5) ((rd_T45 l0 x7_2).f6) ((rd_T45 l0 x7_2).f7) ((rd_T45 l0 x7_2).f8) ((rd_T45 l0 x7_2).f9) ((rd_T45 l0 x7_2).f10) ((rd_T45 l0 x7_2).f11) a1_0 a1_1).bind fun bt119 => ((shape_inside.f kj18 ((rd_T45 l0 x7_2).f0) ((rd_T45 l0 x7_2).f1) ((rd_T45 l0 x7_2).f2) ((rd_T45 l0 x7_2).f3) ((rd_T45 l0 x7_2).f4) ((rd_T45 l0 x7_2).f5) ((rd_T45 l0 x7_2).f6) ((rd_T45 l0 x7_2).f7) ((rd_T45 l0 x7_2).f8) ((rd_T45 l0 x7_2).f9) ((rd_T45 l0 x7_2).f10) ((rd_T45 l0 x7_2).f11) bt119.1 bt119.2).bind fun t121 => (if t121 = true then (some (((rd_T45 l0 x7_2).f0), 0)) else (shape_Hit.l0 kj18 l0 (wrap64 (x7_2 - 1)) a1_0 a1_1)))) = some (r1, r2) := by rw [if_neg (show ¬ (false = true) by decide)] at H; exact H
             clear H
             have H := H1
             clear H1
             replace H := Option.bind_eq_some_iff.mp H
             obtain ⟨⟨t119, t120⟩, A290, H⟩ := H
             replace H : ((shape_inside.f kj18 ((rd_T45 l0 x7_2).f0) ((rd_T45 l0 x7_2).f1) ((rd_T45 l0 x7_2).f2) ((rd_T45 l0 x7_2).f3) ((rd_T45 l0 x7_2).f4) ((rd_T45 l0 x7_2).f5) ((rd_T45 l0 x7_2).f6) ((rd_T45 l0 x7_2).f7) ((rd_T45 l0 x7_2).f8) ((rd_T45 l0 x7_2).f9) ((rd_T45 l0 x7_2).f10) ((rd_T45 l0 x7_2).f11) t119 t120).bind fun t121 => (if t121 = true then (some (((rd_T45 l0 x7_2).f0), 0)) else (shape_Hit.l0 kj18 l0 (wrap64 (x7_2 - 1)) a1_0 a1_1))) = some (r1, r2) := H
             have A29 := Aside0.mk A290
             clear A290
             replace H := Option.bind_eq_some_iff.mp H
             obtain ⟨t121, A300, H⟩ := H
             replace H : (if t121 = true then (some (((rd_T45 l0 x7_2).f0), 0)) else (shape_Hit.l0 kj18 l0 (wrap64 (x7_2 - 1)) a1_0 a1_1)) = some (r1, r2) := H
             have A30 := Aside0.mk A300
             clear A300
             by_cases c31 : t121 = true
             ·subst c31
              have H1 : (some (((rd_T45 l0 x7_2).f0), 0)) = some (r1, r2) := by rw [if_pos rfl] at H; exact H
              clear H
              have H := H1
              clear H1
              simp only [Option.some.injEq, Prod.mk.injEq] at H
              obtain ⟨rfl, rfl⟩ := H
              have hnb32 := NB118_115.out
              have hnc32 := NB115_118.out
              obtain ⟨hcz33_0, hcz33_1, hcz33_2, hcz33_3, hcz33_4, hcz33_5, hcz33_6, hcz33_7, hcz33_8, hcz33_9, hcz33_10, hcz33_11⟩ := cells12 BK118.out
              have hfz33_ := fun j => blk_frozen BK118.out j
              have hcz34_0 : wc.cell? ⟨gb115, 0, none⟩ = some (.int .i64 a1_0) := (blk_cell BK115.out 0).trans rfl
              have hcz34_1 : wc.cell? ⟨gb115, 1, none⟩ = some (.int .i64 a1_1) := (blk_cell BK115.out 1).trans rfl
              have hfz34_0 := blk_frozen BK115.out 0
              have hfz34_1 := blk_frozen BK115.out 1
              go_wp2_with (first | ((with_reducible refine gate_callee (f := 21) rfl ?_); refine goesL_ (some 60) rfl rfl Tryd.func21 (by kernel_rfl) rfl #[.slice (some ad117) l0.length c0, .agg #[.int .i64 ((rd_T45 l0 x7_2).f0), .int .i64 ((rd_T45 l0 x7_2).f1), .int .i64 ((rd_T45 l0 x7_2).f2), .int .i64 ((rd_T45 l0 x7_2).f3), .int .i64 ((rd_T45 l0 x7_2).f4), .int .i64 ((rd_T45 l0 x7_2).f5), .int .i64 ((rd_T45 l0 x7_2).f6), .int .i64 ((rd_T45 l0 x7_2).f7), .int .i64 ((rd_T45 l0 x7_2).f8), .int .i64 ((rd_T45 l0 x7_2).f9), .string ((rd_T45 l0 x7_2).f10), .string ((rd_T45 l0 x7_2).f11)], .int .i64 a1_0, .int .i64 a1_1] rfl (by (try simp only [List.map_toArray, List.map_cons, List.map_nil]); first | done | rfl) ?_; (with_reducible refine (shape_local.calls kj18 _ _ l0 ((rd_T45 l0 x7_2).f0) ((rd_T45 l0 x7_2).f1) ((rd_T45 l0 x7_2).f2) ((rd_T45 l0 x7_2).f3) ((rd_T45 l0 x7_2).f4) ((rd_T45 l0 x7_2).f5) ((rd_T45 l0 x7_2).f6) ((rd_T45 l0 x7_2).f7) ((rd_T45 l0 x7_2).f8) ((rd_T45 l0 x7_2).f9) ((rd_T45 l0 x7_2).f10) ((rd_T45 l0 x7_2).f11) a1_0 a1_1 t119 t120 _ ?side1 ?side2 A29.out ?sL).mono ?_); (case sL => first | ((repeat (first | (with_reducible exact HLd.out) | (with_reducible refine LaidW.drewN ?_ _) | (with_reducible refine LaidW.drew ?_) | (with_reducible refine LaidW.alloc ?_ _))); done) | exact LaidW.now HLd.out (by repeat (first | (with_reducible first | exact HB.out | apply below_alloc | apply pw_below_drewN | apply below_drew1 | refine below_set ?_ GE115.out | refine below_set ?_ GE118.out) | exact HB.out))); (case side1 => repeat (first | exact (Kd.C_below HR0.out HB.out) | (with_reducible refine Kd.C_alloc ?_ _) | (with_reducible refine Kd.C_drewN ?_ _) | (with_reducible refine Kd.C_drew ?_))); (case side2 => exact HC0.out); rintro e w35 ⟨rfl, hb⟩; refine ⟨_, rfl, ?_⟩; have n0_ := Aside0.mk (blk_below (g := gb115) (o := .cells #[.int .i64 a1_0, .int .i64 a1_1] 37 (0, 0)) (by (with_reducible repeat (first | refine blk_drewN ?_ _ | refine blk_drew ?_ | refine blk_alloc ?_ _)); exact BK115.out) hb); have n1_ := Aside0.mk (blk_below (g := gb118) (o := .cells #[.int .i64 ((rd_T45 l0 x7_2).f0), .int .i64 ((rd_T45 l0 x7_2).f1), .int .i64 ((rd_T45 l0 x7_2).f2), .int .i64 ((rd_T45 l0 x7_2).f3), .int .i64 ((rd_T45 l0 x7_2).f4), .int .i64 ((rd_T45 l0 x7_2).f5), .int .i64 ((rd_T45 l0 x7_2).f6), .int .i64 ((rd_T45 l0 x7_2).f7), .int .i64 ((rd_T45 l0 x7_2).f8), .int .i64 ((rd_T45 l0 x7_2).f9), .string ((rd_T45 l0 x7_2).f10), .string ((rd_T45 l0 x7_2).f11)] 45 (0, 0)) (by (with_reducible repeat (first | refine blk_drewN ?_ _ | refine blk_drew ?_ | refine blk_alloc ?_ _)); exact BK118.out) hb); have n2_ := Aside0.mk (below_step (by repeat (first | (with_reducible first | exact HB.out | apply below_alloc | apply pw_below_drewN | apply below_drew1 | refine below_set ?_ GE115.out | refine below_set ?_ GE118.out) | exact HB.out)) hb); clear BK115; clear BK118; clear HB; have BK115 := n0_; have BK118 := n1_; have HB := n2_; clear n0_ n1_ n2_; (try clear hb); (try clear hb2); (try clear hk); (try clear hi); obtain ⟨hcz36_0, hcz36_1, hcz36_2, hcz36_3, hcz36_4, hcz36_5, hcz36_6, hcz36_7, hcz36_8, hcz36_9, hcz36_10, hcz36_11⟩ := cells12 BK118.out; have hfz36_ := fun j => blk_frozen BK118.out j) | ((with_reducible refine gate_callee (f := 22) rfl ?_); refine goesL_ (some 66) rfl rfl Tryd.func22 (by kernel_rfl) rfl #[.agg #[.int .i64 ((rd_T45 l0 x7_2).f0), .int .i64 ((rd_T45 l0 x7_2).f1), .int .i64 ((rd_T45 l0 x7_2).f2), .int .i64 ((rd_T45 l0 x7_2).f3), .int .i64 ((rd_T45 l0 x7_2).f4), .int .i64 ((rd_T45 l0 x7_2).f5), .int .i64 ((rd_T45 l0 x7_2).f6), .int .i64 ((rd_T45 l0 x7_2).f7), .int .i64 ((rd_T45 l0 x7_2).f8), .int .i64 ((rd_T45 l0 x7_2).f9), .string ((rd_T45 l0 x7_2).f10), .string ((rd_T45 l0 x7_2).f11)], .int .i64 t119, .int .i64 t120] rfl (by (try simp only [List.map_toArray, List.map_cons, List.map_nil]); first | done | rfl) ?_; (with_reducible refine (shape_inside.calls kj18 ((rd_T45 l0 x7_2).f0) ((rd_T45 l0 x7_2).f1) ((rd_T45 l0 x7_2).f2) ((rd_T45 l0 x7_2).f3) ((rd_T45 l0 x7_2).f4) ((rd_T45 l0 x7_2).f5) ((rd_T45 l0 x7_2).f6) ((rd_T45 l0 x7_2).f7) ((rd_T45 l0 x7_2).f8) ((rd_T45 l0 x7_2).f9) ((rd_T45 l0 x7_2).f10) ((rd_T45 l0 x7_2).f11) t119 t120 true _ A30.out).mono ?_); rintro e w37 ⟨rfl, hb⟩; refine ⟨_, rfl, ?_⟩; have n0_ := Aside0.mk (blk_below (g := gb115) (o := .cells #[.int .i64 a1_0, .int .i64 a1_1] 37 (0, 0)) (by (with_reducible repeat (first | refine blk_drewN ?_ _ | refine blk_drew ?_ | refine blk_alloc ?_ _)); exact BK115.out) hb); have n1_ := Aside0.mk (blk_below (g := gb118) (o := .cells #[.int .i64 ((rd_T45 l0 x7_2).f0), .int .i64 ((rd_T45 l0 x7_2).f1), .int .i64 ((rd_T45 l0 x7_2).f2), .int .i64 ((rd_T45 l0 x7_2).f3), .int .i64 ((rd_T45 l0 x7_2).f4), .int .i64 ((rd_T45 l0 x7_2).f5), .int .i64 ((rd_T45 l0 x7_2).f6), .int .i64 ((rd_T45 l0 x7_2).f7), .int .i64 ((rd_T45 l0 x7_2).f8), .int .i64 ((rd_T45 l0 x7_2).f9), .string ((rd_T45 l0 x7_2).f10), .string ((rd_T45 l0 x7_2).f11)] 45 (0, 0)) (by (with_reducible repeat (first | refine blk_drewN ?_ _ | refine blk_drew ?_ | refine blk_alloc ?_ _)); exact BK118.out) hb); have n2_ := Aside0.mk (below_step (by repeat (first | (with_reducible first | exact HB.out | apply below_alloc | apply pw_below_drewN | apply below_drew1 | refine below_set ?_ GE115.out | refine below_set ?_ GE118.out) | exact HB.out)) hb); clear BK115; clear BK118; clear HB; have BK115 := n0_; have BK118 := n1_; have HB := n2_; clear n0_ n1_ n2_; (try clear hb); (try clear hb2); (try clear hk); (try clear hi); obtain ⟨hcz38_0, hcz38_1, hcz38_2, hcz38_3, hcz38_4, hcz38_5, hcz38_6, hcz38_7, hcz38_8, hcz38_9, hcz38_10, hcz38_11⟩ := cells12 BK118.out; have hfz38_ := fun j => blk_frozen BK118.out j))
              go_ret2
              exact ⟨by first | rfl | (simp [errW_none, errW_some] <;> rfl) | (simp [*, errW_none, errW_some] <;> rfl), by repeat (first | (with_reducible first | exact HB.out | apply below_alloc | apply pw_below_drewN | apply below_drew1 | refine below_set ?_ GE115.out | refine below_set ?_ GE118.out) | exact HB.out)⟩
             ·replace c31 := Bool.eq_false_iff.mpr c31
              subst c31
              have H1 : (shape_Hit.l0 kj18 l0 (wrap64 (x7_2 - 1)) a1_0 a1_1) = some (r1, r2) := by rw [if_neg (show ¬ (false = true) by decide)] at H; exact H
              clear H
              have H := H1
              clear H1
              have H' := Aside0.mk H
              clear H
              have hnb39 := NB118_115.out
              have hnc39 := NB115_118.out
              obtain ⟨hcz40_0, hcz40_1, hcz40_2, hcz40_3, hcz40_4, hcz40_5, hcz40_6, hcz40_7, hcz40_8, hcz40_9, hcz40_10, hcz40_11⟩ := cells12 BK118.out
              have hfz40_ := fun j => blk_frozen BK118.out j
              have hcz41_0 : wc.cell? ⟨gb115, 0, none⟩ = some (.int .i64 a1_0) := (blk_cell BK115.out 0).trans rfl
              have hcz41_1 : wc.cell? ⟨gb115, 1, none⟩ = some (.int .i64 a1_1) := (blk_cell BK115.out 1).trans rfl
              have hfz41_0 := blk_frozen BK115.out 0
              have hfz41_1 := blk_frozen BK115.out 1
              go_wp2_with (first | ((with_reducible refine gate_callee (f := 21) rfl ?_); refine goesL_ (some 60) rfl rfl Tryd.func21 (by kernel_rfl) rfl #[.slice (some ad117) l0.length c0, .agg #[.int .i64 ((rd_T45 l0 x7_2).f0), .int .i64 ((rd_T45 l0 x7_2).f1), .int .i64 ((rd_T45 l0 x7_2).f2), .int .i64 ((rd_T45 l0 x7_2).f3), .int .i64 ((rd_T45 l0 x7_2).f4), .int .i64 ((rd_T45 l0 x7_2).f5), .int .i64 ((rd_T45 l0 x7_2).f6), .int .i64 ((rd_T45 l0 x7_2).f7), .int .i64 ((rd_T45 l0 x7_2).f8), .int .i64 ((rd_T45 l0 x7_2).f9), .string ((rd_T45 l0 x7_2).f10), .string ((rd_T45 l0 x7_2).f11)], .int .i64 a1_0, .int .i64 a1_1] rfl (by (try simp only [List.map_toArray, List.map_cons, List.map_nil]); first | done | rfl) ?_; (with_reducible refine (shape_local.calls kj18 _ _ l0 ((rd_T45 l0 x7_2).f0) ((rd_T45 l0 x7_2).f1) ((rd_T45 l0 x7_2).f2) ((rd_T45 l0 x7_2).f3) ((rd_T45 l0 x7_2).f4) ((rd_T45 l0 x7_2).f5) ((rd_T45 l0 x7_2).f6) ((rd_T45 l0 x7_2).f7) ((rd_T45 l0 x7_2).f8) ((rd_T45 l0 x7_2).f9) ((rd_T45 l0 x7_2).f10) ((rd_T45 l0 x7_2).f11) a1_0 a1_1 t119 t120 _ ?side1 ?side2 A29.out ?sL).mono ?_); (case sL => first | ((repeat (first | (with_reducible exact HLd.out) | (with_reducible refine LaidW.drewN ?_ _) | (with_reducible refine LaidW.drew ?_) | (with_reducible refine LaidW.alloc ?_ _))); done) | exact LaidW.now HLd.out (by repeat (first | (with_reducible first | exact HB.out | apply below_alloc | apply pw_below_drewN | apply below_drew1 | refine below_set ?_ GE115.out | refine below_set ?_ GE118.out) | exact HB.out))); (case side1 => repeat (first | exact (Kd.C_below HR0.out HB.out) | (with_reducible refine Kd.C_alloc ?_ _) | (with_reducible refine Kd.C_drewN ?_ _) | (with_reducible refine Kd.C_drew ?_))); (case side2 => exact HC0.out); rintro e w42 ⟨rfl, hb⟩; refine ⟨_, rfl, ?_⟩; have n0_ := Aside0.mk (blk_below (g := gb115) (o := .cells #[.int .i64 a1_0, .int .i64 a1_1] 37 (0, 0)) (by (with_reducible repeat (first | refine blk_drewN ?_ _ | refine blk_drew ?_ | refine blk_alloc ?_ _)); exact BK115.out) hb); have n1_ := Aside0.mk (blk_below (g := gb118) (o := .cells #[.int .i64 ((rd_T45 l0 x7_2).f0), .int .i64 ((rd_T45 l0 x7_2).f1), .int .i64 ((rd_T45 l0 x7_2).f2), .int .i64 ((rd_T45 l0 x7_2).f3), .int .i64 ((rd_T45 l0 x7_2).f4), .int .i64 ((rd_T45 l0 x7_2).f5), .int .i64 ((rd_T45 l0 x7_2).f6), .int .i64 ((rd_T45 l0 x7_2).f7), .int .i64 ((rd_T45 l0 x7_2).f8), .int .i64 ((rd_T45 l0 x7_2).f9), .string ((rd_T45 l0 x7_2).f10), .string ((rd_T45 l0 x7_2).f11)] 45 (0, 0)) (by (with_reducible repeat (first | refine blk_drewN ?_ _ | refine blk_drew ?_ | refine blk_alloc ?_ _)); exact BK118.out) hb); have n2_ := Aside0.mk (below_step (by repeat (first | (with_reducible first | exact HB.out | apply below_alloc | apply pw_below_drewN | apply below_drew1 | refine below_set ?_ GE115.out | refine below_set ?_ GE118.out) | exact HB.out)) hb); clear BK115; clear BK118; clear HB; have BK115 := n0_; have BK118 := n1_; have HB := n2_; clear n0_ n1_ n2_; (try clear hb); (try clear hb2); (try clear hk); (try clear hi); obtain ⟨hcz43_0, hcz43_1, hcz43_2, hcz43_3, hcz43_4, hcz43_5, hcz43_6, hcz43_7, hcz43_8, hcz43_9, hcz43_10, hcz43_11⟩ := cells12 BK118.out; have hfz43_ := fun j => blk_frozen BK118.out j) | ((with_reducible refine gate_callee (f := 22) rfl ?_); refine goesL_ (some 66) rfl rfl Tryd.func22 (by kernel_rfl) rfl #[.agg #[.int .i64 ((rd_T45 l0 x7_2).f0), .int .i64 ((rd_T45 l0 x7_2).f1), .int .i64 ((rd_T45 l0 x7_2).f2), .int .i64 ((rd_T45 l0 x7_2).f3), .int .i64 ((rd_T45 l0 x7_2).f4), .int .i64 ((rd_T45 l0 x7_2).f5), .int .i64 ((rd_T45 l0 x7_2).f6), .int .i64 ((rd_T45 l0 x7_2).f7), .int .i64 ((rd_T45 l0 x7_2).f8), .int .i64 ((rd_T45 l0 x7_2).f9), .string ((rd_T45 l0 x7_2).f10), .string ((rd_T45 l0 x7_2).f11)], .int .i64 t119, .int .i64 t120] rfl (by (try simp only [List.map_toArray, List.map_cons, List.map_nil]); first | done | rfl) ?_; (with_reducible refine (shape_inside.calls kj18 ((rd_T45 l0 x7_2).f0) ((rd_T45 l0 x7_2).f1) ((rd_T45 l0 x7_2).f2) ((rd_T45 l0 x7_2).f3) ((rd_T45 l0 x7_2).f4) ((rd_T45 l0 x7_2).f5) ((rd_T45 l0 x7_2).f6) ((rd_T45 l0 x7_2).f7) ((rd_T45 l0 x7_2).f8) ((rd_T45 l0 x7_2).f9) ((rd_T45 l0 x7_2).f10) ((rd_T45 l0 x7_2).f11) t119 t120 false _ A30.out).mono ?_); rintro e w44 ⟨rfl, hb⟩; refine ⟨_, rfl, ?_⟩; have n0_ := Aside0.mk (blk_below (g := gb115) (o := .cells #[.int .i64 a1_0, .int .i64 a1_1] 37 (0, 0)) (by (with_reducible repeat (first | refine blk_drewN ?_ _ | refine blk_drew ?_ | refine blk_alloc ?_ _)); exact BK115.out) hb); have n1_ := Aside0.mk (blk_below (g := gb118) (o := .cells #[.int .i64 ((rd_T45 l0 x7_2).f0), .int .i64 ((rd_T45 l0 x7_2).f1), .int .i64 ((rd_T45 l0 x7_2).f2), .int .i64 ((rd_T45 l0 x7_2).f3), .int .i64 ((rd_T45 l0 x7_2).f4), .int .i64 ((rd_T45 l0 x7_2).f5), .int .i64 ((rd_T45 l0 x7_2).f6), .int .i64 ((rd_T45 l0 x7_2).f7), .int .i64 ((rd_T45 l0 x7_2).f8), .int .i64 ((rd_T45 l0 x7_2).f9), .string ((rd_T45 l0 x7_2).f10), .string ((rd_T45 l0 x7_2).f11)] 45 (0, 0)) (by (with_reducible repeat (first | refine blk_drewN ?_ _ | refine blk_drew ?_ | refine blk_alloc ?_ _)); exact BK118.out) hb); have n2_ := Aside0.mk (below_step (by repeat (first | (with_reducible first | exact HB.out | apply below_alloc | apply pw_below_drewN | apply below_drew1 | refine below_set ?_ GE115.out | refine below_set ?_ GE118.out) | exact HB.out)) hb); clear BK115; clear BK118; clear HB; have BK115 := n0_; have BK118 := n1_; have HB := n2_; clear n0_ n1_ n2_; (try clear hb); (try clear hb2); (try clear hk); (try clear hi)))
              go_roundg kj18
              case measure => have := HJ4.out; have := HK2.out; have := HJ18.out; omega
              case rel => exact ⟨(wrap64 (x7_2 - 1)), (by first | rfl | (simp; done) | (simp [*]; done)), H', ⟨by have := HJ4.out; have := HK2.out; have := HJ18.out; omega⟩, ⟨by (with_reducible repeat (first | refine blk_drewN ?_ _ | refine blk_drew ?_ | refine blk_alloc ?_ _)); exact BK115.out⟩, ⟨by repeat (first | (with_reducible first | exact HB.out | apply below_alloc | apply pw_below_drewN | apply below_drew1 | refine below_set ?_ GE115.out | refine below_set ?_ GE118.out) | exact HB.out)⟩⟩
         ·rw [if_neg c18] at H
          exact absurd H (by simp)
        ·rw [if_neg c17] at H
         exact absurd H (by simp)
       ·rw [if_neg c16] at H
        have c16b0 : decide (0 ≤ x7_2) = false := decide_eq_false c16
        clear c16
        simp only [Option.some.injEq, Prod.mk.injEq] at H
        obtain ⟨rfl, rfl⟩ := H
        go_wp2
        go_ret2
        exact ⟨by first | rfl | (simp [errW_none, errW_some] <;> rfl) | (simp [*, errW_none, errW_some] <;> rfl), by repeat (first | (with_reducible first | exact HB.out | apply below_alloc | apply pw_below_drewN | apply below_drew1 | refine below_set ?_ GE115.out) | exact HB.out)⟩
 ·rw [if_neg c4] at H
  have c4b0 : (t116 == 0) = false := beq_eq_false_iff_ne.mpr c4
  have c4b1 : (t116 != 0) = true := bne_iff_ne.mpr c4
  simp only [Option.some.injEq, Prod.mk.injEq] at H
  obtain ⟨rfl, rfl⟩ := H
  go_enter Tryd.func13, Tryd.ntmps13
  go_wp2_with (first | ((with_reducible refine gate_dst (N := 3) rfl ?_); refine box_event ?hg (N := 3) ?hd (cs := #[.int .i64 a1_0, .int .i64 a1_1]) (t := 37) ?hr ?_; (case hd => rfl); (case hg => rfl); (case hr => first | (go_simp; done) | (go_simp; rfl)); intro gb115 hg w45 hbox hb; have n0_ := Aside0.mk (below_step (by repeat (first | (with_reducible first | exact HB.out | apply below_alloc | apply pw_below_drewN | apply below_drew1) | exact HB.out)) hb); have n1_ := Aside0.mk (hbox); have n2_ := Aside0.mk ((by rw [hg]; exact (below_size (by repeat (first | (with_reducible first | exact HB.out | apply below_alloc | apply pw_below_drewN | apply below_drew1) | exact HB.out))) : w.heap.size ≤ gb115)); have n3_ := Aside0.mk ((by rw [hg]; exact (below_size (by repeat (first | (with_reducible first | exact HB.out | apply below_alloc | apply pw_below_drewN | apply below_drew1) | exact HB.out))) : w.heap.size ≤ gb115)); clear HB; have HB := n0_; have BK115 := n1_; have GW115 := n2_; have GE115 := n3_; clear n0_ n1_ n2_ n3_; clear hb hbox hg) | ((with_reducible refine gate_callee (f := 10) rfl ?_); refine goesL_ (some 12) rfl rfl Tryd.func10 (by kernel_rfl) rfl #[.slice A0 l0.length c0] rfl (by (try simp only [List.map_toArray, List.map_cons, List.map_nil]); first | done | rfl) ?_; (with_reducible refine (shape_Check.calls k _ _ l0 t116 _ ?side1 ?side2 A3.out).mono ?_); (case side1 => repeat (first | exact (Kd.C_below HR0.out HB.out) | (with_reducible refine Kd.C_alloc ?_ _) | (with_reducible refine Kd.C_drewN ?_ _) | (with_reducible refine Kd.C_drew ?_))); (case side2 => exact HC0.out); rintro e w46 ⟨rfl, hb⟩; refine ⟨_, rfl, ?_⟩; have n0_ := Aside0.mk (blk_below (g := gb115) (o := .cells #[.int .i64 a1_0, .int .i64 a1_1] 37 (0, 0)) (by (with_reducible repeat (first | refine blk_drewN ?_ _ | refine blk_drew ?_ | refine blk_alloc ?_ _)); exact BK115.out) hb); have n1_ := Aside0.mk (below_step (by repeat (first | (with_reducible first | exact HB.out | apply below_alloc | apply pw_below_drewN | apply below_drew1 | refine below_set ?_ GE115.out) | exact HB.out)) hb); clear BK115; clear HB; have BK115 := n0_; have HB := n1_; clear n0_ n1_; (try clear hb); (try clear hb2); (try clear hk); (try clear hi)))
  go_ret2
  exact ⟨by first | rfl | (simp [errW_none, errW_some] <;> rfl) | (simp [*, errW_none, errW_some] <;> rfl), by repeat (first | (with_reducible first | exact HB.out | apply below_alloc | apply pw_below_drewN | apply below_drew1 | refine below_set ?_ GE115.out) | exact HB.out)⟩
def chancerylaw3_ShapeHits.j0 : Nat → List (S45) → Int → Int → Int → Bool → Int → Int → Option (Bool)
 | 0, _, _, _, _, _, _, _ => none
 | k + 1, x0, x5, x6, x7, x33, x123000, x123001 => if x33 = true then (if 2 = 0 then (if x6 = 0 then ((chanceryref3_HitShape.f k x0 x123000 x123001).bind fun t132 => (some (x5 == t132))) else (some false)) else (if x6 = 2 then (some (x5 == 0)) else (some false))) else (if x7 = 0 then (if x6 = 0 then ((chanceryref3_HitShape.f k x0 x123000 x123001).bind fun t133 => (some (x5 == t133))) else (some false)) else (if x6 = x7 then (some (x5 == 0)) else (some false)))
def chancerylaw3_ShapeHits.f (k : Nat) (l0 : List (S45)) (a1_0 : Int) (a1_1 : Int) : Option (Bool) := (chancerylaw3_shaped.f k).bind fun t123 => (if t123 = true then ((chancerylaw3_cutShapes.f l0).bind fun t124 => ((shape_Hit.f k t124 a1_0 a1_1).bind fun bt127 => ((chanceryref3_ShapesError.f k t124).bind fun t129 => (if t129 = 0 then ((chanceryref3_In.f a1_0 (-1048576) 1048576).bind fun t130 => (if t130 = true then ((chanceryref3_In.f a1_1 (-1048576) 1048576).bind fun t131 => (chancerylaw3_ShapeHits.j0 k t124 bt127.1 bt127.2 t129 (!t131) a1_0 a1_1)) else (chancerylaw3_ShapeHits.j0 k t124 bt127.1 bt127.2 t129 true a1_0 a1_1))) else (chancerylaw3_ShapeHits.j0 k t124 bt127.1 bt127.2 t129 false a1_0 a1_1))))) else (some false))
theorem chancerylaw3_ShapeHits.mono_l : ∀ k, (∀ y0 y1 y2 y3 y4 y5 y6, LeO (chancerylaw3_ShapeHits.j0 k y0 y1 y2 y3 y4 y5 y6) (chancerylaw3_ShapeHits.j0 (k + 1) y0 y1 y2 y3 y4 y5 y6))
 | 0 => fun _ _ _ _ _ _ _ r h => by simp [chancerylaw3_ShapeHits.j0] at h
 | k + 1 => by
  have ih0 := chancerylaw3_ShapeHits.mono_l k
  ·intro y0 y1 y2 y3 y4 y5 y6
   unfold chancerylaw3_ShapeHits.j0
   repeat' first
   | (with_reducible exact ih0 _ _ _ _ _ _ _)
   | (with_reducible exact chancerylaw3_shaped.mono _)
   | (with_reducible exact chanceryref3_HitShape.mono _ _ _ _)
   | (with_reducible exact chanceryref3_ShapesError.mono _ _)
   | (with_reducible exact shape_Hit.mono _ _ _ _)
   | (with_reducible exact LeO.refl _)
   | (with_reducible exact LeO.none _)
   | (with_reducible refine LeO.ite ?_ ?_)
   | (with_reducible refine LeO.bind ?_ (fun _ => ?_))
   | exact ih0 _ _ _ _ _ _ _
   | exact chancerylaw3_shaped.mono _
   | exact chanceryref3_HitShape.mono _ _ _ _
   | exact chanceryref3_ShapesError.mono _ _
   | exact shape_Hit.mono _ _ _ _
   | exact LeO.none _
   | refine LeO.ite ?_ ?_
   | refine LeO.bind ?_ (fun _ => ?_)
theorem chancerylaw3_ShapeHits.mono : ∀ a0 a1 a2 k, LeO (chancerylaw3_ShapeHits.f k a0 a1 a2) (chancerylaw3_ShapeHits.f (k + 1) a0 a1 a2) := by
 intro a0 a1 a2 k
 have ih0 := chancerylaw3_ShapeHits.mono_l k
 unfold chancerylaw3_ShapeHits.f
 repeat' first
   | (with_reducible exact ih0 _ _ _ _ _ _ _)
   | (with_reducible exact chancerylaw3_shaped.mono _)
   | (with_reducible exact chanceryref3_HitShape.mono _ _ _ _)
   | (with_reducible exact chanceryref3_ShapesError.mono _ _)
   | (with_reducible exact shape_Hit.mono _ _ _ _)
   | (with_reducible exact LeO.refl _)
   | (with_reducible exact LeO.none _)
   | (with_reducible refine LeO.ite ?_ ?_)
   | (with_reducible refine LeO.bind ?_ (fun _ => ?_))
   | exact ih0 _ _ _ _ _ _ _
   | exact chancerylaw3_shaped.mono _
   | exact chanceryref3_HitShape.mono _ _ _ _
   | exact chanceryref3_ShapesError.mono _ _
   | exact shape_Hit.mono _ _ _ _
   | exact LeO.none _
   | refine LeO.ite ?_ ?_
   | refine LeO.bind ?_ (fun _ => ?_)
set_option maxHeartbeats 8000000 in
set_option maxRecDepth 100000 in
theorem chancerylaw3_ShapeHits.calls (k : Nat) (A0 : Option Addr) (c0 : Nat) (l0 : List (S45)) (a1_0 : Int) (a1_1 : Int) (r : Bool) (w : World) (hr0 : Kd.C k45 w A0 l0.length l0) (hc0 : l0.length ≤ c0) (h : chancerylaw3_ShapeHits.f k l0 a1_0 a1_1 = some r) (hL : LaidW w) :
  Calls Tryd.prog 4 #[.slice A0 l0.length c0, .agg #[.int .i64 a1_0, .int .i64 a1_1]] w fun e w' => e = .returned (.bool r) ∧ Below w.heap.size w w' := by
 have HLd := Aside0.mk hL
 clear hL
 have hu37 := Tryd.underlying37
 have HR0 := Aside0.mk hr0
 have HC0 := Aside0.mk hc0
 clear hr0 hc0
 have HB := Aside0.mk (Below.refl w.heap.size w)
 have H : ((chancerylaw3_shaped.f k).bind fun t123 => (if t123 = true then ((chancerylaw3_cutShapes.f l0).bind fun t124 => ((shape_Hit.f k t124 a1_0 a1_1).bind fun bt127 => ((chanceryref3_ShapesError.f k t124).bind fun t129 => (if t129 = 0 then ((chanceryref3_In.f a1_0 (-1048576) 1048576).bind fun t130 => (if t130 = true then ((chanceryref3_In.f a1_1 (-1048576) 1048576).bind fun t131 => (chancerylaw3_ShapeHits.j0 k t124 bt127.1 bt127.2 t129 (!t131) a1_0 a1_1)) else (chancerylaw3_ShapeHits.j0 k t124 bt127.1 bt127.2 t129 true a1_0 a1_1))) else (chancerylaw3_ShapeHits.j0 k t124 bt127.1 bt127.2 t129 false a1_0 a1_1))))) else (some false))) = some r := h
 clear h
 replace H := Option.bind_eq_some_iff.mp H
 obtain ⟨t123, A30, H⟩ := H
 replace H : (if t123 = true then ((chancerylaw3_cutShapes.f l0).bind fun t124 => ((shape_Hit.f k t124 a1_0 a1_1).bind fun bt127 => ((chanceryref3_ShapesError.f k t124).bind fun t129 => (if t129 = 0 then ((chanceryref3_In.f a1_0 (-1048576) 1048576).bind fun t130 => (if t130 = true then ((chanceryref3_In.f a1_1 (-1048576) 1048576).bind fun t131 => (chancerylaw3_ShapeHits.j0 k t124 bt127.1 bt127.2 t129 (!t131) a1_0 a1_1)) else (chancerylaw3_ShapeHits.j0 k t124 bt127.1 bt127.2 t129 true a1_0 a1_1))) else (chancerylaw3_ShapeHits.j0 k t124 bt127.1 bt127.2 t129 false a1_0 a1_1))))) else (some false)) = some r := H
 have A3 := Aside0.mk A30
 clear A30
 by_cases c4 : t123 = true
 ·subst c4
  have H1 : ((chancerylaw3_cutShapes.f l0).bind fun t124 => ((shape_Hit.f k t124 a1_0 a1_1).bind fun bt127 => ((chanceryref3_ShapesError.f k t124).bind fun t129 => (if t129 = 0 then ((chanceryref3_In.f a1_0 (-1048576) 1048576).bind fun t130 => (if t130 = true then ((chanceryref3_In.f a1_1 (-1048576) 1048576).bind fun t131 => (chancerylaw3_ShapeHits.j0 k t124 bt127.1 bt127.2 t129 (!t131) a1_0 a1_1)) else (chancerylaw3_ShapeHits.j0 k t124 bt127.1 bt127.2 t129 true a1_0 a1_1))) else (chancerylaw3_ShapeHits.j0 k t124 bt127.1 bt127.2 t129 false a1_0 a1_1))))) = some r := by rw [if_pos rfl] at H; exact H
  clear H
  have H := H1
  clear H1
  replace H := Option.bind_eq_some_iff.mp H
  obtain ⟨t124, A50, H⟩ := H
  replace H : ((shape_Hit.f k t124 a1_0 a1_1).bind fun bt127 => ((chanceryref3_ShapesError.f k t124).bind fun t129 => (if t129 = 0 then ((chanceryref3_In.f a1_0 (-1048576) 1048576).bind fun t130 => (if t130 = true then ((chanceryref3_In.f a1_1 (-1048576) 1048576).bind fun t131 => (chancerylaw3_ShapeHits.j0 k t124 bt127.1 bt127.2 t129 (!t131) a1_0 a1_1)) else (chancerylaw3_ShapeHits.j0 k t124 bt127.1 bt127.2 t129 true a1_0 a1_1))) else (chancerylaw3_ShapeHits.j0 k t124 bt127.1 bt127.2 t129 false a1_0 a1_1)))) = some r := H
  have A5 := Aside0.mk A50
  clear A50
  replace H := Option.bind_eq_some_iff.mp H
  obtain ⟨⟨t127, t128⟩, A60, H⟩ := H
  replace H : ((chanceryref3_ShapesError.f k t124).bind fun t129 => (if t129 = 0 then ((chanceryref3_In.f a1_0 (-1048576) 1048576).bind fun t130 => (if t130 = true then ((chanceryref3_In.f a1_1 (-1048576) 1048576).bind fun t131 => (chancerylaw3_ShapeHits.j0 k t124 t127 t128 t129 (!t131) a1_0 a1_1)) else (chancerylaw3_ShapeHits.j0 k t124 t127 t128 t129 true a1_0 a1_1))) else (chancerylaw3_ShapeHits.j0 k t124 t127 t128 t129 false a1_0 a1_1))) = some r := H
  have A6 := Aside0.mk A60
  clear A60
  replace H := Option.bind_eq_some_iff.mp H
  obtain ⟨t129, A70, H⟩ := H
  replace H : (if t129 = 0 then ((chanceryref3_In.f a1_0 (-1048576) 1048576).bind fun t130 => (if t130 = true then ((chanceryref3_In.f a1_1 (-1048576) 1048576).bind fun t131 => (chancerylaw3_ShapeHits.j0 k t124 t127 t128 t129 (!t131) a1_0 a1_1)) else (chancerylaw3_ShapeHits.j0 k t124 t127 t128 t129 true a1_0 a1_1))) else (chancerylaw3_ShapeHits.j0 k t124 t127 t128 t129 false a1_0 a1_1)) = some r := H
  have A7 := Aside0.mk A70
  clear A70
  have HC8 := Aside0.mk H
  clear H
  go_enter Tryd.func4, Tryd.ntmps4
  go_upto_region 6 with (first | ((with_reducible refine gate_dst (N := 3) rfl ?_); refine box_event ?hg (N := 3) ?hd (cs := #[.int .i64 a1_0, .int .i64 a1_1]) (t := 37) ?hr ?_; (case hd => rfl); (case hg => rfl); (case hr => first | (go_simp; done) | (go_simp; rfl)); intro gb122 hg w9 hbox hb; have n0_ := Aside0.mk (below_step (by repeat (first | (with_reducible first | exact HB.out | apply below_alloc | apply pw_below_drewN | apply below_drew1) | exact HB.out)) hb); have n1_ := Aside0.mk (hbox); have n2_ := Aside0.mk ((by rw [hg]; exact (below_size (by repeat (first | (with_reducible first | exact HB.out | apply below_alloc | apply pw_below_drewN | apply below_drew1) | exact HB.out))) : w.heap.size ≤ gb122)); have n3_ := Aside0.mk ((by rw [hg]; exact (below_size (by repeat (first | (with_reducible first | exact HB.out | apply below_alloc | apply pw_below_drewN | apply below_drew1) | exact HB.out))) : w.heap.size ≤ gb122)); clear HB; have HB := n0_; have BK122 := n1_; have GW122 := n2_; have GE122 := n3_; clear n0_ n1_ n2_ n3_; clear hb hbox hg) | ((with_reducible refine gate_callee (f := 5) rfl ?_); refine goesL_ (some 8) rfl rfl Tryd.func5 (by kernel_rfl) rfl #[] rfl (by (try simp only [List.map_toArray, List.map_cons, List.map_nil]); first | done | rfl) ?_; (with_reducible refine (chancerylaw3_shaped.calls k  true _ A3.out ?sL).mono ?_); (case sL => first | ((repeat (first | (with_reducible exact HLd.out) | (with_reducible refine LaidW.drewN ?_ _) | (with_reducible refine LaidW.drew ?_) | (with_reducible refine LaidW.alloc ?_ _))); done) | exact LaidW.now HLd.out (by repeat (first | (with_reducible first | exact HB.out | apply below_alloc | apply pw_below_drewN | apply below_drew1 | refine below_set ?_ GE122.out) | exact HB.out))); rintro e w10 ⟨rfl, hb⟩; refine ⟨_, rfl, ?_⟩; have n0_ := Aside0.mk (blk_below (g := gb122) (o := .cells #[.int .i64 a1_0, .int .i64 a1_1] 37 (0, 0)) (by (with_reducible repeat (first | refine blk_drewN ?_ _ | refine blk_drew ?_ | refine blk_alloc ?_ _)); exact BK122.out) hb); have n1_ := Aside0.mk (below_step (by repeat (first | (with_reducible first | exact HB.out | apply below_alloc | apply pw_below_drewN | apply below_drew1 | refine below_set ?_ GE122.out) | exact HB.out)) hb); clear BK122; clear HB; have BK122 := n0_; have HB := n1_; clear n0_ n1_; (try clear hb); (try clear hb2); (try clear hk); (try clear hi)) | ((with_reducible refine gate_callee (f := 6) rfl ?_); refine goesL_ (some 11) rfl rfl Tryd.func6 (by kernel_rfl) rfl #[.slice A0 l0.length c0] rfl (by (try simp only [List.map_toArray, List.map_cons, List.map_nil]); first | done | rfl) ?_; (with_reducible refine (chancerylaw3_cutShapes.calls (fun k_ => k_ < w.heap.size) _ _ l0 t124 _ ?side1 A5.out).mono ?_); (case side1 => exact Kd.V_mk HC0.out (Kd.F_below (Kd.C_F k45_heap HR0.out) (by repeat (first | (with_reducible first | exact HB.out | apply below_alloc | apply pw_below_drewN | apply below_drew1 | refine below_set ?_ GE122.out) | exact HB.out)))); rintro e w11 ⟨v125, rfl, ho0, hb⟩; refine ⟨_, rfl, ?_⟩; have n0_ := Aside0.mk (Kd.V_lower (Kd.V_mono (ok' := fun k_ => k_ ≠ gb122) ho0 (fun k_ hk_ => Or.elim hk_ (fun hs_ => fun e_ => Nat.not_le.2 hs_ (by rw [e_]; exact GW122.out)) (fun hn_ => (Kd.freshB (g := gb122) (o := .cells #[.int .i64 a1_0, .int .i64 a1_1] 37 (0, 0)) (by (with_reducible repeat (first | refine blk_drewN ?_ _ | refine blk_drew ?_ | refine blk_alloc ?_ _)); exact BK122.out) k_ hn_)))) (below_size (by repeat (first | (with_reducible first | exact HB.out | apply below_alloc | apply pw_below_drewN | apply below_drew1 | refine below_set ?_ GE122.out) | exact HB.out)))); have n1_ := Aside0.mk (blk_below (g := gb122) (o := .cells #[.int .i64 a1_0, .int .i64 a1_1] 37 (0, 0)) (by (with_reducible repeat (first | refine blk_drewN ?_ _ | refine blk_drew ?_ | refine blk_alloc ?_ _)); exact BK122.out) hb); have n2_ := Aside0.mk (below_step (by repeat (first | (with_reducible first | exact HB.out | apply below_alloc | apply pw_below_drewN | apply below_drew1 | refine below_set ?_ GE122.out) | exact HB.out)) hb); clear BK122; clear HB; have HO126 := n0_; have BK122 := n1_; have HB := n2_; clear n0_ n1_ n2_; (try clear hb); (try clear hb2); (try clear hk); (try clear hi); (try clear ho0); have hcz12_0 : w11.cell? ⟨gb122, 0, none⟩ = some (.int .i64 a1_0) := (blk_cell BK122.out 0).trans rfl; have hcz12_1 : w11.cell? ⟨gb122, 1, none⟩ = some (.int .i64 a1_1) := (blk_cell BK122.out 1).trans rfl; have hfz12_0 := blk_frozen BK122.out 0; have hfz12_1 := blk_frozen BK122.out 1; obtain ⟨Ao13, co13, eo13⟩ := Kd.V_slice HO126.out; subst eo13) | ((with_reducible refine gate_callee (f := 13) rfl ?_); refine goesL_ (some 15) rfl rfl Tryd.func13 (by kernel_rfl) rfl #[.slice Ao13 t124.length co13, .agg #[.int .i64 a1_0, .int .i64 a1_1]] rfl (by (try simp only [List.map_toArray, List.map_cons, List.map_nil]); first | done | rfl) ?_; (with_reducible refine (shape_Hit.calls k _ _ t124 a1_0 a1_1 t127 t128 _ ?side1 ?side2 A6.out ?sL).mono ?_); (case sL => first | ((repeat (first | (with_reducible exact HLd.out) | (with_reducible refine LaidW.drewN ?_ _) | (with_reducible refine LaidW.drew ?_) | (with_reducible refine LaidW.alloc ?_ _))); done) | exact LaidW.now HLd.out (by repeat (first | (with_reducible first | exact HB.out | apply below_alloc | apply pw_below_drewN | apply below_drew1 | refine below_set ?_ GE122.out) | exact HB.out))); (case side1 => repeat (first | exact (Kd.V_reads' HO126.out).2.2 | (with_reducible refine Kd.C_alloc ?_ _) | (with_reducible refine Kd.C_drewN ?_ _) | (with_reducible refine Kd.C_drew ?_))); (case side2 => exact (Kd.V_reads' HO126.out).2.1); rintro e w14 ⟨rfl, hb⟩; refine ⟨_, rfl, ?_⟩; have n0_ := Aside0.mk (Kd.V_below (by (with_reducible repeat (first | apply Kd.V_alloc | apply Kd.V_drewN | apply Kd.V_drew)); exact HO126.out) hb); have n1_ := Aside0.mk (blk_below (g := gb122) (o := .cells #[.int .i64 a1_0, .int .i64 a1_1] 37 (0, 0)) (by (with_reducible repeat (first | refine blk_drewN ?_ _ | refine blk_drew ?_ | refine blk_alloc ?_ _)); exact BK122.out) hb); have n2_ := Aside0.mk (below_step (by repeat (first | (with_reducible first | exact HB.out | apply below_alloc | apply pw_below_drewN | apply below_drew1 | refine below_set ?_ GE122.out) | exact HB.out)) hb); clear HO126; clear BK122; clear HB; have HO126 := n0_; have BK122 := n1_; have HB := n2_; clear n0_ n1_ n2_; (try clear hb); (try clear hb2); (try clear hk); (try clear hi)) | ((with_reducible refine gate_callee (f := 9) rfl ?_); refine goesL_ (some 19) rfl rfl Tryd.func9 (by kernel_rfl) rfl #[.slice Ao13 t124.length co13] rfl (by (try simp only [List.map_toArray, List.map_cons, List.map_nil]); first | done | rfl) ?_; (with_reducible refine (chanceryref3_ShapesError.calls k _ _ t124 t129 _ ?side1 ?side2 A7.out).mono ?_); (case side1 => repeat (first | exact (Kd.V_reads' HO126.out).2.2 | (with_reducible refine Kd.C_alloc ?_ _) | (with_reducible refine Kd.C_drewN ?_ _) | (with_reducible refine Kd.C_drew ?_))); (case side2 => exact (Kd.V_reads' HO126.out).2.1); rintro e w15 ⟨rfl, hb⟩; refine ⟨_, rfl, ?_⟩; have n0_ := Aside0.mk (Kd.V_below (by (with_reducible repeat (first | apply Kd.V_alloc | apply Kd.V_drewN | apply Kd.V_drew)); exact HO126.out) hb); have n1_ := Aside0.mk (blk_below (g := gb122) (o := .cells #[.int .i64 a1_0, .int .i64 a1_1] 37 (0, 0)) (by (with_reducible repeat (first | refine blk_drewN ?_ _ | refine blk_drew ?_ | refine blk_alloc ?_ _)); exact BK122.out) hb); have n2_ := Aside0.mk (below_step (by repeat (first | (with_reducible first | exact HB.out | apply below_alloc | apply pw_below_drewN | apply below_drew1 | refine below_set ?_ GE122.out) | exact HB.out)) hb); clear HO126; clear BK122; clear HB; have HO126 := n0_; have BK122 := n1_; have HB := n2_; clear n0_ n1_ n2_; (try clear hb); (try clear hb2); (try clear hk); (try clear hi)))
  (try simp only [Act.put, List.setIfInBounds_toArray, List.set_cons_zero, List.set_cons_succ])
  go_cut [33] (fun v33 wc => ∃ (kq : Nat) (x33_7 : Bool), v33 = .bool x33_7 ∧ Aside0 (chancerylaw3_ShapeHits.j0 kq t124 t127 t128 t129 x33_7 a1_0 a1_1 = some r) ∧ Aside0 (kq ≤ k) ∧ Aside0 (Kd.V k45 45 wc w.heap.size (fun k_ => k_ ≠ gb122) (.slice Ao13 t124.length co13) t124) ∧ Aside0 (wc.heap[gb122]? = some (.cells #[.int .i64 a1_0, .int .i64 a1_1] 37 (0, 0))) ∧ Aside0 (Below w.heap.size w wc))
  case first =>
   have H := HC8.out
   clear HC8
   by_cases c16 : t129 = 0
   ·rw [if_pos c16] at H
    have c16b0 : (t129 == 0) = true := beq_iff_eq.mpr c16
    have c16b1 : (t129 != 0) = false := bne_eq_false_iff_eq.mpr c16
    clear c16
    (first | rw [c16b0] | (simp only [i64_w, i32_w]; rw [c16b0]) | skip)
    replace H := Option.bind_eq_some_iff.mp H
    obtain ⟨t130, A170, H⟩ := H
    replace H : (if t130 = true then ((chanceryref3_In.f a1_1 (-1048576) 1048576).bind fun t131 => (chancerylaw3_ShapeHits.j0 k t124 t127 t128 t129 (!t131) a1_0 a1_1)) else (chancerylaw3_ShapeHits.j0 k t124 t127 t128 t129 true a1_0 a1_1)) = some r := H
    have A17 := Aside0.mk A170
    clear A170
    by_cases c18 : t130 = true
    ·subst c18
     have H1 : ((chanceryref3_In.f a1_1 (-1048576) 1048576).bind fun t131 => (chancerylaw3_ShapeHits.j0 k t124 t127 t128 t129 (!t131) a1_0 a1_1)) = some r := by rw [if_pos rfl] at H; exact H
     clear H
     have H := H1
     clear H1
     replace H := Option.bind_eq_some_iff.mp H
     obtain ⟨t131, A190, H⟩ := H
     replace H : (chancerylaw3_ShapeHits.j0 k t124 t127 t128 t129 (!t131) a1_0 a1_1) = some r := H
     have A19 := Aside0.mk A190
     clear A190
     have H' := Aside0.mk H
     clear H
     have hcz20_0 : w15.cell? ⟨gb122, 0, none⟩ = some (.int .i64 a1_0) := (blk_cell BK122.out 0).trans rfl
     have hcz20_1 : w15.cell? ⟨gb122, 1, none⟩ = some (.int .i64 a1_1) := (blk_cell BK122.out 1).trans rfl
     have hfz20_0 := blk_frozen BK122.out 0
     have hfz20_1 := blk_frozen BK122.out 1
     go_wp2_with (first | (go_at_call 14; (with_reducible refine (chanceryref3_In.calls a1_0 (-1048576) 1048576 true _ A17.out).mono ?_); rintro e w' ⟨rfl, ⟨nd, rfl⟩⟩) | (go_at_call 14; (with_reducible refine (chanceryref3_In.calls a1_1 (-1048576) 1048576 t131 _ A19.out).mono ?_); rintro e w' ⟨rfl, ⟨nd, rfl⟩⟩))
     go_meet
     case rel => exact ⟨_, (!t131), (by first | rfl | (simp; done) | (simp [*]; done)), H', ⟨by first | omega | exact Nat.le_refl _⟩, ⟨by (with_reducible repeat (first | apply Kd.V_alloc | apply Kd.V_drewN | apply Kd.V_drew)); exact HO126.out⟩, ⟨by (with_reducible repeat (first | refine blk_drewN ?_ _ | refine blk_drew ?_ | refine blk_alloc ?_ _)); exact BK122.out⟩, ⟨by repeat (first | (with_reducible first | exact HB.out | apply below_alloc | apply pw_below_drewN | apply below_drew1 | refine below_set ?_ GE122.out) | exact HB.out)⟩⟩
    ·replace c18 := Bool.eq_false_iff.mpr c18
     subst c18
     have H1 : (chancerylaw3_ShapeHits.j0 k t124 t127 t128 t129 true a1_0 a1_1) = some r := by rw [if_neg (show ¬ (false = true) by decide)] at H; exact H
     clear H
     have H := H1
     clear H1
     have H' := Aside0.mk H
     clear H
     have hcz21_0 : w15.cell? ⟨gb122, 0, none⟩ = some (.int .i64 a1_0) := (blk_cell BK122.out 0).trans rfl
     have hcz21_1 : w15.cell? ⟨gb122, 1, none⟩ = some (.int .i64 a1_1) := (blk_cell BK122.out 1).trans rfl
     have hfz21_0 := blk_frozen BK122.out 0
     have hfz21_1 := blk_frozen BK122.out 1
     go_wp2_with (first | (go_at_call 14; (with_reducible refine (chanceryref3_In.calls a1_0 (-1048576) 1048576 false _ A17.out).mono ?_); rintro e w' ⟨rfl, ⟨nd, rfl⟩⟩))
     go_meet
     case rel => exact ⟨_, (true), (by first | rfl | (simp; done) | (simp [*]; done)), H', ⟨by first | omega | exact Nat.le_refl _⟩, ⟨by (with_reducible repeat (first | apply Kd.V_alloc | apply Kd.V_drewN | apply Kd.V_drew)); exact HO126.out⟩, ⟨by (with_reducible repeat (first | refine blk_drewN ?_ _ | refine blk_drew ?_ | refine blk_alloc ?_ _)); exact BK122.out⟩, ⟨by repeat (first | (with_reducible first | exact HB.out | apply below_alloc | apply pw_below_drewN | apply below_drew1 | refine below_set ?_ GE122.out) | exact HB.out)⟩⟩
   ·rw [if_neg c16] at H
    have c16b0 : (t129 == 0) = false := beq_eq_false_iff_ne.mpr c16
    have c16b1 : (t129 != 0) = true := bne_iff_ne.mpr c16
    (first | rw [c16b0] | (simp only [i64_w, i32_w]; rw [c16b0]) | skip)
    have H' := Aside0.mk H
    clear H
    go_wp2
    go_meet
    case rel => exact ⟨_, (false), (by first | rfl | (simp; done) | (simp [*]; done)), H', ⟨by first | omega | exact Nat.le_refl _⟩, ⟨by (with_reducible repeat (first | apply Kd.V_alloc | apply Kd.V_drewN | apply Kd.V_drew)); exact HO126.out⟩, ⟨by (with_reducible repeat (first | refine blk_drewN ?_ _ | refine blk_drew ?_ | refine blk_alloc ?_ _)); exact BK122.out⟩, ⟨by repeat (first | (with_reducible first | exact HB.out | apply below_alloc | apply pw_below_drewN | apply below_drew1 | refine below_set ?_ GE122.out) | exact HB.out)⟩⟩
  case rest =>
   clear HC8; try clear c1; try clear p2; try clear c4; try clear c5; try clear c6; try clear c9; try clear c13; try clear c16; try clear c16b0; try clear c16b1; try clear c18; try clear hcz12_0; try clear hcz12_1; try clear hcz20_0; try clear hcz20_1; try clear hcz21_0; try clear hcz21_1; try clear hfz12_0; try clear hfz12_1; try clear hfz20_0; try clear hfz20_1; try clear hfz21_0; try clear hfz21_1
   obtain ⟨kq, x33_7, rfl, HA, HJ7, HO_0, BK122, HB⟩ := hcut
   cases kq with
   | zero => exact absurd HA.out (by simp [chancerylaw3_ShapeHits.j0])
   | succ kj7 =>
    have H := HA.out
    clear HA
    simp only [chancerylaw3_ShapeHits.j0] at H
    by_cases c22 : x33_7 = true
    ·subst c22
     have H1 : (if 2 = 0 then (if t128 = 0 then ((chanceryref3_HitShape.f kj7 t124 a1_0 a1_1).bind fun t132 => (some (t127 == t132))) else (some false)) else (if t128 = 2 then (some (t127 == 0)) else (some false))) = some r := by rw [if_pos rfl] at H; exact H
     clear H
     have H := H1
     clear H1
     by_cases c23 : 2 = 0
     ·rw [if_pos c23] at H
      have c23b0 : (2 == 0) = true := beq_iff_eq.mpr c23
      have c23b1 : (2 != 0) = false := bne_eq_false_iff_eq.mpr c23
      clear c23
      by_cases c24 : t128 = 0
      ·rw [if_pos c24] at H
       have c24b0 : (t128 == 0) = true := beq_iff_eq.mpr c24
       have c24b1 : (t128 != 0) = false := bne_eq_false_iff_eq.mpr c24
       clear c24
       replace H := Option.bind_eq_some_iff.mp H
       obtain ⟨t132, A250, H⟩ := H
       replace H : (some (t127 == t132)) = some r := H
       have A25 := Aside0.mk A250
       clear A250
       obtain rfl := Option.some.inj H
       have hcz26_0 : wc.cell? ⟨gb122, 0, none⟩ = some (.int .i64 a1_0) := (blk_cell BK122.out 0).trans rfl
       have hcz26_1 : wc.cell? ⟨gb122, 1, none⟩ = some (.int .i64 a1_1) := (blk_cell BK122.out 1).trans rfl
       have hfz26_0 := blk_frozen BK122.out 0
       have hfz26_1 := blk_frozen BK122.out 1
       go_wp2_with (first | (go_at_call 15; (with_reducible refine (chanceryref3_HitShape.calls kj7 _ _ t124 a1_0 a1_1 t132 _ ?side1 ?side2 A25.out ?sL).mono ?_); (case sL => first | ((repeat (first | (with_reducible exact HLd.out) | (with_reducible refine LaidW.drewN ?_ _) | (with_reducible refine LaidW.drew ?_) | (with_reducible refine LaidW.alloc ?_ _))); done) | exact LaidW.now HLd.out (by repeat (first | (with_reducible first | exact HB.out | apply below_alloc | apply pw_below_drewN | apply below_drew1 | refine below_set ?_ GE122.out) | exact HB.out))); (case side1 => repeat (first | exact (Kd.V_reads' HO_0.out).2.2 | (with_reducible refine Kd.C_alloc ?_ _) | (with_reducible refine Kd.C_drewN ?_ _) | (with_reducible refine Kd.C_drew ?_))); (case side2 => exact (Kd.V_reads' HO_0.out).2.1); rintro e w27 ⟨rfl, hb⟩; have n0_ := Aside0.mk (Kd.V_below (by (with_reducible repeat (first | apply Kd.V_alloc | apply Kd.V_drewN | apply Kd.V_drew)); exact HO_0.out) hb); have n1_ := Aside0.mk (blk_below (g := gb122) (o := .cells #[.int .i64 a1_0, .int .i64 a1_1] 37 (0, 0)) (by (with_reducible repeat (first | refine blk_drewN ?_ _ | refine blk_drew ?_ | refine blk_alloc ?_ _)); exact BK122.out) hb); have n2_ := Aside0.mk (below_step (by repeat (first | (with_reducible first | exact HB.out | apply below_alloc | apply pw_below_drewN | apply below_drew1 | refine below_set ?_ GE122.out) | exact HB.out)) hb); clear HO_0; clear BK122; clear HB; have HO_0 := n0_; have BK122 := n1_; have HB := n2_; clear n0_ n1_ n2_; (try clear hb); (try clear hb2); (try clear hk); (try clear hi)))
       all_goals go_ret
       all_goals exact ⟨by first | rfl | (simp [errW_none, errW_some] <;> rfl) | (simp [*, errW_none, errW_some] <;> rfl), by repeat (first | (with_reducible first | exact HB.out | apply below_alloc | apply pw_below_drewN | apply below_drew1 | refine below_set ?_ GE122.out) | exact HB.out)⟩
      ·rw [if_neg c24] at H
       have c24b0 : (t128 == 0) = false := beq_eq_false_iff_ne.mpr c24
       have c24b1 : (t128 != 0) = true := bne_iff_ne.mpr c24
       obtain rfl := Option.some.inj H
       go_wp2
       all_goals go_ret
       all_goals exact ⟨by first | rfl | (simp [errW_none, errW_some] <;> rfl) | (simp [*, errW_none, errW_some] <;> rfl), by repeat (first | (with_reducible first | exact HB.out | apply below_alloc | apply pw_below_drewN | apply below_drew1 | refine below_set ?_ GE122.out) | exact HB.out)⟩
     ·rw [if_neg c23] at H
      have c23b0 : (2 == 0) = false := beq_eq_false_iff_ne.mpr c23
      have c23b1 : (2 != 0) = true := bne_iff_ne.mpr c23
      by_cases c28 : t128 = 2
      ·rw [if_pos c28] at H
       have c28b0 : (t128 == 2) = true := beq_iff_eq.mpr c28
       have c28b1 : (t128 != 2) = false := bne_eq_false_iff_eq.mpr c28
       clear c28
       obtain rfl := Option.some.inj H
       go_wp2
       all_goals go_ret
       all_goals exact ⟨by first | rfl | (simp [errW_none, errW_some] <;> rfl) | (simp [*, errW_none, errW_some] <;> rfl), by repeat (first | (with_reducible first | exact HB.out | apply below_alloc | apply pw_below_drewN | apply below_drew1 | refine below_set ?_ GE122.out) | exact HB.out)⟩
      ·rw [if_neg c28] at H
       have c28b0 : (t128 == 2) = false := beq_eq_false_iff_ne.mpr c28
       have c28b1 : (t128 != 2) = true := bne_iff_ne.mpr c28
       obtain rfl := Option.some.inj H
       go_wp2
       all_goals go_ret
       all_goals exact ⟨by first | rfl | (simp [errW_none, errW_some] <;> rfl) | (simp [*, errW_none, errW_some] <;> rfl), by repeat (first | (with_reducible first | exact HB.out | apply below_alloc | apply pw_below_drewN | apply below_drew1 | refine below_set ?_ GE122.out) | exact HB.out)⟩
    ·replace c22 := Bool.eq_false_iff.mpr c22
     subst c22
     have H1 : (if t129 = 0 then (if t128 = 0 then ((chanceryref3_HitShape.f kj7 t124 a1_0 a1_1).bind fun t133 => (some (t127 == t133))) else (some false)) else (if t128 = t129 then (some (t127 == 0)) else (some false))) = some r := by rw [if_neg (show ¬ (false = true) by decide)] at H; exact H
     clear H
     have H := H1
     clear H1
     by_cases c29 : t129 = 0
     ·rw [if_pos c29] at H
      have c29b0 : (t129 == 0) = true := beq_iff_eq.mpr c29
      have c29b1 : (t129 != 0) = false := bne_eq_false_iff_eq.mpr c29
      clear c29
      by_cases c30 : t128 = 0
      ·rw [if_pos c30] at H
       have c30b0 : (t128 == 0) = true := beq_iff_eq.mpr c30
       have c30b1 : (t128 != 0) = false := bne_eq_false_iff_eq.mpr c30
       clear c30
       replace H := Option.bind_eq_some_iff.mp H
       obtain ⟨t133, A310, H⟩ := H
       replace H : (some (t127 == t133)) = some r := H
       have A31 := Aside0.mk A310
       clear A310
       obtain rfl := Option.some.inj H
       have hcz32_0 : wc.cell? ⟨gb122, 0, none⟩ = some (.int .i64 a1_0) := (blk_cell BK122.out 0).trans rfl
       have hcz32_1 : wc.cell? ⟨gb122, 1, none⟩ = some (.int .i64 a1_1) := (blk_cell BK122.out 1).trans rfl
       have hfz32_0 := blk_frozen BK122.out 0
       have hfz32_1 := blk_frozen BK122.out 1
       go_wp2_with (first | (go_at_call 15; (with_reducible refine (chanceryref3_HitShape.calls kj7 _ _ t124 a1_0 a1_1 t133 _ ?side1 ?side2 A31.out ?sL).mono ?_); (case sL => first | ((repeat (first | (with_reducible exact HLd.out) | (with_reducible refine LaidW.drewN ?_ _) | (with_reducible refine LaidW.drew ?_) | (with_reducible refine LaidW.alloc ?_ _))); done) | exact LaidW.now HLd.out (by repeat (first | (with_reducible first | exact HB.out | apply below_alloc | apply pw_below_drewN | apply below_drew1 | refine below_set ?_ GE122.out) | exact HB.out))); (case side1 => repeat (first | exact (Kd.V_reads' HO_0.out).2.2 | (with_reducible refine Kd.C_alloc ?_ _) | (with_reducible refine Kd.C_drewN ?_ _) | (with_reducible refine Kd.C_drew ?_))); (case side2 => exact (Kd.V_reads' HO_0.out).2.1); rintro e w33 ⟨rfl, hb⟩; have n0_ := Aside0.mk (Kd.V_below (by (with_reducible repeat (first | apply Kd.V_alloc | apply Kd.V_drewN | apply Kd.V_drew)); exact HO_0.out) hb); have n1_ := Aside0.mk (blk_below (g := gb122) (o := .cells #[.int .i64 a1_0, .int .i64 a1_1] 37 (0, 0)) (by (with_reducible repeat (first | refine blk_drewN ?_ _ | refine blk_drew ?_ | refine blk_alloc ?_ _)); exact BK122.out) hb); have n2_ := Aside0.mk (below_step (by repeat (first | (with_reducible first | exact HB.out | apply below_alloc | apply pw_below_drewN | apply below_drew1 | refine below_set ?_ GE122.out) | exact HB.out)) hb); clear HO_0; clear BK122; clear HB; have HO_0 := n0_; have BK122 := n1_; have HB := n2_; clear n0_ n1_ n2_; (try clear hb); (try clear hb2); (try clear hk); (try clear hi)))
       all_goals go_ret
       all_goals exact ⟨by first | rfl | (simp [errW_none, errW_some] <;> rfl) | (simp [*, errW_none, errW_some] <;> rfl), by repeat (first | (with_reducible first | exact HB.out | apply below_alloc | apply pw_below_drewN | apply below_drew1 | refine below_set ?_ GE122.out) | exact HB.out)⟩
      ·rw [if_neg c30] at H
       have c30b0 : (t128 == 0) = false := beq_eq_false_iff_ne.mpr c30
       have c30b1 : (t128 != 0) = true := bne_iff_ne.mpr c30
       obtain rfl := Option.some.inj H
       go_wp2
       all_goals go_ret
       all_goals exact ⟨by first | rfl | (simp [errW_none, errW_some] <;> rfl) | (simp [*, errW_none, errW_some] <;> rfl), by repeat (first | (with_reducible first | exact HB.out | apply below_alloc | apply pw_below_drewN | apply below_drew1 | refine below_set ?_ GE122.out) | exact HB.out)⟩
     ·rw [if_neg c29] at H
      have c29b0 : (t129 == 0) = false := beq_eq_false_iff_ne.mpr c29
      have c29b1 : (t129 != 0) = true := bne_iff_ne.mpr c29
      by_cases c34 : t128 = t129
      ·rw [if_pos c34] at H
       have c34b0 : (t128 == t129) = true := beq_iff_eq.mpr c34
       have c34b1 : (t128 != t129) = false := bne_eq_false_iff_eq.mpr c34
       clear c34
       obtain rfl := Option.some.inj H
       go_wp2
       all_goals go_ret
       all_goals exact ⟨by first | rfl | (simp [errW_none, errW_some] <;> rfl) | (simp [*, errW_none, errW_some] <;> rfl), by repeat (first | (with_reducible first | exact HB.out | apply below_alloc | apply pw_below_drewN | apply below_drew1 | refine below_set ?_ GE122.out) | exact HB.out)⟩
      ·rw [if_neg c34] at H
       have c34b0 : (t128 == t129) = false := beq_eq_false_iff_ne.mpr c34
       have c34b1 : (t128 != t129) = true := bne_iff_ne.mpr c34
       obtain rfl := Option.some.inj H
       go_wp2
       all_goals go_ret
       all_goals exact ⟨by first | rfl | (simp [errW_none, errW_some] <;> rfl) | (simp [*, errW_none, errW_some] <;> rfl), by repeat (first | (with_reducible first | exact HB.out | apply below_alloc | apply pw_below_drewN | apply below_drew1 | refine below_set ?_ GE122.out) | exact HB.out)⟩
 ·replace c4 := Bool.eq_false_iff.mpr c4
  subst c4
  have H1 : (some false) = some r := by rw [if_neg (show ¬ (false = true) by decide)] at H; exact H
  clear H
  have H := H1
  clear H1
  obtain rfl := Option.some.inj H
  go_enter Tryd.func4, Tryd.ntmps4
  go_wp2_with (first | ((with_reducible refine gate_dst (N := 3) rfl ?_); refine box_event ?hg (N := 3) ?hd (cs := #[.int .i64 a1_0, .int .i64 a1_1]) (t := 37) ?hr ?_; (case hd => rfl); (case hg => rfl); (case hr => first | (go_simp; done) | (go_simp; rfl)); intro gb122 hg w35 hbox hb; have n0_ := Aside0.mk (below_step (by repeat (first | (with_reducible first | exact HB.out | apply below_alloc | apply pw_below_drewN | apply below_drew1) | exact HB.out)) hb); have n1_ := Aside0.mk (hbox); have n2_ := Aside0.mk ((by rw [hg]; exact (below_size (by repeat (first | (with_reducible first | exact HB.out | apply below_alloc | apply pw_below_drewN | apply below_drew1) | exact HB.out))) : w.heap.size ≤ gb122)); have n3_ := Aside0.mk ((by rw [hg]; exact (below_size (by repeat (first | (with_reducible first | exact HB.out | apply below_alloc | apply pw_below_drewN | apply below_drew1) | exact HB.out))) : w.heap.size ≤ gb122)); clear HB; have HB := n0_; have BK122 := n1_; have GW122 := n2_; have GE122 := n3_; clear n0_ n1_ n2_ n3_; clear hb hbox hg) | ((with_reducible refine gate_callee (f := 5) rfl ?_); refine goesL_ (some 8) rfl rfl Tryd.func5 (by kernel_rfl) rfl #[] rfl (by (try simp only [List.map_toArray, List.map_cons, List.map_nil]); first | done | rfl) ?_; (with_reducible refine (chancerylaw3_shaped.calls k  false _ A3.out ?sL).mono ?_); (case sL => first | ((repeat (first | (with_reducible exact HLd.out) | (with_reducible refine LaidW.drewN ?_ _) | (with_reducible refine LaidW.drew ?_) | (with_reducible refine LaidW.alloc ?_ _))); done) | exact LaidW.now HLd.out (by repeat (first | (with_reducible first | exact HB.out | apply below_alloc | apply pw_below_drewN | apply below_drew1 | refine below_set ?_ GE122.out) | exact HB.out))); rintro e w36 ⟨rfl, hb⟩; refine ⟨_, rfl, ?_⟩; have n0_ := Aside0.mk (blk_below (g := gb122) (o := .cells #[.int .i64 a1_0, .int .i64 a1_1] 37 (0, 0)) (by (with_reducible repeat (first | refine blk_drewN ?_ _ | refine blk_drew ?_ | refine blk_alloc ?_ _)); exact BK122.out) hb); have n1_ := Aside0.mk (below_step (by repeat (first | (with_reducible first | exact HB.out | apply below_alloc | apply pw_below_drewN | apply below_drew1 | refine below_set ?_ GE122.out) | exact HB.out)) hb); clear BK122; clear HB; have BK122 := n0_; have HB := n1_; clear n0_ n1_; (try clear hb); (try clear hb2); (try clear hk); (try clear hi)))
  all_goals go_ret
  all_goals exact ⟨by first | rfl | (simp [errW_none, errW_some] <;> rfl) | (simp [*, errW_none, errW_some] <;> rfl), by repeat (first | (with_reducible first | exact HB.out | apply below_alloc | apply pw_below_drewN | apply below_drew1 | refine below_set ?_ GE122.out) | exact HB.out)⟩
end Go.Proofs.YtmheeekbbhkmkaaDoor.QSI
