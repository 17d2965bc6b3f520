/- Walked by hand: strings.Cut at a separator of one byte. -/
import Derived.Test.YtemginkjkmmimaaExpandS
import Derived.Test.YtemginkjkmmimaaExpandA
import Derived.Test.YtemginkjkmmimaaPPatternExpandsx0
import Derived.Test.YtemginkjkmmimaaLib
namespace Go.Proofs.Ytemginkjkmmimaa.HandEX
open Go.Proofs.Ytemginkjkmmimaa.Lib (w64)
open Go.RowKit Go.Proofs.YtemginkjkmmimaaW.PrintWords Go.Proofs.YtemginkjkmmimaaW.PrintLast Go.Proofs.YtemginkjkmmimaaW.PrintMore Go.Proofs.Ytemginkjkmmimaa.PPatternExpands Go.Proofs.Ytemginkjkmmimaa.Expand
set_option linter.unusedVariables false
def ix (r : ByteArray) : Int := Lib.indexByte r.data.toList 36
def cutV (r : ByteArray) : Value := if ix r < 0 then .tuple #[.string r, .string ⟨#[]⟩, .bool false] else .tuple #[.string (r.extract 0 (ix r).toNat), .string (r.extract ((ix r).toNat + 1) r.size), .bool true]
set_option maxHeartbeats 4000000 in
set_option maxRecDepth 100000 in
theorem cut30 (r : ByteArray) (w : World) (hs : r.size ≤ 9223372036854775000) : Calls Try.prog 30 #[.string r, .string ⟨#[36]⟩] w fun e w' => e = .returned (cutV r) ∧ Drawn0 w w' := by
  have hix : Lib.indexByte r.data.toList 36 = ix r := rfl
  have hge : -1 ≤ ix r := Lib.indexByte_ge _ _
  by_cases hi : ix r < 0
  · have hib : decide (0 ≤ ix r) = false := decide_eq_false (by omega)
    have hic : decide (ix r ≥ 0) = false := decide_eq_false (by omega)
    have e9 : cutV r = .tuple #[.string r, .string ⟨#[]⟩, .bool false] := if_pos hi
    rw [e9]
    clear e9
    go_enter Try.func30, Try.ntmps30
    go_wp2_with (go_at_call 31; refine (Shelf.index_one r 36 _).mono ?_; rintro e w' ⟨rfl, rfl⟩; rw [hix])
    refine bodyPost_ret (v := .tuple #[.string r, .string ⟨#[]⟩, .bool false]) (by simp [results, Try.results30, go_sem]) rfl ?_
    exact ⟨rfl, by repeat (first | exact Drawn0.refl _ | apply Drawn0.step)⟩
  · have hib : decide (0 ≤ ix r) = true := decide_eq_true (by omega)
    have hic : decide (ix r ≥ 0) = true := decide_eq_true (by omega)
    obtain ⟨h1, _, _⟩ := index_some' (s := r) hi
    rw [hix] at h1
    have e9 : cutV r = .tuple #[.string (r.extract 0 (ix r).toNat), .string (r.extract ((ix r).toNat + 1) r.size), .bool true] := if_neg hi
    rw [e9]
    clear e9
    have hw1 : wrap64 (ix r + 1) = ix r + 1 := w64 (by omega) (by omega)
    go_enter Try.func30, Try.ntmps30
    go_wp2_with (go_at_call 31; refine (Shelf.index_one r 36 _).mono ?_; rintro e w' ⟨rfl, rfl⟩; rw [hix])
    go_quiet (fail)
    go_wp2
    rw [show (ix r + 1).toNat = (ix r).toNat + 1 by omega]
    refine bodyPost_ret (v := .tuple #[.string (r.extract 0 (ix r).toNat), .string (r.extract ((ix r).toNat + 1) r.size), .bool true]) (by simp [results, Try.results30, go_sem]) rfl ?_
    exact ⟨rfl, ⟨_, rfl⟩⟩
theorem cutV_no {r : ByteArray} (h : ix r < 0) : cutV r = .tuple #[.string r, .string ⟨#[]⟩, .bool false] := if_pos h
theorem cutV_yes {r : ByteArray} (h : ¬ ix r < 0) : cutV r = .tuple #[.string (r.extract 0 (ix r).toNat), .string (r.extract ((ix r).toNat + 1) r.size), .bool true] := if_neg h
set_option maxHeartbeats 4000000 in
set_option maxRecDepth 100000 in
theorem cut_ok (r : ByteArray) (w : World) (hs : r.size ≤ 9223372036854775000) : Calls Try.prog 25 #[.string r, .string ⟨#[36]⟩] w fun e w' => e = .returned (cutV r) ∧ Drawn0 w w' := by
  have h30 := fun w => cut30 r w hs
  by_cases hi : ix r < 0
  · rw [cutV_no hi] at h30 ⊢
    go_enter Try.func25, Try.ntmps25
    go_wp2_with (go_at_call 30; refine (h30 _).mono ?_; rintro e w' ⟨rfl, ⟨nd, rfl⟩⟩)
    refine bodyPost_ret (v := .tuple #[.string r, .string ⟨#[]⟩, .bool false]) (by simp [results, Try.results25, go_sem]) rfl ?_
    exact ⟨rfl, ⟨_, rfl⟩⟩
  · rw [cutV_yes hi] at h30 ⊢
    go_enter Try.func25, Try.ntmps25
    go_wp2_with (go_at_call 30; refine (h30 _).mono ?_; rintro e w' ⟨rfl, ⟨nd, rfl⟩⟩)
    refine bodyPost_ret (v := .tuple #[.string (r.extract 0 (ix r).toNat), .string (r.extract ((ix r).toNat + 1) r.size), .bool true]) (by simp [results, Try.results25, go_sem]) rfl ?_
    exact ⟨rfl, ⟨_, rfl⟩⟩
end Go.Proofs.Ytemginkjkmmimaa.HandEX
