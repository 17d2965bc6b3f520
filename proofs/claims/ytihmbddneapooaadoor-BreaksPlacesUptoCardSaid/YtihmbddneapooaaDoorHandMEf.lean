/- Walked by hand: metric.pair at the one pair of characters that the law asks for, chanceryref3.has (range over a string). -/
import Derived.Test.YtihmbddneapooaaDoorPMetricEmsx3
import Derived.Test.YtihmbddneapooaaDoorLib
import Derived.Outline
import Derived.Laws.RangeAny
import Derived.FnLit
namespace Go.Proofs.YtihmbddneapooaaDoor.HandMEf
open Go.RowKit Go.Proofs.YtihmbddneapooaaDoorW.PrintWords Go.Proofs.YtihmbddneapooaaDoorW.PrintLast Go.Proofs.YtihmbddneapooaaDoorW.PrintMore
set_option linter.unusedVariables false
def hasF (s : ByteArray) : Nat → Nat → Int → Bool
  | 0, _, _ => false
  | b + 1, i, c => if i < s.size then (if ((Utf8.decode s i).1 : Int) = c then true else hasF s b (i + (Utf8.decode s i).2) c) else false
theorem width_pos (s : ByteArray) (pos : Nat) (h : pos < s.size) : 1 ≤ (Utf8.decode s pos).2 := by
  by_cases ha : (s[pos]'h).toNat < 128
  · rw [decode_ascii s pos h ha]
    exact Nat.le_refl _
  · exact (decode_high s pos h (by omega)).2
theorem hasF_end (s : ByteArray) (b pos : Nat) (c : Int) (h : ¬ pos < s.size) : hasF s b pos c = false := by
  cases b with
  | zero => rfl
  | succ b => simp [hasF, h]
def chanceryref3_has.f (s : ByteArray) (c : Int) : Option Bool := some (hasF s s.size 0 c)
theorem chanceryref3_has.calls (s : ByteArray) (c : Int) (r : Bool) (w : World) (h : chanceryref3_has.f s c = some r) :
    Calls Tryd.prog 30 #[.string s, .int .i64 c] w fun e w' => e = .returned (.bool r) ∧ Below w.heap.size w w' := by
  obtain rfl : hasF s s.size 0 c = r := Option.some.inj h
  clear h
  have HB := Aside0.mk (Below.refl w.heap.size w)
  go_enter Tryd.func30, Tryd.ntmps30
  go_wp2
  go_loopw [] (fun w' => ∃ (pos b : Nat), w' = w.iter s pos ∧ Aside0 (hasF s b pos c = hasF s s.size 0 c) ∧ s.size ≤ pos + b) (fun w' => s.size - w'.iterPos w.heap.size)
  case atStart => exact ⟨0, s.size, rfl, ⟨rfl⟩, by omega⟩
  case round =>
    obtain ⟨pos, b, rfl, HC, hb⟩ := hrel
    by_cases hp : pos < s.size
    · have hnx : ∀ ty, (Instr.next (.pointer (some ⟨w.heap.size, 0, none⟩)) true ty).run Tryd.prog (w.iter s pos) = _ := fun ty => run_next_any w s pos ty hp
      have hw := width_pos s pos hp
      have hle := decode_le s pos
      cases b with
      | zero => exact absurd hb (by omega)
      | succ b =>
      by_cases hx : ((Utf8.decode s pos).1 : Int) = c
      · have hbe : (((Utf8.decode s pos).1 : Int) == c) = true := beq_iff_eq.2 hx
        have HX := Aside0.mk hx
        clear hx
        go_wp2
        go_ret
        exact ⟨by rw [← HC.out]; simp only [hasF, if_pos hp, if_pos HX.out]; rfl, below_alloc HB.out _⟩
      · have hbe : (((Utf8.decode s pos).1 : Int) == c) = false := beq_eq_false_iff_ne.2 hx
        have HX := Aside0.mk hx
        clear hx
        go_wp2
        go_roundw
        case rel => exact ⟨pos + (Utf8.decode s pos).2, b, rfl, ⟨by rw [← HC.out]; simp only [hasF, if_pos hp, if_neg HX.out]⟩, by omega⟩
        case measure => simp; omega
    · have hnx : ∀ ty, (Instr.next (.pointer (some ⟨w.heap.size, 0, none⟩)) true ty).run Tryd.prog (w.iter s pos) = _ := fun ty => run_next_end w s pos ty hp
      go_wp2
      go_ret
      exact ⟨by rw [← HC.out, hasF_end s b pos c hp]; rfl, below_alloc HB.out _⟩
def metric_pair.f (a b : Int) : Option Int := if a = 65 ∧ b = 86 then some 70 else none
theorem metric_pair.calls (a b : Int) (r : Int) (w : World) (h : metric_pair.f a b = some r) :
    Calls Tryd.prog 41 #[.int .i64 a, .int .i64 b] w fun e w' => e = .returned (.int .i64 r) ∧ Below w.heap.size w w' := by
  have hab : a = 65 ∧ b = 86 := by
    by_cases h0 : a = 65 ∧ b = 86
    · exact h0
    · rw [metric_pair.f, if_neg h0] at h
      cases h
  obtain ⟨rfl, rfl⟩ := hab
  obtain rfl : (70 : Int) = r := Option.some.inj h
  clear h
  have HB := Aside0.mk (Below.refl w.heap.size w)
  go_enter Tryd.func41, Tryd.ntmps41
  go_wp2
  go_ret
  exact ⟨rfl, HB.out⟩
end Go.Proofs.YtihmbddneapooaaDoor.HandMEf
