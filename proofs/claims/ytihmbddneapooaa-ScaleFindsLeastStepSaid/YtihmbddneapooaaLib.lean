/- Small lemmas over numbers and lists that the proofs of this seat's pure statements use: wrap-around that does nothing in range, quotients rounded down, rounds. No condition, no program. -/
import Derived.Test.YtihmbddneapooaaWWords
import Derived.Test.YtihmbddneapooaaWMore
namespace Go.Proofs.Ytihmbddneapooaa.Lib
open Go.RowKit Go.Proofs.YtihmbddneapooaaW.PrintWords Go.Proofs.YtihmbddneapooaaW.PrintMore

theorem w64 {n : Int} (h1 : -9223372036854775808 ≤ n) (h2 : n ≤ 9223372036854775807) : wrap64 n = n := by
  unfold wrap64; omega
theorem wf_i64 {n : Int} (h : (Lit.int .i64 n).wf = true) : -9223372036854775808 ≤ n ∧ n ≤ 9223372036854775807 := by
  simp only [Lit.wf, IntKind.min, IntKind.max, IntKind.signed, IntKind.bits, Bool.and_eq_true, decide_eq_true_eq, if_true] at h
  omega

theorem Ev.pos {α : Type} {c : Prop} [Decidable c] {g f : Nat → Option α} {r : α} (h : c) (k : Ev g r) : Ev (fun n => if c then g n else f n) r :=
  Ev.congr (fun _ => if_pos h) k
theorem Ev.neg {α : Type} {c : Prop} [Decidable c] {g f : Nat → Option α} {r : α} (h : ¬ c) (k : Ev f r) : Ev (fun n => if c then g n else f n) r :=
  Ev.congr (fun _ => if_neg h) k
theorem Ev.bind0 {α β : Type} {g : Option α} {f : Nat → α → Option β} {a : α} {r : β} (h : g = some a) (k : Ev (fun n => f n a) r) : Ev (fun n => g.bind (f n)) r := by
  subst h; exact k
theorem Ev.out {α : Type} {g : Nat → Option α} {r s : α} (h : Ev g r) (e : r = s) : Ev g s := e ▸ h
theorem Ev.ret {α : Type} {r s : α} (e : r = s) : Ev (fun _ => some r) s := e ▸ Ev.now r
theorem Ev.ret' {α : Type} {g : Option α} {r : α} (e : g = some r) : Ev (fun _ => g) r := e ▸ Ev.now r

/-- Truncated division is rounded down but for a negative dividend with a remainder. -/
theorem tdiv_down (a b : Int) (hb : 0 < b) : Int.tdiv a b = if a < 0 ∧ a % b ≠ 0 then a / b + 1 else a / b := by
  rw [Int.tdiv_eq_ediv]
  by_cases h : 0 ≤ a ∨ b ∣ a
  · rw [if_pos h, if_neg (by rcases h with h | h; omega; rw [Int.emod_eq_zero_of_dvd h]; simp)]; omega
  · rw [if_neg h, if_pos ⟨by omega, fun e => h (.inr (Int.dvd_of_emod_eq_zero e))⟩, Int.sign_eq_one_of_pos hb]
theorem tmod_down (a b : Int) (hb : 0 < b) : Int.tmod a b = if a < 0 ∧ a % b ≠ 0 then a % b - b else a % b := by
  rw [Int.tmod_eq_emod]
  by_cases h : 0 ≤ a ∨ b ∣ a
  · rw [if_pos h, if_neg (by rcases h with h | h; omega; rw [Int.emod_eq_zero_of_dvd h]; simp)]; omega
  · rw [if_neg h, if_pos ⟨by omega, fun e => h (.inr (Int.dvd_of_emod_eq_zero e))⟩]; omega
theorem tdiv_nn {a b : Int} (ha : 0 ≤ a) : Int.tdiv a b = a / b := Int.tdiv_eq_ediv_of_nonneg ha
theorem tmod_nn {a b : Int} (ha : 0 ≤ a) : Int.tmod a b = a % b := Int.tmod_eq_emod_of_nonneg ha

end Go.Proofs.Ytihmbddneapooaa.Lib
