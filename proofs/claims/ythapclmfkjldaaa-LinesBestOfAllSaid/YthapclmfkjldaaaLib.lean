import Derived.Test.YthapclmfkjldaaaWWords
import Derived.Test.YthapclmfkjldaaaWMore
import Derived.Test.YthapclmfkjldaaaWSized
namespace Go.Proofs.Ythapclmfkjldaaa.Lib
open Go.RowKit Go.Proofs.YthapclmfkjldaaaW.PrintWords Go.Proofs.YthapclmfkjldaaaW.PrintMore
theorem w64 {n : Int} (h1 : -9223372036854775808 ≤ n) (h2 : n ≤ 9223372036854775807) : wrap64 n = n := by
  unfold wrap64; omega
theorem Ev.pos {α : Type} {c : Prop} [Decidable c] {g f : Nat → Option α} {r : α} (h : c) (k : Ev g r) : Ev (fun n => if c then g n else f n) r :=
  Ev.congr (fun _ => if_pos h) k
theorem Ev.neg {α : Type} {c : Prop} [Decidable c] {g f : Nat → Option α} {r : α} (h : ¬ c) (k : Ev f r) : Ev (fun n => if c then g n else f n) r :=
  Ev.congr (fun _ => if_neg h) k
theorem Ev.bind0 {α β : Type} {g : Option α} {f : Nat → α → Option β} {a : α} {r : β} (h : g = some a) (k : Ev (fun n => f n a) r) : Ev (fun n => g.bind (f n)) r := by
  subst h; exact k
theorem Ev.out {α : Type} {g : Nat → Option α} {r s : α} (h : Ev g r) (e : r = s) : Ev g s := e ▸ h
theorem Ev.ret {α : Type} {r s : α} (e : r = s) : Ev (fun _ => some r) s := e ▸ Ev.now r
theorem tdiv_nn {a b : Int} (ha : 0 ≤ a) : Int.tdiv a b = a / b := Int.tdiv_eq_ediv_of_nonneg ha
theorem climb {α : Type} {g : Int → Nat → Option α} {r : α} {a n : Int} (h : a ≤ n) (base : Ev (g n) r) (step : ∀ i, a ≤ i → i < n → Ev (g (i + 1)) r → Ev (g i) r) : Ev (g a) r := by
  have key : ∀ (d : Nat) (b : Int), a ≤ b → b + d = n → Ev (g b) r := by
    intro d
    induction d with
    | zero => intro b _ hb; rw [show b = n by omega]; exact base
    | succ d ih => intro b h1 h2; exact step b h1 (by omega) (ih (b + 1) (by omega) (by omega))
  exact key (n - a).toNat a (by omega) (by omega)
theorem first_bad (p : Int → Prop) (n : Int) : (∀ i, 0 ≤ i → i < n → p i) ∨ ∃ b, 0 ≤ b ∧ b < n ∧ ¬ p b ∧ ∀ i, 0 ≤ i → i < b → p i := by
  have key : ∀ (d : Nat), (d : Int) ≤ n → (∀ i : Int, 0 ≤ i → i < d → p i) ∨ ∃ b, 0 ≤ b ∧ b < n ∧ ¬ p b ∧ ∀ i, 0 ≤ i → i < b → p i := by
    intro d
    induction d with
    | zero => intro _; exact .inl fun i _ _ => by omega
    | succ d ih =>
      intro hd
      rcases ih (by omega) with h | h
      · by_cases hp : p d
        · exact .inl fun i h0 h1 => by
            by_cases e : i = d
            · rw [e]; exact hp
            · exact h i h0 (by omega)
        · exact .inr ⟨d, by omega, by omega, hp, h⟩
      · exact .inr h
  by_cases hn : 0 ≤ n
  · rcases key n.toNat (by omega) with h | h
    · exact .inl fun i h0 h1 => h i h0 (by omega)
    · exact .inr h
  · exact .inl fun i _ _ => by omega
theorem getD_mem {α : Type} {xs : List α} {i : Int} {z : α} (h0 : 0 ≤ i) (h : i < xs.length) : xs.getD i.toNat z ∈ xs := by
  rw [List.getD_eq_getElem?_getD, List.getElem?_eq_getElem (by omega)]; exact List.getElem_mem _
def upto (xs : List Int) (i : Int) : Int := (xs.take i.toNat).sum
theorem rd_nth (xs : List Int) (i : Int) (h : i.toNat < xs.length) : rd xs i = xs[i.toNat] := by
  unfold rd; rw [List.getD_eq_getElem?_getD, List.getElem?_eq_getElem h]; rfl
theorem rd_set {xs : List Int} {i j v : Int} (hi0 : 0 ≤ i) (hi : i < xs.length) (hj0 : 0 ≤ j) : rd (xs.set i.toNat v) j = if j = i then v else rd xs j := by
  unfold rd
  rw [List.getD_eq_getElem?_getD, List.getD_eq_getElem?_getD]
  by_cases h : j = i
  · subst h; rw [if_pos rfl, List.getElem?_set_self (by omega)]; rfl
  · rw [if_neg h, List.getElem?_set_ne (by omega)]
theorem rd_mem {xs : List Int} {i : Int} (h : i < xs.length) (h0 : 0 ≤ i) : rd xs i ∈ xs := by
  rw [rd_nth xs i (by omega)]; exact List.getElem_mem _
def tab {α : Type} (f : Int → α) (n : Nat) : List α := (List.range n).map fun i : Nat => f i
theorem tab_length {α : Type} (f : Int → α) (n : Nat) : (tab f n).length = n := by simp [tab]
theorem tab_get {α : Type} {f : Int → α} {n : Nat} {i : Int} (z : α) (h0 : 0 ≤ i) (h : i < n) : (tab f n).getD i.toNat z = f i := by
  unfold tab
  rw [List.getD_eq_getElem?_getD, List.getElem?_map, List.getElem?_range (by omega)]
  simp only [Option.map_some, Option.getD_some]
  rw [show ((i.toNat : Nat) : Int) = i by omega]
theorem rd_tab {f : Int → Int} {n : Nat} {i : Int} (h0 : 0 ≤ i) (h : i < n) : rd (tab f n) i = f i := tab_get 0 h0 h
theorem tab_congr {α : Type} {f g : Int → α} {n : Nat} (h : ∀ i : Int, 0 ≤ i → i < n → f i = g i) : tab f n = tab g n :=
  List.map_congr_left fun i hi => h i (by omega) (by have := List.mem_range.1 hi; omega)
theorem tab_set {α : Type} {f : Int → α} {n : Nat} {i : Int} {v : α} (h0 : 0 ≤ i) : (tab f n).set i.toNat v = tab (fun j => if j = i then v else f j) n := by
  refine List.ext_getElem (by simp [tab]) fun k h1 h2 => ?_
  rw [List.getElem_set]
  simp only [tab, List.getElem_map, List.getElem_range]
  by_cases e : i.toNat = k
  · rw [if_pos e, if_pos (by omega)]
  · rw [if_neg e, if_neg (by omega)]
theorem tab_const {α : Type} (v : α) (n : Nat) : List.replicate n v = tab (fun _ => v) n := by
  refine List.ext_getElem (by simp [tab]) fun k h1 h2 => by simp [tab]
end Go.Proofs.Ythapclmfkjldaaa.Lib
namespace Go.Proofs.Ythapclmfkjldaaa.PrintWords
open Go.ChangeShapes Go.WideShapes
theorem sized_ints {H : Type} {enc : TypeId × Value → H} {P : Program} {W : World} {base : Nat} {spare : Nat → Bool} {held : Bool} {t e : TypeId} {k : IntKind} {a : Option Addr} {len cap : Nat} {d : DataW H} {ps : List MemPlace} {ts : List TypeId} {ds : List (DataW H)} {j : Nat}
    (hsz : (DataW.weightsEach P ts ds).all (· ≤ reachBytes) = true) (ht : ts[j]? = some t) (hd : ds[j]? = some d) (hu : P.underlying t = some (.slice e)) (he : P.underlying e = some (.int k)) (hc : P.cellsOf e = 1) {B : Nat} (hB : P.bytesOf e = B)
    (h : DataW.Trod enc P W base spare held t (.slice a len cap) d ps) : len * B ≤ 140737488351232 :=
  Go.Proofs.YthapclmfkjldaaaW.PrintWords.sized_ints hsz ht hd hu he hc hB h
end Go.Proofs.Ythapclmfkjldaaa.PrintWords
