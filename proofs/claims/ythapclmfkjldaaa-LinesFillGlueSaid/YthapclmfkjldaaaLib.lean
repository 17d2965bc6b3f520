import Derived.Test.YthapclmfkjldaaaWWords
import Derived.Test.YthapclmfkjldaaaWMore
import Derived.Test.YthapclmfkjldaaaWSized
namespace Go.Proofs.Ythapclmfkjldaaa.Lib
open Go.RowKit Go.Proofs.YthapclmfkjldaaaW.PrintWords Go.Proofs.YthapclmfkjldaaaW.PrintMore
theorem w64 {n : Int} (h1 : -9223372036854775808 ≤ n) (h2 : n ≤ 9223372036854775807) : wrap64 n = n := by
  unfold wrap64; omega
theorem wf_i64 {n : Int} (h : (Lit.int .i64 n).wf = true) : -9223372036854775808 ≤ n ∧ n ≤ 9223372036854775807 := by
  simp only [Lit.wf, IntKind.min, IntKind.max, IntKind.signed, IntKind.bits, Bool.and_eq_true, decide_eq_true_eq, if_true] at h
  omega
theorem Ev.pos {α : Type} {c : Prop} [Decidable c] {g f : Nat → Option α} {r : α} (h : c) (k : Ev g r) : Ev (fun n => if c then g n else f n) r :=
  Ev.congr (fun _ => if_pos h) k
theorem Ev.neg {α : Type} {c : Prop} [Decidable c] {g f : Nat → Option α} {r : α} (h : ¬ c) (k : Ev f r) : Ev (fun n => if c then g n else f n) r :=
  Ev.congr (fun _ => if_neg h) k
theorem Ev.dpos {α : Type} {p : Prop} [Decidable p] {g f : Nat → Option α} {r : α} (h : p) (k : Ev g r) : Ev (fun n => if decide p = true then g n else f n) r :=
  Ev.congr (fun _ => if_pos (decide_eq_true h)) k
theorem Ev.dneg {α : Type} {p : Prop} [Decidable p] {g f : Nat → Option α} {r : α} (h : ¬ p) (k : Ev f r) : Ev (fun n => if decide p = true then g n else f n) r :=
  Ev.congr (fun _ => if_neg (by simpa using h)) k
theorem Ev.bind0 {α β : Type} {g : Option α} {f : Nat → α → Option β} {a : α} {r : β} (h : g = some a) (k : Ev (fun n => f n a) r) : Ev (fun n => g.bind (f n)) r := by
  subst h; exact k
theorem Ev.out {α : Type} {g : Nat → Option α} {r s : α} (h : Ev g r) (e : r = s) : Ev g s := e ▸ h
theorem Ev.ret {α : Type} {r s : α} (e : r = s) : Ev (fun _ => some r) s := e ▸ Ev.now r
theorem Ev.ret' {α : Type} {g : Option α} {r : α} (e : g = some r) : Ev (fun _ => g) r := e ▸ Ev.now r
theorem tdiv_down (a b : Int) (hb : 0 < b) : Int.tdiv a b = if a < 0 ∧ a % b ≠ 0 then a / b + 1 else a / b := by
  rw [Int.tdiv_eq_ediv]
  by_cases h : 0 ≤ a ∨ b ∣ a
  · rw [if_pos h, if_neg (by rcases h with h | h; omega; rw [Int.emod_eq_zero_of_dvd h]; simp)]; omega
  · rw [if_neg h, if_pos ⟨by omega, fun e => h (.inr (Int.dvd_of_emod_eq_zero e))⟩, Int.sign_eq_one_of_pos hb]
theorem tmod_down (a b : Int) (hb : 0 < b) : Int.tmod a b = if a < 0 ∧ a % b ≠ 0 then a % b - b else a % b := by
  rw [Int.tmod_eq_emod]
  by_cases h : 0 ≤ a ∨ b ∣ a
  · rw [if_pos h, if_neg (by rcases h with h | h; omega; rw [Int.emod_eq_zero_of_dvd h]; simp)]; omega
  · rw [if_neg h, if_pos ⟨by omega, fun e => h (.inr (Int.dvd_of_emod_eq_zero e))⟩]; omega
theorem tdiv_nn {a b : Int} (ha : 0 ≤ a) : Int.tdiv a b = a / b := Int.tdiv_eq_ediv_of_nonneg ha
theorem tmod_nn {a b : Int} (ha : 0 ≤ a) : Int.tmod a b = a % b := Int.tmod_eq_emod_of_nonneg ha
theorem climb {α : Type} {g : Int → Nat → Option α} {r : α} {a n : Int} (h : a ≤ n) (base : Ev (g n) r) (step : ∀ i, a ≤ i → i < n → Ev (g (i + 1)) r → Ev (g i) r) : Ev (g a) r := by
  have key : ∀ (d : Nat) (b : Int), a ≤ b → b + d = n → Ev (g b) r := by
    intro d
    induction d with
    | zero => intro b _ hb; rw [show b = n by omega]; exact base
    | succ d ih => intro b h1 h2; exact step b h1 (by omega) (ih (b + 1) (by omega) (by omega))
  exact key (n - a).toNat a (by omega) (by omega)
theorem first_bad (p : Int → Prop) (n : Int) : (∀ i, 0 ≤ i → i < n → p i) ∨ ∃ b, 0 ≤ b ∧ b < n ∧ ¬ p b ∧ ∀ i, 0 ≤ i → i < b → p i := by
  have key : ∀ (d : Nat), (d : Int) ≤ n → (∀ i : Int, 0 ≤ i → i < d → p i) ∨ ∃ b, 0 ≤ b ∧ b < n ∧ ¬ p b ∧ ∀ i, 0 ≤ i → i < b → p i := by
    intro d
    induction d with
    | zero => intro _; exact .inl fun i _ _ => by omega
    | succ d ih =>
      intro hd
      rcases ih (by omega) with h | h
      · by_cases hp : p d
        · exact .inl fun i h0 h1 => by
            by_cases e : i = d
            · rw [e]; exact hp
            · exact h i h0 (by omega)
        · exact .inr ⟨d, by omega, by omega, hp, h⟩
      · exact .inr h
  by_cases hn : 0 ≤ n
  · rcases key n.toNat (by omega) with h | h
    · exact .inl fun i h0 h1 => h i h0 (by omega)
    · exact .inr h
  · exact .inl fun i _ _ => by omega
theorem getD_mem {α : Type} {xs : List α} {i : Int} {z : α} (h0 : 0 ≤ i) (h : i < xs.length) : xs.getD i.toNat z ∈ xs := by
  rw [List.getD_eq_getElem?_getD, List.getElem?_eq_getElem (by omega)]; exact List.getElem_mem _
theorem mem_getD {α : Type} {xs : List α} {x : α} (z : α) (h : x ∈ xs) : ∃ i : Int, 0 ≤ i ∧ i < xs.length ∧ xs.getD i.toNat z = x := by
  obtain ⟨n, hn, e⟩ := List.getElem_of_mem h
  exact ⟨n, by omega, by omega, by rw [List.getD_eq_getElem?_getD, List.getElem?_eq_getElem (by simpa using hn)]; simpa using e⟩
def upto (xs : List Int) (i : Int) : Int := (xs.take i.toNat).sum
theorem upto_zero (xs : List Int) : upto xs 0 = 0 := by simp [upto]
theorem rd_nth (xs : List Int) (i : Int) (h : i.toNat < xs.length) : rd xs i = xs[i.toNat] := by
  unfold rd; rw [List.getD_eq_getElem?_getD, List.getElem?_eq_getElem h]; rfl
theorem rd_set {xs : List Int} {i j v : Int} (hi0 : 0 ≤ i) (hi : i < xs.length) (hj0 : 0 ≤ j) : rd (xs.set i.toNat v) j = if j = i then v else rd xs j := by
  unfold rd
  rw [List.getD_eq_getElem?_getD, List.getD_eq_getElem?_getD]
  by_cases h : j = i
  · subst h; rw [if_pos rfl, List.getElem?_set_self (by omega)]; rfl
  · rw [if_neg h, List.getElem?_set_ne (by omega)]
theorem rd_out {xs : List Int} {i : Int} (h : (xs.length : Int) ≤ i) : rd xs i = 0 := by
  unfold rd; rw [List.getD_eq_getElem?_getD, List.getElem?_eq_none (by omega)]; rfl
theorem rd_app_left {xs ys : List Int} {i : Int} (h : i < xs.length) (h0 : 0 ≤ i) : rd (xs ++ ys) i = rd xs i := by
  unfold rd; rw [List.getD_eq_getElem?_getD, List.getD_eq_getElem?_getD, List.getElem?_append_left (by omega)]
theorem rd_app_right {xs ys : List Int} {i : Int} (h : (xs.length : Int) ≤ i) : rd (xs ++ ys) i = rd ys (i - xs.length) := by
  unfold rd; rw [List.getD_eq_getElem?_getD, List.getD_eq_getElem?_getD, List.getElem?_append_right (by omega)]; congr 3; omega
theorem rd_one (x : Int) : rd [x] 0 = x := rfl
theorem rd_drop {xs : List Int} {i j : Int} (hi : 0 ≤ i) (hj : 0 ≤ j) : rd (xs.drop i.toNat) j = rd xs (i + j) := by
  unfold rd; rw [List.getD_eq_getElem?_getD, List.getD_eq_getElem?_getD, List.getElem?_drop]; congr 3; omega
theorem rd_mem {xs : List Int} {i : Int} (h : i < xs.length) (h0 : 0 ≤ i) : rd xs i ∈ xs := by
  rw [rd_nth xs i (by omega)]; exact List.getElem_mem _
theorem mem_rd {xs : List Int} {x : Int} (h : x ∈ xs) : ∃ i : Int, 0 ≤ i ∧ i < xs.length ∧ rd xs i = x := by
  obtain ⟨n, hn, e⟩ := List.getElem_of_mem h
  exact ⟨n, by omega, by omega, by rw [rd_nth xs n (by simpa using hn)]; simpa using e⟩
theorem ext_rd {xs ys : List Int} (hl : xs.length = ys.length) (h : ∀ i : Int, 0 ≤ i → i < xs.length → rd xs i = rd ys i) : xs = ys := by
  refine List.ext_getElem hl fun n h1 h2 => ?_
  have := h n (by omega) (by omega)
  rw [rd_nth xs n (by simpa using h1), rd_nth ys n (by simpa using h2)] at this
  simpa using this
theorem drop_rd {xs : List Int} {i : Int} (h0 : 0 ≤ i) (h : i < xs.length) : xs.drop i.toNat = rd xs i :: xs.drop (i + 1).toNat := by
  rw [rd_nth xs i (by omega), show (i + 1).toNat = i.toNat + 1 by omega]
  exact List.drop_eq_getElem_cons (by omega)
theorem take_rd {xs : List Int} {i : Int} (h0 : 0 ≤ i) (h : i < xs.length) : xs.take (i + 1).toNat = xs.take i.toNat ++ [rd xs i] := by
  rw [rd_nth xs i (by omega), show (i + 1).toNat = i.toNat + 1 by omega]
  rw [List.take_succ_eq_append_getElem (by omega)]
theorem upto_succ {xs : List Int} {i : Int} (h0 : 0 ≤ i) (h : i < xs.length) : upto xs (i + 1) = upto xs i + rd xs i := by
  unfold upto; rw [take_rd h0 h]; simp
theorem upto_bd {xs : List Int} {lo hi : Int} (h : ∀ i : Int, 0 ≤ i → i < xs.length → lo ≤ rd xs i ∧ rd xs i ≤ hi) : ∀ i : Int, 0 ≤ i → i ≤ xs.length → lo * i ≤ upto xs i ∧ upto xs i ≤ hi * i := by
  have key : ∀ d : Nat, d ≤ xs.length → lo * d ≤ upto xs d ∧ upto xs d ≤ hi * d := by
    intro d
    induction d with
    | zero => intro _; simp [upto]
    | succ d ih =>
      intro hd
      have h1 := ih (by omega)
      have h2 := h d (by omega) (by omega)
      have h3 := upto_succ (xs := xs) (i := d) (by omega) (by omega)
      rw [show ((d + 1 : Nat) : Int) = (d : Int) + 1 by omega, h3, Int.mul_add, Int.mul_add]
      omega
  intro i h0 h1
  have := key i.toNat (by omega)
  rw [show ((i.toNat : Nat) : Int) = i by omega] at this
  exact this
theorem rd_replicate {n : Nat} {x i : Int} (h0 : 0 ≤ i) (h : i < n) : rd (List.replicate n x) i = x := by
  unfold rd; rw [List.getD_eq_getElem?_getD, List.getElem?_replicate, if_pos (by omega)]; rfl
def tab {α : Type} (f : Int → α) (n : Nat) : List α := (List.range n).map fun i : Nat => f i
theorem tab_length {α : Type} (f : Int → α) (n : Nat) : (tab f n).length = n := by simp [tab]
theorem tab_get {α : Type} {f : Int → α} {n : Nat} {i : Int} (z : α) (h0 : 0 ≤ i) (h : i < n) : (tab f n).getD i.toNat z = f i := by
  unfold tab
  rw [List.getD_eq_getElem?_getD, List.getElem?_map, List.getElem?_range (by omega)]
  simp only [Option.map_some, Option.getD_some]
  rw [show ((i.toNat : Nat) : Int) = i by omega]
theorem rd_tab {f : Int → Int} {n : Nat} {i : Int} (h0 : 0 ≤ i) (h : i < n) : rd (tab f n) i = f i := tab_get 0 h0 h
theorem tab_congr {α : Type} {f g : Int → α} {n : Nat} (h : ∀ i : Int, 0 ≤ i → i < n → f i = g i) : tab f n = tab g n :=
  List.map_congr_left fun i hi => h i (by omega) (by have := List.mem_range.1 hi; omega)
theorem tab_set {α : Type} {f : Int → α} {n : Nat} {i : Int} {v : α} (h0 : 0 ≤ i) : (tab f n).set i.toNat v = tab (fun j => if j = i then v else f j) n := by
  refine List.ext_getElem (by simp [tab]) fun k h1 h2 => ?_
  rw [List.getElem_set]
  simp only [tab, List.getElem_map, List.getElem_range]
  by_cases e : i.toNat = k
  · rw [if_pos e, if_pos (by omega)]
  · rw [if_neg e, if_neg (by omega)]
theorem tab_const {α : Type} (v : α) (n : Nat) : List.replicate n v = tab (fun _ => v) n := by
  refine List.ext_getElem (by simp [tab]) fun k h1 h2 => by simp [tab]
theorem tab_snoc {α : Type} (f : Int → α) (n : Nat) : tab f (n + 1) = tab f n ++ [f n] := by
  unfold tab; rw [List.range_succ, List.map_append]; rfl
theorem tab_self (xs : List Int) : tab (rd xs) xs.length = xs :=
  ext_rd (by rw [tab_length]) fun i h0 h => rd_tab h0 (by rw [tab_length] at h; exact h)
end Go.Proofs.Ythapclmfkjldaaa.Lib
namespace Go.Proofs.Ythapclmfkjldaaa.PrintWords
open Go.ChangeShapes Go.WideShapes
theorem sized_ints {H : Type} {enc : TypeId × Value → H} {P : Program} {W : World} {base : Nat} {spare : Nat → Bool} {held : Bool} {t e : TypeId} {k : IntKind} {a : Option Addr} {len cap : Nat} {d : DataW H} {ps : List MemPlace} {ts : List TypeId} {ds : List (DataW H)} {j : Nat}
    (hsz : (DataW.weightsEach P ts ds).all (· ≤ reachBytes) = true) (ht : ts[j]? = some t) (hd : ds[j]? = some d) (hu : P.underlying t = some (.slice e)) (he : P.underlying e = some (.int k)) (hc : P.cellsOf e = 1) {B : Nat} (hB : P.bytesOf e = B)
    (h : DataW.Trod enc P W base spare held t (.slice a len cap) d ps) : len * B ≤ 140737488351232 :=
  Go.Proofs.YthapclmfkjldaaaW.PrintWords.sized_ints hsz ht hd hu he hc hB h
end Go.Proofs.Ythapclmfkjldaaa.PrintWords
