import Derived.ChangeSlices
import Derived.SizedLaws
import Derived.ChangeOld
import Derived.DataReads
import Derived.OpenShut
import Derived.ProofKit
import Derived.Test.YthapclmfkjldaaaWWords
import Derived.Test.YthapclmfkjldaaaWMore
namespace Go.Proofs.Ythapclmfkjldaaa.Opens
open Go.ChangeShapes Go.WideShapes Go.ChangeAt Go.RowKit Go.Proofs.YthapclmfkjldaaaW.PrintWords Go.Proofs.YthapclmfkjldaaaW.PrintMore
structure Opn {α : Type} (P : Program) (t : TypeId) (d : Kd α) (I : α → Prop) : Prop where
  size : P.cellsOf t = d.sz
  read : ∀ {H : Type} {enc : TypeId × Value → H} {w : World} {base : Nat} {spare : Nat → Bool} {held : Bool} {fuel : Nat} {cs : List Value} {x : DataW H × List MemPlace},
    DataW.trod enc P w base spare held fuel t cs = some x → (∀ n ∈ x.1.weights P t, n ≤ 140737488351232) → ∃ a, d.K w a cs ∧ I a
section
variable {P : Program} {t e : TypeId}
theorem op_int {k : IntKind} (h : P.underlying t = some (.int k)) (hc : P.cellsOf t = 1) : Opn P t (Kd.int k) (fun n => (Lit.int k n).wf = true) :=
  ⟨hc, fun hr _ => by
    obtain ⟨n, rfl, _, hw⟩ := DataW.trod_int h hr
    exact ⟨n, rfl, hw⟩⟩
theorem op_bool (h : P.underlying t = some .bool) (hc : P.cellsOf t = 1) : Opn P t Kd.bool (fun _ => True) :=
  ⟨hc, fun hr _ => by
    obtain ⟨b, rfl, _⟩ := DataW.trod_bool h hr
    exact ⟨b, rfl, trivial⟩⟩
theorem list_of {α : Type} {Q : Nat → α → Prop} (n : Nat) (h : ∀ i, i < n → ∃ a, Q i a) : ∃ l : List α, l.length = n ∧ ∀ i a, l[i]? = some a → Q i a := by
  induction n with
  | zero => exact ⟨[], rfl, fun i a ha => by simp at ha⟩
  | succ n ih =>
    obtain ⟨l, hl, hq⟩ := ih fun i hi => h i (by omega)
    obtain ⟨a, ha⟩ := h n (by omega)
    refine ⟨l ++ [a], by simp [hl], fun i b hb => ?_⟩
    rcases Nat.lt_or_ge i l.length with hi | hi
    · rw [List.getElem?_append_left hi] at hb; exact hq i b hb
    · rw [List.getElem?_append_right hi] at hb
      have h0 : i - l.length = 0 := by
        have := (List.getElem?_eq_some_iff.1 hb).1; simpa using this
      rw [h0] at hb
      have e : i = n := by omega
      subst e
      simp at hb
      subst hb
      exact ha
theorem weights_mem_all {H : Type} {P : Program} {e : TypeId} : ∀ {ds : List (DataW H)} {d : DataW H}, d ∈ ds → ∀ n ∈ d.weights P e, n ∈ DataW.weightsAll P e ds
  | d0 :: ds, d, hd, n, hn => by
    simp only [DataW.weightsAll, List.mem_append]
    rcases List.mem_cons.1 hd with rfl | hd
    · exact .inl hn
    · exact .inr (weights_mem_all hd n hn)
theorem cells_read {w : World} {base : Nat} {a : Addr} {n : Nat} {cs : List Value} (h : w.cells? base a n = some cs) : cs.length = n ∧ ∀ i u, cs[i]? = some u → w.cell? (a.add i) = some u := by
  have h' := World.cells?_some h
  refine ⟨by simpa using h'.2.1, fun i u hu => ?_⟩
  have hi := (List.getElem?_eq_some_iff.1 hu).1
  rw [← hu]
  exact h'.2.2 i (by omega)
theorem op_slice {α : Type} {d : Kd α} {I : α → Prop} {B : Nat} (h : P.underlying t = some (.slice e)) (hc : P.cellsOf t = 1) (ho : Opn P e d I) (hB : P.bytesOf e = B) :
    Opn P t (Kd.slice e d) (fun l => l.length ≤ maxLen ∧ l.length * B ≤ 140737488351232 ∧ ∀ x ∈ l, I x) :=
  ⟨hc, fun {H enc w base spare held fuel cs x} hr hw => by
    rcases DataW.trod_slice h hr with ⟨rfl, _⟩ | ⟨a, len, cap, elems, rest, n, _, rfl, rfl, hb, hl, hm, hlen, hel, hsp, hns⟩
    · exact ⟨[], ⟨none, 0, rfl, Nat.le_refl _, Kd.C_nil d w⟩, by simp [maxLen], by simp, fun x hx => by cases hx⟩
    · have wl : (elems.length + rest.length) * B ≤ 140737488351232 := by
        have := hw ((elems.length + rest.length) * P.bytesOf e) (by simp [DataW.weights, h])
        rw [hB] at this; exact this
      have we : ∀ (i : Nat) (y : DataW H × List MemPlace), elems[i]? = some y → ∀ n ∈ y.1.weights P e, n ≤ 140737488351232 := fun i y hy n hn => hw n (by
        simp only [DataW.weights, h, List.mem_cons, List.mem_append]
        exact .inr (.inl (weights_mem_all (d := y.1) (List.mem_map_of_mem (f := fun z : DataW H × List MemPlace => z.1) (List.mem_of_getElem? hy)) n hn)))
      obtain ⟨l, hll, hq⟩ := list_of (Q := fun i x => ∃ c, c.length = d.sz ∧ d.K w x c ∧ I x ∧ ∀ j u, c[j]? = some u → w.cell? (a.add (i * d.sz + j)) = some u) len (fun i hi => by
        have hb' := hel i hi
        have hy : elems[i]? = some (elems[i]'(by omega)) := List.getElem?_eq_getElem (by omega)
        rw [hy, ho.size, Option.bind_eq_some_iff] at hb'
        obtain ⟨cs', hcs, hy'⟩ := hb'
        obtain ⟨p, hp, hI⟩ := ho.read hy' (we i _ hy)
        obtain ⟨hlc, hcell⟩ := cells_read hcs
        refine ⟨p, cs', hlc, hp, hI, fun j u hu => ?_⟩
        rw [← hcell j u hu]
        unfold Addr.add
        by_cases h1 : i * d.sz = 0
        · simp [h1]
        · by_cases h2 : j = 0
          · simp [h2]
          · rw [if_neg (by omega), if_neg h1, if_neg h2]
            simp [Nat.add_assoc])
      have hmem : ∀ x ∈ l, I x := fun x hx => by
        obtain ⟨i, hi⟩ := List.getElem?_of_mem hx
        obtain ⟨_, _, _, hI, _⟩ := hq i x hi
        exact hI
      refine ⟨l, ⟨some a, cap, by rw [hll], by omega, ?_⟩, by omega, ?_, hmem⟩
      · refine ⟨rfl, by unfold maxLen at hm; omega, fun _ => ⟨a, rfl, fun j p hj => ?_⟩⟩
        obtain ⟨c, h1, h2, _, h3⟩ := hq j p hj
        exact ⟨c, h1, h2, h3⟩
      · rw [hll, ← hlen]
        exact Nat.le_trans (Nat.mul_le_mul_right _ (Nat.le_add_right _ _)) wl⟩
structure OpnF {α : Type} (P : Program) (fs : List Field) (off : Nat) (d : Kd α) (I : α → Prop) : Prop where
  read : ∀ {H : Type} {enc : TypeId × Value → H} {w : World} {base : Nat} {spare : Nat → Bool} {held : Bool} {fuel : Nat} {cs : List Value} {xs : List (DataW H × List MemPlace)},
    xs.length = fs.length → (∀ (i : Nat) (f : Field), fs[i]? = some f → DataW.trod enc P w base spare held fuel f.type ((cs.drop f.offset).take (P.cellsOf f.type)) = xs[i]?) →
    (∀ n ∈ DataW.weightsEach P (fs.map (·.type)) (xs.map (·.1)), n ≤ 140737488351232) → ∃ a, d.K w a ((cs.drop off).take d.sz) ∧ I a
theorem opF_one {α : Type} {d : Kd α} {I : α → Prop} {f : Field} {off : Nat} (ho : Opn P f.type d I) (hoff : f.offset = off) : OpnF P [f] off d I := by
  refine ⟨?_⟩
  intro H enc w base spare held fuel cs xs hl h hw
  match xs, hl with
  | [x], _ =>
    have := h 0 f rfl
    rw [hoff, ho.size] at this
    exact ho.read this fun n hn => hw n (by simpa [DataW.weightsEach] using hn)
theorem opF_cons {α β : Type} {d : Kd α} {d' : Kd β} {I : α → Prop} {I' : β → Prop} {f : Field} {fs : List Field} {off : Nat} (ho : Opn P f.type d I) (hoff : f.offset = off) (hs : OpnF P fs (off + d.sz) d' I') :
    OpnF P (f :: fs) off (Kd.pair d d') (fun x => I x.1 ∧ I' x.2) := by
  refine ⟨?_⟩
  intro H enc w base spare held fuel cs xs hl h hw
  match xs, hl with
  | x :: xs, hl =>
    have h0 := h 0 f rfl
    rw [hoff, ho.size] at h0
    obtain ⟨a, ha, hI⟩ := ho.read h0 fun n hn => hw n (by simp [DataW.weightsEach]; exact .inl hn)
    obtain ⟨b, hb, hI'⟩ := hs.read (xs := xs) (by simpa using hl) (fun i g hg => h (i + 1) g hg) (fun n hn => hw n (by simp [DataW.weightsEach]; exact .inr hn))
    refine ⟨(a, b), ⟨_, _, ?_, ha, hb⟩, hI, hI'⟩
    show (cs.drop off).take (d.sz + d'.sz) = _
    rw [List.take_add, List.drop_drop]
theorem op_struct {α β : Type} {d : Kd α} {I : α → Prop} {fs : Array Field} {g : β → α} (r : α → β) (h : P.underlying t = some (.struct fs)) (hc : P.cellsOf t = d.sz) (hf : OpnF P fs.toList 0 d I) (hg : ∀ a, g (r a) = a) :
    Opn P t (Kd.iso d g) (fun x => I (g x)) :=
  ⟨hc, fun {H enc w base spare held fuel cs x} hr hw => by
    obtain ⟨xs, n, rfl, rfl, hlen, hxl, hx⟩ := DataW.trod_struct h hr
    obtain ⟨a, ha, hI⟩ := hf.read (cs := cs) (by simpa using hxl) (fun i f hf => hx i f (by simpa using hf)) (fun n hn => hw n (by simpa [DataW.weights, h] using hn))
    rw [List.drop_zero, ← hc, ← hlen, List.take_length] at ha
    exact ⟨r a, by show d.K w (g (r a)) cs; rw [hg]; exact ha, by rw [hg]; exact hI⟩⟩
theorem op_struct0 {α : Type} {d : Kd α} {I : α → Prop} {fs : Array Field} (h : P.underlying t = some (.struct fs)) (hc : P.cellsOf t = d.sz) (hf : OpnF P fs.toList 0 d I) : Opn P t d I :=
  ⟨hc, fun {H enc w base spare held fuel cs x} hr hw => by
    obtain ⟨xs, n, rfl, rfl, hlen, hxl, hx⟩ := DataW.trod_struct h hr
    obtain ⟨a, ha, hI⟩ := hf.read (cs := cs) (by simpa using hxl) (fun i f hf => hx i f (by simpa using hf)) (fun n hn => hw n (by simpa [DataW.weights, h] using hn))
    rw [List.drop_zero, ← hc, ← hlen, List.take_length] at ha
    exact ⟨a, ha, hI⟩⟩
theorem arg {α : Type} {d : Kd α} {I : α → Prop} {H : Type} {enc : TypeId × Value → H} {W : World} {base : Nat} {spare : Nat → Bool} {held : Bool} {v : Value} {x : DataW H} {ps : List MemPlace} {ts : List TypeId} {ds : List (DataW H)} {j : Nat} (ho : Opn P t d I)
    (hsz : (DataW.weightsEach P ts ds).all (· ≤ reachBytes) = true) (ht : ts[j]? = some t) (hd : ds[j]? = some x) (h : DataW.Trod enc P W base spare held t v x ps) : ∃ a, d.K W a v.cells.toList ∧ I a := by
  obtain ⟨fuel, hf⟩ := h
  refine ho.read hf fun n hn => ?_
  have := List.all_eq_true.1 hsz _ (DataW.weights_mem_each ht hd n hn)
  exact of_decide_eq_true this
theorem arg_lt {H : Type} {enc : TypeId × Value → H} {W : World} {base : Nat} {spare : Nat → Bool} {held : Bool} {v : Value} {x : DataW H} {ps : List MemPlace} (h : DataW.Trod enc P W base spare held t v x ps) : ∀ y ∈ ps, y.block < W.heap.size := by
  obtain ⟨m, hm⟩ := h
  exact DataW.trod_lt m _ _ _ hm
theorem agg_form {W : World} {base : Nat} {fs : Array Field} {v : Value} (h : P.underlying t = some (.struct fs)) (hok : Value.okWide P W .any base t v) : ∃ cs, v = .agg cs := by
  unfold Value.okWide at hok
  rw [h] at hok
  obtain ⟨cs, rfl, _⟩ := hok
  exact ⟨cs, rfl⟩
theorem agg_arr {cs : Array Value} {l : List Value} (h : (Value.agg cs).cells.toList = l) : cs = l.toArray := by
  subst h; simp [Value.cells]
theorem slice_form {α : Type} {d : Kd α} {W : World} {a : Option Addr} {n c : Nat} {l : List α} (h : (Kd.slice e d).K W l (Value.slice a n c).cells.toList) : n = l.length ∧ l.length ≤ c ∧ d.C W a l.length l := by
  obtain ⟨A, c', he, hl, hC⟩ := h
  simp [Value.cells] at he
  obtain ⟨rfl, rfl, rfl⟩ := he
  exact ⟨rfl, hl, hC⟩
end
end Go.Proofs.Ythapclmfkjldaaa.Opens
