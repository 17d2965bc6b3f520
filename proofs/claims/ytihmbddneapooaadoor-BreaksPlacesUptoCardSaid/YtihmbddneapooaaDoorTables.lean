/- What a listed package-level table holds: from the form's own reading of a variable as a written-out datum to cells that read as a known list of numbers and structs of numbers. No condition, no program. -/
import Derived.Test.YtihmbddneapooaaDoorOpens
import Derived.Deep.DeepHandedRow
import Derived.Lib.LaidTab
namespace Go.Proofs.YtihmbddneapooaaDoor.Tables
open Go.ChangeShapes Go.WideShapes Go.ChangeAt Go.RowKit Go.Proofs.YtihmbddneapooaaDoorW.PrintWords Go.Proofs.YtihmbddneapooaaDoorW.PrintMore Go.Proofs.YtihmbddneapooaaDoor.Opens

/-- Values of type t that read as the datum 'dat a' are a, of kind d. -/
structure Tbl {α : Type} (P : Program) (t : TypeId) (d : Kd α) (dat : α → DataW Unit) : Prop where
  size : P.cellsOf t = d.sz
  read : ∀ {enc : TypeId × Value → Unit} {w : World} {base : Nat} {spare : Nat → Bool} {held : Bool} {fuel : Nat} {cs : List Value} {a : α} {ps : List MemPlace},
    DataW.trod enc P w base spare held fuel t cs = some (dat a, ps) → d.K w a cs
section
variable {P : Program} {t e : TypeId}
theorem tbl_int {k : IntKind} (h : P.underlying t = some (.int k)) (hc : P.cellsOf t = 1) : Tbl P t (Kd.int k) (fun n => .lit (.int k n)) :=
  ⟨hc, fun hr => by
    obtain ⟨n, rfl, hx, _⟩ := DataW.trod_int h hr
    simp only [Prod.mk.injEq, DataW.lit.injEq, Lit.int.injEq, true_and] at hx
    obtain ⟨rfl, _⟩ := hx
    rfl⟩
/-- A table is not empty. -/
theorem tbl_slice {α : Type} {d : Kd α} {dat : α → DataW Unit} (h : P.underlying t = some (.slice e)) (hc : P.cellsOf t = 1) (ho : Tbl P e d dat) :
    Tbl P t (Kd.slice e d) (fun l => .slice (l.map dat) []) :=
  ⟨hc, fun {enc w base spare held fuel cs l ps} hr => by
    rcases DataW.trod_slice h hr with ⟨_, hx⟩ | ⟨a, len, cap, elems, rest, n, _, rfl, hx, hb, hl, hm, hlen, hel, hsp, hns⟩
    · simp at hx
    · simp only [Prod.mk.injEq, DataW.slice.injEq] at hx
      obtain ⟨⟨hx1, hx2⟩, _⟩ := hx
      have hll : l.length = len := by rw [← hlen]; simpa using congrArg List.length hx1
      refine ⟨some a, cap, by rw [hll], by omega, rfl, by unfold maxLen at hm; omega, fun _ => ⟨a, rfl, fun j p hj => ?_⟩⟩
      have hjl : j < len := by have := (List.getElem?_eq_some_iff.1 hj).1; omega
      have hb' := hel j hjl
      have hy : elems[j]? = some (elems[j]'(by omega)) := List.getElem?_eq_getElem (by omega)
      rw [hy, ho.size, Option.bind_eq_some_iff] at hb'
      obtain ⟨cs', hcs, hy'⟩ := hb'
      obtain ⟨hlc, hcell⟩ := cells_read hcs
      have hd : (elems[j]'(by omega)).1 = dat p := by
        have h1 : (l.map dat)[j]? = some (dat p) := by rw [List.getElem?_map, hj]; rfl
        rw [hx1, List.getElem?_map, hy] at h1
        exact Option.some.inj h1
      have hp : d.K w p cs' := ho.read (ps := (elems[j]'(by omega)).2) (by rw [hy', ← hd])
      refine ⟨cs', hlc, hp, fun i u hu => ?_⟩
      rw [← hcell i u hu]
      unfold Addr.add
      by_cases h1 : j * d.sz = 0
      · simp [h1]
      · by_cases h2 : i = 0
        · simp [h2]
        · rw [if_neg (by omega), if_neg h1, if_neg h2]
          simp [Nat.add_assoc]⟩
structure TblF {α : Type} (P : Program) (fs : List Field) (off : Nat) (d : Kd α) (dat : α → List (DataW Unit)) : Prop where
  read : ∀ {enc : TypeId × Value → Unit} {w : World} {base : Nat} {spare : Nat → Bool} {held : Bool} {fuel : Nat} {cs : List Value} {xs : List (DataW Unit × List MemPlace)} {a : α},
    xs.length = fs.length → (∀ (i : Nat) (f : Field), fs[i]? = some f → DataW.trod enc P w base spare held fuel f.type ((cs.drop f.offset).take (P.cellsOf f.type)) = xs[i]?) →
    xs.map (·.1) = dat a → d.K w a ((cs.drop off).take d.sz)
theorem tblF_one {α : Type} {d : Kd α} {dat : α → DataW Unit} {f : Field} {off : Nat} (ho : Tbl P f.type d dat) (hoff : f.offset = off) : TblF P [f] off d (fun a => [dat a]) := by
  refine ⟨?_⟩
  intro enc w base spare held fuel cs xs a hl h hx
  match xs, hl with
  | [x], _ =>
    have h0 := h 0 f rfl
    rw [hoff, ho.size] at h0
    simp at hx
    exact ho.read (ps := x.2) (by rw [h0, ← hx]; rfl)
theorem tblF_cons {α β : Type} {d : Kd α} {d' : Kd β} {dat : α → DataW Unit} {dat' : β → List (DataW Unit)} {f : Field} {fs : List Field} {off : Nat} (ho : Tbl P f.type d dat) (hoff : f.offset = off) (hs : TblF P fs (off + d.sz) d' dat') :
    TblF P (f :: fs) off (Kd.pair d d') (fun a => dat a.1 :: dat' a.2) := by
  refine ⟨?_⟩
  intro enc w base spare held fuel cs xs a hl h hx
  match xs, hl with
  | x :: xs, hl =>
    have h0 := h 0 f rfl
    rw [hoff, ho.size] at h0
    simp only [List.map_cons, List.cons.injEq] at hx
    refine ⟨_, _, ?_, ho.read (ps := x.2) (by rw [h0, ← hx.1]; rfl), hs.read (xs := xs) (by simpa using hl) (fun i g hg => h (i + 1) g hg) hx.2⟩
    show (cs.drop off).take (d.sz + d'.sz) = _
    rw [List.take_add, List.drop_drop]
theorem tbl_struct {α β : Type} {d : Kd α} (dat : α → List (DataW Unit)) {fs : Array Field} (g : β → α) (h : P.underlying t = some (.struct fs)) (hc : P.cellsOf t = d.sz) (hf : TblF P fs.toList 0 d dat) :
    Tbl P t (Kd.iso d g) (fun x => .agg (dat (g x))) :=
  ⟨hc, fun {enc w base spare held fuel cs a ps} hr => by
    obtain ⟨xs, n, rfl, hx, hlen, hxl, hel⟩ := DataW.trod_struct h hr
    simp only [Prod.mk.injEq, DataW.agg.injEq] at hx
    have := hf.read (cs := cs) (a := g a) (by simpa using hxl) (fun i f hf => hel i f (by simpa using hf)) hx.1.symm
    rw [List.drop_zero, ← hc, ← hlen, List.take_length] at this
    exact this⟩
theorem tbl_array2 {α : Type} {d : Kd α} {dat : α → DataW Unit} (h : P.underlying t = some (.array 2 e)) (hc : P.cellsOf t = d.sz + d.sz) (ho : Tbl P e d dat) :
    Tbl P t (Kd.pair d d) (fun a => .agg [dat a.1, dat a.2]) :=
  ⟨hc, fun {enc w base spare held fuel cs a ps} hr => by
    obtain ⟨xs, n, rfl, hx, hlen, hxl, hel⟩ := DataW.trod_array h hr
    simp only [Prod.mk.injEq, DataW.agg.injEq] at hx
    match xs, hxl, hx.1, hel with
    | [x, y], _, hx1, hel =>
      simp only [List.map_cons, List.map_nil, List.cons.injEq, and_true] at hx1
      have h0 := hel 0 (by omega)
      have h1 := hel 1 (by omega)
      rw [ho.size] at h0 h1
      simp only [Nat.zero_mul, List.drop_zero, Nat.one_mul] at h0 h1
      refine ⟨cs.take d.sz, (cs.drop d.sz).take d.sz, ?_, ho.read (ps := x.2) (by rw [h0, hx1.1]; rfl), ho.read (ps := y.2) (by rw [h1, hx1.2]; rfl)⟩
      rw [← List.take_add, ← hc, ← hlen, List.take_length]⟩
end
end Go.Proofs.YtihmbddneapooaaDoor.Tables
