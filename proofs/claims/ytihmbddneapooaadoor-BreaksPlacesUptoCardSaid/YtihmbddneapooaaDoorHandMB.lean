/- Walked by hand: metric.Mark over the package-level table of marks. -/
import Derived.Test.YtihmbddneapooaaDoorPMetricEmsx1
import Derived.Test.YtihmbddneapooaaDoorTables
import Derived.Test.YtihmbddneapooaaDoorLib
import Derived.Outline
import Derived.Laws.RangeAny
namespace Go.Proofs.YtihmbddneapooaaDoor.HandMB
open Go.RowKit Go.Proofs.YtihmbddneapooaaDoorW.PrintWords Go.Proofs.YtihmbddneapooaaDoorW.PrintLast Go.Proofs.YtihmbddneapooaaDoorW.PrintMore
open PMetricEms (S73 k73)
set_option linter.unusedVariables false
def marks : List S73 := [⟨173, 173, 0⟩, ⟨768, 879, 0⟩, ⟨1425, 1469, 0⟩, ⟨1471, 1471, 0⟩, ⟨1473, 1474, 0⟩, ⟨1552, 1562, 0⟩, ⟨1611, 1631, 0⟩, ⟨8203, 8207, 0⟩, ⟨8234, 8238, 0⟩, ⟨8288, 8297, 0⟩, ⟨65024, 65039, 0⟩, ⟨65532, 65532, 0⟩]
/-- What lies in memory: the table. -/
structure LaidW (w : World) : Prop where
  marks : ∃ A cap, w.cell? ⟨5, 0, none⟩ = some (.slice A marks.length cap) ∧ marks.length ≤ cap ∧ Kd.C k73 w A marks.length marks
theorem LaidW.now {w w1 : World} (h : LaidW w) (hb : Below w.heap.size w w1) : LaidW w1 := by
  obtain ⟨A', cap', h3, h4, h5⟩ := h.marks
  exact ⟨⟨A', cap', (hb.cell (World.block_lt_of_cell? w _ h3)).trans h3, h4, Kd.C_below h5 hb⟩⟩
theorem LaidW.drewN {w : World} (h : LaidW w) (n : Nat) : LaidW (w.drewN n) := h.now (pw_below_drewN (Below.refl _ _) n)
theorem LaidW.drew {w : World} (h : LaidW w) : LaidW w.drew := h.now (below_drew (Below.refl _ _))
theorem LaidW.alloc {w : World} (h : LaidW w) (o : Obj) : LaidW (w.alloc o) := h.now (below_alloc (Below.refl _ _) o)
theorem go {w w1 w2 : World} (h : Below w.heap.size w w1) (k : Below w1.heap.size w1 w2) : Below w.heap.size w w2 := h.trans (k.mono h.size)
def metric_Mark.f (a0 : Int) : Option Bool := (PMetricEms.metric_within.f 30 marks a0).bind fun t => some t.2
theorem metric_Mark.calls (a0 : Int) (r : Bool) (w : World) (h : metric_Mark.f a0 = some r) (hL : LaidW w) :
    Calls Tryd.prog 21 #[.int .i64 a0] w fun e w' => e = .returned (.bool r) ∧ Below w.heap.size w w' := by
  obtain ⟨A, cap, h1, h2, h3⟩ := hL.marks
  have H3 := Aside0.mk h3
  clear h3
  obtain ⟨⟨r1, r2⟩, hw, e⟩ := Option.bind_eq_some_iff.1 h
  obtain rfl : r2 = r := Option.some.inj e
  have H := Aside0.mk hw
  clear h e hw
  have HB := Aside0.mk (Below.refl w.heap.size w)
  go_enter Tryd.func21, Tryd.ntmps21
  go_wp2_with (go_at_call 29; refine (PMetricEms.metric_within.calls 30 A cap marks a0 r1 r2 _ H3.out h2 H.out).mono ?_; rintro e w' ⟨rfl, hb⟩)
  go_ret
  exact ⟨rfl, hb⟩
end Go.Proofs.YtihmbddneapooaaDoor.HandMB
