/- Walked by hand: metric.Mark and metric.Em over the package-level tables of widths, metric.pair at the one pair of characters that the law asks for, chanceryref3.has (range over a string). -/
import Derived.Test.YtmoimbopclljeaaDoorPMetricWidthsx1
import Derived.Test.YtmoimbopclljeaaDoorPMetricWidthsx2
import Derived.Test.YtmoimbopclljeaaDoorTables
import Derived.Test.YtmoimbopclljeaaDoorLib
import Derived.Outline
import Derived.Laws.RangeAny
namespace Go.Proofs.YtmoimbopclljeaaDoor.HandMW
open Go.RowKit Go.Proofs.YtmoimbopclljeaaDoorW.PrintWords Go.Proofs.YtmoimbopclljeaaDoorW.PrintLast Go.Proofs.YtmoimbopclljeaaDoorW.PrintMore
open PMetricWidths (S50 k50)
set_option linter.unusedVariables false
def marks : List S50 := [⟨173, 173, 0⟩, ⟨768, 879, 0⟩, ⟨1425, 1469, 0⟩, ⟨1471, 1471, 0⟩, ⟨1473, 1474, 0⟩, ⟨1552, 1562, 0⟩, ⟨1611, 1631, 0⟩, ⟨8203, 8207, 0⟩, ⟨8234, 8238, 0⟩, ⟨8288, 8297, 0⟩, ⟨65024, 65039, 0⟩, ⟨65532, 65532, 0⟩]
def others : List S50 := [⟨9, 10, 0⟩, ⟨48, 57, 500⟩, ⟨160, 160, 250⟩, ⟨192, 222, 660⟩, ⟨223, 591, 500⟩, ⟨880, 1327, 560⟩, ⟨1424, 2303, 520⟩, ⟨4352, 4447, 1000⟩, ⟨8212, 8212, 1000⟩, ⟨8208, 8211, 500⟩, ⟨11904, 42191, 1000⟩, ⟨44032, 55203, 1000⟩, ⟨63744, 64255, 1000⟩, ⟨65280, 65376, 1000⟩, ⟨131072, 262141, 1000⟩, ⟨65, 90, 660⟩, ⟨33, 126, 500⟩]
/-- What lies in memory: the package's two tables. -/
structure LaidW (w : World) : Prop where
  others : ∃ A cap, w.cell? ⟨1, 0, none⟩ = some (.slice A others.length cap) ∧ others.length ≤ cap ∧ Kd.C k50 w A others.length others
  marks : ∃ A cap, w.cell? ⟨0, 0, none⟩ = some (.slice A marks.length cap) ∧ marks.length ≤ cap ∧ Kd.C k50 w A marks.length marks
theorem LaidW.now {w w1 : World} (h : LaidW w) (hb : Below w.heap.size w w1) : LaidW w1 := by
  obtain ⟨⟨A, cap, h1, hc, h2⟩, ⟨A', cap', h3, h4, h5⟩⟩ := h
  exact ⟨⟨A, cap, (hb.cell (World.block_lt_of_cell? w _ h1)).trans h1, hc, Kd.C_below h2 hb⟩, ⟨A', cap', (hb.cell (World.block_lt_of_cell? w _ h3)).trans h3, h4, Kd.C_below h5 hb⟩⟩
theorem LaidW.drewN {w : World} (h : LaidW w) (n : Nat) : LaidW (w.drewN n) := h.now (pw_below_drewN (Below.refl _ _) n)
theorem LaidW.drew {w : World} (h : LaidW w) : LaidW w.drew := h.now (below_drew (Below.refl _ _))
theorem LaidW.alloc {w : World} (h : LaidW w) (o : Obj) : LaidW (w.alloc o) := h.now (below_alloc (Below.refl _ _) o)
theorem go {w w1 w2 : World} (h : Below w.heap.size w w1) (k : Below w1.heap.size w1 w2) : Below w.heap.size w w2 := h.trans (k.mono h.size)
def metric_Mark.f (a0 : Int) : Option Bool := (PMetricWidths.metric_within.f 30 marks a0).bind fun t => some t.2
theorem metric_Mark.calls (a0 : Int) (r : Bool) (w : World) (h : metric_Mark.f a0 = some r) (hL : LaidW w) :
    Calls Tryd.prog 24 #[.int .i64 a0] w fun e w' => e = .returned (.bool r) ∧ Below w.heap.size w w' := by
  obtain ⟨_, ⟨A, cap, h1, h2, h3⟩⟩ := hL
  have H3 := Aside0.mk h3
  clear h3
  obtain ⟨⟨r1, r2⟩, hw, e⟩ := Option.bind_eq_some_iff.1 h
  obtain rfl : r2 = r := Option.some.inj e
  have H := Aside0.mk hw
  clear h e hw
  have HB := Aside0.mk (Below.refl w.heap.size w)
  go_enter Tryd.func24, Tryd.ntmps24
  go_wp2_with (go_at_call 28; refine (PMetricWidths.metric_within.calls 30 A cap marks a0 r1 r2 _ H3.out h2 H.out).mono ?_; rintro e w' ⟨rfl, hb⟩)
  go_ret
  exact ⟨rfl, hb⟩
def metric_Em.f (a0 : Int) : Option Int := (metric_Mark.f a0).bind fun m => if m = true then some 0 else (PMetricWidths.metric_single.f 9 a0).bind fun s => if s.2 = true then some s.1 else (PMetricWidths.metric_within.f 30 others a0).bind fun t => if t.2 = true then some t.1 else some 600
theorem metric_Em.calls (a0 : Int) (r : Int) (w : World) (h : metric_Em.f a0 = some r) (hL : LaidW w) :
    Calls Tryd.prog 25 #[.int .i64 a0] w fun e w' => e = .returned (.int .i64 r) ∧ Below w.heap.size w w' := by
  have HL := Aside0.mk hL
  obtain ⟨⟨A, cap, h1, h2, h3⟩, _⟩ := hL
  have H3 := Aside0.mk h3
  clear h3
  obtain ⟨m, hm, h⟩ := Option.bind_eq_some_iff.1 h
  have HM := Aside0.mk hm
  clear hm
  have HB := Aside0.mk (Below.refl w.heap.size w)
  cases m
  · rw [if_neg (by decide)] at h
    obtain ⟨⟨s1, s2⟩, hs, h⟩ := Option.bind_eq_some_iff.1 h
    have HS := Aside0.mk hs
    clear hs
    cases s2
    · replace h : ((PMetricWidths.metric_within.f 30 others a0).bind fun t => if t.2 = true then some t.1 else some 600) = some r := h
      obtain ⟨⟨t1, t2⟩, ht, h⟩ := Option.bind_eq_some_iff.1 h
      have HT := Aside0.mk ht
      clear ht
      cases t2
      · obtain rfl : (600 : Int) = r := Option.some.inj h
        clear h
        go_enter Tryd.func25, Tryd.ntmps25
        go_wp2_with (first | (go_at_call 24; refine (metric_Mark.calls a0 _ _ HM.out HL.out).mono ?_; rintro e w1 ⟨rfl, hb⟩; replace h1 := (hb.cell (World.block_lt_of_cell? w _ h1)).trans h1; replace HB := Aside0.mk hb; clear hb) | (go_at_call 29; refine (PMetricWidths.metric_single.calls 9 a0 _ _ _ HS.out).mono ?_; rintro e w' ⟨rfl, ⟨nd, rfl⟩⟩) | (go_at_call 28; refine (PMetricWidths.metric_within.calls 30 A cap others a0 _ _ _ (Kd.C_below H3.out (pw_below_drewN HB.out nd)) h2 HT.out).mono ?_; rintro e w2 ⟨rfl, hb⟩; replace HB := Aside0.mk (go (pw_below_drewN HB.out nd) hb); clear hb))
        go_ret
        exact ⟨rfl, HB.out⟩
      · obtain rfl : t1 = r := Option.some.inj h
        clear h
        go_enter Tryd.func25, Tryd.ntmps25
        go_wp2_with (first | (go_at_call 24; refine (metric_Mark.calls a0 _ _ HM.out HL.out).mono ?_; rintro e w1 ⟨rfl, hb⟩; replace h1 := (hb.cell (World.block_lt_of_cell? w _ h1)).trans h1; replace HB := Aside0.mk hb; clear hb) | (go_at_call 29; refine (PMetricWidths.metric_single.calls 9 a0 _ _ _ HS.out).mono ?_; rintro e w' ⟨rfl, ⟨nd, rfl⟩⟩) | (go_at_call 28; refine (PMetricWidths.metric_within.calls 30 A cap others a0 _ _ _ (Kd.C_below H3.out (pw_below_drewN HB.out nd)) h2 HT.out).mono ?_; rintro e w2 ⟨rfl, hb⟩; replace HB := Aside0.mk (go (pw_below_drewN HB.out nd) hb); clear hb))
        go_ret
        exact ⟨rfl, HB.out⟩
    · obtain rfl : s1 = r := Option.some.inj h
      clear h
      go_enter Tryd.func25, Tryd.ntmps25
      go_wp2_with (first | (go_at_call 24; refine (metric_Mark.calls a0 _ _ HM.out HL.out).mono ?_; rintro e w1 ⟨rfl, hb⟩; replace h1 := (hb.cell (World.block_lt_of_cell? w _ h1)).trans h1; replace HB := Aside0.mk hb; clear hb) | (go_at_call 29; refine (PMetricWidths.metric_single.calls 9 a0 _ _ _ HS.out).mono ?_; rintro e w' ⟨rfl, ⟨nd, rfl⟩⟩))
      go_ret
      exact ⟨rfl, pw_below_drewN HB.out nd⟩
  · obtain rfl : (0 : Int) = r := Option.some.inj h
    clear h
    go_enter Tryd.func25, Tryd.ntmps25
    go_wp2_with (go_at_call 24; refine (metric_Mark.calls a0 _ _ HM.out (HL.out.now (by repeat (first | exact HB.out | apply below_alloc | apply pw_below_drewN | apply below_drew)))).mono ?_; rintro e w' ⟨rfl, hb⟩)
    go_ret
    exact ⟨rfl, hb⟩
end Go.Proofs.YtmoimbopclljeaaDoor.HandMW
