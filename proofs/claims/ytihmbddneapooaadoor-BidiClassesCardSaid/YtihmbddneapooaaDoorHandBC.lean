/- Walked by hand: bidi.Class and bidi.Mirror over their package-level tables: given that the tables lie in memory as their initialisers lay them, they answer as the plain functions 'firstL' and 'mirrorL', and change nothing that was there. -/
import Derived.Test.YtihmbddneapooaaDoorPBidiClassesx0
import Derived.Test.YtihmbddneapooaaDoorTables
import Derived.Test.YtihmbddneapooaaDoorLib
import Derived.Outline
namespace Go.Proofs.YtihmbddneapooaaDoor.HandBC
open Go.RowKit Go.Proofs.YtihmbddneapooaaDoorW.PrintWords Go.Proofs.YtihmbddneapooaaDoorW.PrintLast Go.Proofs.YtihmbddneapooaaDoorW.PrintMore
set_option linter.unusedVariables false
structure Sp where
  f0 : Int
  f1 : Int
  f2 : Int
def kSp : Kd Sp := Kd.iso (Kd.pair (Kd.int .i64) (Kd.pair (Kd.int .i64) (Kd.int .i64))) (fun x : Sp => (x.f0, x.f1, x.f2))
theorem kSp_open {w : World} {x : Sp} {cs : List Value} (h : kSp.K w x cs) : cs = [.int .i64 x.f0, .int .i64 x.f1, .int .i64 x.f2] := by
  obtain ⟨_, _, rfl, rfl, ⟨_, _, rfl, rfl, rfl⟩⟩ := h
  exact rfl
theorem kSp_at {w : World} {A : Option Addr} {n : Nat} {xs : List Sp} (h : Kd.C kSp w A n xs) (i : Nat) (x : Sp) (hx : xs[i]? = some x) (hn : i < n) : ∃ ad , A = some ad ∧ w.cell? (ad.add (i * 3)) = some (.int .i64 x.f0) ∧ w.cell? ⟨(ad.add (i * 3)).block, (ad.add (i * 3)).off + 1, none⟩ = some (.int .i64 x.f1) ∧ w.cell? ⟨(ad.add (i * 3)).block, (ad.add (i * 3)).off + 2, none⟩ = some (.int .i64 x.f2) := by
  obtain ⟨ad, e, hc⟩ := h.2.2 (by omega)
  obtain ⟨c, _, hK, hcell⟩ := hc i x hx
  have hc : ∀ j u, c[j]? = some u → w.cell? (ad.add (i * 3 + j)) = some u := hcell
  obtain rfl := kSp_open hK
  exact ⟨ad, e, hc 0 _ rfl, by rw [← add_field _ _ 1 (by omega)]; exact hc 1 _ rfl, by rw [← add_field _ _ 2 (by omega)]; exact hc 2 _ rfl⟩
/-- A pair of numbers: an array of two. -/
def kPr : Kd (Int × Int) := Kd.pair (Kd.int .i64) (Kd.int .i64)
theorem kPr_at {w : World} {A : Option Addr} {n : Nat} {xs : List (Int × Int)} (h : Kd.C kPr w A n xs) (i : Nat) (x : Int × Int) (hx : xs[i]? = some x) (hn : i < n) : ∃ ad , A = some ad ∧ w.cell? (ad.add (i * 2)) = some (.int .i64 x.1) ∧ w.cell? ⟨(ad.add (i * 2)).block, (ad.add (i * 2)).off + 1, none⟩ = some (.int .i64 x.2) := by
  obtain ⟨ad, e, hc⟩ := h.2.2 (by omega)
  obtain ⟨c, _, hK, hcell⟩ := hc i x hx
  have hc : ∀ j u, c[j]? = some u → w.cell? (ad.add (i * 2 + j)) = some u := hcell
  obtain ⟨_, _, rfl, rfl, rfl⟩ := hK
  exact ⟨ad, e, hc 0 _ rfl, by rw [← add_field _ _ 1 (by omega)]; exact hc 1 _ rfl⟩
/-- The class of the first range that has the number, or 0. -/
def firstL : List Sp → Int → Int
  | [], _ => 0
  | x :: l, c => if x.f0 ≤ c ∧ c ≤ x.f1 then x.f2 else firstL l c
/-- The other one of the first pair that has the number, or the number. -/
def mirrorL : List (Int × Int) → Int → Int
  | [], c => c
  | x :: l, c => if c = x.1 then x.2 else if c = x.2 then x.1 else mirrorL l c
theorem ret_int {k : IntKind} {a b : Int} (h : a = b) : Ending.returned (.int k a) = .returned (.int k b) := by rw [h]
theorem drop_at {α : Type} {L : List α} {k : Nat} {x : α} (h : L[k]? = some x) : L.drop k = x :: L.drop (k + 1) := by
  obtain ⟨hk, e⟩ := List.getElem?_eq_some_iff.1 h
  rw [List.drop_eq_getElem_cons hk, e]
set_option maxHeartbeats 1000000 in
theorem class_any (L : List Sp) (c : Int) (w : World) (A : Option Addr) (cap : Nat) (hL : L.length ≤ 1000) (hg : w.cell? ⟨2, 0, none⟩ = some (.slice A L.length cap)) (hr : Kd.C kSp w A L.length L) :
    Calls Tryd.prog 12 #[.int .i64 c] w fun e w' => e = .returned (.int .i64 (firstL L c)) ∧ Below w.heap.size w w' := by
  have HR := Aside0.mk hr
  clear hr
  have HB := Aside0.mk (Below.refl w.heap.size w)
  go_enter Tryd.func12, Tryd.ntmps12
  go_wp2
  go_loopw [7] (fun v7 w' => ∃ k : Nat, k ≤ L.length ∧ v7 = .int .i64 (k : Int) ∧ Aside0 (firstL (L.drop k) c = firstL L c) ∧ Aside0 (Below w.heap.size w w')) (fun v7 _ => L.length - (intOf v7).toNat)
  case atStart => exact ⟨0, by omega, rfl, ⟨rfl⟩, HB⟩
  case round =>
    obtain ⟨k, hk, rfl, HE, HB⟩ := hrel
    by_cases hlt : k < L.length
    · obtain ⟨x, hx⟩ : ∃ x, L[k]? = some x := ⟨_, List.getElem?_eq_getElem hlt⟩
      obtain ⟨ad, rfl, h0, h1, h2⟩ := kSp_at HR.out k x hx hlt
      have HX := Aside0.mk hx
      clear hx
      replace h0 := (HB.out.cell (World.block_lt_of_cell? w _ h0)).trans h0
      replace h1 := (HB.out.cell (World.block_lt_of_cell? w _ h1)).trans h1
      replace h2 := (HB.out.cell (World.block_lt_of_cell? w _ h2)).trans h2
      have HN : Aside0 (firstL (L.drop k) c = if x.f0 ≤ c ∧ c ≤ x.f1 then x.f2 else firstL (L.drop (k + 1)) c) := ⟨by rw [drop_at HX.out]; rfl⟩
      by_cases c0 : x.f0 ≤ c
      · by_cases c1 : c ≤ x.f1
        · go_wp2
          go_ret
          exact ⟨ret_int (by rw [← HE.out, HN.out, if_pos ⟨c0, c1⟩]), by repeat (first | exact HB.out | apply below_alloc | apply pw_below_drewN | apply below_drew)⟩
        · go_wp2
          go_roundw
          case rel => exact ⟨k + 1, by omega, by go_num, ⟨by rw [← HE.out, HN.out, if_neg (fun h => c1 h.2)]⟩, ⟨by repeat (first | exact HB.out | apply below_alloc | apply pw_below_drewN | apply below_drew)⟩⟩
          case measure => simp [intOf]; omega
      · go_wp2
        go_roundw
        case rel => exact ⟨k + 1, by omega, by go_num, ⟨by rw [← HE.out, HN.out, if_neg (fun h => c0 h.1)]⟩, ⟨by repeat (first | exact HB.out | apply below_alloc | apply pw_below_drewN | apply below_drew)⟩⟩
        case measure => simp [intOf]; omega
    · go_wp2
      go_ret
      exact ⟨ret_int (by rw [← HE.out, show L.drop k = [] from List.drop_eq_nil_of_le (by omega)]; rfl), HB.out⟩
set_option maxHeartbeats 1000000 in
theorem mirror_any (L : List (Int × Int)) (c : Int) (w : World) (A : Option Addr) (cap : Nat) (hL : L.length ≤ 1000) (hg : w.cell? ⟨3, 0, none⟩ = some (.slice A L.length cap)) (hr : Kd.C kPr w A L.length L) :
    Calls Tryd.prog 13 #[.int .i64 c] w fun e w' => e = .returned (.int .i64 (mirrorL L c)) ∧ Below w.heap.size w w' := by
  have HR := Aside0.mk hr
  clear hr
  have HB := Aside0.mk (Below.refl w.heap.size w)
  go_enter Tryd.func13, Tryd.ntmps13
  go_wp2
  go_loopw [7] (fun v7 w' => ∃ k : Nat, k ≤ L.length ∧ v7 = .int .i64 (k : Int) ∧ Aside0 (mirrorL (L.drop k) c = mirrorL L c) ∧ Aside0 (Below w.heap.size w w')) (fun v7 _ => L.length - (intOf v7).toNat)
  case atStart => exact ⟨0, by omega, rfl, ⟨rfl⟩, HB⟩
  case round =>
    obtain ⟨k, hk, rfl, HE, HB⟩ := hrel
    by_cases hlt : k < L.length
    · obtain ⟨x, hx⟩ : ∃ x, L[k]? = some x := ⟨_, List.getElem?_eq_getElem hlt⟩
      obtain ⟨ad, rfl, h0, h1⟩ := kPr_at HR.out k x hx hlt
      have HX := Aside0.mk hx
      clear hx
      replace h0 := (HB.out.cell (World.block_lt_of_cell? w _ h0)).trans h0
      replace h1 := (HB.out.cell (World.block_lt_of_cell? w _ h1)).trans h1
      have HN : Aside0 (mirrorL (L.drop k) c = if c = x.1 then x.2 else if c = x.2 then x.1 else mirrorL (L.drop (k + 1)) c) := ⟨by rw [drop_at HX.out]; rfl⟩
      by_cases c0 : c = x.1
      · have c0b : (c == x.1) = true := beq_iff_eq.2 c0
        have C0 := Aside0.mk c0
        clear c0
        go_wp2
        go_ret
        exact ⟨ret_int (by rw [← HE.out, HN.out, if_pos C0.out]), by repeat (first | exact HB.out | apply below_alloc | apply pw_below_drewN | apply below_drew)⟩
      · have c0b : (c == x.1) = false := beq_eq_false_iff_ne.2 c0
        have C0 := Aside0.mk c0
        clear c0
        by_cases c1 : c = x.2
        · have c1b : (c == x.2) = true := beq_iff_eq.2 c1
          have C1 := Aside0.mk c1
          clear c1
          go_wp2
          go_ret
          exact ⟨ret_int (by rw [← HE.out, HN.out, if_neg C0.out, if_pos C1.out]), by repeat (first | exact HB.out | apply below_alloc | apply pw_below_drewN | apply below_drew)⟩
        · have c1b : (c == x.2) = false := beq_eq_false_iff_ne.2 c1
          have C1 := Aside0.mk c1
          clear c1
          go_wp2
          go_roundw
          case rel => exact ⟨k + 1, by omega, by go_num, ⟨by rw [← HE.out, HN.out, if_neg C0.out, if_neg C1.out]⟩, ⟨by repeat (first | exact HB.out | apply below_alloc | apply pw_below_drewN | apply below_drew)⟩⟩
          case measure => simp [intOf]; omega
    · go_wp2
      go_ret
      exact ⟨ret_int (by rw [← HE.out, show L.drop k = [] from List.drop_eq_nil_of_le (by omega)]; rfl), HB.out⟩
def table : List Sp := [⟨9, 9, 11⟩, ⟨10, 10, 10⟩, ⟨0, 31, 9⟩, ⟨32, 32, 12⟩, ⟨35, 37, 5⟩, ⟨43, 43, 4⟩, ⟨45, 45, 4⟩, ⟨44, 44, 7⟩, ⟨46, 47, 7⟩, ⟨58, 58, 7⟩, ⟨48, 57, 3⟩, ⟨33, 64, 13⟩, ⟨91, 96, 13⟩, ⟨123, 126, 13⟩, ⟨127, 159, 9⟩, ⟨160, 160, 7⟩, ⟨162, 165, 5⟩, ⟨173, 173, 9⟩, ⟨176, 177, 5⟩, ⟨170, 170, 0⟩, ⟨181, 181, 0⟩, ⟨186, 186, 0⟩, ⟨161, 191, 13⟩, ⟨215, 215, 13⟩, ⟨247, 247, 13⟩, ⟨768, 879, 8⟩, ⟨1425, 1469, 8⟩, ⟨1471, 1471, 8⟩, ⟨1473, 1474, 8⟩, ⟨1424, 1535, 1⟩, ⟨1552, 1562, 8⟩, ⟨1611, 1631, 8⟩, ⟨1632, 1641, 6⟩, ⟨1643, 1644, 6⟩, ⟨1776, 1785, 3⟩, ⟨1536, 1983, 2⟩, ⟨1984, 2143, 1⟩, ⟨2144, 2303, 2⟩, ⟨8192, 8202, 12⟩, ⟨8203, 8205, 9⟩, ⟨8206, 8206, 0⟩, ⟨8207, 8207, 1⟩, ⟨8234, 8234, 14⟩, ⟨8235, 8235, 15⟩, ⟨8236, 8236, 18⟩, ⟨8237, 8237, 16⟩, ⟨8238, 8238, 17⟩, ⟨8239, 8239, 7⟩, ⟨8288, 8293, 9⟩, ⟨8294, 8294, 19⟩, ⟨8295, 8295, 20⟩, ⟨8296, 8296, 21⟩, ⟨8297, 8297, 22⟩, ⟨8352, 8399, 5⟩, ⟨8208, 8287, 13⟩, ⟨8592, 11263, 13⟩, ⟨12288, 12288, 12⟩, ⟨12289, 12292, 13⟩, ⟨12296, 12320, 13⟩, ⟨64285, 64335, 1⟩, ⟨64336, 65023, 2⟩, ⟨65024, 65039, 8⟩, ⟨65136, 65278, 2⟩, ⟨65279, 65279, 9⟩, ⟨65529, 65533, 13⟩]
def brackets : List (Int × Int) := [(40, 41), (91, 93), (123, 125), (12300, 12301), (60, 62), (171, 187), (8249, 8250)]
/-- What lies in memory: the package's two tables. -/
structure LaidW (w : World) : Prop where
  table : ∃ A cap, w.cell? ⟨2, 0, none⟩ = some (.slice A table.length cap) ∧ Kd.C kSp w A table.length table
  brackets : ∃ A cap, w.cell? ⟨3, 0, none⟩ = some (.slice A brackets.length cap) ∧ Kd.C kPr w A brackets.length brackets
theorem LaidW.now {w w1 : World} (h : LaidW w) (hb : Below w.heap.size w w1) : LaidW w1 := by
  obtain ⟨⟨A, cap, h1, h2⟩, ⟨A', cap', h3, h5⟩⟩ := h
  exact ⟨⟨A, cap, (hb.cell (World.block_lt_of_cell? w _ h1)).trans h1, Kd.C_below h2 hb⟩, ⟨A', cap', (hb.cell (World.block_lt_of_cell? w _ h3)).trans h3, Kd.C_below h5 hb⟩⟩
theorem LaidW.drewN {w : World} (h : LaidW w) (n : Nat) : LaidW (w.drewN n) := h.now (pw_below_drewN (Below.refl _ _) n)
theorem LaidW.drew {w : World} (h : LaidW w) : LaidW w.drew := h.now (below_drew (Below.refl _ _))
theorem LaidW.alloc {w : World} (h : LaidW w) (o : Obj) : LaidW (w.alloc o) := h.now (below_alloc (Below.refl _ _) o)
def bidi_Class.f (a0 : Int) : Option Int := some (firstL table a0)
theorem bidi_Class.calls (a0 : Int) (r : Int) (w : World) (h : bidi_Class.f a0 = some r) (hL : LaidW w) :
    Calls Tryd.prog 12 #[.int .i64 a0] w fun e w' => e = .returned (.int .i64 r) ∧ Below w.heap.size w w' := by
  obtain ⟨⟨A, cap, h1, h2⟩, _⟩ := hL
  obtain rfl : firstL table a0 = r := Option.some.inj h
  exact class_any table a0 w A cap (by decide) h1 h2
def bidi_Mirror.f (a0 : Int) : Option Int := some (mirrorL brackets a0)
theorem bidi_Mirror.calls (a0 : Int) (r : Int) (w : World) (h : bidi_Mirror.f a0 = some r) (hL : LaidW w) :
    Calls Tryd.prog 13 #[.int .i64 a0] w fun e w' => e = .returned (.int .i64 r) ∧ Below w.heap.size w w' := by
  obtain ⟨_, ⟨A, cap, h1, h2⟩⟩ := hL
  obtain rfl : mirrorL brackets a0 = r := Option.some.inj h
  exact mirror_any brackets a0 w A cap (by decide) h1 h2
end Go.Proofs.YtihmbddneapooaaDoor.HandBC
