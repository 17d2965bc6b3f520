/- Walked by hand: pattern.Lower over its package-level table: given that the table lies in memory as its initialiser lays it, Lower answers as the plain function 'lower', and changes nothing that was there. -/
import Derived.Test.YtihmbddneapooaaDoorPPatternCharactersx1
import Derived.Test.YtihmbddneapooaaDoorTables
import Derived.Test.YtihmbddneapooaaDoorLib
import Derived.Outline
namespace Go.Proofs.YtihmbddneapooaaDoor.Hand
open Go.RowKit Go.Proofs.YtihmbddneapooaaDoorW.PrintWords Go.Proofs.YtihmbddneapooaaDoorW.PrintLast Go.Proofs.YtihmbddneapooaaDoorW.PrintMore
set_option linter.unusedVariables false
structure Sp where
  f0 : Int
  f1 : Int
  f2 : Int
def kSp : Kd Sp := Kd.iso (Kd.pair (Kd.int .i64) (Kd.pair (Kd.int .i64) (Kd.int .i64))) (fun x : Sp => (x.f0, x.f1, x.f2))
theorem kSp_open {w : World} {x : Sp} {cs : List Value} (h : kSp.K w x cs) : cs = [.int .i64 x.f0, .int .i64 x.f1, .int .i64 x.f2] := by
  obtain ⟨_, _, rfl, rfl, ⟨_, _, rfl, rfl, rfl⟩⟩ := h
  exact rfl
theorem kSp_at {w : World} {A : Option Addr} {n : Nat} {xs : List Sp} (h : Kd.C kSp w A n xs) (i : Nat) (x : Sp) (hx : xs[i]? = some x) (hn : i < n) : ∃ ad , A = some ad ∧ w.cell? (ad.add (i * 3)) = some (.int .i64 x.f0) ∧ w.cell? ⟨(ad.add (i * 3)).block, (ad.add (i * 3)).off + 1, none⟩ = some (.int .i64 x.f1) ∧ w.cell? ⟨(ad.add (i * 3)).block, (ad.add (i * 3)).off + 2, none⟩ = some (.int .i64 x.f2) := by
  obtain ⟨ad, e, hc⟩ := h.2.2 (by omega)
  obtain ⟨c, _, hK, hcell⟩ := hc i x hx
  have hc : ∀ j u, c[j]? = some u → w.cell? (ad.add (i * 3 + j)) = some u := hcell
  obtain rfl := kSp_open hK
  exact ⟨ad, e, hc 0 _ rfl, by rw [← add_field _ _ 1 (by omega)]; exact hc 1 _ rfl, by rw [← add_field _ _ 2 (by omega)]; exact hc 2 _ rfl⟩
/-- The first range that has the number, and the number moved by its distance. -/
def lowerL : List Sp → Int → Int
  | [], c => c
  | x :: l, c => if x.f0 ≤ c ∧ c ≤ x.f1 then wrap64 (c + x.f2) else lowerL l c
theorem ret_int {k : IntKind} {a b : Int} (h : a = b) : Ending.returned (.int k a) = .returned (.int k b) := by rw [h]
def cases : List Sp := [⟨65, 90, 32⟩, ⟨192, 214, 32⟩, ⟨216, 222, 32⟩, ⟨913, 929, 32⟩, ⟨931, 937, 32⟩, ⟨1024, 1039, 80⟩, ⟨1040, 1071, 32⟩]
def letters : List PPatternCharacters.S68 := [⟨48, 57⟩, ⟨65, 90⟩, ⟨95, 95⟩, ⟨97, 122⟩, ⟨192, 591⟩, ⟨880, 1535⟩]
theorem drop_at {L : List Sp} {k : Nat} {x : Sp} (h : L[k]? = some x) : L.drop k = x :: L.drop (k + 1) := by
  obtain ⟨hk, e⟩ := List.getElem?_eq_some_iff.1 h
  rw [List.drop_eq_getElem_cons hk, e]
set_option maxHeartbeats 1000000 in
theorem lower_any (L : List Sp) (c : Int) (w : World) (A : Option Addr) (cap : Nat) (hL : L.length ≤ 1000) (hg : w.cell? ⟨0, 0, none⟩ = some (.slice A L.length cap)) (hr : Kd.C kSp w A L.length L) :
    Calls Tryd.prog 7 #[.int .i64 c] w fun e w' => e = .returned (.int .i64 (lowerL L c)) ∧ Below w.heap.size w w' := by
  have HR := Aside0.mk hr
  clear hr
  have HB := Aside0.mk (Below.refl w.heap.size w)
  go_enter Tryd.func7, Tryd.ntmps7
  go_wp2
  go_loopw [7] (fun v7 w' => ∃ k : Nat, k ≤ L.length ∧ v7 = .int .i64 (k : Int) ∧ Aside0 (lowerL (L.drop k) c = lowerL L c) ∧ Aside0 (Below w.heap.size w w')) (fun v7 _ => L.length - (intOf v7).toNat)
  case atStart => exact ⟨0, by omega, rfl, ⟨rfl⟩, HB⟩
  case round =>
    obtain ⟨k, hk, rfl, HE, HB⟩ := hrel
    by_cases hlt : k < L.length
    · obtain ⟨x, hx⟩ : ∃ x, L[k]? = some x := ⟨_, List.getElem?_eq_getElem hlt⟩
      obtain ⟨ad, rfl, h0, h1, h2⟩ := kSp_at HR.out k x hx hlt
      have HX := Aside0.mk hx
      clear hx
      replace h0 := (HB.out.cell (World.block_lt_of_cell? w _ h0)).trans h0
      replace h1 := (HB.out.cell (World.block_lt_of_cell? w _ h1)).trans h1
      replace h2 := (HB.out.cell (World.block_lt_of_cell? w _ h2)).trans h2
      have HN : Aside0 (lowerL (L.drop k) c = if x.f0 ≤ c ∧ c ≤ x.f1 then wrap64 (c + x.f2) else lowerL (L.drop (k + 1)) c) := ⟨by rw [drop_at HX.out]; rfl⟩
      by_cases c0 : x.f0 ≤ c
      · by_cases c1 : c ≤ x.f1
        · go_wp2
          go_ret
          exact ⟨ret_int (by rw [← HE.out, HN.out, if_pos ⟨c0, c1⟩]), by repeat (first | exact HB.out | apply below_alloc | apply pw_below_drewN | apply below_drew)⟩
        · go_wp2
          go_roundw
          case rel => exact ⟨k + 1, by omega, by go_num, ⟨by rw [← HE.out, HN.out, if_neg (fun h => c1 h.2)]⟩, ⟨by repeat (first | exact HB.out | apply below_alloc | apply pw_below_drewN | apply below_drew)⟩⟩
          case measure => simp [intOf]; omega
      · go_wp2
        go_roundw
        case rel => exact ⟨k + 1, by omega, by go_num, ⟨by rw [← HE.out, HN.out, if_neg (fun h => c0 h.1)]⟩, ⟨by repeat (first | exact HB.out | apply below_alloc | apply pw_below_drewN | apply below_drew)⟩⟩
        case measure => simp [intOf]; omega
    · go_wp2
      go_ret
      exact ⟨ret_int (by rw [← HE.out, show L.drop k = [] from List.drop_eq_nil_of_le (by omega)]; rfl), HB.out⟩
/-- What lies in memory: the package's two tables. -/
structure LaidW (w : World) : Prop where
  cases : ∃ A cap, w.cell? ⟨0, 0, none⟩ = some (.slice A cases.length cap) ∧ Kd.C kSp w A cases.length cases
  letters : ∃ A cap, w.cell? ⟨1, 0, none⟩ = some (.slice A letters.length cap) ∧ letters.length ≤ cap ∧ Kd.C PPatternCharacters.k68 w A letters.length letters
theorem LaidW.now {w w1 : World} (h : LaidW w) (hb : Below w.heap.size w w1) : LaidW w1 := by
  obtain ⟨⟨A, cap, h1, h2⟩, ⟨A', cap', h3, h4, h5⟩⟩ := h
  exact ⟨⟨A, cap, (hb.cell (World.block_lt_of_cell? w _ h1)).trans h1, Kd.C_below h2 hb⟩, ⟨A', cap', (hb.cell (World.block_lt_of_cell? w _ h3)).trans h3, h4, Kd.C_below h5 hb⟩⟩
theorem LaidW.drewN {w : World} (h : LaidW w) (n : Nat) : LaidW (w.drewN n) := h.now (pw_below_drewN (Below.refl _ _) n)
theorem LaidW.drew {w : World} (h : LaidW w) : LaidW w.drew := h.now (below_drew (Below.refl _ _))
theorem LaidW.alloc {w : World} (h : LaidW w) (o : Obj) : LaidW (w.alloc o) := h.now (below_alloc (Below.refl _ _) o)
def pattern_Lower.f (a0 : Int) : Option Int := some (lowerL cases a0)
theorem pattern_Lower.calls (a0 : Int) (r : Int) (w : World) (h : pattern_Lower.f a0 = some r) (hL : LaidW w) :
    Calls Tryd.prog 7 #[.int .i64 a0] w fun e w' => e = .returned (.int .i64 r) ∧ Below w.heap.size w w' := by
  obtain ⟨⟨A, cap, h1, h2⟩, _⟩ := hL
  obtain rfl : lowerL cases a0 = r := Option.some.inj h
  exact lower_any cases a0 w A cap (by decide) h1 h2
def pattern_Word.f (a0 : Int) : Option Bool := PPatternCharacters.pattern_holds.f 20 0 false false 0 0 letters [] a0
theorem pattern_Word.calls (a0 : Int) (r : Bool) (w : World) (h : pattern_Word.f a0 = some r) (hL : LaidW w) :
    Calls Tryd.prog 8 #[.int .i64 a0] w fun e w' => e = .returned (.bool r) ∧ Below w.heap.size w w' := by
  obtain ⟨_, ⟨A, cap, h1, h2, h3⟩⟩ := hL
  have H3 := Aside0.mk h3
  have H := Aside0.mk h
  have HB := Aside0.mk (Below.refl w.heap.size w)
  clear h3 h
  go_enter Tryd.func8, Tryd.ntmps8
  go_wp2_with (go_at_call 26; refine (PPatternCharacters.pattern_holds.calls 20 0 false false 0 0 A cap letters none 0 [] a0 r _ H3.out h2 (Kd.C_nil _ _) (Nat.le_refl _) H.out).mono ?_; rintro e w' ⟨rfl, hb⟩)
  go_ret
  exact ⟨rfl, hb⟩
end Go.Proofs.YtihmbddneapooaaDoor.Hand
