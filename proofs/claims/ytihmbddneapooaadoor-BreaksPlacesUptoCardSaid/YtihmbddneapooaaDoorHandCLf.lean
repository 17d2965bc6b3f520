/- breaks.class: the walks of the text beside put together. -/
import Derived.Test.YtihmbddneapooaaDoorHandCL
namespace Go.Proofs.YtihmbddneapooaaDoor.HandCL
open Go.RowKit Go.Proofs.YtihmbddneapooaaDoorW.PrintWords Go.Proofs.YtihmbddneapooaaDoorW.PrintLast Go.Proofs.YtihmbddneapooaaDoorW.PrintMore Go.Proofs.YtihmbddneapooaaDoor.HandMB
theorem named_goes : ∀ p ∈ named, ∀ w, Goes p.1 p.2 w := by
  intro p hp w
  simp only [named, List.mem_cons, List.not_mem_nil, or_false] at hp
  rcases hp with rfl | rfl | rfl | rfl | rfl | rfl | rfl | rfl | rfl | rfl | rfl | rfl | rfl | rfl | rfl | rfl | rfl | rfl | rfl | rfl | rfl | rfl | rfl | rfl | rfl | rfl | rfl | rfl | rfl | rfl | rfl | rfl | rfl | rfl | rfl | rfl | rfl | rfl | rfl
  · exact at_10 w
  · exact at_32 w
  · exact at_9 w
  · exact at_8203 w
  · exact at_160 w
  · exact at_8239 w
  · exact at_8288 w
  · exact at_65279 w
  · exact at_45 w
  · exact at_8208 w
  · exact at_8211 w
  · exact at_173 w
  · exact at_40 w
  · exact at_91 w
  · exact at_123 w
  · exact at_171 w
  · exact at_191 w
  · exact at_161 w
  · exact at_8216 w
  · exact at_8220 w
  · exact at_12300 w
  · exact at_41 w
  · exact at_93 w
  · exact at_125 w
  · exact at_187 w
  · exact at_44 w
  · exact at_46 w
  · exact at_58 w
  · exact at_59 w
  · exact at_33 w
  · exact at_63 w
  · exact at_8217 w
  · exact at_8221 w
  · exact at_8230 w
  · exact at_12289 w
  · exact at_12290 w
  · exact at_12301 w
  · exact at_65532 w
  · exact at_8205 w
theorem named_look : ∀ p ∈ named, named.lookup p.1 = some p.2 := by decide +kernel
theorem look_none (l : List (Int × Int)) (c : Int) (h : ∀ p ∈ l, c ≠ p.1) : l.lookup c = none := by
  induction l with
  | nil => rfl
  | cons p l ih =>
    obtain ⟨a, b⟩ := p
    rw [List.lookup_cons, beq_eq_false_iff_ne.2 (h (a, b) List.mem_cons_self)]
    exact ih fun q hq => h q (List.mem_cons_of_mem _ hq)
theorem breaks_class.calls (c : Int) (r : Int) (w : World) (h : breaks_class.f c = some r) (hL : LaidW w) :
    Calls Tryd.prog 39 #[.int .i64 c] w fun e w' => e = .returned (.int .i64 r) ∧ Below w.heap.size w w' := by
  by_cases hn : ∀ p ∈ named, c ≠ p.1
  · unfold breaks_class.f at h
    rw [look_none named c hn] at h
    replace h : (if 48 ≤ c ∧ c ≤ 57 then some 11 else if Wide c then some 9 else (metric_Mark.f c).bind fun m => some (if m = true then 10 else 0)) = some r := h
    have mk : ¬ (48 ≤ c ∧ c ≤ 57) → ¬ Wide c → ∃ m, metric_Mark.f c = some m ∧ (if m = true then 10 else 0) = r := fun a b => by
      rw [if_neg a, if_neg b] at h
      obtain ⟨m, hm, e⟩ := Option.bind_eq_some_iff.1 h
      exact ⟨m, hm, Option.some.inj e⟩
    by_cases g0 : c ≤ 47
    · obtain ⟨m, hm, rfl⟩ := mk (by omega) (by unfold Wide; omega)
      exact in_0 c w hn (by omega) m hm hL
    by_cases g1 : c ≤ 57
    · rw [if_pos ⟨by omega, by omega⟩] at h
      obtain rfl := Option.some.inj h
      exact in_1 c w hn (by omega) (by omega)
    by_cases g2 : c ≤ 11903
    · obtain ⟨m, hm, rfl⟩ := mk (by omega) (by unfold Wide; omega)
      exact in_2 c w hn (by omega) (by omega) m hm hL
    by_cases g3 : c ≤ 42191
    · rw [if_neg (by omega), if_pos (by unfold Wide; omega)] at h
      obtain rfl := Option.some.inj h
      exact in_3 c w hn (by omega) (by omega)
    by_cases g4 : c ≤ 44031
    · obtain ⟨m, hm, rfl⟩ := mk (by omega) (by unfold Wide; omega)
      exact in_4 c w hn (by omega) (by omega) m hm hL
    by_cases g5 : c ≤ 55203
    · rw [if_neg (by omega), if_pos (by unfold Wide; omega)] at h
      obtain rfl := Option.some.inj h
      exact in_5 c w hn (by omega) (by omega)
    by_cases g6 : c ≤ 63743
    · obtain ⟨m, hm, rfl⟩ := mk (by omega) (by unfold Wide; omega)
      exact in_6 c w hn (by omega) (by omega) m hm hL
    by_cases g7 : c ≤ 64255
    · rw [if_neg (by omega), if_pos (by unfold Wide; omega)] at h
      obtain rfl := Option.some.inj h
      exact in_7 c w hn (by omega) (by omega)
    by_cases g8 : c ≤ 65279
    · obtain ⟨m, hm, rfl⟩ := mk (by omega) (by unfold Wide; omega)
      exact in_8 c w hn (by omega) (by omega) m hm hL
    by_cases g9 : c ≤ 65376
    · rw [if_neg (by omega), if_pos (by unfold Wide; omega)] at h
      obtain rfl := Option.some.inj h
      exact in_9 c w hn (by omega) (by omega)
    by_cases g10 : c ≤ 131071
    · obtain ⟨m, hm, rfl⟩ := mk (by omega) (by unfold Wide; omega)
      exact in_10 c w hn (by omega) (by omega) m hm hL
    by_cases g11 : c ≤ 262141
    · rw [if_neg (by omega), if_pos (by unfold Wide; omega)] at h
      obtain rfl := Option.some.inj h
      exact in_11 c w hn (by omega) (by omega)
    by_cases g12 : True
    · obtain ⟨m, hm, rfl⟩ := mk (by omega) (by unfold Wide; omega)
      exact in_12 c w hn (by omega) m hm hL
    · exact absurd trivial g12
  · obtain ⟨p, hp, rfl⟩ : ∃ p ∈ named, c = p.1 := Classical.byContradiction fun h' => hn fun p hp e => h' ⟨p, hp, e⟩
    unfold breaks_class.f at h
    rw [named_look p hp] at h
    obtain rfl := Option.some.inj h
    exact named_goes p hp w
end Go.Proofs.YtihmbddneapooaaDoor.HandCL
