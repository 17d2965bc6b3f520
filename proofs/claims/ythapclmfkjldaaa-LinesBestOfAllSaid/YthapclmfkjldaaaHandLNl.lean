import Derived.Test.YthapclmfkjldaaaHandLNk
namespace Go.Proofs.Ythapclmfkjldaaa.HandLN
set_option linter.unusedSectionVars false
set_option linter.unusedVariables false
set_option linter.unusedSimpArgs false
open Go.Proofs.Ythapclmfkjldaaa.Lib (w64)
open Go.RowKit Go.Proofs.YthapclmfkjldaaaW.PrintWords Go.Proofs.YthapclmfkjldaaaW.PrintLast Go.Proofs.YthapclmfkjldaaaW.PrintMore Go.Proofs.Ythapclmfkjldaaa.QLN Go.Proofs.Ythapclmfkjldaaa.LinesP
attribute [local go_sem] max2_int min2_int max_two min_two
set_option maxHeartbeats 2000000 in
set_option maxRecDepth 100000 in
theorem break_err (A0 : Option Addr) (c0 : Nat) (L : List S49) (A1 : Option Addr) (c1 : Nat) (W : List Int) (D : Int) (k0 : Nat) (er : Int) (w : World) (hL : Kd.C k49 w A0 L.length L) (hc : L.length ≤ c0) (hW0 : kI.C w A1 W.length W) (hcw : W.length ≤ c1) (hk : lines_check.f k0 L W D = some er) (hne : er ≠ 0) :
    Calls Try.prog 7 #[.slice A0 L.length c0, .agg #[.slice A1 W.length c1, .int .i64 D]] w fun e w' => e = .returned (.tuple #[.slice none 0 0, .int .i64 0, .int .i64 er]) ∧ Below w.heap.size w w' := by
 have hu25 := Try.underlying25
 have HL := Aside0.mk hL
 have HW0 := Aside0.mk hW0
 have HB := Aside0.mk (Below.refl w.heap.size w)
 have HCK := Aside0.mk (fun W2 h1 h2 => lines_check.calls k0 A0 c0 L A1 c1 W D er W2 h1 hc h2 hcw hk)
 have hnb : (er != 0) = true := bne_iff_ne.2 hne
 clear hL hW0 hk hne
 go_enter Try.func7, Try.ntmps7
 go_wp2_with (first
  | ((with_reducible refine gate_dst (N := 3) rfl ?_); refine box_event ?hg (N := 3) ?hd (cs := #[.slice A1 W.length c1, .int .i64 D]) (t := 25) ?hr ?_; (case hd => rfl); (case hg => rfl); (case hr => first | (go_simp; done) | (go_simp; rfl)); intro g3 hg wb3 hbox hb; (have hbb3 := below_step HB.out hb); clear HB; (have HB := Aside0.mk hbb3); (have H3 := Aside0.mk hbox); (have hs3_0 : wb3.cell? ⟨g3, 0, none⟩ = some (.slice A1 W.length c1) := (blk_cell hbox 0).trans rfl); (have hs3_1 : wb3.cell? ⟨g3, 1, none⟩ = some (.int .i64 D) := (blk_cell hbox 1).trans rfl); clear hg hbox hb hbb3)
  | (go_at_call 21; refine (HCK.out _ (Kd.C_below HL.out HB.out) (Kd.C_below HW0.out HB.out)).mono ?_; rintro e wck ⟨rfl, hb⟩; (have hbb3 := below_step HB.out hb); clear HB H3 hs3_0 hs3_1; (have HB := Aside0.mk hbb3); clear hb hbb3))
 (try simp only [Act.put, List.setIfInBounds_toArray, List.set_cons_zero, List.set_cons_succ])
 go_ret3
 exact ⟨rfl, HB.out⟩
def fineSB (W : List Int) (D : Int) : Bool := decide (1 ≤ W.length ∧ W.length ≤ 20) && W.all (fun x => decide (1 ≤ x ∧ x ≤ 100000)) && decide (0 ≤ D ∧ D ≤ 1000000)
theorem fineS_of (W : List Int) (D : Int) (h : fineSB W D = true) : FineS W D := by
 unfold fineSB at h
 rw [Bool.and_eq_true, Bool.and_eq_true, decide_eq_true_eq, decide_eq_true_eq, List.all_eq_true] at h
 exact ⟨h.1.1.1, h.1.1.2, fun i i0 i1 => of_decide_eq_true (h.1.2 (rd W i) (Lib.rd_mem i1 i0)), h.2.1, h.2.2⟩
def lines_Break.f (k : Nat) (l0 : List S49) (l1_0 : List Int) (a1_1 : Int) : Option (List S41 × Int × Int) :=
 (lines_check.f k l0 l1_0 a1_1).bind fun e => if e = 0 then (if (fineB l0 && fineSB l1_0 a1_1) = true then some (wayP l0 l1_0 a1_1, (bestP l0 l1_0 a1_1 (begL l0) 0 false).2.1, 0) else none) else some ([], 0, e)
theorem lines_Break.mono : ∀ a0 a1 a2 k, LeO (lines_Break.f k a0 a1 a2) (lines_Break.f (k + 1) a0 a1 a2) := by
 intro a0 a1 a2 k r h
 unfold lines_Break.f at h ⊢
 obtain ⟨e, he, h⟩ := Option.bind_eq_some_iff.1 h
 exact Option.bind_eq_some_iff.2 ⟨e, lines_check.mono a0 a1 a2 k e he, h⟩
theorem lines_Break.calls (k : Nat) (A0 : Option Addr) (c0 : Nat) (l0 : List S49) (A1_0 : Option Addr) (c1_0 : Nat) (l1_0 : List Int) (a1_1 : Int) (r1 : List S41) (r2 r3 : Int) (w : World) (hr0 : Kd.C k49 w A0 l0.length l0) (hc0 : l0.length ≤ c0) (hr1_0 : Kd.C (Kd.int .i64) w A1_0 l1_0.length l1_0) (hc1_0 : l1_0.length ≤ c1_0) (h : lines_Break.f k l0 l1_0 a1_1 = some (r1, r2, r3)) :
    Calls Try.prog 7 #[.slice A0 l0.length c0, .agg #[.slice A1_0 l1_0.length c1_0, .int .i64 a1_1]] w fun e w' => ∃ v0_ : Value, e = .returned (.tuple #[v0_, .int .i64 r2, .int .i64 r3]) ∧ Kd.R k41 41 w' w.heap.size (fun _ => True) v0_ r1 ∧ Below w.heap.size w w' := by
 unfold lines_Break.f at h
 obtain ⟨e, he, h⟩ := Option.bind_eq_some_iff.1 h
 by_cases e0 : e = 0
 · subst e0
   rw [if_pos rfl] at h
   by_cases hf : (fineB l0 && fineSB l1_0 a1_1) = true
   · rw [if_pos hf] at h
     simp only [Option.some.injEq, Prod.mk.injEq] at h
     obtain ⟨rfl, rfl, rfl⟩ := h
     rw [Bool.and_eq_true] at hf
     exact break_ok l0 l1_0 a1_1 (fine_of l0 hf.1) (fineS_of l1_0 a1_1 hf.2) A0 c0 A1_0 c1_0 k w hr0 hc0 hr1_0 hc1_0 he
   · rw [if_neg hf] at h
     cases h
 · rw [if_neg e0] at h
   simp only [Option.some.injEq, Prod.mk.injEq] at h
   obtain ⟨rfl, rfl, rfl⟩ := h
   refine (break_err A0 c0 l0 A1_0 c1_0 l1_0 a1_1 k e w hr0 hc0 hr1_0 hc1_0 he e0).mono ?_
   rintro e' w' ⟨rfl, hb⟩
   exact ⟨_, rfl, Kd.R_nil _ _ _ _ _, hb⟩
end Go.Proofs.Ythapclmfkjldaaa.HandLN
