import Derived.Test.YthapclmfkjldaaaHandLNn
namespace Go.Proofs.Ythapclmfkjldaaa.HandLN
set_option linter.unusedSectionVars false
set_option linter.unusedVariables false
set_option linter.unusedSimpArgs false
open Go.Proofs.Ythapclmfkjldaaa.Lib (w64)
open Go.RowKit Go.Proofs.YthapclmfkjldaaaW.PrintWords Go.Proofs.YthapclmfkjldaaaW.PrintLast Go.Proofs.YthapclmfkjldaaaW.PrintMore Go.Proofs.Ythapclmfkjldaaa.QLN Go.Proofs.Ythapclmfkjldaaa.LinesP
attribute [local go_sem] max2_int min2_int max_two min_two
set_option maxHeartbeats 2000000 in
set_option maxRecDepth 100000 in
theorem greedy_err (A0 : Option Addr) (c0 : Nat) (L : List S49) (A1 : Option Addr) (c1 : Nat) (W : List Int) (D : Int) (k0 : Nat) (er : Int) (w : World) (hL : Kd.C k49 w A0 L.length L) (hc : L.length ≤ c0) (hW0 : kI.C w A1 W.length W) (hcw : W.length ≤ c1) (hk : lines_check.f k0 L W D = some er) (hne : er ≠ 0) :
    Calls Try.prog 11 #[.slice A0 L.length c0, .agg #[.slice A1 W.length c1, .int .i64 D]] w fun e w' => e = .returned (.tuple #[.slice none 0 0, .int .i64 0, .int .i64 er]) ∧ Below w.heap.size w w' := by
 have hu25 := Try.underlying25
 have HL := Aside0.mk hL
 have HW0 := Aside0.mk hW0
 have HB := Aside0.mk (Below.refl w.heap.size w)
 have HCK := Aside0.mk (fun W2 h1 h2 => lines_check.calls k0 A0 c0 L A1 c1 W D er W2 h1 hc h2 hcw hk)
 have hnb : (er != 0) = true := bne_iff_ne.2 hne
 clear hL hW0 hk hne
 go_enter Try.func11, Try.ntmps11
 go_wp2_with (first
  | ((with_reducible refine gate_dst (N := 3) rfl ?_); refine box_event ?hg (N := 3) ?hd (cs := #[.slice A1 W.length c1, .int .i64 D]) (t := 25) ?hr ?_; (case hd => rfl); (case hg => rfl); (case hr => first | (go_simp; done) | (go_simp; rfl)); intro g3 hg wb3 hbox hb; (have hbb3 := below_step HB.out hb); clear HB; (have HB := Aside0.mk hbb3); (have H3 := Aside0.mk hbox); (have hs3_0 : wb3.cell? ⟨g3, 0, none⟩ = some (.slice A1 W.length c1) := (blk_cell hbox 0).trans rfl); (have hs3_1 : wb3.cell? ⟨g3, 1, none⟩ = some (.int .i64 D) := (blk_cell hbox 1).trans rfl); clear hg hbox hb hbb3)
  | (go_at_call 21; refine (HCK.out _ (Kd.C_below HL.out HB.out) (Kd.C_below HW0.out HB.out)).mono ?_; rintro e wck ⟨rfl, hb⟩; (have hbb3 := below_step HB.out hb); clear HB H3 hs3_0 hs3_1; (have HB := Aside0.mk hbb3); clear hb hbb3))
 (try simp only [Act.put, List.setIfInBounds_toArray, List.set_cons_zero, List.set_cons_succ])
 go_ret3
 exact ⟨rfl, HB.out⟩
end Go.Proofs.Ythapclmfkjldaaa.HandLN
