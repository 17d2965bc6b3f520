/- Walked by hand: breaks.class: each character that the switch names by itself, and each stretch between them. -/
import Derived.Test.YtihmbddneapooaaDoorHandMB
import Derived.Test.YtihmbddneapooaaDoorLib
import Derived.Outline
namespace Go.Proofs.YtihmbddneapooaaDoor.HandCL
open Go.RowKit Go.Proofs.YtihmbddneapooaaDoorW.PrintWords Go.Proofs.YtihmbddneapooaaDoorW.PrintLast Go.Proofs.YtihmbddneapooaaDoorW.PrintMore Go.Proofs.YtihmbddneapooaaDoor.HandMB
set_option linter.unusedVariables false
set_option maxHeartbeats 4000000
set_option maxRecDepth 1000000
/-- The characters that are named by themselves, with their classes. -/
def named : List (Int × Int) := [(10, 1), (32, 2), (9, 2), (8203, 3), (160, 4), (8239, 4), (8288, 4), (65279, 4), (45, 5), (8208, 5), (8211, 5), (173, 6), (40, 7), (91, 7), (123, 7), (171, 7), (191, 7), (161, 7), (8216, 7), (8220, 7), (12300, 7), (41, 8), (93, 8), (125, 8), (187, 8), (44, 8), (46, 8), (58, 8), (59, 8), (33, 8), (63, 8), (8217, 8), (8221, 8), (8230, 8), (12289, 8), (12290, 8), (12301, 8), (65532, 9), (8205, 10)]
def Wide (c : Int) : Prop := (11904 ≤ c ∧ c ≤ 42191) ∨ (44032 ≤ c ∧ c ≤ 55203) ∨ (63744 ≤ c ∧ c ≤ 64255) ∨ (65280 ≤ c ∧ c ≤ 65376) ∨ (131072 ≤ c ∧ c ≤ 262141)
instance (c : Int) : Decidable (Wide c) := by unfold Wide; infer_instance
def breaks_class.f (c : Int) : Option Int :=
  match named.lookup c with
  | some v => some v
  | none => if 48 ≤ c ∧ c ≤ 57 then some 11 else if Wide c then some 9 else (metric_Mark.f c).bind fun m => some (if m = true then 10 else 0)
def Goes (c r : Int) (w : World) : Prop := Calls Tryd.prog 39 #[.int .i64 c] w fun e w' => e = .returned (.int .i64 r) ∧ Below w.heap.size w w'
theorem at_10 (w : World) : Goes 10 1 w := by
  have HB := Aside0.mk (Below.refl w.heap.size w)
  unfold Goes
  go_enter Tryd.func39, Tryd.ntmps39
  go_wp2
  go_ret
  exact ⟨rfl, by repeat (first | exact HB.out | apply below_alloc | apply pw_below_drewN | apply below_drew)⟩
theorem at_32 (w : World) : Goes 32 2 w := by
  have HB := Aside0.mk (Below.refl w.heap.size w)
  unfold Goes
  go_enter Tryd.func39, Tryd.ntmps39
  go_wp2
  go_ret
  exact ⟨rfl, by repeat (first | exact HB.out | apply below_alloc | apply pw_below_drewN | apply below_drew)⟩
theorem at_9 (w : World) : Goes 9 2 w := by
  have HB := Aside0.mk (Below.refl w.heap.size w)
  unfold Goes
  go_enter Tryd.func39, Tryd.ntmps39
  go_wp2
  go_ret
  exact ⟨rfl, by repeat (first | exact HB.out | apply below_alloc | apply pw_below_drewN | apply below_drew)⟩
theorem at_8203 (w : World) : Goes 8203 3 w := by
  have HB := Aside0.mk (Below.refl w.heap.size w)
  unfold Goes
  go_enter Tryd.func39, Tryd.ntmps39
  go_wp2
  go_ret
  exact ⟨rfl, by repeat (first | exact HB.out | apply below_alloc | apply pw_below_drewN | apply below_drew)⟩
theorem at_160 (w : World) : Goes 160 4 w := by
  have HB := Aside0.mk (Below.refl w.heap.size w)
  unfold Goes
  go_enter Tryd.func39, Tryd.ntmps39
  go_wp2
  go_ret
  exact ⟨rfl, by repeat (first | exact HB.out | apply below_alloc | apply pw_below_drewN | apply below_drew)⟩
theorem at_8239 (w : World) : Goes 8239 4 w := by
  have HB := Aside0.mk (Below.refl w.heap.size w)
  unfold Goes
  go_enter Tryd.func39, Tryd.ntmps39
  go_wp2
  go_ret
  exact ⟨rfl, by repeat (first | exact HB.out | apply below_alloc | apply pw_below_drewN | apply below_drew)⟩
theorem at_8288 (w : World) : Goes 8288 4 w := by
  have HB := Aside0.mk (Below.refl w.heap.size w)
  unfold Goes
  go_enter Tryd.func39, Tryd.ntmps39
  go_wp2
  go_ret
  exact ⟨rfl, by repeat (first | exact HB.out | apply below_alloc | apply pw_below_drewN | apply below_drew)⟩
theorem at_65279 (w : World) : Goes 65279 4 w := by
  have HB := Aside0.mk (Below.refl w.heap.size w)
  unfold Goes
  go_enter Tryd.func39, Tryd.ntmps39
  go_wp2
  go_ret
  exact ⟨rfl, by repeat (first | exact HB.out | apply below_alloc | apply pw_below_drewN | apply below_drew)⟩
theorem at_45 (w : World) : Goes 45 5 w := by
  have HB := Aside0.mk (Below.refl w.heap.size w)
  unfold Goes
  go_enter Tryd.func39, Tryd.ntmps39
  go_wp2
  go_ret
  exact ⟨rfl, by repeat (first | exact HB.out | apply below_alloc | apply pw_below_drewN | apply below_drew)⟩
theorem at_8208 (w : World) : Goes 8208 5 w := by
  have HB := Aside0.mk (Below.refl w.heap.size w)
  unfold Goes
  go_enter Tryd.func39, Tryd.ntmps39
  go_wp2
  go_ret
  exact ⟨rfl, by repeat (first | exact HB.out | apply below_alloc | apply pw_below_drewN | apply below_drew)⟩
theorem at_8211 (w : World) : Goes 8211 5 w := by
  have HB := Aside0.mk (Below.refl w.heap.size w)
  unfold Goes
  go_enter Tryd.func39, Tryd.ntmps39
  go_wp2
  go_ret
  exact ⟨rfl, by repeat (first | exact HB.out | apply below_alloc | apply pw_below_drewN | apply below_drew)⟩
theorem at_173 (w : World) : Goes 173 6 w := by
  have HB := Aside0.mk (Below.refl w.heap.size w)
  unfold Goes
  go_enter Tryd.func39, Tryd.ntmps39
  go_wp2
  go_ret
  exact ⟨rfl, by repeat (first | exact HB.out | apply below_alloc | apply pw_below_drewN | apply below_drew)⟩
theorem at_40 (w : World) : Goes 40 7 w := by
  have HB := Aside0.mk (Below.refl w.heap.size w)
  unfold Goes
  go_enter Tryd.func39, Tryd.ntmps39
  go_wp2
  go_ret
  exact ⟨rfl, by repeat (first | exact HB.out | apply below_alloc | apply pw_below_drewN | apply below_drew)⟩
theorem at_91 (w : World) : Goes 91 7 w := by
  have HB := Aside0.mk (Below.refl w.heap.size w)
  unfold Goes
  go_enter Tryd.func39, Tryd.ntmps39
  go_wp2
  go_ret
  exact ⟨rfl, by repeat (first | exact HB.out | apply below_alloc | apply pw_below_drewN | apply below_drew)⟩
theorem at_123 (w : World) : Goes 123 7 w := by
  have HB := Aside0.mk (Below.refl w.heap.size w)
  unfold Goes
  go_enter Tryd.func39, Tryd.ntmps39
  go_wp2
  go_ret
  exact ⟨rfl, by repeat (first | exact HB.out | apply below_alloc | apply pw_below_drewN | apply below_drew)⟩
theorem at_171 (w : World) : Goes 171 7 w := by
  have HB := Aside0.mk (Below.refl w.heap.size w)
  unfold Goes
  go_enter Tryd.func39, Tryd.ntmps39
  go_wp2
  go_ret
  exact ⟨rfl, by repeat (first | exact HB.out | apply below_alloc | apply pw_below_drewN | apply below_drew)⟩
theorem at_191 (w : World) : Goes 191 7 w := by
  have HB := Aside0.mk (Below.refl w.heap.size w)
  unfold Goes
  go_enter Tryd.func39, Tryd.ntmps39
  go_wp2
  go_ret
  exact ⟨rfl, by repeat (first | exact HB.out | apply below_alloc | apply pw_below_drewN | apply below_drew)⟩
theorem at_161 (w : World) : Goes 161 7 w := by
  have HB := Aside0.mk (Below.refl w.heap.size w)
  unfold Goes
  go_enter Tryd.func39, Tryd.ntmps39
  go_wp2
  go_ret
  exact ⟨rfl, by repeat (first | exact HB.out | apply below_alloc | apply pw_below_drewN | apply below_drew)⟩
theorem at_8216 (w : World) : Goes 8216 7 w := by
  have HB := Aside0.mk (Below.refl w.heap.size w)
  unfold Goes
  go_enter Tryd.func39, Tryd.ntmps39
  go_wp2
  go_ret
  exact ⟨rfl, by repeat (first | exact HB.out | apply below_alloc | apply pw_below_drewN | apply below_drew)⟩
theorem at_8220 (w : World) : Goes 8220 7 w := by
  have HB := Aside0.mk (Below.refl w.heap.size w)
  unfold Goes
  go_enter Tryd.func39, Tryd.ntmps39
  go_wp2
  go_ret
  exact ⟨rfl, by repeat (first | exact HB.out | apply below_alloc | apply pw_below_drewN | apply below_drew)⟩
theorem at_12300 (w : World) : Goes 12300 7 w := by
  have HB := Aside0.mk (Below.refl w.heap.size w)
  unfold Goes
  go_enter Tryd.func39, Tryd.ntmps39
  go_wp2
  go_ret
  exact ⟨rfl, by repeat (first | exact HB.out | apply below_alloc | apply pw_below_drewN | apply below_drew)⟩
theorem at_41 (w : World) : Goes 41 8 w := by
  have HB := Aside0.mk (Below.refl w.heap.size w)
  unfold Goes
  go_enter Tryd.func39, Tryd.ntmps39
  go_wp2
  go_ret
  exact ⟨rfl, by repeat (first | exact HB.out | apply below_alloc | apply pw_below_drewN | apply below_drew)⟩
theorem at_93 (w : World) : Goes 93 8 w := by
  have HB := Aside0.mk (Below.refl w.heap.size w)
  unfold Goes
  go_enter Tryd.func39, Tryd.ntmps39
  go_wp2
  go_ret
  exact ⟨rfl, by repeat (first | exact HB.out | apply below_alloc | apply pw_below_drewN | apply below_drew)⟩
theorem at_125 (w : World) : Goes 125 8 w := by
  have HB := Aside0.mk (Below.refl w.heap.size w)
  unfold Goes
  go_enter Tryd.func39, Tryd.ntmps39
  go_wp2
  go_ret
  exact ⟨rfl, by repeat (first | exact HB.out | apply below_alloc | apply pw_below_drewN | apply below_drew)⟩
theorem at_187 (w : World) : Goes 187 8 w := by
  have HB := Aside0.mk (Below.refl w.heap.size w)
  unfold Goes
  go_enter Tryd.func39, Tryd.ntmps39
  go_wp2
  go_ret
  exact ⟨rfl, by repeat (first | exact HB.out | apply below_alloc | apply pw_below_drewN | apply below_drew)⟩
theorem at_44 (w : World) : Goes 44 8 w := by
  have HB := Aside0.mk (Below.refl w.heap.size w)
  unfold Goes
  go_enter Tryd.func39, Tryd.ntmps39
  go_wp2
  go_ret
  exact ⟨rfl, by repeat (first | exact HB.out | apply below_alloc | apply pw_below_drewN | apply below_drew)⟩
theorem at_46 (w : World) : Goes 46 8 w := by
  have HB := Aside0.mk (Below.refl w.heap.size w)
  unfold Goes
  go_enter Tryd.func39, Tryd.ntmps39
  go_wp2
  go_ret
  exact ⟨rfl, by repeat (first | exact HB.out | apply below_alloc | apply pw_below_drewN | apply below_drew)⟩
theorem at_58 (w : World) : Goes 58 8 w := by
  have HB := Aside0.mk (Below.refl w.heap.size w)
  unfold Goes
  go_enter Tryd.func39, Tryd.ntmps39
  go_wp2
  go_ret
  exact ⟨rfl, by repeat (first | exact HB.out | apply below_alloc | apply pw_below_drewN | apply below_drew)⟩
theorem at_59 (w : World) : Goes 59 8 w := by
  have HB := Aside0.mk (Below.refl w.heap.size w)
  unfold Goes
  go_enter Tryd.func39, Tryd.ntmps39
  go_wp2
  go_ret
  exact ⟨rfl, by repeat (first | exact HB.out | apply below_alloc | apply pw_below_drewN | apply below_drew)⟩
theorem at_33 (w : World) : Goes 33 8 w := by
  have HB := Aside0.mk (Below.refl w.heap.size w)
  unfold Goes
  go_enter Tryd.func39, Tryd.ntmps39
  go_wp2
  go_ret
  exact ⟨rfl, by repeat (first | exact HB.out | apply below_alloc | apply pw_below_drewN | apply below_drew)⟩
theorem at_63 (w : World) : Goes 63 8 w := by
  have HB := Aside0.mk (Below.refl w.heap.size w)
  unfold Goes
  go_enter Tryd.func39, Tryd.ntmps39
  go_wp2
  go_ret
  exact ⟨rfl, by repeat (first | exact HB.out | apply below_alloc | apply pw_below_drewN | apply below_drew)⟩
theorem at_8217 (w : World) : Goes 8217 8 w := by
  have HB := Aside0.mk (Below.refl w.heap.size w)
  unfold Goes
  go_enter Tryd.func39, Tryd.ntmps39
  go_wp2
  go_ret
  exact ⟨rfl, by repeat (first | exact HB.out | apply below_alloc | apply pw_below_drewN | apply below_drew)⟩
theorem at_8221 (w : World) : Goes 8221 8 w := by
  have HB := Aside0.mk (Below.refl w.heap.size w)
  unfold Goes
  go_enter Tryd.func39, Tryd.ntmps39
  go_wp2
  go_ret
  exact ⟨rfl, by repeat (first | exact HB.out | apply below_alloc | apply pw_below_drewN | apply below_drew)⟩
theorem at_8230 (w : World) : Goes 8230 8 w := by
  have HB := Aside0.mk (Below.refl w.heap.size w)
  unfold Goes
  go_enter Tryd.func39, Tryd.ntmps39
  go_wp2
  go_ret
  exact ⟨rfl, by repeat (first | exact HB.out | apply below_alloc | apply pw_below_drewN | apply below_drew)⟩
theorem at_12289 (w : World) : Goes 12289 8 w := by
  have HB := Aside0.mk (Below.refl w.heap.size w)
  unfold Goes
  go_enter Tryd.func39, Tryd.ntmps39
  go_wp2
  go_ret
  exact ⟨rfl, by repeat (first | exact HB.out | apply below_alloc | apply pw_below_drewN | apply below_drew)⟩
theorem at_12290 (w : World) : Goes 12290 8 w := by
  have HB := Aside0.mk (Below.refl w.heap.size w)
  unfold Goes
  go_enter Tryd.func39, Tryd.ntmps39
  go_wp2
  go_ret
  exact ⟨rfl, by repeat (first | exact HB.out | apply below_alloc | apply pw_below_drewN | apply below_drew)⟩
theorem at_12301 (w : World) : Goes 12301 8 w := by
  have HB := Aside0.mk (Below.refl w.heap.size w)
  unfold Goes
  go_enter Tryd.func39, Tryd.ntmps39
  go_wp2
  go_ret
  exact ⟨rfl, by repeat (first | exact HB.out | apply below_alloc | apply pw_below_drewN | apply below_drew)⟩
theorem at_65532 (w : World) : Goes 65532 9 w := by
  have HB := Aside0.mk (Below.refl w.heap.size w)
  unfold Goes
  go_enter Tryd.func39, Tryd.ntmps39
  go_wp2
  go_ret
  exact ⟨rfl, by repeat (first | exact HB.out | apply below_alloc | apply pw_below_drewN | apply below_drew)⟩
theorem at_8205 (w : World) : Goes 8205 10 w := by
  have HB := Aside0.mk (Below.refl w.heap.size w)
  unfold Goes
  go_enter Tryd.func39, Tryd.ntmps39
  go_wp2
  go_ret
  exact ⟨rfl, by repeat (first | exact HB.out | apply below_alloc | apply pw_below_drewN | apply below_drew)⟩
theorem in_0 (c : Int) (w : World) (hn : ∀ p ∈ named, c ≠ p.1) (h1 : c ≤ 47) (r : Bool) (hm : metric_Mark.f c = some r) (hL : LaidW w) : Goes c (if r = true then 10 else 0) w := by
  have HB := Aside0.mk (Below.refl w.heap.size w)
  unfold Goes
  simp only [named, List.mem_cons, List.not_mem_nil, or_false, forall_eq_or_imp, forall_eq] at hn
  obtain ⟨n0, n1, n2, n3, n4, n5, n6, n7, n8, n9, n10, n11, n12, n13, n14, n15, n16, n17, n18, n19, n20, n21, n22, n23, n24, n25, n26, n27, n28, n29, n30, n31, n32, n33, n34, n35, n36, n37, n38⟩ := hn
  have b0 : (c == 10) = false := beq_eq_false_iff_ne.2 n0
  have b1 : (c == 32) = false := beq_eq_false_iff_ne.2 n1
  have b2 : (c == 9) = false := beq_eq_false_iff_ne.2 n2
  have b3 : (c == 8203) = false := beq_eq_false_iff_ne.2 n3
  have b4 : (c == 160) = false := beq_eq_false_iff_ne.2 n4
  have b5 : (c == 8239) = false := beq_eq_false_iff_ne.2 n5
  have b6 : (c == 8288) = false := beq_eq_false_iff_ne.2 n6
  have b7 : (c == 65279) = false := beq_eq_false_iff_ne.2 n7
  have b8 : (c == 45) = false := beq_eq_false_iff_ne.2 n8
  have b9 : (c == 8208) = false := beq_eq_false_iff_ne.2 n9
  have b10 : (c == 8211) = false := beq_eq_false_iff_ne.2 n10
  have b11 : (c == 173) = false := beq_eq_false_iff_ne.2 n11
  have b12 : (c == 40) = false := beq_eq_false_iff_ne.2 n12
  have b13 : (c == 91) = false := beq_eq_false_iff_ne.2 n13
  have b14 : (c == 123) = false := beq_eq_false_iff_ne.2 n14
  have b15 : (c == 171) = false := beq_eq_false_iff_ne.2 n15
  have b16 : (c == 191) = false := beq_eq_false_iff_ne.2 n16
  have b17 : (c == 161) = false := beq_eq_false_iff_ne.2 n17
  have b18 : (c == 8216) = false := beq_eq_false_iff_ne.2 n18
  have b19 : (c == 8220) = false := beq_eq_false_iff_ne.2 n19
  have b20 : (c == 12300) = false := beq_eq_false_iff_ne.2 n20
  have b21 : (c == 41) = false := beq_eq_false_iff_ne.2 n21
  have b22 : (c == 93) = false := beq_eq_false_iff_ne.2 n22
  have b23 : (c == 125) = false := beq_eq_false_iff_ne.2 n23
  have b24 : (c == 187) = false := beq_eq_false_iff_ne.2 n24
  have b25 : (c == 44) = false := beq_eq_false_iff_ne.2 n25
  have b26 : (c == 46) = false := beq_eq_false_iff_ne.2 n26
  have b27 : (c == 58) = false := beq_eq_false_iff_ne.2 n27
  have b28 : (c == 59) = false := beq_eq_false_iff_ne.2 n28
  have b29 : (c == 33) = false := beq_eq_false_iff_ne.2 n29
  have b30 : (c == 63) = false := beq_eq_false_iff_ne.2 n30
  have b31 : (c == 8217) = false := beq_eq_false_iff_ne.2 n31
  have b32 : (c == 8221) = false := beq_eq_false_iff_ne.2 n32
  have b33 : (c == 8230) = false := beq_eq_false_iff_ne.2 n33
  have b34 : (c == 12289) = false := beq_eq_false_iff_ne.2 n34
  have b35 : (c == 12290) = false := beq_eq_false_iff_ne.2 n35
  have b36 : (c == 12301) = false := beq_eq_false_iff_ne.2 n36
  have b37 : (c == 65532) = false := beq_eq_false_iff_ne.2 n37
  have b38 : (c == 8205) = false := beq_eq_false_iff_ne.2 n38
  have p0 : (48 ≤ c) = False := by exact eq_false (by omega)
  have p1 : (11904 ≤ c) = False := by exact eq_false (by omega)
  have p2 : (44032 ≤ c) = False := by exact eq_false (by omega)
  have p3 : (63744 ≤ c) = False := by exact eq_false (by omega)
  have p4 : (65280 ≤ c) = False := by exact eq_false (by omega)
  have p5 : (131072 ≤ c) = False := by exact eq_false (by omega)
  clear n0 n1 n2 n3 n4 n5 n6 n7 n8 n9 n10 n11 n12 n13 n14 n15 n16 n17 n18 n19 n20 n21 n22 n23 n24 n25 n26 n27 n28 n29 n30 n31 n32 n33 n34 n35 n36 n37 n38  h1
  have HM := Aside0.mk hm
  have HL := Aside0.mk hL
  clear hm hL
  go_enter Tryd.func39, Tryd.ntmps39
  cases r
  · go_wp2_with (go_at_call 21; refine (metric_Mark.calls c _ _ HM.out (HL.out.now (by repeat (first | exact HB.out | apply below_alloc | apply pw_below_drewN | apply below_drew)))).mono ?_; rintro e w' ⟨rfl, hb⟩)
    go_ret
    exact ⟨rfl, hb⟩
  · go_wp2_with (go_at_call 21; refine (metric_Mark.calls c _ _ HM.out (HL.out.now (by repeat (first | exact HB.out | apply below_alloc | apply pw_below_drewN | apply below_drew)))).mono ?_; rintro e w' ⟨rfl, hb⟩)
    go_ret
    exact ⟨rfl, hb⟩
theorem in_1 (c : Int) (w : World) (hn : ∀ p ∈ named, c ≠ p.1) (h0 : 48 ≤ c) (h1 : c ≤ 57) : Goes c 11 w := by
  have HB := Aside0.mk (Below.refl w.heap.size w)
  unfold Goes
  simp only [named, List.mem_cons, List.not_mem_nil, or_false, forall_eq_or_imp, forall_eq] at hn
  obtain ⟨n0, n1, n2, n3, n4, n5, n6, n7, n8, n9, n10, n11, n12, n13, n14, n15, n16, n17, n18, n19, n20, n21, n22, n23, n24, n25, n26, n27, n28, n29, n30, n31, n32, n33, n34, n35, n36, n37, n38⟩ := hn
  have b0 : (c == 10) = false := beq_eq_false_iff_ne.2 n0
  have b1 : (c == 32) = false := beq_eq_false_iff_ne.2 n1
  have b2 : (c == 9) = false := beq_eq_false_iff_ne.2 n2
  have b3 : (c == 8203) = false := beq_eq_false_iff_ne.2 n3
  have b4 : (c == 160) = false := beq_eq_false_iff_ne.2 n4
  have b5 : (c == 8239) = false := beq_eq_false_iff_ne.2 n5
  have b6 : (c == 8288) = false := beq_eq_false_iff_ne.2 n6
  have b7 : (c == 65279) = false := beq_eq_false_iff_ne.2 n7
  have b8 : (c == 45) = false := beq_eq_false_iff_ne.2 n8
  have b9 : (c == 8208) = false := beq_eq_false_iff_ne.2 n9
  have b10 : (c == 8211) = false := beq_eq_false_iff_ne.2 n10
  have b11 : (c == 173) = false := beq_eq_false_iff_ne.2 n11
  have b12 : (c == 40) = false := beq_eq_false_iff_ne.2 n12
  have b13 : (c == 91) = false := beq_eq_false_iff_ne.2 n13
  have b14 : (c == 123) = false := beq_eq_false_iff_ne.2 n14
  have b15 : (c == 171) = false := beq_eq_false_iff_ne.2 n15
  have b16 : (c == 191) = false := beq_eq_false_iff_ne.2 n16
  have b17 : (c == 161) = false := beq_eq_false_iff_ne.2 n17
  have b18 : (c == 8216) = false := beq_eq_false_iff_ne.2 n18
  have b19 : (c == 8220) = false := beq_eq_false_iff_ne.2 n19
  have b20 : (c == 12300) = false := beq_eq_false_iff_ne.2 n20
  have b21 : (c == 41) = false := beq_eq_false_iff_ne.2 n21
  have b22 : (c == 93) = false := beq_eq_false_iff_ne.2 n22
  have b23 : (c == 125) = false := beq_eq_false_iff_ne.2 n23
  have b24 : (c == 187) = false := beq_eq_false_iff_ne.2 n24
  have b25 : (c == 44) = false := beq_eq_false_iff_ne.2 n25
  have b26 : (c == 46) = false := beq_eq_false_iff_ne.2 n26
  have b27 : (c == 58) = false := beq_eq_false_iff_ne.2 n27
  have b28 : (c == 59) = false := beq_eq_false_iff_ne.2 n28
  have b29 : (c == 33) = false := beq_eq_false_iff_ne.2 n29
  have b30 : (c == 63) = false := beq_eq_false_iff_ne.2 n30
  have b31 : (c == 8217) = false := beq_eq_false_iff_ne.2 n31
  have b32 : (c == 8221) = false := beq_eq_false_iff_ne.2 n32
  have b33 : (c == 8230) = false := beq_eq_false_iff_ne.2 n33
  have b34 : (c == 12289) = false := beq_eq_false_iff_ne.2 n34
  have b35 : (c == 12290) = false := beq_eq_false_iff_ne.2 n35
  have b36 : (c == 12301) = false := beq_eq_false_iff_ne.2 n36
  have b37 : (c == 65532) = false := beq_eq_false_iff_ne.2 n37
  have b38 : (c == 8205) = false := beq_eq_false_iff_ne.2 n38
  have p0 : (48 ≤ c) = True := by exact eq_true (by omega)
  have q0 : (c ≤ 57) = True := by exact eq_true (by omega)
  have p1 : (11904 ≤ c) = False := by exact eq_false (by omega)
  have p2 : (44032 ≤ c) = False := by exact eq_false (by omega)
  have p3 : (63744 ≤ c) = False := by exact eq_false (by omega)
  have p4 : (65280 ≤ c) = False := by exact eq_false (by omega)
  have p5 : (131072 ≤ c) = False := by exact eq_false (by omega)
  clear n0 n1 n2 n3 n4 n5 n6 n7 n8 n9 n10 n11 n12 n13 n14 n15 n16 n17 n18 n19 n20 n21 n22 n23 n24 n25 n26 n27 n28 n29 n30 n31 n32 n33 n34 n35 n36 n37 n38 h0 h1
  go_enter Tryd.func39, Tryd.ntmps39
  go_wp2
  go_ret
  exact ⟨rfl, by repeat (first | exact HB.out | apply below_alloc | apply pw_below_drewN | apply below_drew)⟩
theorem in_2 (c : Int) (w : World) (hn : ∀ p ∈ named, c ≠ p.1) (h0 : 58 ≤ c) (h1 : c ≤ 11903) (r : Bool) (hm : metric_Mark.f c = some r) (hL : LaidW w) : Goes c (if r = true then 10 else 0) w := by
  have HB := Aside0.mk (Below.refl w.heap.size w)
  unfold Goes
  simp only [named, List.mem_cons, List.not_mem_nil, or_false, forall_eq_or_imp, forall_eq] at hn
  obtain ⟨n0, n1, n2, n3, n4, n5, n6, n7, n8, n9, n10, n11, n12, n13, n14, n15, n16, n17, n18, n19, n20, n21, n22, n23, n24, n25, n26, n27, n28, n29, n30, n31, n32, n33, n34, n35, n36, n37, n38⟩ := hn
  have b0 : (c == 10) = false := beq_eq_false_iff_ne.2 n0
  have b1 : (c == 32) = false := beq_eq_false_iff_ne.2 n1
  have b2 : (c == 9) = false := beq_eq_false_iff_ne.2 n2
  have b3 : (c == 8203) = false := beq_eq_false_iff_ne.2 n3
  have b4 : (c == 160) = false := beq_eq_false_iff_ne.2 n4
  have b5 : (c == 8239) = false := beq_eq_false_iff_ne.2 n5
  have b6 : (c == 8288) = false := beq_eq_false_iff_ne.2 n6
  have b7 : (c == 65279) = false := beq_eq_false_iff_ne.2 n7
  have b8 : (c == 45) = false := beq_eq_false_iff_ne.2 n8
  have b9 : (c == 8208) = false := beq_eq_false_iff_ne.2 n9
  have b10 : (c == 8211) = false := beq_eq_false_iff_ne.2 n10
  have b11 : (c == 173) = false := beq_eq_false_iff_ne.2 n11
  have b12 : (c == 40) = false := beq_eq_false_iff_ne.2 n12
  have b13 : (c == 91) = false := beq_eq_false_iff_ne.2 n13
  have b14 : (c == 123) = false := beq_eq_false_iff_ne.2 n14
  have b15 : (c == 171) = false := beq_eq_false_iff_ne.2 n15
  have b16 : (c == 191) = false := beq_eq_false_iff_ne.2 n16
  have b17 : (c == 161) = false := beq_eq_false_iff_ne.2 n17
  have b18 : (c == 8216) = false := beq_eq_false_iff_ne.2 n18
  have b19 : (c == 8220) = false := beq_eq_false_iff_ne.2 n19
  have b20 : (c == 12300) = false := beq_eq_false_iff_ne.2 n20
  have b21 : (c == 41) = false := beq_eq_false_iff_ne.2 n21
  have b22 : (c == 93) = false := beq_eq_false_iff_ne.2 n22
  have b23 : (c == 125) = false := beq_eq_false_iff_ne.2 n23
  have b24 : (c == 187) = false := beq_eq_false_iff_ne.2 n24
  have b25 : (c == 44) = false := beq_eq_false_iff_ne.2 n25
  have b26 : (c == 46) = false := beq_eq_false_iff_ne.2 n26
  have b27 : (c == 58) = false := beq_eq_false_iff_ne.2 n27
  have b28 : (c == 59) = false := beq_eq_false_iff_ne.2 n28
  have b29 : (c == 33) = false := beq_eq_false_iff_ne.2 n29
  have b30 : (c == 63) = false := beq_eq_false_iff_ne.2 n30
  have b31 : (c == 8217) = false := beq_eq_false_iff_ne.2 n31
  have b32 : (c == 8221) = false := beq_eq_false_iff_ne.2 n32
  have b33 : (c == 8230) = false := beq_eq_false_iff_ne.2 n33
  have b34 : (c == 12289) = false := beq_eq_false_iff_ne.2 n34
  have b35 : (c == 12290) = false := beq_eq_false_iff_ne.2 n35
  have b36 : (c == 12301) = false := beq_eq_false_iff_ne.2 n36
  have b37 : (c == 65532) = false := beq_eq_false_iff_ne.2 n37
  have b38 : (c == 8205) = false := beq_eq_false_iff_ne.2 n38
  have p0 : (48 ≤ c) = True := by exact eq_true (by omega)
  have q0 : (c ≤ 57) = False := by exact eq_false (by omega)
  have p1 : (11904 ≤ c) = False := by exact eq_false (by omega)
  have p2 : (44032 ≤ c) = False := by exact eq_false (by omega)
  have p3 : (63744 ≤ c) = False := by exact eq_false (by omega)
  have p4 : (65280 ≤ c) = False := by exact eq_false (by omega)
  have p5 : (131072 ≤ c) = False := by exact eq_false (by omega)
  clear n0 n1 n2 n3 n4 n5 n6 n7 n8 n9 n10 n11 n12 n13 n14 n15 n16 n17 n18 n19 n20 n21 n22 n23 n24 n25 n26 n27 n28 n29 n30 n31 n32 n33 n34 n35 n36 n37 n38 h0 h1
  have HM := Aside0.mk hm
  have HL := Aside0.mk hL
  clear hm hL
  go_enter Tryd.func39, Tryd.ntmps39
  cases r
  · go_wp2_with (go_at_call 21; refine (metric_Mark.calls c _ _ HM.out (HL.out.now (by repeat (first | exact HB.out | apply below_alloc | apply pw_below_drewN | apply below_drew)))).mono ?_; rintro e w' ⟨rfl, hb⟩)
    go_ret
    exact ⟨rfl, hb⟩
  · go_wp2_with (go_at_call 21; refine (metric_Mark.calls c _ _ HM.out (HL.out.now (by repeat (first | exact HB.out | apply below_alloc | apply pw_below_drewN | apply below_drew)))).mono ?_; rintro e w' ⟨rfl, hb⟩)
    go_ret
    exact ⟨rfl, hb⟩
theorem in_3 (c : Int) (w : World) (hn : ∀ p ∈ named, c ≠ p.1) (h0 : 11904 ≤ c) (h1 : c ≤ 42191) : Goes c 9 w := by
  have HB := Aside0.mk (Below.refl w.heap.size w)
  unfold Goes
  simp only [named, List.mem_cons, List.not_mem_nil, or_false, forall_eq_or_imp, forall_eq] at hn
  obtain ⟨n0, n1, n2, n3, n4, n5, n6, n7, n8, n9, n10, n11, n12, n13, n14, n15, n16, n17, n18, n19, n20, n21, n22, n23, n24, n25, n26, n27, n28, n29, n30, n31, n32, n33, n34, n35, n36, n37, n38⟩ := hn
  have b0 : (c == 10) = false := beq_eq_false_iff_ne.2 n0
  have b1 : (c == 32) = false := beq_eq_false_iff_ne.2 n1
  have b2 : (c == 9) = false := beq_eq_false_iff_ne.2 n2
  have b3 : (c == 8203) = false := beq_eq_false_iff_ne.2 n3
  have b4 : (c == 160) = false := beq_eq_false_iff_ne.2 n4
  have b5 : (c == 8239) = false := beq_eq_false_iff_ne.2 n5
  have b6 : (c == 8288) = false := beq_eq_false_iff_ne.2 n6
  have b7 : (c == 65279) = false := beq_eq_false_iff_ne.2 n7
  have b8 : (c == 45) = false := beq_eq_false_iff_ne.2 n8
  have b9 : (c == 8208) = false := beq_eq_false_iff_ne.2 n9
  have b10 : (c == 8211) = false := beq_eq_false_iff_ne.2 n10
  have b11 : (c == 173) = false := beq_eq_false_iff_ne.2 n11
  have b12 : (c == 40) = false := beq_eq_false_iff_ne.2 n12
  have b13 : (c == 91) = false := beq_eq_false_iff_ne.2 n13
  have b14 : (c == 123) = false := beq_eq_false_iff_ne.2 n14
  have b15 : (c == 171) = false := beq_eq_false_iff_ne.2 n15
  have b16 : (c == 191) = false := beq_eq_false_iff_ne.2 n16
  have b17 : (c == 161) = false := beq_eq_false_iff_ne.2 n17
  have b18 : (c == 8216) = false := beq_eq_false_iff_ne.2 n18
  have b19 : (c == 8220) = false := beq_eq_false_iff_ne.2 n19
  have b20 : (c == 12300) = false := beq_eq_false_iff_ne.2 n20
  have b21 : (c == 41) = false := beq_eq_false_iff_ne.2 n21
  have b22 : (c == 93) = false := beq_eq_false_iff_ne.2 n22
  have b23 : (c == 125) = false := beq_eq_false_iff_ne.2 n23
  have b24 : (c == 187) = false := beq_eq_false_iff_ne.2 n24
  have b25 : (c == 44) = false := beq_eq_false_iff_ne.2 n25
  have b26 : (c == 46) = false := beq_eq_false_iff_ne.2 n26
  have b27 : (c == 58) = false := beq_eq_false_iff_ne.2 n27
  have b28 : (c == 59) = false := beq_eq_false_iff_ne.2 n28
  have b29 : (c == 33) = false := beq_eq_false_iff_ne.2 n29
  have b30 : (c == 63) = false := beq_eq_false_iff_ne.2 n30
  have b31 : (c == 8217) = false := beq_eq_false_iff_ne.2 n31
  have b32 : (c == 8221) = false := beq_eq_false_iff_ne.2 n32
  have b33 : (c == 8230) = false := beq_eq_false_iff_ne.2 n33
  have b34 : (c == 12289) = false := beq_eq_false_iff_ne.2 n34
  have b35 : (c == 12290) = false := beq_eq_false_iff_ne.2 n35
  have b36 : (c == 12301) = false := beq_eq_false_iff_ne.2 n36
  have b37 : (c == 65532) = false := beq_eq_false_iff_ne.2 n37
  have b38 : (c == 8205) = false := beq_eq_false_iff_ne.2 n38
  have p0 : (48 ≤ c) = True := by exact eq_true (by omega)
  have q0 : (c ≤ 57) = False := by exact eq_false (by omega)
  have p1 : (11904 ≤ c) = True := by exact eq_true (by omega)
  have q1 : (c ≤ 42191) = True := by exact eq_true (by omega)
  have p2 : (44032 ≤ c) = False := by exact eq_false (by omega)
  have p3 : (63744 ≤ c) = False := by exact eq_false (by omega)
  have p4 : (65280 ≤ c) = False := by exact eq_false (by omega)
  have p5 : (131072 ≤ c) = False := by exact eq_false (by omega)
  clear n0 n1 n2 n3 n4 n5 n6 n7 n8 n9 n10 n11 n12 n13 n14 n15 n16 n17 n18 n19 n20 n21 n22 n23 n24 n25 n26 n27 n28 n29 n30 n31 n32 n33 n34 n35 n36 n37 n38 h0 h1
  go_enter Tryd.func39, Tryd.ntmps39
  go_wp2
  go_ret
  exact ⟨rfl, by repeat (first | exact HB.out | apply below_alloc | apply pw_below_drewN | apply below_drew)⟩
theorem in_4 (c : Int) (w : World) (hn : ∀ p ∈ named, c ≠ p.1) (h0 : 42192 ≤ c) (h1 : c ≤ 44031) (r : Bool) (hm : metric_Mark.f c = some r) (hL : LaidW w) : Goes c (if r = true then 10 else 0) w := by
  have HB := Aside0.mk (Below.refl w.heap.size w)
  unfold Goes
  simp only [named, List.mem_cons, List.not_mem_nil, or_false, forall_eq_or_imp, forall_eq] at hn
  obtain ⟨n0, n1, n2, n3, n4, n5, n6, n7, n8, n9, n10, n11, n12, n13, n14, n15, n16, n17, n18, n19, n20, n21, n22, n23, n24, n25, n26, n27, n28, n29, n30, n31, n32, n33, n34, n35, n36, n37, n38⟩ := hn
  have b0 : (c == 10) = false := beq_eq_false_iff_ne.2 n0
  have b1 : (c == 32) = false := beq_eq_false_iff_ne.2 n1
  have b2 : (c == 9) = false := beq_eq_false_iff_ne.2 n2
  have b3 : (c == 8203) = false := beq_eq_false_iff_ne.2 n3
  have b4 : (c == 160) = false := beq_eq_false_iff_ne.2 n4
  have b5 : (c == 8239) = false := beq_eq_false_iff_ne.2 n5
  have b6 : (c == 8288) = false := beq_eq_false_iff_ne.2 n6
  have b7 : (c == 65279) = false := beq_eq_false_iff_ne.2 n7
  have b8 : (c == 45) = false := beq_eq_false_iff_ne.2 n8
  have b9 : (c == 8208) = false := beq_eq_false_iff_ne.2 n9
  have b10 : (c == 8211) = false := beq_eq_false_iff_ne.2 n10
  have b11 : (c == 173) = false := beq_eq_false_iff_ne.2 n11
  have b12 : (c == 40) = false := beq_eq_false_iff_ne.2 n12
  have b13 : (c == 91) = false := beq_eq_false_iff_ne.2 n13
  have b14 : (c == 123) = false := beq_eq_false_iff_ne.2 n14
  have b15 : (c == 171) = false := beq_eq_false_iff_ne.2 n15
  have b16 : (c == 191) = false := beq_eq_false_iff_ne.2 n16
  have b17 : (c == 161) = false := beq_eq_false_iff_ne.2 n17
  have b18 : (c == 8216) = false := beq_eq_false_iff_ne.2 n18
  have b19 : (c == 8220) = false := beq_eq_false_iff_ne.2 n19
  have b20 : (c == 12300) = false := beq_eq_false_iff_ne.2 n20
  have b21 : (c == 41) = false := beq_eq_false_iff_ne.2 n21
  have b22 : (c == 93) = false := beq_eq_false_iff_ne.2 n22
  have b23 : (c == 125) = false := beq_eq_false_iff_ne.2 n23
  have b24 : (c == 187) = false := beq_eq_false_iff_ne.2 n24
  have b25 : (c == 44) = false := beq_eq_false_iff_ne.2 n25
  have b26 : (c == 46) = false := beq_eq_false_iff_ne.2 n26
  have b27 : (c == 58) = false := beq_eq_false_iff_ne.2 n27
  have b28 : (c == 59) = false := beq_eq_false_iff_ne.2 n28
  have b29 : (c == 33) = false := beq_eq_false_iff_ne.2 n29
  have b30 : (c == 63) = false := beq_eq_false_iff_ne.2 n30
  have b31 : (c == 8217) = false := beq_eq_false_iff_ne.2 n31
  have b32 : (c == 8221) = false := beq_eq_false_iff_ne.2 n32
  have b33 : (c == 8230) = false := beq_eq_false_iff_ne.2 n33
  have b34 : (c == 12289) = false := beq_eq_false_iff_ne.2 n34
  have b35 : (c == 12290) = false := beq_eq_false_iff_ne.2 n35
  have b36 : (c == 12301) = false := beq_eq_false_iff_ne.2 n36
  have b37 : (c == 65532) = false := beq_eq_false_iff_ne.2 n37
  have b38 : (c == 8205) = false := beq_eq_false_iff_ne.2 n38
  have p0 : (48 ≤ c) = True := by exact eq_true (by omega)
  have q0 : (c ≤ 57) = False := by exact eq_false (by omega)
  have p1 : (11904 ≤ c) = True := by exact eq_true (by omega)
  have q1 : (c ≤ 42191) = False := by exact eq_false (by omega)
  have p2 : (44032 ≤ c) = False := by exact eq_false (by omega)
  have p3 : (63744 ≤ c) = False := by exact eq_false (by omega)
  have p4 : (65280 ≤ c) = False := by exact eq_false (by omega)
  have p5 : (131072 ≤ c) = False := by exact eq_false (by omega)
  clear n0 n1 n2 n3 n4 n5 n6 n7 n8 n9 n10 n11 n12 n13 n14 n15 n16 n17 n18 n19 n20 n21 n22 n23 n24 n25 n26 n27 n28 n29 n30 n31 n32 n33 n34 n35 n36 n37 n38 h0 h1
  have HM := Aside0.mk hm
  have HL := Aside0.mk hL
  clear hm hL
  go_enter Tryd.func39, Tryd.ntmps39
  cases r
  · go_wp2_with (go_at_call 21; refine (metric_Mark.calls c _ _ HM.out (HL.out.now (by repeat (first | exact HB.out | apply below_alloc | apply pw_below_drewN | apply below_drew)))).mono ?_; rintro e w' ⟨rfl, hb⟩)
    go_ret
    exact ⟨rfl, hb⟩
  · go_wp2_with (go_at_call 21; refine (metric_Mark.calls c _ _ HM.out (HL.out.now (by repeat (first | exact HB.out | apply below_alloc | apply pw_below_drewN | apply below_drew)))).mono ?_; rintro e w' ⟨rfl, hb⟩)
    go_ret
    exact ⟨rfl, hb⟩
theorem in_5 (c : Int) (w : World) (hn : ∀ p ∈ named, c ≠ p.1) (h0 : 44032 ≤ c) (h1 : c ≤ 55203) : Goes c 9 w := by
  have HB := Aside0.mk (Below.refl w.heap.size w)
  unfold Goes
  simp only [named, List.mem_cons, List.not_mem_nil, or_false, forall_eq_or_imp, forall_eq] at hn
  obtain ⟨n0, n1, n2, n3, n4, n5, n6, n7, n8, n9, n10, n11, n12, n13, n14, n15, n16, n17, n18, n19, n20, n21, n22, n23, n24, n25, n26, n27, n28, n29, n30, n31, n32, n33, n34, n35, n36, n37, n38⟩ := hn
  have b0 : (c == 10) = false := beq_eq_false_iff_ne.2 n0
  have b1 : (c == 32) = false := beq_eq_false_iff_ne.2 n1
  have b2 : (c == 9) = false := beq_eq_false_iff_ne.2 n2
  have b3 : (c == 8203) = false := beq_eq_false_iff_ne.2 n3
  have b4 : (c == 160) = false := beq_eq_false_iff_ne.2 n4
  have b5 : (c == 8239) = false := beq_eq_false_iff_ne.2 n5
  have b6 : (c == 8288) = false := beq_eq_false_iff_ne.2 n6
  have b7 : (c == 65279) = false := beq_eq_false_iff_ne.2 n7
  have b8 : (c == 45) = false := beq_eq_false_iff_ne.2 n8
  have b9 : (c == 8208) = false := beq_eq_false_iff_ne.2 n9
  have b10 : (c == 8211) = false := beq_eq_false_iff_ne.2 n10
  have b11 : (c == 173) = false := beq_eq_false_iff_ne.2 n11
  have b12 : (c == 40) = false := beq_eq_false_iff_ne.2 n12
  have b13 : (c == 91) = false := beq_eq_false_iff_ne.2 n13
  have b14 : (c == 123) = false := beq_eq_false_iff_ne.2 n14
  have b15 : (c == 171) = false := beq_eq_false_iff_ne.2 n15
  have b16 : (c == 191) = false := beq_eq_false_iff_ne.2 n16
  have b17 : (c == 161) = false := beq_eq_false_iff_ne.2 n17
  have b18 : (c == 8216) = false := beq_eq_false_iff_ne.2 n18
  have b19 : (c == 8220) = false := beq_eq_false_iff_ne.2 n19
  have b20 : (c == 12300) = false := beq_eq_false_iff_ne.2 n20
  have b21 : (c == 41) = false := beq_eq_false_iff_ne.2 n21
  have b22 : (c == 93) = false := beq_eq_false_iff_ne.2 n22
  have b23 : (c == 125) = false := beq_eq_false_iff_ne.2 n23
  have b24 : (c == 187) = false := beq_eq_false_iff_ne.2 n24
  have b25 : (c == 44) = false := beq_eq_false_iff_ne.2 n25
  have b26 : (c == 46) = false := beq_eq_false_iff_ne.2 n26
  have b27 : (c == 58) = false := beq_eq_false_iff_ne.2 n27
  have b28 : (c == 59) = false := beq_eq_false_iff_ne.2 n28
  have b29 : (c == 33) = false := beq_eq_false_iff_ne.2 n29
  have b30 : (c == 63) = false := beq_eq_false_iff_ne.2 n30
  have b31 : (c == 8217) = false := beq_eq_false_iff_ne.2 n31
  have b32 : (c == 8221) = false := beq_eq_false_iff_ne.2 n32
  have b33 : (c == 8230) = false := beq_eq_false_iff_ne.2 n33
  have b34 : (c == 12289) = false := beq_eq_false_iff_ne.2 n34
  have b35 : (c == 12290) = false := beq_eq_false_iff_ne.2 n35
  have b36 : (c == 12301) = false := beq_eq_false_iff_ne.2 n36
  have b37 : (c == 65532) = false := beq_eq_false_iff_ne.2 n37
  have b38 : (c == 8205) = false := beq_eq_false_iff_ne.2 n38
  have p0 : (48 ≤ c) = True := by exact eq_true (by omega)
  have q0 : (c ≤ 57) = False := by exact eq_false (by omega)
  have p1 : (11904 ≤ c) = True := by exact eq_true (by omega)
  have q1 : (c ≤ 42191) = False := by exact eq_false (by omega)
  have p2 : (44032 ≤ c) = True := by exact eq_true (by omega)
  have q2 : (c ≤ 55203) = True := by exact eq_true (by omega)
  have p3 : (63744 ≤ c) = False := by exact eq_false (by omega)
  have p4 : (65280 ≤ c) = False := by exact eq_false (by omega)
  have p5 : (131072 ≤ c) = False := by exact eq_false (by omega)
  clear n0 n1 n2 n3 n4 n5 n6 n7 n8 n9 n10 n11 n12 n13 n14 n15 n16 n17 n18 n19 n20 n21 n22 n23 n24 n25 n26 n27 n28 n29 n30 n31 n32 n33 n34 n35 n36 n37 n38 h0 h1
  go_enter Tryd.func39, Tryd.ntmps39
  go_wp2
  go_ret
  exact ⟨rfl, by repeat (first | exact HB.out | apply below_alloc | apply pw_below_drewN | apply below_drew)⟩
theorem in_6 (c : Int) (w : World) (hn : ∀ p ∈ named, c ≠ p.1) (h0 : 55204 ≤ c) (h1 : c ≤ 63743) (r : Bool) (hm : metric_Mark.f c = some r) (hL : LaidW w) : Goes c (if r = true then 10 else 0) w := by
  have HB := Aside0.mk (Below.refl w.heap.size w)
  unfold Goes
  simp only [named, List.mem_cons, List.not_mem_nil, or_false, forall_eq_or_imp, forall_eq] at hn
  obtain ⟨n0, n1, n2, n3, n4, n5, n6, n7, n8, n9, n10, n11, n12, n13, n14, n15, n16, n17, n18, n19, n20, n21, n22, n23, n24, n25, n26, n27, n28, n29, n30, n31, n32, n33, n34, n35, n36, n37, n38⟩ := hn
  have b0 : (c == 10) = false := beq_eq_false_iff_ne.2 n0
  have b1 : (c == 32) = false := beq_eq_false_iff_ne.2 n1
  have b2 : (c == 9) = false := beq_eq_false_iff_ne.2 n2
  have b3 : (c == 8203) = false := beq_eq_false_iff_ne.2 n3
  have b4 : (c == 160) = false := beq_eq_false_iff_ne.2 n4
  have b5 : (c == 8239) = false := beq_eq_false_iff_ne.2 n5
  have b6 : (c == 8288) = false := beq_eq_false_iff_ne.2 n6
  have b7 : (c == 65279) = false := beq_eq_false_iff_ne.2 n7
  have b8 : (c == 45) = false := beq_eq_false_iff_ne.2 n8
  have b9 : (c == 8208) = false := beq_eq_false_iff_ne.2 n9
  have b10 : (c == 8211) = false := beq_eq_false_iff_ne.2 n10
  have b11 : (c == 173) = false := beq_eq_false_iff_ne.2 n11
  have b12 : (c == 40) = false := beq_eq_false_iff_ne.2 n12
  have b13 : (c == 91) = false := beq_eq_false_iff_ne.2 n13
  have b14 : (c == 123) = false := beq_eq_false_iff_ne.2 n14
  have b15 : (c == 171) = false := beq_eq_false_iff_ne.2 n15
  have b16 : (c == 191) = false := beq_eq_false_iff_ne.2 n16
  have b17 : (c == 161) = false := beq_eq_false_iff_ne.2 n17
  have b18 : (c == 8216) = false := beq_eq_false_iff_ne.2 n18
  have b19 : (c == 8220) = false := beq_eq_false_iff_ne.2 n19
  have b20 : (c == 12300) = false := beq_eq_false_iff_ne.2 n20
  have b21 : (c == 41) = false := beq_eq_false_iff_ne.2 n21
  have b22 : (c == 93) = false := beq_eq_false_iff_ne.2 n22
  have b23 : (c == 125) = false := beq_eq_false_iff_ne.2 n23
  have b24 : (c == 187) = false := beq_eq_false_iff_ne.2 n24
  have b25 : (c == 44) = false := beq_eq_false_iff_ne.2 n25
  have b26 : (c == 46) = false := beq_eq_false_iff_ne.2 n26
  have b27 : (c == 58) = false := beq_eq_false_iff_ne.2 n27
  have b28 : (c == 59) = false := beq_eq_false_iff_ne.2 n28
  have b29 : (c == 33) = false := beq_eq_false_iff_ne.2 n29
  have b30 : (c == 63) = false := beq_eq_false_iff_ne.2 n30
  have b31 : (c == 8217) = false := beq_eq_false_iff_ne.2 n31
  have b32 : (c == 8221) = false := beq_eq_false_iff_ne.2 n32
  have b33 : (c == 8230) = false := beq_eq_false_iff_ne.2 n33
  have b34 : (c == 12289) = false := beq_eq_false_iff_ne.2 n34
  have b35 : (c == 12290) = false := beq_eq_false_iff_ne.2 n35
  have b36 : (c == 12301) = false := beq_eq_false_iff_ne.2 n36
  have b37 : (c == 65532) = false := beq_eq_false_iff_ne.2 n37
  have b38 : (c == 8205) = false := beq_eq_false_iff_ne.2 n38
  have p0 : (48 ≤ c) = True := by exact eq_true (by omega)
  have q0 : (c ≤ 57) = False := by exact eq_false (by omega)
  have p1 : (11904 ≤ c) = True := by exact eq_true (by omega)
  have q1 : (c ≤ 42191) = False := by exact eq_false (by omega)
  have p2 : (44032 ≤ c) = True := by exact eq_true (by omega)
  have q2 : (c ≤ 55203) = False := by exact eq_false (by omega)
  have p3 : (63744 ≤ c) = False := by exact eq_false (by omega)
  have p4 : (65280 ≤ c) = False := by exact eq_false (by omega)
  have p5 : (131072 ≤ c) = False := by exact eq_false (by omega)
  clear n0 n1 n2 n3 n4 n5 n6 n7 n8 n9 n10 n11 n12 n13 n14 n15 n16 n17 n18 n19 n20 n21 n22 n23 n24 n25 n26 n27 n28 n29 n30 n31 n32 n33 n34 n35 n36 n37 n38 h0 h1
  have HM := Aside0.mk hm
  have HL := Aside0.mk hL
  clear hm hL
  go_enter Tryd.func39, Tryd.ntmps39
  cases r
  · go_wp2_with (go_at_call 21; refine (metric_Mark.calls c _ _ HM.out (HL.out.now (by repeat (first | exact HB.out | apply below_alloc | apply pw_below_drewN | apply below_drew)))).mono ?_; rintro e w' ⟨rfl, hb⟩)
    go_ret
    exact ⟨rfl, hb⟩
  · go_wp2_with (go_at_call 21; refine (metric_Mark.calls c _ _ HM.out (HL.out.now (by repeat (first | exact HB.out | apply below_alloc | apply pw_below_drewN | apply below_drew)))).mono ?_; rintro e w' ⟨rfl, hb⟩)
    go_ret
    exact ⟨rfl, hb⟩
theorem in_7 (c : Int) (w : World) (hn : ∀ p ∈ named, c ≠ p.1) (h0 : 63744 ≤ c) (h1 : c ≤ 64255) : Goes c 9 w := by
  have HB := Aside0.mk (Below.refl w.heap.size w)
  unfold Goes
  simp only [named, List.mem_cons, List.not_mem_nil, or_false, forall_eq_or_imp, forall_eq] at hn
  obtain ⟨n0, n1, n2, n3, n4, n5, n6, n7, n8, n9, n10, n11, n12, n13, n14, n15, n16, n17, n18, n19, n20, n21, n22, n23, n24, n25, n26, n27, n28, n29, n30, n31, n32, n33, n34, n35, n36, n37, n38⟩ := hn
  have b0 : (c == 10) = false := beq_eq_false_iff_ne.2 n0
  have b1 : (c == 32) = false := beq_eq_false_iff_ne.2 n1
  have b2 : (c == 9) = false := beq_eq_false_iff_ne.2 n2
  have b3 : (c == 8203) = false := beq_eq_false_iff_ne.2 n3
  have b4 : (c == 160) = false := beq_eq_false_iff_ne.2 n4
  have b5 : (c == 8239) = false := beq_eq_false_iff_ne.2 n5
  have b6 : (c == 8288) = false := beq_eq_false_iff_ne.2 n6
  have b7 : (c == 65279) = false := beq_eq_false_iff_ne.2 n7
  have b8 : (c == 45) = false := beq_eq_false_iff_ne.2 n8
  have b9 : (c == 8208) = false := beq_eq_false_iff_ne.2 n9
  have b10 : (c == 8211) = false := beq_eq_false_iff_ne.2 n10
  have b11 : (c == 173) = false := beq_eq_false_iff_ne.2 n11
  have b12 : (c == 40) = false := beq_eq_false_iff_ne.2 n12
  have b13 : (c == 91) = false := beq_eq_false_iff_ne.2 n13
  have b14 : (c == 123) = false := beq_eq_false_iff_ne.2 n14
  have b15 : (c == 171) = false := beq_eq_false_iff_ne.2 n15
  have b16 : (c == 191) = false := beq_eq_false_iff_ne.2 n16
  have b17 : (c == 161) = false := beq_eq_false_iff_ne.2 n17
  have b18 : (c == 8216) = false := beq_eq_false_iff_ne.2 n18
  have b19 : (c == 8220) = false := beq_eq_false_iff_ne.2 n19
  have b20 : (c == 12300) = false := beq_eq_false_iff_ne.2 n20
  have b21 : (c == 41) = false := beq_eq_false_iff_ne.2 n21
  have b22 : (c == 93) = false := beq_eq_false_iff_ne.2 n22
  have b23 : (c == 125) = false := beq_eq_false_iff_ne.2 n23
  have b24 : (c == 187) = false := beq_eq_false_iff_ne.2 n24
  have b25 : (c == 44) = false := beq_eq_false_iff_ne.2 n25
  have b26 : (c == 46) = false := beq_eq_false_iff_ne.2 n26
  have b27 : (c == 58) = false := beq_eq_false_iff_ne.2 n27
  have b28 : (c == 59) = false := beq_eq_false_iff_ne.2 n28
  have b29 : (c == 33) = false := beq_eq_false_iff_ne.2 n29
  have b30 : (c == 63) = false := beq_eq_false_iff_ne.2 n30
  have b31 : (c == 8217) = false := beq_eq_false_iff_ne.2 n31
  have b32 : (c == 8221) = false := beq_eq_false_iff_ne.2 n32
  have b33 : (c == 8230) = false := beq_eq_false_iff_ne.2 n33
  have b34 : (c == 12289) = false := beq_eq_false_iff_ne.2 n34
  have b35 : (c == 12290) = false := beq_eq_false_iff_ne.2 n35
  have b36 : (c == 12301) = false := beq_eq_false_iff_ne.2 n36
  have b37 : (c == 65532) = false := beq_eq_false_iff_ne.2 n37
  have b38 : (c == 8205) = false := beq_eq_false_iff_ne.2 n38
  have p0 : (48 ≤ c) = True := by exact eq_true (by omega)
  have q0 : (c ≤ 57) = False := by exact eq_false (by omega)
  have p1 : (11904 ≤ c) = True := by exact eq_true (by omega)
  have q1 : (c ≤ 42191) = False := by exact eq_false (by omega)
  have p2 : (44032 ≤ c) = True := by exact eq_true (by omega)
  have q2 : (c ≤ 55203) = False := by exact eq_false (by omega)
  have p3 : (63744 ≤ c) = True := by exact eq_true (by omega)
  have q3 : (c ≤ 64255) = True := by exact eq_true (by omega)
  have p4 : (65280 ≤ c) = False := by exact eq_false (by omega)
  have p5 : (131072 ≤ c) = False := by exact eq_false (by omega)
  clear n0 n1 n2 n3 n4 n5 n6 n7 n8 n9 n10 n11 n12 n13 n14 n15 n16 n17 n18 n19 n20 n21 n22 n23 n24 n25 n26 n27 n28 n29 n30 n31 n32 n33 n34 n35 n36 n37 n38 h0 h1
  go_enter Tryd.func39, Tryd.ntmps39
  go_wp2
  go_ret
  exact ⟨rfl, by repeat (first | exact HB.out | apply below_alloc | apply pw_below_drewN | apply below_drew)⟩
theorem in_8 (c : Int) (w : World) (hn : ∀ p ∈ named, c ≠ p.1) (h0 : 64256 ≤ c) (h1 : c ≤ 65279) (r : Bool) (hm : metric_Mark.f c = some r) (hL : LaidW w) : Goes c (if r = true then 10 else 0) w := by
  have HB := Aside0.mk (Below.refl w.heap.size w)
  unfold Goes
  simp only [named, List.mem_cons, List.not_mem_nil, or_false, forall_eq_or_imp, forall_eq] at hn
  obtain ⟨n0, n1, n2, n3, n4, n5, n6, n7, n8, n9, n10, n11, n12, n13, n14, n15, n16, n17, n18, n19, n20, n21, n22, n23, n24, n25, n26, n27, n28, n29, n30, n31, n32, n33, n34, n35, n36, n37, n38⟩ := hn
  have b0 : (c == 10) = false := beq_eq_false_iff_ne.2 n0
  have b1 : (c == 32) = false := beq_eq_false_iff_ne.2 n1
  have b2 : (c == 9) = false := beq_eq_false_iff_ne.2 n2
  have b3 : (c == 8203) = false := beq_eq_false_iff_ne.2 n3
  have b4 : (c == 160) = false := beq_eq_false_iff_ne.2 n4
  have b5 : (c == 8239) = false := beq_eq_false_iff_ne.2 n5
  have b6 : (c == 8288) = false := beq_eq_false_iff_ne.2 n6
  have b7 : (c == 65279) = false := beq_eq_false_iff_ne.2 n7
  have b8 : (c == 45) = false := beq_eq_false_iff_ne.2 n8
  have b9 : (c == 8208) = false := beq_eq_false_iff_ne.2 n9
  have b10 : (c == 8211) = false := beq_eq_false_iff_ne.2 n10
  have b11 : (c == 173) = false := beq_eq_false_iff_ne.2 n11
  have b12 : (c == 40) = false := beq_eq_false_iff_ne.2 n12
  have b13 : (c == 91) = false := beq_eq_false_iff_ne.2 n13
  have b14 : (c == 123) = false := beq_eq_false_iff_ne.2 n14
  have b15 : (c == 171) = false := beq_eq_false_iff_ne.2 n15
  have b16 : (c == 191) = false := beq_eq_false_iff_ne.2 n16
  have b17 : (c == 161) = false := beq_eq_false_iff_ne.2 n17
  have b18 : (c == 8216) = false := beq_eq_false_iff_ne.2 n18
  have b19 : (c == 8220) = false := beq_eq_false_iff_ne.2 n19
  have b20 : (c == 12300) = false := beq_eq_false_iff_ne.2 n20
  have b21 : (c == 41) = false := beq_eq_false_iff_ne.2 n21
  have b22 : (c == 93) = false := beq_eq_false_iff_ne.2 n22
  have b23 : (c == 125) = false := beq_eq_false_iff_ne.2 n23
  have b24 : (c == 187) = false := beq_eq_false_iff_ne.2 n24
  have b25 : (c == 44) = false := beq_eq_false_iff_ne.2 n25
  have b26 : (c == 46) = false := beq_eq_false_iff_ne.2 n26
  have b27 : (c == 58) = false := beq_eq_false_iff_ne.2 n27
  have b28 : (c == 59) = false := beq_eq_false_iff_ne.2 n28
  have b29 : (c == 33) = false := beq_eq_false_iff_ne.2 n29
  have b30 : (c == 63) = false := beq_eq_false_iff_ne.2 n30
  have b31 : (c == 8217) = false := beq_eq_false_iff_ne.2 n31
  have b32 : (c == 8221) = false := beq_eq_false_iff_ne.2 n32
  have b33 : (c == 8230) = false := beq_eq_false_iff_ne.2 n33
  have b34 : (c == 12289) = false := beq_eq_false_iff_ne.2 n34
  have b35 : (c == 12290) = false := beq_eq_false_iff_ne.2 n35
  have b36 : (c == 12301) = false := beq_eq_false_iff_ne.2 n36
  have b37 : (c == 65532) = false := beq_eq_false_iff_ne.2 n37
  have b38 : (c == 8205) = false := beq_eq_false_iff_ne.2 n38
  have p0 : (48 ≤ c) = True := by exact eq_true (by omega)
  have q0 : (c ≤ 57) = False := by exact eq_false (by omega)
  have p1 : (11904 ≤ c) = True := by exact eq_true (by omega)
  have q1 : (c ≤ 42191) = False := by exact eq_false (by omega)
  have p2 : (44032 ≤ c) = True := by exact eq_true (by omega)
  have q2 : (c ≤ 55203) = False := by exact eq_false (by omega)
  have p3 : (63744 ≤ c) = True := by exact eq_true (by omega)
  have q3 : (c ≤ 64255) = False := by exact eq_false (by omega)
  have p4 : (65280 ≤ c) = False := by exact eq_false (by omega)
  have p5 : (131072 ≤ c) = False := by exact eq_false (by omega)
  clear n0 n1 n2 n3 n4 n5 n6 n7 n8 n9 n10 n11 n12 n13 n14 n15 n16 n17 n18 n19 n20 n21 n22 n23 n24 n25 n26 n27 n28 n29 n30 n31 n32 n33 n34 n35 n36 n37 n38 h0 h1
  have HM := Aside0.mk hm
  have HL := Aside0.mk hL
  clear hm hL
  go_enter Tryd.func39, Tryd.ntmps39
  cases r
  · go_wp2_with (go_at_call 21; refine (metric_Mark.calls c _ _ HM.out (HL.out.now (by repeat (first | exact HB.out | apply below_alloc | apply pw_below_drewN | apply below_drew)))).mono ?_; rintro e w' ⟨rfl, hb⟩)
    go_ret
    exact ⟨rfl, hb⟩
  · go_wp2_with (go_at_call 21; refine (metric_Mark.calls c _ _ HM.out (HL.out.now (by repeat (first | exact HB.out | apply below_alloc | apply pw_below_drewN | apply below_drew)))).mono ?_; rintro e w' ⟨rfl, hb⟩)
    go_ret
    exact ⟨rfl, hb⟩
theorem in_9 (c : Int) (w : World) (hn : ∀ p ∈ named, c ≠ p.1) (h0 : 65280 ≤ c) (h1 : c ≤ 65376) : Goes c 9 w := by
  have HB := Aside0.mk (Below.refl w.heap.size w)
  unfold Goes
  simp only [named, List.mem_cons, List.not_mem_nil, or_false, forall_eq_or_imp, forall_eq] at hn
  obtain ⟨n0, n1, n2, n3, n4, n5, n6, n7, n8, n9, n10, n11, n12, n13, n14, n15, n16, n17, n18, n19, n20, n21, n22, n23, n24, n25, n26, n27, n28, n29, n30, n31, n32, n33, n34, n35, n36, n37, n38⟩ := hn
  have b0 : (c == 10) = false := beq_eq_false_iff_ne.2 n0
  have b1 : (c == 32) = false := beq_eq_false_iff_ne.2 n1
  have b2 : (c == 9) = false := beq_eq_false_iff_ne.2 n2
  have b3 : (c == 8203) = false := beq_eq_false_iff_ne.2 n3
  have b4 : (c == 160) = false := beq_eq_false_iff_ne.2 n4
  have b5 : (c == 8239) = false := beq_eq_false_iff_ne.2 n5
  have b6 : (c == 8288) = false := beq_eq_false_iff_ne.2 n6
  have b7 : (c == 65279) = false := beq_eq_false_iff_ne.2 n7
  have b8 : (c == 45) = false := beq_eq_false_iff_ne.2 n8
  have b9 : (c == 8208) = false := beq_eq_false_iff_ne.2 n9
  have b10 : (c == 8211) = false := beq_eq_false_iff_ne.2 n10
  have b11 : (c == 173) = false := beq_eq_false_iff_ne.2 n11
  have b12 : (c == 40) = false := beq_eq_false_iff_ne.2 n12
  have b13 : (c == 91) = false := beq_eq_false_iff_ne.2 n13
  have b14 : (c == 123) = false := beq_eq_false_iff_ne.2 n14
  have b15 : (c == 171) = false := beq_eq_false_iff_ne.2 n15
  have b16 : (c == 191) = false := beq_eq_false_iff_ne.2 n16
  have b17 : (c == 161) = false := beq_eq_false_iff_ne.2 n17
  have b18 : (c == 8216) = false := beq_eq_false_iff_ne.2 n18
  have b19 : (c == 8220) = false := beq_eq_false_iff_ne.2 n19
  have b20 : (c == 12300) = false := beq_eq_false_iff_ne.2 n20
  have b21 : (c == 41) = false := beq_eq_false_iff_ne.2 n21
  have b22 : (c == 93) = false := beq_eq_false_iff_ne.2 n22
  have b23 : (c == 125) = false := beq_eq_false_iff_ne.2 n23
  have b24 : (c == 187) = false := beq_eq_false_iff_ne.2 n24
  have b25 : (c == 44) = false := beq_eq_false_iff_ne.2 n25
  have b26 : (c == 46) = false := beq_eq_false_iff_ne.2 n26
  have b27 : (c == 58) = false := beq_eq_false_iff_ne.2 n27
  have b28 : (c == 59) = false := beq_eq_false_iff_ne.2 n28
  have b29 : (c == 33) = false := beq_eq_false_iff_ne.2 n29
  have b30 : (c == 63) = false := beq_eq_false_iff_ne.2 n30
  have b31 : (c == 8217) = false := beq_eq_false_iff_ne.2 n31
  have b32 : (c == 8221) = false := beq_eq_false_iff_ne.2 n32
  have b33 : (c == 8230) = false := beq_eq_false_iff_ne.2 n33
  have b34 : (c == 12289) = false := beq_eq_false_iff_ne.2 n34
  have b35 : (c == 12290) = false := beq_eq_false_iff_ne.2 n35
  have b36 : (c == 12301) = false := beq_eq_false_iff_ne.2 n36
  have b37 : (c == 65532) = false := beq_eq_false_iff_ne.2 n37
  have b38 : (c == 8205) = false := beq_eq_false_iff_ne.2 n38
  have p0 : (48 ≤ c) = True := by exact eq_true (by omega)
  have q0 : (c ≤ 57) = False := by exact eq_false (by omega)
  have p1 : (11904 ≤ c) = True := by exact eq_true (by omega)
  have q1 : (c ≤ 42191) = False := by exact eq_false (by omega)
  have p2 : (44032 ≤ c) = True := by exact eq_true (by omega)
  have q2 : (c ≤ 55203) = False := by exact eq_false (by omega)
  have p3 : (63744 ≤ c) = True := by exact eq_true (by omega)
  have q3 : (c ≤ 64255) = False := by exact eq_false (by omega)
  have p4 : (65280 ≤ c) = True := by exact eq_true (by omega)
  have q4 : (c ≤ 65376) = True := by exact eq_true (by omega)
  have p5 : (131072 ≤ c) = False := by exact eq_false (by omega)
  clear n0 n1 n2 n3 n4 n5 n6 n7 n8 n9 n10 n11 n12 n13 n14 n15 n16 n17 n18 n19 n20 n21 n22 n23 n24 n25 n26 n27 n28 n29 n30 n31 n32 n33 n34 n35 n36 n37 n38 h0 h1
  go_enter Tryd.func39, Tryd.ntmps39
  go_wp2
  go_ret
  exact ⟨rfl, by repeat (first | exact HB.out | apply below_alloc | apply pw_below_drewN | apply below_drew)⟩
theorem in_10 (c : Int) (w : World) (hn : ∀ p ∈ named, c ≠ p.1) (h0 : 65377 ≤ c) (h1 : c ≤ 131071) (r : Bool) (hm : metric_Mark.f c = some r) (hL : LaidW w) : Goes c (if r = true then 10 else 0) w := by
  have HB := Aside0.mk (Below.refl w.heap.size w)
  unfold Goes
  simp only [named, List.mem_cons, List.not_mem_nil, or_false, forall_eq_or_imp, forall_eq] at hn
  obtain ⟨n0, n1, n2, n3, n4, n5, n6, n7, n8, n9, n10, n11, n12, n13, n14, n15, n16, n17, n18, n19, n20, n21, n22, n23, n24, n25, n26, n27, n28, n29, n30, n31, n32, n33, n34, n35, n36, n37, n38⟩ := hn
  have b0 : (c == 10) = false := beq_eq_false_iff_ne.2 n0
  have b1 : (c == 32) = false := beq_eq_false_iff_ne.2 n1
  have b2 : (c == 9) = false := beq_eq_false_iff_ne.2 n2
  have b3 : (c == 8203) = false := beq_eq_false_iff_ne.2 n3
  have b4 : (c == 160) = false := beq_eq_false_iff_ne.2 n4
  have b5 : (c == 8239) = false := beq_eq_false_iff_ne.2 n5
  have b6 : (c == 8288) = false := beq_eq_false_iff_ne.2 n6
  have b7 : (c == 65279) = false := beq_eq_false_iff_ne.2 n7
  have b8 : (c == 45) = false := beq_eq_false_iff_ne.2 n8
  have b9 : (c == 8208) = false := beq_eq_false_iff_ne.2 n9
  have b10 : (c == 8211) = false := beq_eq_false_iff_ne.2 n10
  have b11 : (c == 173) = false := beq_eq_false_iff_ne.2 n11
  have b12 : (c == 40) = false := beq_eq_false_iff_ne.2 n12
  have b13 : (c == 91) = false := beq_eq_false_iff_ne.2 n13
  have b14 : (c == 123) = false := beq_eq_false_iff_ne.2 n14
  have b15 : (c == 171) = false := beq_eq_false_iff_ne.2 n15
  have b16 : (c == 191) = false := beq_eq_false_iff_ne.2 n16
  have b17 : (c == 161) = false := beq_eq_false_iff_ne.2 n17
  have b18 : (c == 8216) = false := beq_eq_false_iff_ne.2 n18
  have b19 : (c == 8220) = false := beq_eq_false_iff_ne.2 n19
  have b20 : (c == 12300) = false := beq_eq_false_iff_ne.2 n20
  have b21 : (c == 41) = false := beq_eq_false_iff_ne.2 n21
  have b22 : (c == 93) = false := beq_eq_false_iff_ne.2 n22
  have b23 : (c == 125) = false := beq_eq_false_iff_ne.2 n23
  have b24 : (c == 187) = false := beq_eq_false_iff_ne.2 n24
  have b25 : (c == 44) = false := beq_eq_false_iff_ne.2 n25
  have b26 : (c == 46) = false := beq_eq_false_iff_ne.2 n26
  have b27 : (c == 58) = false := beq_eq_false_iff_ne.2 n27
  have b28 : (c == 59) = false := beq_eq_false_iff_ne.2 n28
  have b29 : (c == 33) = false := beq_eq_false_iff_ne.2 n29
  have b30 : (c == 63) = false := beq_eq_false_iff_ne.2 n30
  have b31 : (c == 8217) = false := beq_eq_false_iff_ne.2 n31
  have b32 : (c == 8221) = false := beq_eq_false_iff_ne.2 n32
  have b33 : (c == 8230) = false := beq_eq_false_iff_ne.2 n33
  have b34 : (c == 12289) = false := beq_eq_false_iff_ne.2 n34
  have b35 : (c == 12290) = false := beq_eq_false_iff_ne.2 n35
  have b36 : (c == 12301) = false := beq_eq_false_iff_ne.2 n36
  have b37 : (c == 65532) = false := beq_eq_false_iff_ne.2 n37
  have b38 : (c == 8205) = false := beq_eq_false_iff_ne.2 n38
  have p0 : (48 ≤ c) = True := by exact eq_true (by omega)
  have q0 : (c ≤ 57) = False := by exact eq_false (by omega)
  have p1 : (11904 ≤ c) = True := by exact eq_true (by omega)
  have q1 : (c ≤ 42191) = False := by exact eq_false (by omega)
  have p2 : (44032 ≤ c) = True := by exact eq_true (by omega)
  have q2 : (c ≤ 55203) = False := by exact eq_false (by omega)
  have p3 : (63744 ≤ c) = True := by exact eq_true (by omega)
  have q3 : (c ≤ 64255) = False := by exact eq_false (by omega)
  have p4 : (65280 ≤ c) = True := by exact eq_true (by omega)
  have q4 : (c ≤ 65376) = False := by exact eq_false (by omega)
  have p5 : (131072 ≤ c) = False := by exact eq_false (by omega)
  clear n0 n1 n2 n3 n4 n5 n6 n7 n8 n9 n10 n11 n12 n13 n14 n15 n16 n17 n18 n19 n20 n21 n22 n23 n24 n25 n26 n27 n28 n29 n30 n31 n32 n33 n34 n35 n36 n37 n38 h0 h1
  have HM := Aside0.mk hm
  have HL := Aside0.mk hL
  clear hm hL
  go_enter Tryd.func39, Tryd.ntmps39
  cases r
  · go_wp2_with (go_at_call 21; refine (metric_Mark.calls c _ _ HM.out (HL.out.now (by repeat (first | exact HB.out | apply below_alloc | apply pw_below_drewN | apply below_drew)))).mono ?_; rintro e w' ⟨rfl, hb⟩)
    go_ret
    exact ⟨rfl, hb⟩
  · go_wp2_with (go_at_call 21; refine (metric_Mark.calls c _ _ HM.out (HL.out.now (by repeat (first | exact HB.out | apply below_alloc | apply pw_below_drewN | apply below_drew)))).mono ?_; rintro e w' ⟨rfl, hb⟩)
    go_ret
    exact ⟨rfl, hb⟩
theorem in_11 (c : Int) (w : World) (hn : ∀ p ∈ named, c ≠ p.1) (h0 : 131072 ≤ c) (h1 : c ≤ 262141) : Goes c 9 w := by
  have HB := Aside0.mk (Below.refl w.heap.size w)
  unfold Goes
  simp only [named, List.mem_cons, List.not_mem_nil, or_false, forall_eq_or_imp, forall_eq] at hn
  obtain ⟨n0, n1, n2, n3, n4, n5, n6, n7, n8, n9, n10, n11, n12, n13, n14, n15, n16, n17, n18, n19, n20, n21, n22, n23, n24, n25, n26, n27, n28, n29, n30, n31, n32, n33, n34, n35, n36, n37, n38⟩ := hn
  have b0 : (c == 10) = false := beq_eq_false_iff_ne.2 n0
  have b1 : (c == 32) = false := beq_eq_false_iff_ne.2 n1
  have b2 : (c == 9) = false := beq_eq_false_iff_ne.2 n2
  have b3 : (c == 8203) = false := beq_eq_false_iff_ne.2 n3
  have b4 : (c == 160) = false := beq_eq_false_iff_ne.2 n4
  have b5 : (c == 8239) = false := beq_eq_false_iff_ne.2 n5
  have b6 : (c == 8288) = false := beq_eq_false_iff_ne.2 n6
  have b7 : (c == 65279) = false := beq_eq_false_iff_ne.2 n7
  have b8 : (c == 45) = false := beq_eq_false_iff_ne.2 n8
  have b9 : (c == 8208) = false := beq_eq_false_iff_ne.2 n9
  have b10 : (c == 8211) = false := beq_eq_false_iff_ne.2 n10
  have b11 : (c == 173) = false := beq_eq_false_iff_ne.2 n11
  have b12 : (c == 40) = false := beq_eq_false_iff_ne.2 n12
  have b13 : (c == 91) = false := beq_eq_false_iff_ne.2 n13
  have b14 : (c == 123) = false := beq_eq_false_iff_ne.2 n14
  have b15 : (c == 171) = false := beq_eq_false_iff_ne.2 n15
  have b16 : (c == 191) = false := beq_eq_false_iff_ne.2 n16
  have b17 : (c == 161) = false := beq_eq_false_iff_ne.2 n17
  have b18 : (c == 8216) = false := beq_eq_false_iff_ne.2 n18
  have b19 : (c == 8220) = false := beq_eq_false_iff_ne.2 n19
  have b20 : (c == 12300) = false := beq_eq_false_iff_ne.2 n20
  have b21 : (c == 41) = false := beq_eq_false_iff_ne.2 n21
  have b22 : (c == 93) = false := beq_eq_false_iff_ne.2 n22
  have b23 : (c == 125) = false := beq_eq_false_iff_ne.2 n23
  have b24 : (c == 187) = false := beq_eq_false_iff_ne.2 n24
  have b25 : (c == 44) = false := beq_eq_false_iff_ne.2 n25
  have b26 : (c == 46) = false := beq_eq_false_iff_ne.2 n26
  have b27 : (c == 58) = false := beq_eq_false_iff_ne.2 n27
  have b28 : (c == 59) = false := beq_eq_false_iff_ne.2 n28
  have b29 : (c == 33) = false := beq_eq_false_iff_ne.2 n29
  have b30 : (c == 63) = false := beq_eq_false_iff_ne.2 n30
  have b31 : (c == 8217) = false := beq_eq_false_iff_ne.2 n31
  have b32 : (c == 8221) = false := beq_eq_false_iff_ne.2 n32
  have b33 : (c == 8230) = false := beq_eq_false_iff_ne.2 n33
  have b34 : (c == 12289) = false := beq_eq_false_iff_ne.2 n34
  have b35 : (c == 12290) = false := beq_eq_false_iff_ne.2 n35
  have b36 : (c == 12301) = false := beq_eq_false_iff_ne.2 n36
  have b37 : (c == 65532) = false := beq_eq_false_iff_ne.2 n37
  have b38 : (c == 8205) = false := beq_eq_false_iff_ne.2 n38
  have p0 : (48 ≤ c) = True := by exact eq_true (by omega)
  have q0 : (c ≤ 57) = False := by exact eq_false (by omega)
  have p1 : (11904 ≤ c) = True := by exact eq_true (by omega)
  have q1 : (c ≤ 42191) = False := by exact eq_false (by omega)
  have p2 : (44032 ≤ c) = True := by exact eq_true (by omega)
  have q2 : (c ≤ 55203) = False := by exact eq_false (by omega)
  have p3 : (63744 ≤ c) = True := by exact eq_true (by omega)
  have q3 : (c ≤ 64255) = False := by exact eq_false (by omega)
  have p4 : (65280 ≤ c) = True := by exact eq_true (by omega)
  have q4 : (c ≤ 65376) = False := by exact eq_false (by omega)
  have p5 : (131072 ≤ c) = True := by exact eq_true (by omega)
  have q5 : (c ≤ 262141) = True := by exact eq_true (by omega)
  clear n0 n1 n2 n3 n4 n5 n6 n7 n8 n9 n10 n11 n12 n13 n14 n15 n16 n17 n18 n19 n20 n21 n22 n23 n24 n25 n26 n27 n28 n29 n30 n31 n32 n33 n34 n35 n36 n37 n38 h0 h1
  go_enter Tryd.func39, Tryd.ntmps39
  go_wp2
  go_ret
  exact ⟨rfl, by repeat (first | exact HB.out | apply below_alloc | apply pw_below_drewN | apply below_drew)⟩
theorem in_12 (c : Int) (w : World) (hn : ∀ p ∈ named, c ≠ p.1) (h0 : 262142 ≤ c) (r : Bool) (hm : metric_Mark.f c = some r) (hL : LaidW w) : Goes c (if r = true then 10 else 0) w := by
  have HB := Aside0.mk (Below.refl w.heap.size w)
  unfold Goes
  simp only [named, List.mem_cons, List.not_mem_nil, or_false, forall_eq_or_imp, forall_eq] at hn
  obtain ⟨n0, n1, n2, n3, n4, n5, n6, n7, n8, n9, n10, n11, n12, n13, n14, n15, n16, n17, n18, n19, n20, n21, n22, n23, n24, n25, n26, n27, n28, n29, n30, n31, n32, n33, n34, n35, n36, n37, n38⟩ := hn
  have b0 : (c == 10) = false := beq_eq_false_iff_ne.2 n0
  have b1 : (c == 32) = false := beq_eq_false_iff_ne.2 n1
  have b2 : (c == 9) = false := beq_eq_false_iff_ne.2 n2
  have b3 : (c == 8203) = false := beq_eq_false_iff_ne.2 n3
  have b4 : (c == 160) = false := beq_eq_false_iff_ne.2 n4
  have b5 : (c == 8239) = false := beq_eq_false_iff_ne.2 n5
  have b6 : (c == 8288) = false := beq_eq_false_iff_ne.2 n6
  have b7 : (c == 65279) = false := beq_eq_false_iff_ne.2 n7
  have b8 : (c == 45) = false := beq_eq_false_iff_ne.2 n8
  have b9 : (c == 8208) = false := beq_eq_false_iff_ne.2 n9
  have b10 : (c == 8211) = false := beq_eq_false_iff_ne.2 n10
  have b11 : (c == 173) = false := beq_eq_false_iff_ne.2 n11
  have b12 : (c == 40) = false := beq_eq_false_iff_ne.2 n12
  have b13 : (c == 91) = false := beq_eq_false_iff_ne.2 n13
  have b14 : (c == 123) = false := beq_eq_false_iff_ne.2 n14
  have b15 : (c == 171) = false := beq_eq_false_iff_ne.2 n15
  have b16 : (c == 191) = false := beq_eq_false_iff_ne.2 n16
  have b17 : (c == 161) = false := beq_eq_false_iff_ne.2 n17
  have b18 : (c == 8216) = false := beq_eq_false_iff_ne.2 n18
  have b19 : (c == 8220) = false := beq_eq_false_iff_ne.2 n19
  have b20 : (c == 12300) = false := beq_eq_false_iff_ne.2 n20
  have b21 : (c == 41) = false := beq_eq_false_iff_ne.2 n21
  have b22 : (c == 93) = false := beq_eq_false_iff_ne.2 n22
  have b23 : (c == 125) = false := beq_eq_false_iff_ne.2 n23
  have b24 : (c == 187) = false := beq_eq_false_iff_ne.2 n24
  have b25 : (c == 44) = false := beq_eq_false_iff_ne.2 n25
  have b26 : (c == 46) = false := beq_eq_false_iff_ne.2 n26
  have b27 : (c == 58) = false := beq_eq_false_iff_ne.2 n27
  have b28 : (c == 59) = false := beq_eq_false_iff_ne.2 n28
  have b29 : (c == 33) = false := beq_eq_false_iff_ne.2 n29
  have b30 : (c == 63) = false := beq_eq_false_iff_ne.2 n30
  have b31 : (c == 8217) = false := beq_eq_false_iff_ne.2 n31
  have b32 : (c == 8221) = false := beq_eq_false_iff_ne.2 n32
  have b33 : (c == 8230) = false := beq_eq_false_iff_ne.2 n33
  have b34 : (c == 12289) = false := beq_eq_false_iff_ne.2 n34
  have b35 : (c == 12290) = false := beq_eq_false_iff_ne.2 n35
  have b36 : (c == 12301) = false := beq_eq_false_iff_ne.2 n36
  have b37 : (c == 65532) = false := beq_eq_false_iff_ne.2 n37
  have b38 : (c == 8205) = false := beq_eq_false_iff_ne.2 n38
  have p0 : (48 ≤ c) = True := by exact eq_true (by omega)
  have q0 : (c ≤ 57) = False := by exact eq_false (by omega)
  have p1 : (11904 ≤ c) = True := by exact eq_true (by omega)
  have q1 : (c ≤ 42191) = False := by exact eq_false (by omega)
  have p2 : (44032 ≤ c) = True := by exact eq_true (by omega)
  have q2 : (c ≤ 55203) = False := by exact eq_false (by omega)
  have p3 : (63744 ≤ c) = True := by exact eq_true (by omega)
  have q3 : (c ≤ 64255) = False := by exact eq_false (by omega)
  have p4 : (65280 ≤ c) = True := by exact eq_true (by omega)
  have q4 : (c ≤ 65376) = False := by exact eq_false (by omega)
  have p5 : (131072 ≤ c) = True := by exact eq_true (by omega)
  have q5 : (c ≤ 262141) = False := by exact eq_false (by omega)
  clear n0 n1 n2 n3 n4 n5 n6 n7 n8 n9 n10 n11 n12 n13 n14 n15 n16 n17 n18 n19 n20 n21 n22 n23 n24 n25 n26 n27 n28 n29 n30 n31 n32 n33 n34 n35 n36 n37 n38 h0 
  have HM := Aside0.mk hm
  have HL := Aside0.mk hL
  clear hm hL
  go_enter Tryd.func39, Tryd.ntmps39
  cases r
  · go_wp2_with (go_at_call 21; refine (metric_Mark.calls c _ _ HM.out (HL.out.now (by repeat (first | exact HB.out | apply below_alloc | apply pw_below_drewN | apply below_drew)))).mono ?_; rintro e w' ⟨rfl, hb⟩)
    go_ret
    exact ⟨rfl, hb⟩
  · go_wp2_with (go_at_call 21; refine (metric_Mark.calls c _ _ HM.out (HL.out.now (by repeat (first | exact HB.out | apply below_alloc | apply pw_below_drewN | apply below_drew)))).mono ?_; rintro e w' ⟨rfl, hb⟩)
    go_ret
    exact ⟨rfl, hb⟩
end Go.Proofs.YtihmbddneapooaaDoor.HandCL
