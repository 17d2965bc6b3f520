/- Walked by hand: pattern.Expand where the ranges of the match fit the text. -/
import Derived.Test.YtemginkjkmmimaaHandEXa
import Derived.StillTailTactics
import Derived.Lib.OthersKept
namespace Go.Proofs.Ytemginkjkmmimaa.HandEX
open Go.Proofs.Ytemginkjkmmimaa.Lib (w64)
open Go.Lib (iterAt_other iterAt_heap run_next_any_at run_next_end_at below_iterAt)
open Go.RowKit Go.Proofs.YtemginkjkmmimaaW.PrintWords Go.Proofs.YtemginkjkmmimaaW.PrintLast Go.Proofs.YtemginkjkmmimaaW.PrintMore Go.Proofs.Ytemginkjkmmimaa.PPatternExpands Go.Proofs.Ytemginkjkmmimaa.Expand
set_option linter.unusedVariables false
theorem info51 : (Try.prog.info? 51).map (fun i => (i.zero, i.size, i.bytes)) = some (some (.agg #[.int .i64 0, .int .i64 0]), 2, 16) := by kernel_rfl
theorem infoI : (Try.prog.info? 3).map (fun i => (i.zero, i.size, i.bytes)) = some (some (.int .i64 0), 1, 8) := by kernel_rfl
abbrev kI : Kd Int := Kd.int .i64
theorem kI_mkM (w : World) (base : Nat) (ok : Nat → Prop) (x : Int) : kI.M w base ok x [.int .i64 x] := rfl
/-- What was made is not touched by an iterator that moves on. -/
theorem R_iter {α : Type} {d : Kd α} {e base : Nat} {w : World} {ok : Nat → Prop} {v : Value} {xs : List α} (h : d.R e w base ok v xs) {g : Nat} {s : ByteArray} {p : Nat} (hg : w.heap[g]? = some (.stringIter s p)) (p' : Nat) : d.R e (w.iterAt g s p') base ok v xs := by
  have h2 : d.R e w base (fun k => ok k ∧ k ≠ g) v xs := Kd.R_mono (Kd.R_bound h) fun k hk => ⟨hk.1, by
    obtain ⟨_, _, _, q, _, cells, hc⟩ := hk
    rintro rfl
    rw [hg] at hc
    cases hc⟩
  exact Kd.R_mono (Kd.R_step h2 fun k hk _ => iterAt_other w g k s p' hk.2) fun k hk => hk.1
theorem iter_ne {α : Type} {d : Kd α} {e base : Nat} {w : World} {ok : Nat → Prop} {v : Value} {xs : List α} (h : d.R e w base ok v xs) {g : Nat} {s : ByteArray} {p : Nat} (hg : w.heap[g]? = some (.stringIter s p)) : some g ≠ v.ownBlock := fun hk => by
  obtain ⟨cells, hc⟩ := Kd.R_typed h g hk.symm
  rw [hg] at hc
  cases hc
theorem empty_yes {r : ByteArray} (h : r.size = 0) : r.toList.isEmpty = true := by
  have e : r = ⟨#[]⟩ := by
    obtain ⟨d⟩ := r
    congr 1
    exact Array.eq_empty_of_size_eq_zero h
  subst e
  rw [ByteArray.toList_eq]
  rfl
theorem empty_no {r : ByteArray} (h : ¬ r.size = 0) : r.toList.isEmpty = false := by
  rw [ByteArray.toList_eq]
  cases hl : r.data.toList with
  | nil => exact absurd (by rw [← ByteArray.size_data, ← Array.length_toList, hl]; rfl) h
  | cons a l => rfl
theorem decode_adv (s : ByteArray) (j : Nat) (hj : j < s.size) : j + (Utf8.decode s j).2 ≤ s.size := by
  refine Nat.le_of_not_lt fun h => ?_
  have := con_lt (decode_in s j (s.size - j) (by omega) (by omega))
  omega
theorem cutV_form (r : ByteArray) : ∃ (pl tl : ByteArray) (b : Bool), cutV r = .tuple #[.string pl, .string tl, .bool b] ∧ pl.size ≤ r.size ∧ (b = false → ix r < 0 ∧ pl = r) ∧ (b = true → ¬ ix r < 0 ∧ pl = r.extract 0 (ix r).toNat ∧ tl = r.extract ((ix r).toNat + 1) r.size) := by
  by_cases h : ix r < 0
  · exact ⟨r, ⟨#[]⟩, false, cutV_no h, Nat.le_refl _, fun _ => ⟨h, rfl⟩, fun e => absurd e (by decide)⟩
  · exact ⟨r.extract 0 (ix r).toNat, r.extract ((ix r).toNat + 1) r.size, true, cutV_yes h, by rw [ByteArray.size_extract]; omega, fun e => absurd e (by decide), fun _ => ⟨h, rfl, rfl⟩⟩
/-- A row of another type is not touched by an append. -/
theorem R_beside {α β : Type} {d : Kd α} {d' : Kd β} {e e' base base' : Nat} {w w1 : World} {ok ok' : Nat → Prop} {v v' : Value} {xs : List α} {ys : List β} (h : d.R e w base ok v xs) (h' : d'.R e' w base' ok' v' ys) (ht : ∀ q, q ∈ e :: d.E → q ≠ e') (hg : w.grownBy w1 v'.ownBlock) : d.R e w1 base ok v xs := by
  have h2 : d.R e w base (fun k => ok k ∧ some k ≠ v'.ownBlock) v xs := Kd.R_mono (Kd.R_bound h) fun k hk => ⟨hk.1, fun hv => by
    obtain ⟨_, _, _, q, hq, cells, hc⟩ := hk
    obtain ⟨cells', hc'⟩ := Kd.R_typed h' k hv.symm
    rw [hc] at hc'
    injection hc' with hc'
    injection hc' with _ hc'
    exact ht q hq hc'⟩
  exact Kd.R_mono (Kd.R_grown h2 hg fun k hk => hk.2) fun k hk => hk.1
/-- What is made of a template that holds a sign. -/
theorem pieces_cut (g : Int → Option (List Int)) (r : ByteArray) (o : List Int) (hz : 0 < r.size) (hi : ¬ ix r < 0) : pieces g r o =
    (if r.size ≤ (ix r).toNat + 1 then ([], 10)
    else if by_ r ((ix r).toNat + 1) = 36 then pieces g (r.extract ((ix r).toNat + 2) r.size) (o ++ runes (r.extract 0 (ix r).toNat) 0 ++ [36])
    else if by_ r ((ix r).toNat + 1) < 48 ∨ by_ r ((ix r).toNat + 1) > 57 then ([], 10)
    else (g ((by_ r ((ix r).toNat + 1) : Int) - 48)).elim ([], 7) fun l => pieces g (r.extract ((ix r).toNat + 2) r.size) (o ++ runes (r.extract 0 (ix r).toNat) 0 ++ l)) := by
  have hi' : ¬ Lib.indexByte r.data.toList 36 < 0 := hi
  rw [pieces, dif_pos hz, dif_neg hi']
  show (if r.size ≤ (ix r).toNat + 1 then _ else if by_ r ((ix r).toNat + 1) = 36 then _ else if by_ r ((ix r).toNat + 1) < 48 ∨ by_ r ((ix r).toNat + 1) > 57 then _ else _) = _
  congr 3
  show (match g ((by_ r ((ix r).toNat + 1) : Int) - 48) with | none => _ | some l => _) = _
  cases g ((by_ r ((ix r).toNat + 1) : Int) - 48) <;> rfl
def SP (f u : Int) (gs : List S51) : List S51 := ⟨f, u⟩ :: gs
def okS (n i : Int) (s : S51) : Prop := (0 < i ∧ s.f0 = -1 ∧ s.f1 = -1) ∨ (0 ≤ s.f0 ∧ s.f0 ≤ s.f1 ∧ s.f1 ≤ n)
def grp (sp : List S51) (tx : List Int) (k : Int) : Option (List Int) := if (sp.length : Int) ≤ k then none else if 0 ≤ (rd_T51 sp k).f0 then some ((tx.take (rd_T51 sp k).f1.toNat).drop (rd_T51 sp k).f0.toNat) else some []
def fits (tx : List Int) (sp : List S51) : Prop := ∀ i : Int, 0 ≤ i → i < sp.length → okS tx.length i (rd_T51 sp i)
def strSz : Value → Nat
  | .string s => s.size
  | _ => 0
def Expd (A0 : Option Addr) (c0 : Nat) (tx : List Int) (A1 : Option Addr) (c1 : Nat) (gs : List S51) (f u : Int) (t : ByteArray) (w : World) (out : List Int) (e0 : Int) : Prop :=
  Calls Try.prog 14 #[.string t, .slice A0 tx.length c0, .agg #[.int .i64 f, .int .i64 u, .slice A1 gs.length c1]] w fun e w' => ∃ v0_ : Value, e = .returned (.tuple #[v0_, .int .i64 e0]) ∧ kI.R 3 w' w.heap.size (fun _ => True) v0_ out ∧ Below w.heap.size w w'
set_option maxHeartbeats 8000000 in
set_option maxRecDepth 100000 in
theorem ex_main (A0 : Option Addr) (c0 : Nat) (tx : List Int) (A1 : Option Addr) (c1 : Nat) (gs : List S51) (f u : Int) (t : ByteArray) (w : World) (hr0 : kI.C w A0 tx.length tx) (hc0 : tx.length ≤ c0) (hr1 : k51.C w A1 gs.length gs) (hc1 : gs.length ≤ c1)
    (hg9 : gs.length ≤ 9) (hfit : fits tx (SP f u gs)) (ht : t.size ≤ 1048576) (hx : tx.length ≤ 1048576) :
    Expd A0 c0 tx A1 c1 gs f u t w (pieces (grp (SP f u gs) tx) t []).1 (pieces (grp (SP f u gs) tx) t []).2 := by
  have hu47 := Try.underlying47
  have hu51 := Try.underlying51
  obtain ⟨sp, hsp⟩ : ∃ sp, SP f u gs = sp := ⟨_, rfl⟩
  rw [hsp] at hfit ⊢
  obtain ⟨⟨po, pe⟩, hP⟩ : ∃ P, pieces (grp sp tx) t [] = P := ⟨_, rfl⟩
  rw [hP]
  have HPP := Aside0.mk hP
  clear hP
  have HSPE := Aside0.mk hsp
  clear hsp
  have HR0 := Aside0.mk hr0
  have HC0 := Aside0.mk hc0
  have HR1 := Aside0.mk hr1
  have HC1 := Aside0.mk hc1
  have HG9 := Aside0.mk hg9
  have HFIT := Aside0.mk hfit
  have HTS := Aside0.mk ht
  have HX := Aside0.mk hx
  have HB := Aside0.mk (Below.refl w.heap.size w)
  clear hr0 hc0 hr1 hc1 hg9 hfit ht hx
  unfold Expd
  go_enter Try.func14, Try.ntmps14
  go_upto_region 2 with (first | ((with_reducible refine gate_dst (N := 5) rfl ?_); refine box_event ?hg (N := 5) ?hd (cs := #[.int .i64 f, .int .i64 u, .slice A1 gs.length c1]) (t := 47) ?hr ?_; (case hd => rfl); (case hg => rfl); (case hr => first | (go_simp; done) | (go_simp; rfl)); intro gb hg w1 hbox hb; have hcb0 : w1.cell? ⟨gb, 0, none⟩ = some (.int .i64 f) := (blk_cell hbox 0).trans rfl; have hcb1 : w1.cell? ⟨gb, 1, none⟩ = some (.int .i64 u) := (blk_cell hbox 1).trans rfl; have hcb2 : w1.cell? ⟨gb, 2, none⟩ = some (.slice A1 gs.length c1) := (blk_cell hbox 2).trans rfl; have HBX := Aside0.mk hbox; have HB1 := Aside0.mk (below_step HB.out hb); clear hbox hg hb HB; have HB := HB1; clear HB1) | ((with_reducible refine gate_dst (N := 24) rfl ?_); refine Kd.R_lit k51 w.heap.size 51 ?hg (N := 24) ?hd (xs := ([(⟨f, u⟩ : S51)] : List S51)) (inner := [.int .i64 f, .int .i64 u]) (ok := fun _ => True) (okp := fun _ => True) ?hr ?hp (fun _ hk => hk) trivial HB.out HB.out.size (by simp) ?_; (case hd => rfl); (case hg => rfl); (case hr => first | (go_simp; done) | (go_simp; rfl)); (case hp => exact Reps.c2 (k51_mkM _ _ _ (⟨f, u⟩ : S51)) (Reps.none _ _)); intro v24 w24 ho hb hgr hat; have HO24 := Aside0.mk ho; have HB24 := Aside0.mk hb; have hbx := blk_grown HBX.out hgr (fun e => by cases e); have hcb2 : w24.cell? ⟨gb, 2, none⟩ = some (.slice A1 gs.length c1) := (blk_cell hbx 2).trans rfl; clear ho hb hgr hat hbx) | ((with_reducible refine gate_builtin (b := .append) (xs := #[.tmp 24, .tmp 26]) rfl ?_); at_builtin; refine Kd.R_append_rows k51 (w0 := w) w.heap.size rfl (.tmp 24) (.tmp 26) 45 51 (.agg #[(.int .i64 0), (.int .i64 0)]) 16 rfl Try.underlying45 info51 rfl (by decide) (by omega) v24 ([⟨f, u⟩] : List S51) gs _ _ _ (fun _ => True) (fun _ => False) rfl rfl ?aO ?aR (fun _ _ h => h) (fun _ h => h.elim) ?aF ?aB ?aS ?aL ?_; (case aR => exact Kd.C_below HR1.out HB24.out); (case aB => exact HB24.out); (case aF => exact (fun _ _ => trivial)); (case aO => exact HO24.out); (case aS => exact HB24.out.size); (case aL => have := HG9.out; simp only [List.length_singleton]; omega); intro v27 w27 ho hb hg hat; have ho2 : k51.R 51 w27 w.heap.size (fun _ => True) v27 sp := HSPE.out ▸ ho; obtain ⟨Asp, csp, rfl⟩ := Kd.R_slice ho2; have HSP := Aside0.mk ho2; clear HB; have HB := Aside0.mk hb; clear ho ho2 hb hg hat))
  clear HBX HO24 HB24 hcb0 hcb1 hcb2
  have hlen : sp.length ≤ 10 := by have h1 := HSPE.out; have h2 := HG9.out; subst h1; show gs.length + 1 ≤ 10; omega
  have hl30 : decide ((sp.length : Int) > 10) = false := decide_eq_false (by omega)
  have hl31 : decide (10 < (sp.length : Int)) = false := decide_eq_false (by omega)
  go_upto_block 0 with (fail)
  go_cut [] (fun wc => Aside0 (k51.R 51 wc w.heap.size (fun _ => True) (.slice Asp sp.length csp) sp) ∧ Aside0 (Below w.heap.size w wc))
  case first =>
    try go_wp2
    go_loopw [33] (fun v33 w' => ∃ i : Int, v33 = .int .i64 i ∧ 0 ≤ i ∧ i ≤ (sp.length : Int) ∧ Aside0 (k51.R 51 w' w.heap.size (fun _ => True) (.slice Asp sp.length csp) sp) ∧ Aside0 (Below w.heap.size w w')) (fun v33 _ => sp.length - (intOf v33).toNat)
    case atStart => exact ⟨0, rfl, by omega, by omega, HSP, HB⟩
    case round =>
      clear HSP HB
      obtain ⟨i, rfl, hi0, hi1, HSP, HB⟩ := hrel
      by_cases hlt : i < (sp.length : Int)
      · have hok := HFIT.out i hi0 hlt
        obtain ⟨ad, ea, hx0, hx1⟩ := at_T51 (Kd.R_reads' HSP.out).2.2 i hi0 hlt
        subst ea
        generalize rd_T51 sp i = x at hok hx0 hx1
        have hj : wrap64 (i + 1) = i + 1 := w64 (by omega) (by omega)
        by_cases hsk : 0 < i ∧ x.f0 = -1 ∧ x.f1 = -1
        · have hs1 : decide (i > 0) = true := decide_eq_true hsk.1
          have hs2 : (x.f0 == -1) = true := beq_iff_eq.2 hsk.2.1
          have hs3 : (x.f1 == -1) = true := beq_iff_eq.2 hsk.2.2
          clear hsk hok
          go_wp2
          go_roundw
          case rel => exact ⟨i + 1, by first | rfl | rw [hj], by omega, by omega, ⟨Kd.R_alloc HSP.out _⟩, ⟨below_alloc HB.out _⟩⟩
          case measure => first | (simp [intOf]; omega) | (rw [hj]; simp [intOf]; omega)
        · have hok2 := hok.resolve_left hsk
          have hs2 : (x.f0 == -1) = false := beq_eq_false_iff_ne.2 (by omega)
          have hs4 : decide (x.f0 < 0) = false := decide_eq_false (by omega)
          have hs5 : decide (x.f1 < x.f0) = false := decide_eq_false (by omega)
          have hs6 : decide (x.f1 > (tx.length : Int)) = false := decide_eq_false (by omega)
          have hs7 : decide ((tx.length : Int) < x.f1) = false := decide_eq_false (by omega)
          clear hsk hok hok2
          go_wp2
          all_goals go_roundw
          all_goals first | exact ⟨i + 1, by first | rfl | rw [hj], by omega, by omega, ⟨Kd.R_alloc HSP.out _⟩, ⟨below_alloc HB.out _⟩⟩ | (simp [intOf]; omega) | (rw [hj]; simp [intOf]; omega)
      · go_wp2
        go_meet
        case rel => exact ⟨HSP, HB⟩
  case rest =>
    clear HSP HB
    obtain ⟨HSP, HB⟩ := hcut
    go_upto_block 2 with (fail)
    try go_wp2
    go_loopw [11, 12] (fun v11 v12 w' => ∃ (r : ByteArray) (o : List Int), v12 = .string r ∧ Aside0 (kI.R 3 w' w.heap.size (fun _ => True) v11 o) ∧ Aside0 (pieces (grp sp tx) r o = (po, pe)) ∧ Aside0 (k51.R 51 w' w.heap.size (fun _ => True) (.slice Asp sp.length csp) sp) ∧ Aside0 (Below w.heap.size w w') ∧ Aside0 (o.length + r.size * 1048577 ≤ 1099512676352)) (fun _ v12 _ => strSz v12)
    case atStart => exact ⟨t, [], rfl, ⟨Kd.R_nil _ _ _ _ _⟩, HPP, HSP, HB, ⟨by have := HTS.out; simp only [List.length_nil]; omega⟩⟩
    case round =>
      clear HSP HB
      obtain ⟨r, o, rfl, HO, HP, HSP, HB, HL⟩ := hrel
      by_cases hz : r.size = 0
      · have hem : r.toList.isEmpty = true := empty_yes hz
        have he : pieces (grp sp tx) r o = (o, 0) := by rw [pieces, dif_neg (by omega)]
        rw [he] at HP
        obtain ⟨rfl, rfl⟩ := Prod.mk.inj HP.out
        go_wp2
        refine bodyPost_ret (v := .tuple #[u11, .int .i64 0]) (by simp [results, Try.results14, go_sem]) rfl ?_
        exact ⟨_, rfl, HO.out, HB.out⟩
      · have hem : r.toList.isEmpty = false := empty_no hz
        have hrs : r.size ≤ 9223372036854775000 := by have := HL.out; omega
        have HRS := Aside0.mk hrs
        clear hrs
        obtain ⟨pl, tl, b, hcv, hpl, hb0, hb1⟩ := cutV_form r
        have HCV := Aside0.mk hcv
        have HPL := Aside0.mk hpl
        clear hcv hpl
        go_upto_block 4 with (go_at_call 25; refine (cut_ok r _ HRS.out).mono ?_; rintro e w2 ⟨rfl, ⟨nd, hnd⟩⟩; rw [HCV.out]; (have ho2 := Kd.R_drewN HO.out nd); (have hsp2 := Kd.R_drewN HSP.out nd); (have hb2 := pw_below_drewN HB.out nd); rw [← hnd] at ho2 hsp2 hb2; clear HO HSP HB hnd; (have HO := Aside0.mk ho2); (have HSP := Aside0.mk hsp2); (have HB := Aside0.mk hb2); clear ho2 hsp2 hb2)
        have hit : (w2.iter pl 0).heap[w2.heap.size]? = some (.stringIter pl 0) := World.iter_heap _ _ _
        have ho3 : kI.R 3 (w2.iter pl 0) w.heap.size (fun _ => True) u11 o := Kd.R_alloc HO.out _
        have hsp3 : k51.R 51 (w2.iter pl 0) w.heap.size (fun _ => True) (.slice Asp sp.length csp) sp := Kd.R_alloc HSP.out _
        have hb3 : Below w.heap.size w (w2.iter pl 0) := below_alloc HB.out _
        have hgi : w.heap.size ≤ w2.heap.size := HB.out.size
        clear HO HSP HB
        generalize w2.iter pl 0 = w3 at hit ho3 hsp3 hb3 ⊢
        generalize w2.heap.size = gi at hit hgi ⊢
        have HIT := Aside0.mk hit
        have HO := Aside0.mk ho3
        have HSP := Aside0.mk hsp3
        have HB := Aside0.mk hb3
        have HGI := Aside0.mk hgi
        clear hit ho3 hsp3 hb3 hgi
        go_cut [11] (fun v11 wc => Aside0 (kI.R 3 wc w.heap.size (fun _ => True) v11 (o ++ runes pl 0)) ∧ Aside0 (k51.R 51 wc w.heap.size (fun _ => True) (.slice Asp sp.length csp) sp) ∧ Aside0 (Below w.heap.size w wc) ∧ Aside0 ((o ++ runes pl 0).length ≤ o.length + pl.size))
        case first =>
          try go_wp2
          go_loopw [11] (fun v11 w' => ∃ (j : Nat) (o1 : List Int), Aside0 (w'.heap[gi]? = some (.stringIter pl j)) ∧ Aside0 (kI.R 3 w' w.heap.size (fun _ => True) v11 o1) ∧ Aside0 (o1 ++ runes pl j = o ++ runes pl 0) ∧ Aside0 (k51.R 51 w' w.heap.size (fun _ => True) (.slice Asp sp.length csp) sp) ∧ Aside0 (Below w.heap.size w w') ∧ Aside0 (o1.length ≤ o.length + j) ∧ Aside0 (j ≤ pl.size)) (fun _ w' => pl.size - w'.iterPos gi)
          case atStart => exact ⟨0, o, HIT, HO, ⟨rfl⟩, HSP, HB, ⟨Nat.le_refl _⟩, ⟨Nat.zero_le _⟩⟩
          case round =>
            clear HIT HO HSP HB
            obtain ⟨j, o1, HIT, HO, HRU, HSP, HB, HJ, HJS⟩ := hrel
            by_cases hj : j < pl.size
            · have hnx := fun ty => run_next_any_at (P := Try.prog) wr gi pl j ty HIT.out hj
              have hn1 := decode_pos pl j
              have hadv : j + (Utf8.decode pl j).2 ≤ pl.size := decode_adv pl j hj
              have hru := HRU.out
              rw [runes_on hj] at hru
              have hc := decode_le pl j
              have HD := Aside0.mk (And.intro hn1 (And.intro hadv hru))
              clear hn1 hadv hru
              have hit2 : (wr.iterAt gi pl (j + (Utf8.decode pl j).2)).heap[gi]? = some (.stringIter pl (j + (Utf8.decode pl j).2)) := iterAt_heap _ _ _ _ _ HIT.out
              have HIT2 := Aside0.mk hit2
              clear hit2
              have HOL : Aside0 (o1.length ≤ 1099512676352 - 1) := ⟨by have := HJ.out; have := HPL.out; have := HL.out; omega⟩
              have ho4 := R_iter HO.out HIT.out (j + (Utf8.decode pl j).2)
              have hsp4 := R_iter HSP.out HIT.out (j + (Utf8.decode pl j).2)
              have hb4 : Below w.heap.size w (wr.iterAt gi pl (j + (Utf8.decode pl j).2)) := below_iterAt HB.out HGI.out _ _
              clear HO HSP HB
              have HO := Aside0.mk ho4
              have HSP := Aside0.mk hsp4
              have HB := Aside0.mk hb4
              clear ho4 hsp4 hb4
              go_wp2_with ((with_reducible refine gate_builtin (b := .append) (xs := #[.tmp 82, .tmp 85]) rfl ?_); at_builtin; refine Kd.R_append kI (w0 := w) w.heap.size rfl (.tmp 82) (.tmp 85) 44 3 (.int .i64 0) 8 rfl Try.underlying44 infoI rfl (by decide) (by omega) u11 o1 ((Utf8.decode pl j).1 : Int) [.int .i64 ((Utf8.decode pl j).1 : Int)] (fun _ => True) (fun _ => False) rfl rfl ?aP (fun _ hk => hk.elim) ?aF ?aO ?aB ?aS ?aL ?_; (case aP => exact kI_mkM _ _ _ _); (case aB => exact HB.out); (case aF => exact (fun _ _ => trivial)); (case aO => exact HO.out); (case aS => exact HB.out.size); (case aL => have := HOL.out; omega); intro v86 w86 ho hb hgr hat; have hit6 : w86.heap[gi]? = some (.stringIter pl (j + (Utf8.decode pl j).2)) := (hgr.block gi (Array.getElem?_eq_some_iff.1 HIT2.out).1 (iter_ne HO.out HIT2.out)).trans HIT2.out; have hsp6 : k51.R 51 w86 w.heap.size (fun _ => True) (.slice Asp sp.length csp) sp := R_beside HSP.out HO.out (by decide) hgr; clear HO HSP HB HIT2; have HO := Aside0.mk ho; have HSP := Aside0.mk hsp6; have HB := Aside0.mk hb; have HIT2 := Aside0.mk hit6; clear ho hb hgr hat hit6 hsp6)
              go_roundw
              case rel =>
                obtain ⟨hn1, hadv, hru⟩ := HD.out
                refine ⟨j + (Utf8.decode pl j).2, o1 ++ [((Utf8.decode pl j).1 : Int)], HIT2, HO, ⟨by rw [← hru, List.append_assoc]; rfl⟩, HSP, HB, ⟨by have := HJ.out; simp only [List.length_append, List.length_singleton]; omega⟩, ⟨hadv⟩⟩
              case measure =>
                obtain ⟨hn1, hadv, hru⟩ := HD.out
                have e1 : wr.iterPos gi = j := by simp [World.iterPos, HIT.out]
                have e2 : w86.iterPos gi = j + (Utf8.decode pl j).2 := by simp [World.iterPos, HIT2.out]
                rw [e1, e2]
                omega
            · have hnx := fun ty => run_next_end_at (P := Try.prog) wr gi pl j ty HIT.out hj
              go_wp2
              go_meet
              case rel =>
                have h9 := HRU.out
                rw [runes_end hj, List.append_nil] at h9
                rw [← h9]
                have := HJ.out
                have := HJS.out
                exact ⟨HO, HSP, HB, ⟨by omega⟩⟩
        case rest =>
          clear HO HSP HB HIT
          obtain ⟨HO, HSP, HB, HLN⟩ := hcut
          obtain ⟨Ao, co, hov⟩ := Kd.R_slice HO.out
          subst hov
          cases b
          · obtain ⟨hi, hpr⟩ := hb0 rfl
            subst hpr
            have hi9 : Lib.indexByte pl.data.toList 36 < 0 := hi
            have he : pieces (grp sp tx) pl o = (o ++ runes pl 0, 0) := by rw [pieces, dif_pos (by omega), dif_pos hi9]
            rw [he] at HP
            obtain ⟨rfl, rfl⟩ := Prod.mk.inj HP.out
            go_wp2
            refine bodyPost_ret (v := .tuple #[.slice Ao (o ++ runes pl 0).length co, .int .i64 0]) (by simp [results, Try.results14, go_sem]) rfl ?_
            exact ⟨_, rfl, HO.out, HB.out⟩
          · obtain ⟨hi, hpr, htl⟩ := hb1 rfl
            clear hb0 hb1
            have hi9 : ¬ Lib.indexByte r.data.toList 36 < 0 := by have h8 : ¬ ix r < 0 := by omega
                                                                  exact h8
            obtain ⟨q1, q2, -⟩ := index_some' (s := r) hi9
            have he := pieces_cut (grp sp tx) r o (by omega) hi9
            have hqe : (Lib.indexByte r.data.toList 36).toNat = (ix r).toNat := rfl
            rw [hqe] at q1 q2
            generalize (ix r).toNat = q at he q1 q2 hpr htl
            rw [HP.out] at he
            have ht1 : tl.size = r.size - (q + 1) := by rw [htl, ByteArray.size_extract]; omega
            have ht2 : tl.extract 1 tl.size = r.extract (q + 2) r.size := by rw [ht1, htl, ByteArray.extract_extract]; congr 1; omega
            subst hpr
            generalize hou : o ++ runes (r.extract 0 q) 0 = o2 at HO HLN he
            have HE := Aside0.mk he
            have HT2 := Aside0.mk ht2
            clear he ht2 HP
            have hls : (r.extract 0 q).size = q := by rw [ByteArray.size_extract]; omega
            rw [hls] at HLN
            have ht3 : by_ r (q + 1) = by_ tl 0 ∨ r.size ≤ q + 1 := by
              by_cases hts : r.size ≤ q + 1
              · exact .inr hts
              · exact .inl (by rw [htl, by_ext (Nat.le_refl _) (by omega)])
            clear htl hls hqe hi9 hi q2 hem
            generalize r.extract 0 q = pl at *
            by_cases hts : r.size ≤ q + 1
            · have htem : tl.toList.isEmpty = true := empty_yes (by omega)
              have h9 := HE.out
              rw [if_pos hts] at h9
              obtain ⟨rfl, rfl⟩ := Prod.mk.inj h9
              clear ht3 h9
              go_wp2
              refine bodyPost_ret (v := .tuple #[.slice none 0 0, .int .i64 10]) (by simp [results, Try.results14, go_sem]) rfl ?_
              exact ⟨_, rfl, Kd.R_nil _ _ _ _ _, HB.out⟩
            · have htem : tl.toList.isEmpty = false := empty_no (by omega)
              have hlt0 : 0 < tl.size := by omega
              have h9 := HE.out
              rw [if_neg hts] at h9
              have ht4 := ht3.resolve_right hts
              have ht5 := (by_list hlt0).2
              obtain ⟨n, hn⟩ : ∃ n, by_ r (q + 1) = n := ⟨_, rfl⟩
              rw [hn] at h9 ht4
              have hbv : (tl[0]'hlt0).toNat = n := by rw [← ht5, ht4]
              have hn256 : n < 256 := by rw [← hbv]; exact UInt8.toNat_lt _
              have H9 := Aside0.mk h9
              have HQ : Aside0 (q + 2 ≤ r.size) := ⟨by omega⟩
              have HT1 := Aside0.mk ht1
              clear h9 ht3 ht4 ht5 hn HE hts q1 ht1
              by_cases h36 : n = 36
              · have hn1 : ((n : Int) == 36) = true := beq_iff_eq.2 (by omega)
                have hn2 : ((n : Int) != 36) = false := bne_eq_false_iff_eq.2 (by omega)
                have h9 := H9.out
                rw [if_pos h36] at h9
                have H8 := Aside0.mk h9
                have HOL : Aside0 (o2.length ≤ 1099512676352 - 1) := ⟨by have := HLN.out; have := HL.out; have := HQ.out; omega⟩
                clear h9 h36
                go_wp2_with ((with_reducible refine gate_builtin (b := .append) (xs := #[.tmp 111, .tmp 112]) rfl ?_); at_builtin; refine Kd.R_append kI (w0 := w) w.heap.size rfl (.tmp 111) (.tmp 112) 44 3 (.int .i64 0) 8 rfl Try.underlying44 infoI rfl (by decide) (by omega) (.slice Ao o2.length co) o2 (36 : Int) [.int .i64 36] (fun _ => True) (fun _ => False) rfl rfl ?aP (fun _ hk => hk.elim) ?aF ?aO ?aB ?aS ?aL ?_; (case aP => exact kI_mkM _ _ _ _); (case aB => exact HB.out); (case aF => exact (fun _ _ => trivial)); (case aO => exact HO.out); (case aS => exact HB.out.size); (case aL => have := HOL.out; omega); intro v113 w113 ho hb hgr hat; have hsp6 : k51.R 51 w113 w.heap.size (fun _ => True) (.slice Asp sp.length csp) sp := R_beside HSP.out HO.out (by decide) hgr; clear HO HSP HB; have HO := Aside0.mk ho; have HSP := Aside0.mk hsp6; have HB := Aside0.mk hb; clear ho hb hgr hat hsp6)
                go_roundw
                case rel => exact ⟨tl.extract 1 tl.size, o2 ++ [36], rfl, HO, ⟨by rw [HT2.out]; exact H8.out.symm⟩, HSP, HB, ⟨by have := HLN.out; have := HL.out; have := HQ.out; have := HT1.out; simp only [List.length_append, List.length_singleton, ByteArray.size_extract]; omega⟩⟩
                case measure => have := HT1.out; have := HQ.out; simp only [strSz, ByteArray.size_extract]; omega
              · have hn1 : ((n : Int) == 36) = false := beq_eq_false_iff_ne.2 (by omega)
                have hn2 : ((n : Int) != 36) = true := bne_iff_ne.2 (by omega)
                have h9 := H9.out
                rw [if_neg h36] at h9
                clear h36
                by_cases hd : n < 48 ∨ n > 57
                · rw [if_pos hd] at h9
                  obtain ⟨rfl, rfl⟩ := Prod.mk.inj h9
                  clear h9
                  by_cases hd1 : n < 48
                  · have hn3 : decide ((n : Int) < 48) = true := decide_eq_true (by omega)
                    clear hd
                    go_wp2
                    refine bodyPost_ret (v := .tuple #[.slice none 0 0, .int .i64 10]) (by simp [results, Try.results14, go_sem]) rfl ?_
                    exact ⟨_, rfl, Kd.R_nil _ _ _ _ _, HB.out⟩
                  · have hn3 : decide ((n : Int) < 48) = false := decide_eq_false (by omega)
                    have hn4 : decide ((n : Int) > 57) = true := decide_eq_true (by omega)
                    have hn5 : decide (57 < (n : Int)) = true := decide_eq_true (by omega)
                    clear hd
                    go_wp2
                    refine bodyPost_ret (v := .tuple #[.slice none 0 0, .int .i64 10]) (by simp [results, Try.results14, go_sem]) rfl ?_
                    exact ⟨_, rfl, Kd.R_nil _ _ _ _ _, HB.out⟩
                · rw [if_neg hd] at h9
                  have hn3 : decide ((n : Int) < 48) = false := decide_eq_false (by omega)
                  have hn4 : decide ((n : Int) > 57) = false := decide_eq_false (by omega)
                  have hn5 : decide (57 < (n : Int)) = false := decide_eq_false (by omega)
                  have hk2 : ((n : Int) - 48) % 256 = ((n : Int) - 48) := by omega
                  have hk0 : 0 ≤ ((n : Int) - 48) := by omega
                  have H8 := Aside0.mk h9
                  clear h9 hd
                  by_cases hks : (sp.length : Int) ≤ ((n : Int) - 48)
                  · have hks1 : decide (((n : Int) - 48) ≥ (sp.length : Int)) = true := decide_eq_true hks
                    have hks2 : decide ((sp.length : Int) ≤ ((n : Int) - 48)) = true := decide_eq_true hks
                    have h9 := H8.out
                    rw [show grp sp tx ((n : Int) - 48) = none from if_pos hks] at h9
                    obtain ⟨rfl, rfl⟩ := Prod.mk.inj h9
                    clear h9 hks
                    go_wp2
                    refine bodyPost_ret (v := .tuple #[.slice none 0 0, .int .i64 7]) (by simp [results, Try.results14, go_sem]) rfl ?_
                    exact ⟨_, rfl, Kd.R_nil _ _ _ _ _, HB.out⟩
                  · have hks1 : decide (((n : Int) - 48) ≥ (sp.length : Int)) = false := decide_eq_false hks
                    have hks2 : decide ((sp.length : Int) ≤ ((n : Int) - 48)) = false := decide_eq_false hks
                    have hkl : ((n : Int) - 48) < (sp.length : Int) := by omega
                    have hok := HFIT.out ((n : Int) - 48) hk0 hkl
                    obtain ⟨ad, ea, hx0, hx1⟩ := at_T51 (Kd.R_reads' HSP.out).2.2 ((n : Int) - 48) hk0 (by omega)
                    subst ea
                    obtain ⟨x, hx⟩ : ∃ x, rd_T51 sp ((n : Int) - 48) = x := ⟨_, rfl⟩
                    rw [hx] at hok hx0 hx1
                    rw [show ((n : Int) - 48).toNat = n - 48 by omega] at hx0 hx1
                    have h9 := H8.out
                    by_cases hf0 : 0 ≤ x.f0
                    · have hok2 : 0 ≤ x.f0 ∧ x.f0 ≤ x.f1 ∧ x.f1 ≤ tx.length := hok.resolve_left fun h => by omega
                      rw [show grp sp tx ((n : Int) - 48) = some ((tx.take x.f1.toNat).drop x.f0.toNat) by rw [grp, if_neg hks, hx, if_pos hf0]] at h9
                      obtain ⟨ys, hys⟩ : ∃ ys, (tx.take x.f1.toNat).drop x.f0.toNat = ys := ⟨_, rfl⟩
                      rw [hys] at h9
                      have H7 := Aside0.mk h9
                      have hyl : ys.length = x.f1.toNat - x.f0.toNat := by rw [← hys, List.length_drop, List.length_take]; omega
                      obtain ⟨As, hAs⟩ : ∃ As : Option Addr, (if c0 = x.f0.toNat then A0 else A0.map (·.add (x.f0.toNat * 1))) = As := ⟨_, rfl⟩
                      have hcm : ∀ W : World, (Instr.slice 44 (.slice A0 tx.length c0) (some (.int .i64 x.f0)) (some (.int .i64 x.f1)) none).run Try.prog W = .ok (.slice As ys.length (c0 - x.f0.toNat)) W := fun W => by
                        obtain ⟨i3, hi3, hz3⟩ := Option.map_eq_some_iff.1 infoI
                        have hs3 : i3.size = 1 := (Prod.mk.inj (Prod.mk.inj hz3).2).1
                        rw [cut_mid 44 3 .i64 .i64 Try.underlying44 hi3 1 hs3 A0 tx.length c0 x.f0 x.f1 hok2.1 hok2.2.1 hok2.2.2 HC0.out W, hAs, hyl]
                      have hcy : kI.C w As ys.length ys := by
                        have h5 := Kd.C_mid (lo := x.f0.toNat) (hi := x.f1.toNat) (c := c0) HR0.out (by omega) (by omega) HC0.out
                        rw [hys] at h5
                        rw [← hAs]
                        exact h5
                      have HCY := Aside0.mk hcy
                      have HYL : Aside0 (ys.length ≤ 1048576) := ⟨by have := HX.out; omega⟩
                      have hg1 : decide (x.f0 ≥ 0) = true := decide_eq_true hf0
                      have hg2 : decide (0 ≤ x.f0) = true := decide_eq_true hf0
                      clear h9 hok hok2 hx hys hyl hAs hcy hks
                      have HOL : Aside0 (o2.length ≤ 1099512676352 - 1) := ⟨by have := HLN.out; have := HL.out; have := HQ.out; omega⟩
                      go_wp2
                      obtain ⟨K, hK⟩ : ∃ K : Int, (n : Int) - 48 = K := ⟨_, rfl⟩
                      rw [show n - 48 = K.toNat by omega] at hx0 hx1
                      rw [hK] at hk0 hkl ⊢
                      clear hk2 hn1 hn2 hn3 hn4 hn5 hks1 hks2 hK
                      refine wp_region_still_tail 13 (by kernel_rfl) (by kernel_rfl) ?_
                      simp only [List.take_succ_cons, List.take_zero, List.drop_succ_cons, List.drop_zero]
                      have ho5 := Kd.R_drewN HO.out 1
                      have hsp5 := Kd.R_drewN HSP.out 1
                      have hb5 := pw_below_drewN HB.out 1
                      generalize hwq : ({ wc with drawn := wc.drawn + 1 } : World) = wq
                      have hwq2 : wc.drewN 1 = wq := hwq
                      rw [hwq2] at ho5 hsp5 hb5
                      have hx0 : wq.cell? (ad.add (K.toNat * 2)) = some (.int .i64 x.f0) := by rw [← hwq]; exact hx0
                      have hx1 : wq.cell? ⟨(ad.add (K.toNat * 2)).block, (ad.add (K.toNat * 2)).off + 1, none⟩ = some (.int .i64 x.f1) := by rw [← hwq]; exact hx1
                      clear HO HSP HB hwq hwq2
                      have HO := Aside0.mk ho5
                      have HSP := Aside0.mk hsp5
                      have HB := Aside0.mk hb5
                      clear ho5 hsp5 hb5
                      repeat still_step
                      refine wpStill_nil ?_
                      go_wp2_with ((with_reducible refine gate_builtin (b := .append) (xs := #[.tmp 128, .tmp 140]) rfl ?_); at_builtin; refine Kd.R_append_rows kI (w0 := w) w.heap.size rfl (.tmp 128) (.tmp 140) 44 3 (.int .i64 0) 8 rfl Try.underlying44 infoI rfl (by decide) (by omega) (.slice Ao o2.length co) o2 ys As ys.length (c0 - x.f0.toNat) (fun _ => True) (fun _ => False) rfl rfl ?aO ?aR (fun _ _ h => h) (fun _ h => h.elim) ?aF ?aB ?aS ?aL ?_; (case aR => exact Kd.C_below HCY.out HB.out); (case aB => exact HB.out); (case aF => exact (fun _ _ => trivial)); (case aO => exact HO.out); (case aS => exact HB.out.size); (case aL => have := HOL.out; have := HYL.out; omega); intro v141 w141 ho hb hgr hat; have hsp6 : k51.R 51 w141 w.heap.size (fun _ => True) (.slice (some ad) sp.length csp) sp := R_beside HSP.out HO.out (by decide) hgr; clear HO HSP HB; have HO := Aside0.mk ho; have HSP := Aside0.mk hsp6; have HB := Aside0.mk hb; clear ho hb hgr hat hsp6)
                      go_roundw
                      case rel =>
                        have h7 : (po, pe) = pieces (grp sp tx) (r.extract (q + 2) r.size) (o2 ++ ys) := H7.out
                        exact ⟨tl.extract 1 tl.size, o2 ++ ys, rfl, HO, ⟨by rw [HT2.out]; exact h7.symm⟩, HSP, HB, ⟨by have := HLN.out; have := HL.out; have := HQ.out; have := HT1.out; have := HYL.out; simp only [List.length_append, ByteArray.size_extract]; omega⟩⟩
                      case measure => have := HT1.out; have := HQ.out; simp only [strSz, ByteArray.size_extract]; omega
                    · rw [show grp sp tx ((n : Int) - 48) = some [] by rw [grp, if_neg hks, hx, if_neg hf0]] at h9
                      have H7 := Aside0.mk h9
                      have hg1 : decide (x.f0 ≥ 0) = false := decide_eq_false hf0
                      have hg2 : decide (0 ≤ x.f0) = false := decide_eq_false hf0
                      clear h9 hok hx hks hf0
                      go_wp2
                      go_roundw
                      case rel =>
                        have h7 : (po, pe) = pieces (grp sp tx) (r.extract (q + 2) r.size) (o2 ++ []) := H7.out
                        rw [List.append_nil] at h7
                        exact ⟨tl.extract 1 tl.size, o2, rfl, HO, ⟨by rw [HT2.out]; exact h7.symm⟩, HSP, HB, ⟨by have := HLN.out; have := HL.out; have := HQ.out; have := HT1.out; simp only [ByteArray.size_extract]; omega⟩⟩
                      case measure => have := HT1.out; have := HQ.out; simp only [strSz, ByteArray.size_extract]; omega
end Go.Proofs.Ytemginkjkmmimaa.HandEX
