/- What the law's proof needs of Px11. -/
import Derived.Test.YtbbnpipmjadpoaaTrDU2
import Derived.Test.YtbbnpipmjadpoaaTrDU
import Derived.Test.YtbbnpipmjadpoaaTrDPx0
import Derived.Test.YtbbnpipmjadpoaaTrDPx2
import Derived.Test.YtbbnpipmjadpoaaTrDPx3
import Derived.Test.YtbbnpipmjadpoaaTrDPx7
import Derived.Test.YtbbnpipmjadpoaaTrDPx9
-- PRINTED by print.py (a twelfth state) out of the translation. Not trusted: Lean checks it.
namespace Go.Proofs.Ytbbnpipmjadpoaa.P
open Go.RowKit Go.Proofs.YtbbnpipmjadpoaaW.PrintWords Go.Proofs.YtbbnpipmjadpoaaW.PrintLast Go.Proofs.YtbbnpipmjadpoaaW.PrintMore Go.Proofs.YtbbnpipmjadpoaaO
attribute [local go_sem] max2_int min2_int max_two min_two max_three min_three max_four min_four   -- for this text's walks alone
set_option linter.unusedVariables false
set_option linter.unusedSimpArgs false
def gimbalref02_Meet.j0 : Nat → Bool → Int → Int → Int → Int → Option (Int × Int)
  | 0, _, _, _, _, _ => none
  | k + 1, x14, x211000, x211001, x212000, x212001 => if x14 = true then ((gimbalref02_Empty.f).bind fun bt219 => (some (bt219.1, bt219.2))) else ((gimbalref02_more.f x211000 x212000).bind fun t221 => ((gimbalref02_less.f x211001 x212001).bind fun t222 => ((gimbalref02_Of.f k t221 t222).bind fun bt223 => (some (bt223.1, bt223.2)))))
def gimbalref02_Meet.f (k : Nat) (a0_0 : Int) (a0_1 : Int) (a1_0 : Int) (a1_1 : Int) : Option (Int × Int) := (gimbalref02_norm.f k a0_0 a0_1).bind fun bt213 => ((gimbalref02_norm.f k a1_0 a1_1).bind fun bt215 => ((gimbalref02_None.f bt213.1 bt213.2).bind fun t217 => (if t217 = true then (gimbalref02_Meet.j0 k true bt213.1 bt213.2 bt215.1 bt215.2) else ((gimbalref02_None.f bt215.1 bt215.2).bind fun t218 => (gimbalref02_Meet.j0 k t218 bt213.1 bt213.2 bt215.1 bt215.2)))))
def gimbalref02_Meet.T5 : Bool × List (List Nat × List Nat) := (true, [([], []), ([0], [0]), ([], []), ([2], [2]), ([1, 3], [1, 3]), ([], []), ([5], [5]), ([], []), ([7], [7]), ([6, 8, 4], [6, 8]), ([4, 9, 9], [4, 9]), ([10, 10, 0, 1, 2, 3, 4, 5, 6, 7, 8, 9, 10], [10])])
def gimbalref02_Meet.B5 : List Nat := [0, 1, 0, 4, 15, 0, 32, 0, 128, 511, 1023, 2047]
theorem gimbalref02_Meet.tab5 : rtab .any (opsOf Try.f29 5) = gimbalref02_Meet.T5 := by kernel_rfl
theorem gimbalref02_Meet.bits5 : waitsOk gimbalref02_Meet.T5.2 gimbalref02_Meet.B5 = true := by kernel_rfl
set_option maxHeartbeats 8000000 in
set_option maxRecDepth 100000 in
theorem gimbalref02_Meet.calls (k : Nat) (a0_0 : Int) (a0_1 : Int) (a1_0 : Int) (a1_1 : Int) (r1 : Int) (r2 : Int) (w : World) (h : gimbalref02_Meet.f k a0_0 a0_1 a1_0 a1_1 = some (r1, r2)) :
    Calls Try.prog 29 #[.agg #[.int .i64 a0_0, .int .i64 a0_1], .agg #[.int .i64 a1_0, .int .i64 a1_1]] w fun e w' => e = .returned (.agg #[.int .i64 r1, .int .i64 r2]) ∧ Below w.heap.size w w' := by
  have hu23 := Try.underlying23
  have HB := Aside0.mk (Below.refl w.heap.size w)
  have H : ((gimbalref02_norm.f k a0_0 a0_1).bind fun bt213 => ((gimbalref02_norm.f k a1_0 a1_1).bind fun bt215 => ((gimbalref02_None.f bt213.1 bt213.2).bind fun t217 => (if t217 = true then (gimbalref02_Meet.j0 k true bt213.1 bt213.2 bt215.1 bt215.2) else ((gimbalref02_None.f bt215.1 bt215.2).bind fun t218 => (gimbalref02_Meet.j0 k t218 bt213.1 bt213.2 bt215.1 bt215.2)))))) = some (r1, r2) := h
  clear h
  replace H := Option.bind_eq_some_iff.mp H
  obtain ⟨⟨t213, t214⟩, A30, H⟩ := H
  replace H : ((gimbalref02_norm.f k a1_0 a1_1).bind fun bt215 => ((gimbalref02_None.f t213 t214).bind fun t217 => (if t217 = true then (gimbalref02_Meet.j0 k true t213 t214 bt215.1 bt215.2) else ((gimbalref02_None.f bt215.1 bt215.2).bind fun t218 => (gimbalref02_Meet.j0 k t218 t213 t214 bt215.1 bt215.2))))) = some (r1, r2) := H
  have A3 := Aside0.mk A30
  clear A30
  replace H := Option.bind_eq_some_iff.mp H
  obtain ⟨⟨t215, t216⟩, A40, H⟩ := H
  replace H : ((gimbalref02_None.f t213 t214).bind fun t217 => (if t217 = true then (gimbalref02_Meet.j0 k true t213 t214 t215 t216) else ((gimbalref02_None.f t215 t216).bind fun t218 => (gimbalref02_Meet.j0 k t218 t213 t214 t215 t216)))) = some (r1, r2) := H
  have A4 := Aside0.mk A40
  clear A40
  have HC5 := Aside0.mk H
  clear H
  go_enter Try.func29, Try.ntmps29
  go_upto_region 3 with (first | ((with_reducible refine gate_dst (N := 2) rfl ?_); refine box_event ?hg (N := 2) ?hd (cs := #[.int .i64 a0_0, .int .i64 a0_1]) (t := 23) ?hr ?_; (case hd => rfl); (case hg => rfl); (case hr => first | (go_simp; done) | (go_simp; rfl)); intro gb210 hg w6 hbox hb; have n0_ := bst HB hb; have n1_ := Aside0.mk (hbox); have n2_ := bsz HB hg; have n3_ := bsz HB hg; clear HB; have HB := n0_; have BK210 := n1_; have GW210 := n2_; have GE210 := n3_; clear n0_ n1_ n2_ n3_; clear hb hbox hg) | ((with_reducible refine gate_dst (N := 3) rfl ?_); refine box_event ?hg (N := 3) ?hd (cs := #[.int .i64 a1_0, .int .i64 a1_1]) (t := 23) ?hr ?_; (case hd => rfl); (case hg => rfl); (case hr => first | (go_simp; done) | (go_simp; rfl)); intro gb211 hg w7 hbox hb; have n0_ := bst HB hb; have n1_ := Aside0.mk (hbox); have n2_ := bsz HB hg; have n3_ := bsz HB hg; have n4_ := bn1 BK210 hg; have n5_ := bn2 BK210 hg; replace BK210 := bbw BK210 hb; clear HB; have HB := n0_; have BK211 := n1_; have GW211 := n2_; have GE211 := n3_; have NB210_211 := n4_; have NB211_210 := n5_; clear n0_ n1_ n2_ n3_ n4_ n5_; clear hb hbox hg) | ((with_reducible refine gate_dst (N := 4) rfl ?_); refine box_event ?hg (N := 4) ?hd (cs := #[.int .i64 0, .int .i64 0]) (t := 23) ?hr ?_; (case hd => rfl); (case hg => rfl); (case hr => first | (go_simp; done) | (go_simp; rfl)); intro gb212 hg w8 hbox hb; have n0_ := bst HB hb; have n1_ := Aside0.mk (hbox); have n2_ := bsz HB hg; have n3_ := bsz HB hg; have n4_ := bn1 BK210 hg; have n5_ := bn2 BK210 hg; have n6_ := bn1 BK211 hg; have n7_ := bn2 BK211 hg; replace BK210 := bbw BK210 hb; replace BK211 := bbw BK211 hb; clear HB; have HB := n0_; have BK212 := n1_; have GW212 := n2_; have GE212 := n3_; have NB210_212 := n4_; have NB212_210 := n5_; have NB211_212 := n6_; have NB212_211 := n7_; clear n0_ n1_ n2_ n3_ n4_ n5_ n6_ n7_; clear hb hbox hg; have hnb9 := NB210_211.out; have hnc9 := NB211_210.out; have hnb10 := NB210_212.out; have hnc10 := NB212_210.out; have hcz11_0 := hcz BK210 0; have hcz11_1 := hcz BK210 1; have hfz11_0 := blk_frozen BK210.out 0; have hfz11_1 := blk_frozen BK210.out 1) | ((with_reducible refine gate_callee (f := 60) rfl ?_); refine goesL_ (some 6) rfl rfl Try.func60 (by kernel_rfl) rfl #[.agg #[.int .i64 a0_0, .int .i64 a0_1]] rfl (by (try simp only [List.map_toArray, List.map_cons, List.map_nil]); first | done | rfl | (simp only [List.length_drop, List.length_take]; rfl)) ?_; (with_reducible refine (gimbalref02_norm.calls k a0_0 a0_1 t213 t214 _ A3.out).mono ?_); rintro e w12 ⟨rfl, hb⟩; refine ⟨_, rfl, ?_⟩; have n0_ := bst HB hb; replace BK210 := bbw BK210 hb; replace BK211 := bbw BK211 hb; replace BK212 := bbw BK212 hb; clear HB; have HB := n0_; clear n0_; (try clear hb); (try clear hb2); (try clear hk); (try clear hi); have hcz13_0 := hcz BK210 0; have hcz13_1 := hcz BK210 1; have hfz13_0 := blk_frozen BK210.out 0; have hfz13_1 := blk_frozen BK210.out 1; have hnb14 := NB211_212.out; have hnc14 := NB212_211.out; have hcz15_0 := hcz BK211 0; have hcz15_1 := hcz BK211 1; have hfz15_0 := blk_frozen BK211.out 0; have hfz15_1 := blk_frozen BK211.out 1) | ((with_reducible refine gate_callee (f := 60) rfl ?_); refine goesL_ (some 8) rfl rfl Try.func60 (by kernel_rfl) rfl #[.agg #[.int .i64 a1_0, .int .i64 a1_1]] rfl (by (try simp only [List.map_toArray, List.map_cons, List.map_nil]); first | done | rfl | (simp only [List.length_drop, List.length_take]; rfl)) ?_; (with_reducible refine (gimbalref02_norm.calls k a1_0 a1_1 t215 t216 _ A4.out).mono ?_); rintro e w16 ⟨rfl, hb⟩; refine ⟨_, rfl, ?_⟩; have n0_ := Aside0.mk (blk_below (g := gb210) (o := .cells #[.int .i64 t213, .int .i64 t214] 23 (0, 0)) (by refine pkB ?_; refine blk_put (cs := #[.int .i64 t213, .int .i64 a0_1]) ?_ 1 _ (by first | rfl | (subst_vars; rfl)); refine pkB ?_; refine blk_put (cs := #[.int .i64 a0_0, .int .i64 a0_1]) ?_ 0 _ (by first | rfl | (subst_vars; rfl)); refine pkB ?_; exact BK210.out) hb); have n1_ := Aside0.mk (blk_below (g := gb211) (o := .cells #[.int .i64 a1_0, .int .i64 a1_1] 23 (0, 0)) (by refine pkB ?_; refine blk_far ?_ NB211_210.out _; refine pkB ?_; refine blk_far ?_ NB211_210.out _; refine pkB ?_; exact BK211.out) hb); have n2_ := Aside0.mk (blk_below (g := gb212) (o := .cells #[.int .i64 0, .int .i64 0] 23 (0, 0)) (by refine pkB ?_; refine blk_far ?_ NB212_210.out _; refine pkB ?_; refine blk_far ?_ NB212_210.out _; refine pkB ?_; exact BK212.out) hb); have n3_ := bst HB hb; clear BK210; clear BK211; clear BK212; clear HB; have BK210 := n0_; have BK211 := n1_; have BK212 := n2_; have HB := n3_; clear n0_ n1_ n2_ n3_; (try clear hb); (try clear hb2); (try clear hk); (try clear hi); have hcz17_0 := hcz BK211 0; have hcz17_1 := hcz BK211 1; have hfz17_0 := blk_frozen BK211.out 0; have hfz17_1 := blk_frozen BK211.out 1))
  (try simp only [Act.put, List.setIfInBounds_toArray, List.set_cons_zero, List.set_cons_succ])
  go_cut [14] (fun v14 wc => ∃ (kq : Nat) (x14_4 : Bool), v14 = .bool x14_4 ∧ Aside0 (gimbalref02_Meet.j0 kq x14_4 t213 t214 t215 t216 = some (r1, r2)) ∧ Aside0 (kq ≤ k) ∧ Aside0 (wc.heap[gb210]? = some (.cells #[.int .i64 t213, .int .i64 t214] 23 (0, 0))) ∧ Aside0 (wc.heap[gb211]? = some (.cells #[.int .i64 t215, .int .i64 t216] 23 (0, 0))) ∧ Aside0 (wc.heap[gb212]? = some (.cells #[.int .i64 0, .int .i64 0] 23 (0, 0))) ∧ Aside0 (Below w.heap.size w wc))
  case first =>
   have H := HC5.out
   clear HC5
   replace H := Option.bind_eq_some_iff.mp H
   obtain ⟨t217, A180, H⟩ := H
   replace H : (if t217 = true then (gimbalref02_Meet.j0 k true t213 t214 t215 t216) else ((gimbalref02_None.f t215 t216).bind fun t218 => (gimbalref02_Meet.j0 k t218 t213 t214 t215 t216))) = some (r1, r2) := H
   have A18 := Aside0.mk A180
   clear A180
   by_cases c19 : t217 = true
   ·
    subst c19
    have H1 : (gimbalref02_Meet.j0 k true t213 t214 t215 t216) = some (r1, r2) := by rw [if_pos rfl] at H; exact H
    clear H
    have H := H1
    clear H1
    have H' := Aside0.mk H
    clear H
    have hnb20 := NB210_211.out
    have hnc20 := NB211_210.out
    have hnb21 := NB210_212.out
    have hnc21 := NB212_210.out
    have hcz22_0 := hcz BK210 0
    have hcz22_1 := hcz BK210 1
    have hfz22_0 := blk_frozen BK210.out 0
    have hfz22_1 := blk_frozen BK210.out 1
    go_wp2_with (first | ((with_reducible refine gate_callee (f := 61) rfl ?_); refine goesL_ (some 10) rfl rfl Try.func61 (by kernel_rfl) rfl #[.agg #[.int .i64 t213, .int .i64 t214]] rfl (by (try simp only [List.map_toArray, List.map_cons, List.map_nil]); first | done | rfl | (simp only [List.length_drop, List.length_take]; rfl)) ?_; (with_reducible refine (gimbalref02_None.calls t213 t214 true _ A18.out).mono ?_); rintro e w23 ⟨rfl, hb⟩; refine ⟨_, rfl, ?_⟩; have n0_ := Aside0.mk (blk_below (g := gb210) (o := .cells #[.int .i64 t213, .int .i64 t214] 23 (0, 0)) (by refine pkB ?_; refine blk_far ?_ NB210_211.out _; refine pkB ?_; refine blk_far ?_ NB210_211.out _; refine pkB ?_; exact BK210.out) hb); have n1_ := Aside0.mk (blk_below (g := gb211) (o := .cells #[.int .i64 t215, .int .i64 t216] 23 (0, 0)) (by refine pkB ?_; refine blk_put (cs := #[.int .i64 t215, .int .i64 a1_1]) ?_ 1 _ (by first | rfl | (subst_vars; rfl)); refine pkB ?_; refine blk_put (cs := #[.int .i64 a1_0, .int .i64 a1_1]) ?_ 0 _ (by first | rfl | (subst_vars; rfl)); refine pkB ?_; exact BK211.out) hb); have n2_ := Aside0.mk (blk_below (g := gb212) (o := .cells #[.int .i64 0, .int .i64 0] 23 (0, 0)) (by refine pkB ?_; refine blk_far ?_ NB212_211.out _; refine pkB ?_; refine blk_far ?_ NB212_211.out _; refine pkB ?_; exact BK212.out) hb); have n3_ := bst HB hb; clear BK210; clear BK211; clear BK212; clear HB; have BK210 := n0_; have BK211 := n1_; have BK212 := n2_; have HB := n3_; clear n0_ n1_ n2_ n3_; (try clear hb); (try clear hb2); (try clear hk); (try clear hi)))
    go_meet
    case rel => exact ⟨_, (true), (by first | rfl | (simp; done) | (simp [*]; done)), H', ⟨by first | omega | exact Nat.le_refl _⟩, pkA BK210, pkA BK211, pkA BK212, bpk HB⟩
   ·
    replace c19 := Bool.eq_false_iff.mpr c19
    subst c19
    have H1 : ((gimbalref02_None.f t215 t216).bind fun t218 => (gimbalref02_Meet.j0 k t218 t213 t214 t215 t216)) = some (r1, r2) := by rw [if_neg (show ¬ (false = true) by decide)] at H; exact H
    clear H
    have H := H1
    clear H1
    replace H := Option.bind_eq_some_iff.mp H
    obtain ⟨t218, A240, H⟩ := H
    replace H : (gimbalref02_Meet.j0 k t218 t213 t214 t215 t216) = some (r1, r2) := H
    have A24 := Aside0.mk A240
    clear A240
    have H' := Aside0.mk H
    clear H
    have hnb25 := NB210_211.out
    have hnc25 := NB211_210.out
    have hnb26 := NB210_212.out
    have hnc26 := NB212_210.out
    have hcz27_0 := hcz BK210 0
    have hcz27_1 := hcz BK210 1
    have hfz27_0 := blk_frozen BK210.out 0
    have hfz27_1 := blk_frozen BK210.out 1
    go_wp2_with (first | ((with_reducible refine gate_callee (f := 61) rfl ?_); refine goesL_ (some 10) rfl rfl Try.func61 (by kernel_rfl) rfl #[.agg #[.int .i64 t213, .int .i64 t214]] rfl (by (try simp only [List.map_toArray, List.map_cons, List.map_nil]); first | done | rfl | (simp only [List.length_drop, List.length_take]; rfl)) ?_; (with_reducible refine (gimbalref02_None.calls t213 t214 false _ A18.out).mono ?_); rintro e w28 ⟨rfl, hb⟩; refine ⟨_, rfl, ?_⟩; have n0_ := Aside0.mk (blk_below (g := gb210) (o := .cells #[.int .i64 t213, .int .i64 t214] 23 (0, 0)) (by refine pkB ?_; refine blk_far ?_ NB210_211.out _; refine pkB ?_; refine blk_far ?_ NB210_211.out _; refine pkB ?_; exact BK210.out) hb); have n1_ := Aside0.mk (blk_below (g := gb211) (o := .cells #[.int .i64 t215, .int .i64 t216] 23 (0, 0)) (by refine pkB ?_; refine blk_put (cs := #[.int .i64 t215, .int .i64 a1_1]) ?_ 1 _ (by first | rfl | (subst_vars; rfl)); refine pkB ?_; refine blk_put (cs := #[.int .i64 a1_0, .int .i64 a1_1]) ?_ 0 _ (by first | rfl | (subst_vars; rfl)); refine pkB ?_; exact BK211.out) hb); have n2_ := Aside0.mk (blk_below (g := gb212) (o := .cells #[.int .i64 0, .int .i64 0] 23 (0, 0)) (by refine pkB ?_; refine blk_far ?_ NB212_211.out _; refine pkB ?_; refine blk_far ?_ NB212_211.out _; refine pkB ?_; exact BK212.out) hb); have n3_ := bst HB hb; clear BK210; clear BK211; clear BK212; clear HB; have BK210 := n0_; have BK211 := n1_; have BK212 := n2_; have HB := n3_; clear n0_ n1_ n2_ n3_; (try clear hb); (try clear hb2); (try clear hk); (try clear hi); have hnb29 := NB211_212.out; have hnc29 := NB212_211.out; have hcz30_0 := hcz BK211 0; have hcz30_1 := hcz BK211 1; have hfz30_0 := blk_frozen BK211.out 0; have hfz30_1 := blk_frozen BK211.out 1) | (go_at_call 61; (with_reducible refine (gimbalref02_None.calls t215 t216 t218 _ A24.out).mono ?_); rintro e w31 ⟨rfl, hb⟩; have n0_ := bst HB hb; replace BK210 := bbw BK210 hb; replace BK211 := bbw BK211 hb; replace BK212 := bbw BK212 hb; clear HB; have HB := n0_; clear n0_; (try clear hb); (try clear hb2); (try clear hk); (try clear hi)))
    go_meet
    case rel => exact ⟨_, (t218), (by first | rfl | (simp; done) | (simp [*]; done)), H', ⟨by first | omega | exact Nat.le_refl _⟩, pkA BK210, pkA BK211, pkA BK212, bpk HB⟩
  case rest =>
   clear HC5
   try clear c1
   try clear c2
   try clear p2
   try clear c6
   try clear c9
   try clear c10
   try clear c14
   try clear c19
   try clear c20
   try clear c21
   try clear c25
   try clear c26
   try clear c29
   try clear hcz11_0
   try clear hcz11_1
   try clear hcz13_0
   try clear hcz13_1
   try clear hcz15_0
   try clear hcz15_1
   try clear hcz17_0
   try clear hcz17_1
   try clear hcz22_0
   try clear hcz22_1
   try clear hcz27_0
   try clear hcz27_1
   try clear hcz30_0
   try clear hcz30_1
   try clear hfz11_0
   try clear hfz11_1
   try clear hfz13_0
   try clear hfz13_1
   try clear hfz15_0
   try clear hfz15_1
   try clear hfz17_0
   try clear hfz17_1
   try clear hfz22_0
   try clear hfz22_1
   try clear hfz27_0
   try clear hfz27_1
   try clear hfz30_0
   try clear hfz30_1
   obtain ⟨kq, x14_4, rfl, HA, HJ4, BK210, BK211, BK212, HB⟩ := hcut
   cases kq with
   | zero => exact absurd HA.out (by simp [gimbalref02_Meet.j0])
   | succ kj4 =>
    have H := HA.out
    clear HA
    simp only [gimbalref02_Meet.j0] at H
    by_cases c32 : x14_4 = true
    ·
     subst c32
     have H1 : ((gimbalref02_Empty.f).bind fun bt219 => (some (bt219.1, bt219.2))) = some (r1, r2) := by rw [if_pos rfl] at H; exact H
     clear H
     have H := H1
     clear H1
     replace H := Option.bind_eq_some_iff.mp H
     obtain ⟨⟨t219, t220⟩, A330, H⟩ := H
     replace H : (some (t219, t220)) = some (r1, r2) := H
     have A33 := Aside0.mk A330
     clear A330
     simp only [Option.some.injEq, Prod.mk.injEq] at H
     obtain ⟨rfl, rfl⟩ := H
     go_wp2_with (first | ((with_reducible refine gate_callee (f := 16) rfl ?_); refine goesL_ (some 15) rfl rfl Try.func16 (by kernel_rfl) rfl #[] rfl (by (try simp only [List.map_toArray, List.map_cons, List.map_nil]); first | done | rfl | (simp only [List.length_drop, List.length_take]; rfl)) ?_; (with_reducible refine (gimbalref02_Empty.calls  t219 t220 _ A33.out).mono ?_); rintro e w34 ⟨rfl, hb⟩; refine ⟨_, rfl, ?_⟩; have n0_ := bst HB hb; replace BK210 := bbw BK210 hb; replace BK211 := bbw BK211 hb; replace BK212 := bbw BK212 hb; clear HB; have HB := n0_; clear n0_; (try clear hb); (try clear hb2); (try clear hk); (try clear hi); have hnb35 := NB212_210.out; have hnc35 := NB210_212.out; have hnb36 := NB212_211.out; have hnc36 := NB211_212.out; have hcz37_0 := hcz BK212 0; have hcz37_1 := hcz BK212 1; have hfz37_0 := blk_frozen BK212.out 0; have hfz37_1 := blk_frozen BK212.out 1))
     refine bodyPost_ret (results_cell_row rfl _ _ gb212 23 #[.int .i64 t219, .int .i64 t220] (0, 0) _ rfl (by refine pkB ?_; refine blk_put (cs := #[.int .i64 t219, .int .i64 0]) ?_ 1 _ (by first | rfl | (subst_vars; rfl)); refine pkB ?_; refine blk_put (cs := #[.int .i64 0, .int .i64 0]) ?_ 0 _ (by first | rfl | (subst_vars; rfl)); refine pkB ?_; exact BK212.out) Try.underlying23 rfl (by kernel_rfl)) rfl ?_
     exact ⟨by first | rfl | (simp [errW_none, errW_some] <;> rfl) | (simp [*, errW_none, errW_some] <;> rfl) | kernel_rfl, by repeat (first | (with_reducible first | exact HB.out | apply below_alloc | apply pw_below_drewN | apply below_drew1 | refine below_set ?_ GE210.out | refine below_set ?_ GE211.out | refine below_set ?_ GE212.out) | exact HB.out)⟩
    ·
     replace c32 := Bool.eq_false_iff.mpr c32
     subst c32
     have H1 : ((gimbalref02_more.f t213 t215).bind fun t221 => ((gimbalref02_less.f t214 t216).bind fun t222 => ((gimbalref02_Of.f kj4 t221 t222).bind fun bt223 => (some (bt223.1, bt223.2))))) = some (r1, r2) := by rw [if_neg (show ¬ (false = true) by decide)] at H; exact H
     clear H
     have H := H1
     clear H1
     replace H := Option.bind_eq_some_iff.mp H
     obtain ⟨t221, A380, H⟩ := H
     replace H : ((gimbalref02_less.f t214 t216).bind fun t222 => ((gimbalref02_Of.f kj4 t221 t222).bind fun bt223 => (some (bt223.1, bt223.2)))) = some (r1, r2) := H
     have A38 := Aside0.mk A380
     clear A380
     replace H := Option.bind_eq_some_iff.mp H
     obtain ⟨t222, A390, H⟩ := H
     replace H : ((gimbalref02_Of.f kj4 t221 t222).bind fun bt223 => (some (bt223.1, bt223.2))) = some (r1, r2) := H
     have A39 := Aside0.mk A390
     clear A390
     replace H := Option.bind_eq_some_iff.mp H
     obtain ⟨⟨t223, t224⟩, A400, H⟩ := H
     replace H : (some (t223, t224)) = some (r1, r2) := H
     have A40 := Aside0.mk A400
     clear A400
     simp only [Option.some.injEq, Prod.mk.injEq] at H
     obtain ⟨rfl, rfl⟩ := H
     try go_wp2
     have n0_ := Aside0.mk (blk_drew BK210.out)
     have n1_ := Aside0.mk (blk_drew BK211.out)
     have n2_ := Aside0.mk (blk_drew BK212.out)
     have n3_ := Aside0.mk (below_drew1 HB.out)
     clear BK210
     clear BK211
     clear BK212
     clear HB
     have BK210 := n0_
     have BK211 := n1_
     have BK212 := n2_
     have HB := n3_
     clear n0_ n1_ n2_ n3_
     refine start_ (n := 12) (S := fun w' => w'.cell? ⟨gb210, 0, none⟩ = some (.int .i64 t213) ∧ w'.cell? ⟨gb210, 1, none⟩ = some (.int .i64 t214) ∧ w'.cell? ⟨gb211, 0, none⟩ = some (.int .i64 t215) ∧ w'.cell? ⟨gb211, 1, none⟩ = some (.int .i64 t216)) (ds := []) #[false, false, false, false, false, false, false, false, false, false, false, false] (by kernel_rfl) rfl rfl ⟨hcz BK210 0, hcz BK210 1, hcz BK211 0, hcz BK211 1⟩ (fun hHeld => ?_); refine with_tabW gimbalref02_Meet.tab5 gimbalref02_Meet.bits5 (fun HT_ HW_ => ?_)
     generalize wc.drew = w41 at BK210 BK211 BK212 HB hHeld ⊢
     refine pureQ 0 16 HT_.out ?_
     refine pureQ 2 18 HT_.out ?_
     refine pureQ 5 21 HT_.out ?_
     refine pureQ 7 23 HT_.out ?_
     refine takeQ 1 17 HT_.out HW_.out hHeld ?_
     refine takeQ 3 19 HT_.out HW_.out hHeld ?_
     refine takeQ 6 22 HT_.out HW_.out hHeld ?_
     refine takeQ 8 24 HT_.out HW_.out hHeld ?_
     refine oneQ 4 20 HT_.out (fun K hK => ?_)
     refine goesQ Try.func63 #[.int .i64 t213, .int .i64 t215] ?_
     with_reducible refine (gimbalref02_more.calls t213 t215 t221 _ A38.out).mono ?_
     rintro e w' ⟨rfl, ⟨nd, rfl⟩⟩
     refine ⟨_, rfl, ?_⟩
     refine hK.out _ _ ⟨hcz BK210 0, hcz BK210 1, hcz BK211 0, hcz BK211 1⟩ (fun hHeld => ?_)
     clear hK K
     refine normQ (N := 20) ?_
     refine oneQ 9 25 HT_.out (fun K hK => ?_)
     refine goesQ Try.func62 #[.int .i64 t214, .int .i64 t216] ?_
     with_reducible refine (gimbalref02_less.calls t214 t216 t222 _ A39.out).mono ?_
     rintro e w' ⟨rfl, ⟨nd, rfl⟩⟩
     refine ⟨_, rfl, ?_⟩
     refine hK.out _ _ ⟨hcz BK210 0, hcz BK210 1, hcz BK211 0, hcz BK211 1⟩ (fun hHeld => ?_)
     clear hK K
     refine normQ (N := 25) ?_
     refine oneQ 10 26 HT_.out (fun K hK => ?_)
     refine goesQ Try.func14 #[.int .i64 t221, .int .i64 t222] ?_
     with_reducible refine (gimbalref02_Of.calls kj4 t221 t222 t223 t224 _ A40.out).mono ?_
     rintro e w42 ⟨rfl, hb⟩
     refine ⟨_, rfl, ?_⟩
     have n0_ := bst HB hb
     replace BK210 := bbw BK210 hb
     replace BK211 := bbw BK211 hb
     replace BK212 := bbw BK212 hb
     clear HB
     have HB := n0_
     clear n0_
     (try clear hb)
     (try clear hb2)
     (try clear hk)
     (try clear hi)
     refine hK.out _ _ ⟨hcz BK210 0, hcz BK210 1, hcz BK211 0, hcz BK211 1⟩ (fun hHeld => ?_)
     clear hK K
     refine normQ (N := 26) ?_
     refine one_ (i := 11) (N := none) #[true, true, true, true, true, true, true, true, true, true, true, true] rfl rfl (one_of HT_.out (by kernel_rfl)) (by decide) (fun K hK => ?_)
     have hs43 : w42.cell? ⟨gb212, 0, none⟩ = some (.int .i64 0) := hcz BK212 0
     have hfs43 := blk_frozen BK212.out 0
     have hns43_0 := NB210_212.out
     have hns43_1 := NB211_212.out
     have hms43_0 := NB212_210.out
     have hms43_1 := NB212_211.out
     have hs44 : w42.cell? ⟨gb212, 1, none⟩ = some (.int .i64 0) := hcz BK212 1
     have hfs44 := blk_frozen BK212.out 1
     have hns44_0 := NB210_212.out
     have hns44_1 := NB211_212.out
     have hms44_0 := NB212_210.out
     have hms44_1 := NB212_211.out
     refine skip_ (w1 := ?_) (by rfl) rfl ?_ ?_
     rotate_left
     ·
      go_simp
      rfl
     refine hK.out _ _ ⟨((cell_far (p := ⟨gb212, _, none⟩) NB210_212.out _).trans (((cell_far (p := ⟨gb212, _, none⟩) NB210_212.out _).trans (hHeld.1)))), ((cell_far (p := ⟨gb212, _, none⟩) NB210_212.out _).trans (((cell_far (p := ⟨gb212, _, none⟩) NB210_212.out _).trans (hHeld.2.1)))), ((cell_far (p := ⟨gb212, _, none⟩) NB211_212.out _).trans (((cell_far (p := ⟨gb212, _, none⟩) NB211_212.out _).trans (hHeld.2.2.1)))), ((cell_far (p := ⟨gb212, _, none⟩) NB211_212.out _).trans (((cell_far (p := ⟨gb212, _, none⟩) NB211_212.out _).trans (hHeld.2.2.2))))⟩ (fun hHeld => ?_)
     clear hK K
     refine done_ (done_of HT_.out (by kernel_rfl)) ?_
     try go_wp2
     refine bodyPost_ret (results_cell_row rfl _ _ gb212 23 #[.int .i64 t223, .int .i64 t224] (0, 0) _ rfl (by refine pkB ?_; refine blk_put (cs := #[.int .i64 t223, .int .i64 0]) ?_ 1 _ (by first | rfl | (subst_vars; rfl)); refine pkB ?_; refine blk_put (cs := #[.int .i64 0, .int .i64 0]) ?_ 0 _ (by first | rfl | (subst_vars; rfl)); refine pkB ?_; exact BK212.out) Try.underlying23 rfl (by kernel_rfl)) rfl ?_
     exact ⟨by first | rfl | (simp [errW_none, errW_some] <;> rfl) | (simp [*, errW_none, errW_some] <;> rfl) | kernel_rfl, by repeat (first | (with_reducible first | exact HB.out | apply below_alloc | apply pw_below_drewN | apply below_drew1 | refine below_set ?_ GE210.out | refine below_set ?_ GE211.out | refine below_set ?_ GE212.out) | exact HB.out)⟩
end Go.Proofs.Ytbbnpipmjadpoaa.P
