/- What the law's proof needs of Px35. -/
import Derived.Test.YtbbnpipmjadpoaaTrJU2
import Derived.Test.YtbbnpipmjadpoaaTrJU
import Derived.Test.YtbbnpipmjadpoaaTrJPx0
import Derived.Test.YtbbnpipmjadpoaaTrJPx2
import Derived.Test.YtbbnpipmjadpoaaTrJPx3
import Derived.Test.YtbbnpipmjadpoaaTrJPx25
-- PRINTED by print.py (a twelfth state) out of the translation. Not trusted: Lean checks it.
namespace Go.Proofs.Ytbbnpipmjadpoaa.P
open Go.RowKit Go.Proofs.YtbbnpipmjadpoaaW.PrintWords Go.Proofs.YtbbnpipmjadpoaaW.PrintLast Go.Proofs.YtbbnpipmjadpoaaW.PrintMore Go.Proofs.YtbbnpipmjadpoaaO
attribute [local go_sem] max2_int min2_int max_two min_two max_three min_three max_four min_four   -- for this text's walks alone
set_option linter.unusedVariables false
set_option linter.unusedSimpArgs false
def itv_Abs.j0 : Nat → Bool → Int → Int → Option (Int × Int)
  | 0, _, _, _ => none
  | k + 1, x5, x729000, x729001 => if x5 = true then (some (x729000, x729001)) else (if x729001 ≤ 0 then ((itv_Neg.f x729000 x729001).bind fun bt733 => (some (bt733.1, bt733.2))) else ((bound_Neg.f x729000).bind fun t735 => ((itv_Of.f 0 (mx t735 x729001)).bind fun bt736 => (some (bt736.1, bt736.2)))))
def itv_Abs.f (k : Nat) (a0_0 : Int) (a0_1 : Int) : Option (Int × Int) := (itv_sound.f a0_0 a0_1).bind fun bt730 => ((itv_None.f bt730.1 bt730.2).bind fun t732 => (if t732 = true then (itv_Abs.j0 k true bt730.1 bt730.2) else (itv_Abs.j0 k (decide (bt730.1 ≥ 0)) bt730.1 bt730.2)))
def itv_Abs.T6 : Bool × List (List Nat × List Nat) := (true, [([], []), ([0], [0]), ([1], [1]), ([], []), ([3], [3]), ([2, 4], [2, 4]), ([5, 2], [5]), ([6, 6, 0, 1, 2, 3, 4, 5, 6], [6])])
def itv_Abs.B6 : List Nat := [0, 1, 3, 0, 8, 31, 63, 127]
theorem itv_Abs.tab6 : rtab .any (opsOf Try.f47 6) = itv_Abs.T6 := by kernel_rfl
theorem itv_Abs.bits6 : waitsOk itv_Abs.T6.2 itv_Abs.B6 = true := by kernel_rfl
set_option maxHeartbeats 8000000 in
set_option maxRecDepth 100000 in
theorem itv_Abs.calls (k : Nat) (a0_0 : Int) (a0_1 : Int) (r1 : Int) (r2 : Int) (w : World) (h : itv_Abs.f k a0_0 a0_1 = some (r1, r2)) :
    Calls Try.prog 47 #[.agg #[.int .i64 a0_0, .int .i64 a0_1]] w fun e w' => e = .returned (.agg #[.int .i64 r1, .int .i64 r2]) ∧ Below w.heap.size w w' := by
  have hu23 := Try.underlying23
  have HB := Aside0.mk (Below.refl w.heap.size w)
  have H : ((itv_sound.f a0_0 a0_1).bind fun bt730 => ((itv_None.f bt730.1 bt730.2).bind fun t732 => (if t732 = true then (itv_Abs.j0 k true bt730.1 bt730.2) else (itv_Abs.j0 k (decide (bt730.1 ≥ 0)) bt730.1 bt730.2)))) = some (r1, r2) := h
  clear h
  replace H := Option.bind_eq_some_iff.mp H
  obtain ⟨⟨t730, t731⟩, A20, H⟩ := H
  replace H : ((itv_None.f t730 t731).bind fun t732 => (if t732 = true then (itv_Abs.j0 k true t730 t731) else (itv_Abs.j0 k (decide (t730 ≥ 0)) t730 t731))) = some (r1, r2) := H
  have A2 := Aside0.mk A20
  clear A20
  have HC3 := Aside0.mk H
  clear H
  go_enter Try.func47, Try.ntmps47
  go_upto_region 2 with (first | ((with_reducible refine gate_dst (N := 1) rfl ?_); refine box_event ?hg (N := 1) ?hd (cs := #[.int .i64 a0_0, .int .i64 a0_1]) (t := 23) ?hr ?_; (case hd => rfl); (case hg => rfl); (case hr => first | (go_simp; done) | (go_simp; rfl)); intro gb728 hg w4 hbox hb; have n0_ := bst HB hb; have n1_ := Aside0.mk (hbox); have n2_ := bsz HB hg; have n3_ := bsz HB hg; clear HB; have HB := n0_; have BK728 := n1_; have GW728 := n2_; have GE728 := n3_; clear n0_ n1_ n2_ n3_; clear hb hbox hg) | ((with_reducible refine gate_dst (N := 2) rfl ?_); refine box_event ?hg (N := 2) ?hd (cs := #[.int .i64 0, .int .i64 0]) (t := 23) ?hr ?_; (case hd => rfl); (case hg => rfl); (case hr => first | (go_simp; done) | (go_simp; rfl)); intro gb729 hg w5 hbox hb; have n0_ := bst HB hb; have n1_ := Aside0.mk (hbox); have n2_ := bsz HB hg; have n3_ := bsz HB hg; have n4_ := bn1 BK728 hg; have n5_ := bn2 BK728 hg; replace BK728 := bbw BK728 hb; clear HB; have HB := n0_; have BK729 := n1_; have GW729 := n2_; have GE729 := n3_; have NB728_729 := n4_; have NB729_728 := n5_; clear n0_ n1_ n2_ n3_ n4_ n5_; clear hb hbox hg; have hnb6 := NB728_729.out; have hnc6 := NB729_728.out; have hcz7_0 := hcz BK728 0; have hcz7_1 := hcz BK728 1; have hfz7_0 := blk_frozen BK728.out 0; have hfz7_1 := blk_frozen BK728.out 1) | ((with_reducible refine gate_callee (f := 59) rfl ?_); refine goesL_ (some 4) rfl rfl Try.func59 (by kernel_rfl) rfl #[.agg #[.int .i64 a0_0, .int .i64 a0_1]] rfl (by (try simp only [List.map_toArray, List.map_cons, List.map_nil]); first | done | rfl | (simp only [List.length_drop, List.length_take]; rfl)) ?_; (with_reducible refine (itv_sound.calls a0_0 a0_1 t730 t731 _ A2.out).mono ?_); rintro e w8 ⟨rfl, hb⟩; refine ⟨_, rfl, ?_⟩; have n0_ := bst HB hb; replace BK728 := bbw BK728 hb; replace BK729 := bbw BK729 hb; clear HB; have HB := n0_; clear n0_; (try clear hb); (try clear hb2); (try clear hk); (try clear hi); have hcz9_0 := hcz BK728 0; have hcz9_1 := hcz BK728 1; have hfz9_0 := blk_frozen BK728.out 0; have hfz9_1 := blk_frozen BK728.out 1))
  (try simp only [Act.put, List.setIfInBounds_toArray, List.set_cons_zero, List.set_cons_succ])
  go_cut [5] (fun v5 wc => ∃ (kq : Nat) (x5_2 : Bool), v5 = .bool x5_2 ∧ Aside0 (itv_Abs.j0 kq x5_2 t730 t731 = some (r1, r2)) ∧ Aside0 (kq ≤ k) ∧ Aside0 (wc.heap[gb728]? = some (.cells #[.int .i64 t730, .int .i64 t731] 23 (0, 0))) ∧ Aside0 (wc.heap[gb729]? = some (.cells #[.int .i64 0, .int .i64 0] 23 (0, 0))) ∧ Aside0 (Below w.heap.size w wc))
  case first =>
   have H := HC3.out
   clear HC3
   replace H := Option.bind_eq_some_iff.mp H
   obtain ⟨t732, A100, H⟩ := H
   replace H : (if t732 = true then (itv_Abs.j0 k true t730 t731) else (itv_Abs.j0 k (decide (t730 ≥ 0)) t730 t731)) = some (r1, r2) := H
   have A10 := Aside0.mk A100
   clear A100
   by_cases c11 : t732 = true
   ·
    subst c11
    have H1 : (itv_Abs.j0 k true t730 t731) = some (r1, r2) := by rw [if_pos rfl] at H; exact H
    clear H
    have H := H1
    clear H1
    have H' := Aside0.mk H
    clear H
    have hnb12 := NB728_729.out
    have hnc12 := NB729_728.out
    have hcz13_0 := hcz BK728 0
    have hcz13_1 := hcz BK728 1
    have hfz13_0 := blk_frozen BK728.out 0
    have hfz13_1 := blk_frozen BK728.out 1
    go_wp2_with (first | ((with_reducible refine gate_callee (f := 21) rfl ?_); refine goesL_ (some 7) rfl rfl Try.func21 (by kernel_rfl) rfl #[.agg #[.int .i64 t730, .int .i64 t731]] rfl (by (try simp only [List.map_toArray, List.map_cons, List.map_nil]); first | done | rfl | (simp only [List.length_drop, List.length_take]; rfl)) ?_; (with_reducible refine (itv_None.calls t730 t731 true _ A10.out).mono ?_); rintro e w14 ⟨rfl, hb⟩; refine ⟨_, rfl, ?_⟩; have n0_ := Aside0.mk (blk_below (g := gb728) (o := .cells #[.int .i64 t730, .int .i64 t731] 23 (0, 0)) (by refine pkB ?_; refine blk_put (cs := #[.int .i64 t730, .int .i64 a0_1]) ?_ 1 _ (by first | rfl | (subst_vars; rfl)); refine pkB ?_; refine blk_put (cs := #[.int .i64 a0_0, .int .i64 a0_1]) ?_ 0 _ (by first | rfl | (subst_vars; rfl)); refine pkB ?_; exact BK728.out) hb); have n1_ := Aside0.mk (blk_below (g := gb729) (o := .cells #[.int .i64 0, .int .i64 0] 23 (0, 0)) (by refine pkB ?_; refine blk_far ?_ NB729_728.out _; refine pkB ?_; refine blk_far ?_ NB729_728.out _; refine pkB ?_; exact BK729.out) hb); have n2_ := bst HB hb; clear BK728; clear BK729; clear HB; have BK728 := n0_; have BK729 := n1_; have HB := n2_; clear n0_ n1_ n2_; (try clear hb); (try clear hb2); (try clear hk); (try clear hi)))
    go_meet
    case rel => exact ⟨_, (true), (by first | rfl | (simp; done) | (simp [*]; done)), H', ⟨by first | omega | exact Nat.le_refl _⟩, pkA BK728, pkA BK729, bpk HB⟩
   ·
    replace c11 := Bool.eq_false_iff.mpr c11
    subst c11
    have H1 : (itv_Abs.j0 k (decide (t730 ≥ 0)) t730 t731) = some (r1, r2) := by rw [if_neg (show ¬ (false = true) by decide)] at H; exact H
    clear H
    have H := H1
    clear H1
    have H' := Aside0.mk H
    clear H
    have hnb15 := NB728_729.out
    have hnc15 := NB729_728.out
    have hcz16_0 := hcz BK728 0
    have hcz16_1 := hcz BK728 1
    have hfz16_0 := blk_frozen BK728.out 0
    have hfz16_1 := blk_frozen BK728.out 1
    go_wp2_with (first | ((with_reducible refine gate_callee (f := 21) rfl ?_); refine goesL_ (some 7) rfl rfl Try.func21 (by kernel_rfl) rfl #[.agg #[.int .i64 t730, .int .i64 t731]] rfl (by (try simp only [List.map_toArray, List.map_cons, List.map_nil]); first | done | rfl | (simp only [List.length_drop, List.length_take]; rfl)) ?_; (with_reducible refine (itv_None.calls t730 t731 false _ A10.out).mono ?_); rintro e w17 ⟨rfl, hb⟩; refine ⟨_, rfl, ?_⟩; have n0_ := Aside0.mk (blk_below (g := gb728) (o := .cells #[.int .i64 t730, .int .i64 t731] 23 (0, 0)) (by refine pkB ?_; refine blk_put (cs := #[.int .i64 t730, .int .i64 a0_1]) ?_ 1 _ (by first | rfl | (subst_vars; rfl)); refine pkB ?_; refine blk_put (cs := #[.int .i64 a0_0, .int .i64 a0_1]) ?_ 0 _ (by first | rfl | (subst_vars; rfl)); refine pkB ?_; exact BK728.out) hb); have n1_ := Aside0.mk (blk_below (g := gb729) (o := .cells #[.int .i64 0, .int .i64 0] 23 (0, 0)) (by refine pkB ?_; refine blk_far ?_ NB729_728.out _; refine pkB ?_; refine blk_far ?_ NB729_728.out _; refine pkB ?_; exact BK729.out) hb); have n2_ := bst HB hb; clear BK728; clear BK729; clear HB; have BK728 := n0_; have BK729 := n1_; have HB := n2_; clear n0_ n1_ n2_; (try clear hb); (try clear hb2); (try clear hk); (try clear hi); have hcz18_0 := hcz BK728 0; have hcz18_1 := hcz BK728 1; have hfz18_0 := blk_frozen BK728.out 0; have hfz18_1 := blk_frozen BK728.out 1))
    go_meet
    case rel => exact ⟨_, (decide (t730 ≥ 0)), (by first | rfl | (simp; done) | (simp [*]; done)), H', ⟨by first | omega | exact Nat.le_refl _⟩, pkA BK728, pkA BK729, bpk HB⟩
  case rest =>
   clear HC3
   try clear c1
   try clear c2
   try clear p2
   try clear c4
   try clear c5
   try clear c6
   try clear c11
   try clear c12
   try clear c15
   try clear hcz13_0
   try clear hcz13_1
   try clear hcz16_0
   try clear hcz16_1
   try clear hcz18_0
   try clear hcz18_1
   try clear hcz7_0
   try clear hcz7_1
   try clear hcz9_0
   try clear hcz9_1
   try clear hfz13_0
   try clear hfz13_1
   try clear hfz16_0
   try clear hfz16_1
   try clear hfz18_0
   try clear hfz18_1
   try clear hfz7_0
   try clear hfz7_1
   try clear hfz9_0
   try clear hfz9_1
   obtain ⟨kq, x5_2, rfl, HA, HJ2, BK728, BK729, HB⟩ := hcut
   cases kq with
   | zero => exact absurd HA.out (by simp [itv_Abs.j0])
   | succ kj2 =>
    have H := HA.out
    clear HA
    simp only [itv_Abs.j0] at H
    by_cases c19 : x5_2 = true
    ·
     subst c19
     have H1 : (some (t730, t731)) = some (r1, r2) := by rw [if_pos rfl] at H; exact H
     clear H
     have H := H1
     clear H1
     simp only [Option.some.injEq, Prod.mk.injEq] at H
     obtain ⟨rfl, rfl⟩ := H
     have hnb20 := NB728_729.out
     have hnc20 := NB729_728.out
     have hcz21_0 := hcz BK728 0
     have hcz21_1 := hcz BK728 1
     have hfz21_0 := blk_frozen BK728.out 0
     have hfz21_1 := blk_frozen BK728.out 1
     have hcz22_0 := hcz BK729 0
     have hcz22_1 := hcz BK729 1
     have hfz22_0 := blk_frozen BK729.out 0
     have hfz22_1 := blk_frozen BK729.out 1
     go_wp2
     refine bodyPost_ret (results_cell_row rfl _ _ gb729 23 #[.int .i64 t730, .int .i64 t731] (0, 0) _ rfl (by refine pkB ?_; refine blk_put (cs := #[.int .i64 t730, .int .i64 0]) ?_ 1 _ (by first | rfl | (subst_vars; rfl)); refine pkB ?_; refine blk_put (cs := #[.int .i64 0, .int .i64 0]) ?_ 0 _ (by first | rfl | (subst_vars; rfl)); refine pkB ?_; exact BK729.out) Try.underlying23 rfl (by kernel_rfl)) rfl ?_
     exact ⟨by first | rfl | (simp [errW_none, errW_some] <;> rfl) | (simp [*, errW_none, errW_some] <;> rfl) | kernel_rfl, by repeat (first | (with_reducible first | exact HB.out | apply below_alloc | apply pw_below_drewN | apply below_drew1 | refine below_set ?_ GE728.out | refine below_set ?_ GE729.out) | exact HB.out)⟩
    ·
     replace c19 := Bool.eq_false_iff.mpr c19
     subst c19
     have H1 : (if t731 ≤ 0 then ((itv_Neg.f t730 t731).bind fun bt733 => (some (bt733.1, bt733.2))) else ((bound_Neg.f t730).bind fun t735 => ((itv_Of.f 0 (mx t735 t731)).bind fun bt736 => (some (bt736.1, bt736.2))))) = some (r1, r2) := by rw [if_neg (show ¬ (false = true) by decide)] at H; exact H
     clear H
     have H := H1
     clear H1
     by_cases c23 : t731 ≤ 0
     ·
      rw [if_pos c23] at H
      have c23b0 : decide (t731 ≤ 0) = true := decide_eq_true c23
      clear c23
      replace H := Option.bind_eq_some_iff.mp H
      obtain ⟨⟨t733, t734⟩, A240, H⟩ := H
      replace H : (some (t733, t734)) = some (r1, r2) := H
      have A24 := Aside0.mk A240
      clear A240
      simp only [Option.some.injEq, Prod.mk.injEq] at H
      obtain ⟨rfl, rfl⟩ := H
      have hnb25 := NB728_729.out
      have hnc25 := NB729_728.out
      have hcz26_0 := hcz BK728 0
      have hcz26_1 := hcz BK728 1
      have hfz26_0 := blk_frozen BK728.out 0
      have hfz26_1 := blk_frozen BK728.out 1
      go_wp2_with (first | ((with_reducible refine gate_callee (f := 46) rfl ?_); refine goesL_ (some 19) rfl rfl Try.func46 (by kernel_rfl) rfl #[.agg #[.int .i64 t730, .int .i64 t731]] rfl (by (try simp only [List.map_toArray, List.map_cons, List.map_nil]); first | done | rfl | (simp only [List.length_drop, List.length_take]; rfl)) ?_; (with_reducible refine (itv_Neg.calls t730 t731 t733 t734 _ A24.out).mono ?_); rintro e w27 ⟨rfl, hb⟩; refine ⟨_, rfl, ?_⟩; have n0_ := bst HB hb; replace BK728 := bbw BK728 hb; replace BK729 := bbw BK729 hb; clear HB; have HB := n0_; clear n0_; (try clear hb); (try clear hb2); (try clear hk); (try clear hi); have hcz28_0 := hcz BK729 0; have hcz28_1 := hcz BK729 1; have hfz28_0 := blk_frozen BK729.out 0; have hfz28_1 := blk_frozen BK729.out 1))
      refine bodyPost_ret (results_cell_row rfl _ _ gb729 23 #[.int .i64 t733, .int .i64 t734] (0, 0) _ rfl (by refine pkB ?_; refine blk_put (cs := #[.int .i64 t733, .int .i64 0]) ?_ 1 _ (by first | rfl | (subst_vars; rfl)); refine pkB ?_; refine blk_put (cs := #[.int .i64 0, .int .i64 0]) ?_ 0 _ (by first | rfl | (subst_vars; rfl)); refine pkB ?_; exact BK729.out) Try.underlying23 rfl (by kernel_rfl)) rfl ?_
      exact ⟨by first | rfl | (simp [errW_none, errW_some] <;> rfl) | (simp [*, errW_none, errW_some] <;> rfl) | kernel_rfl, by repeat (first | (with_reducible first | exact HB.out | apply below_alloc | apply pw_below_drewN | apply below_drew1 | refine below_set ?_ GE728.out | refine below_set ?_ GE729.out) | exact HB.out)⟩
     ·
      rw [if_neg c23] at H
      have c23b0 : decide (t731 ≤ 0) = false := decide_eq_false c23
      clear c23
      replace H := Option.bind_eq_some_iff.mp H
      obtain ⟨t735, A290, H⟩ := H
      replace H : ((itv_Of.f 0 (mx t735 t731)).bind fun bt736 => (some (bt736.1, bt736.2))) = some (r1, r2) := H
      have A29 := Aside0.mk A290
      clear A290
      obtain ⟨ji30, hji30⟩ : ∃ j_ : Int, (mx t735 t731) = j_ := ⟨_, rfl⟩
      replace H : ((itv_Of.f 0 (ji30)).bind fun bt736 => (some (bt736.1, bt736.2))) = some (r1, r2) := by first | (rw [hji30] at H; exact H) | (simp only [hji30] at H ⊢; exact H)
      (try rw [hji30] at A29)
      have hji30_ : (if t735 < t731 then t731 else t735) = ji30 := hji30
      replace H := Option.bind_eq_some_iff.mp H
      obtain ⟨⟨t736, t737⟩, A310, H⟩ := H
      replace H : (some (t736, t737)) = some (r1, r2) := H
      have A31 := Aside0.mk A310
      clear A310
      simp only [Option.some.injEq, Prod.mk.injEq] at H
      obtain ⟨rfl, rfl⟩ := H
      have hnb32 := NB728_729.out
      have hnc32 := NB729_728.out
      have hcz33_0 := hcz BK728 0
      have hcz33_1 := hcz BK728 1
      have hfz33_0 := blk_frozen BK728.out 0
      have hfz33_1 := blk_frozen BK728.out 1
      try go_wp2
      have n0_ := Aside0.mk (blk_drew BK728.out)
      have n1_ := Aside0.mk (blk_drew BK729.out)
      have n2_ := Aside0.mk (below_drew1 HB.out)
      clear BK728
      clear BK729
      clear HB
      have BK728 := n0_
      have BK729 := n1_
      have HB := n2_
      clear n0_ n1_ n2_
      refine start_ (n := 8) (S := fun w' => w'.cell? ⟨gb728, 0, none⟩ = some (.int .i64 t730) ∧ w'.cell? ⟨gb728, 1, none⟩ = some (.int .i64 t731)) (ds := []) #[false, false, false, false, false, false, false, false] (by kernel_rfl) rfl rfl ⟨hcz BK728 0, hcz BK728 1⟩ (fun hHeld => ?_); refine with_tabW itv_Abs.tab6 itv_Abs.bits6 (fun HT_ HW_ => ?_)
      generalize wc.drew = w34 at BK728 BK729 HB hHeld ⊢
      refine pureQ 0 20 HT_.out ?_
      refine pureQ 3 23 HT_.out ?_
      refine takeQ 1 21 HT_.out HW_.out hHeld ?_
      refine takeQ 4 24 HT_.out HW_.out hHeld ?_
      refine oneQ 2 22 HT_.out (fun K hK => ?_)
      refine goesQ Try.func85 #[.int .i64 t730] ?_
      with_reducible refine (bound_Neg.calls t730 t735 _ A29.out).mono ?_
      rintro e w35 ⟨rfl, hb⟩
      refine ⟨_, rfl, ?_⟩
      have n0_ := bst HB hb
      replace BK728 := bbw BK728 hb
      replace BK729 := bbw BK729 hb
      clear HB
      have HB := n0_
      clear n0_
      (try clear hb)
      (try clear hb2)
      (try clear hk)
      (try clear hi)
      refine hK.out _ _ ⟨hcz BK728 0, hcz BK728 1⟩ (fun hHeld => ?_)
      clear hK K
      refine normQ (N := 22) ?_
      refine pureQ 5 25 HT_.out ?_
      refine oneQ 6 26 HT_.out (fun K hK => ?_)
      refine goes_ Try.func13 (by kernel_rfl) rfl #[.int .i64 0, .int .i64 ji30] (by rfl) rfl rfl (by (try simp only [List.map_toArray, List.map_cons, List.map_nil]); first | done | (simp only [hji30]; rfl) | rfl | (simp only [List.length_drop, List.length_take]; rfl)) ?_
      with_reducible refine (itv_Of.calls 0 ji30 t736 t737 _ A31.out).mono ?_
      rintro e w36 ⟨rfl, hb⟩
      refine ⟨_, rfl, ?_⟩
      have n0_ := bst HB hb
      replace BK728 := bbw BK728 hb
      replace BK729 := bbw BK729 hb
      clear HB
      have HB := n0_
      clear n0_
      (try clear hb)
      (try clear hb2)
      (try clear hk)
      (try clear hi)
      refine hK.out _ _ ⟨hcz BK728 0, hcz BK728 1⟩ (fun hHeld => ?_)
      clear hK K
      refine normQ (N := 26) ?_
      refine one_ (i := 7) (N := none) #[true, true, true, true, true, true, true, true] rfl rfl (one_of HT_.out (by kernel_rfl)) (by decide) (fun K hK => ?_)
      have hs37 : w36.cell? ⟨gb729, 0, none⟩ = some (.int .i64 0) := hcz BK729 0
      have hfs37 := blk_frozen BK729.out 0
      have hns37_0 := NB728_729.out
      have hms37_0 := NB729_728.out
      have hs38 : w36.cell? ⟨gb729, 1, none⟩ = some (.int .i64 0) := hcz BK729 1
      have hfs38 := blk_frozen BK729.out 1
      have hns38_0 := NB728_729.out
      have hms38_0 := NB729_728.out
      refine skip_ (w1 := ?_) (by rfl) rfl ?_ ?_
      rotate_left
      ·
       go_simp
       rfl
      refine hK.out _ _ ⟨((cell_far (p := ⟨gb729, _, none⟩) NB728_729.out _).trans (((cell_far (p := ⟨gb729, _, none⟩) NB728_729.out _).trans (hHeld.1)))), ((cell_far (p := ⟨gb729, _, none⟩) NB728_729.out _).trans (((cell_far (p := ⟨gb729, _, none⟩) NB728_729.out _).trans (hHeld.2))))⟩ (fun hHeld => ?_)
      clear hK K
      refine done_ (done_of HT_.out (by kernel_rfl)) ?_
      try go_wp2
      refine bodyPost_ret (results_cell_row rfl _ _ gb729 23 #[.int .i64 t736, .int .i64 t737] (0, 0) _ rfl (by refine pkB ?_; refine blk_put (cs := #[.int .i64 t736, .int .i64 0]) ?_ 1 _ (by first | rfl | (subst_vars; rfl)); refine pkB ?_; refine blk_put (cs := #[.int .i64 0, .int .i64 0]) ?_ 0 _ (by first | rfl | (subst_vars; rfl)); refine pkB ?_; exact BK729.out) Try.underlying23 rfl (by kernel_rfl)) rfl ?_
      exact ⟨by first | rfl | (simp [errW_none, errW_some] <;> rfl) | (simp only [← hji30]; first | rfl | (simp [errW_none, errW_some] <;> rfl)) | (simp [*, errW_none, errW_some] <;> rfl) | kernel_rfl, by repeat (first | (with_reducible first | exact HB.out | apply below_alloc | apply pw_below_drewN | apply below_drew1 | refine below_set ?_ GE728.out | refine below_set ?_ GE729.out) | exact HB.out)⟩

-- NOT PRINTED: function 8 (gimballaw02_ItvLeast)
end Go.Proofs.Ytbbnpipmjadpoaa.P
