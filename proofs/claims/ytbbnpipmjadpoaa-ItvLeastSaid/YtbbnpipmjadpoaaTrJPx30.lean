/- What the law's proof needs of Px30. -/
import Derived.Test.YtbbnpipmjadpoaaTrJU2
import Derived.Test.YtbbnpipmjadpoaaTrJU
import Derived.Test.YtbbnpipmjadpoaaTrJPx0
import Derived.Test.YtbbnpipmjadpoaaTrJPx2
import Derived.Test.YtbbnpipmjadpoaaTrJPx3
import Derived.Test.YtbbnpipmjadpoaaTrJPx29
-- PRINTED by print.py (a twelfth state) out of the translation. Not trusted: Lean checks it.
namespace Go.Proofs.Ytbbnpipmjadpoaa.P
open Go.RowKit Go.Proofs.YtbbnpipmjadpoaaW.PrintWords Go.Proofs.YtbbnpipmjadpoaaW.PrintLast Go.Proofs.YtbbnpipmjadpoaaW.PrintMore Go.Proofs.YtbbnpipmjadpoaaO
attribute [local go_sem] max2_int min2_int max_two min_two max_three min_three max_four min_four   -- for this text's walks alone
set_option linter.unusedVariables false
set_option linter.unusedSimpArgs false
def itv_both_itv_Min_1.j0 : Nat → Bool → Int → Int → Int → Int → Option (Int × Int)
  | 0, _, _, _, _, _ => none
  | k + 1, x16, x616000, x616001, x617000, x617001 => if x16 = true then ((itv_Empty.f).bind fun bt624 => (some (bt624.1, bt624.2))) else ((itv_Min_1.f x616000 x616001 x617000 x617001).bind fun bt626 => (some (bt626.1, bt626.2)))
def itv_both_itv_Min_1.f (k : Nat) (a0_0 : Int) (a0_1 : Int) (a1_0 : Int) (a1_1 : Int)  : Option (Int × Int) := (itv_sound.f a0_0 a0_1).bind fun bt618 => ((itv_sound.f a1_0 a1_1).bind fun bt620 => ((itv_None.f bt618.1 bt618.2).bind fun t622 => (if t622 = true then (itv_both_itv_Min_1.j0 k true bt618.1 bt618.2 bt620.1 bt620.2) else ((itv_None.f bt620.1 bt620.2).bind fun t623 => (itv_both_itv_Min_1.j0 k t623 bt618.1 bt618.2 bt620.1 bt620.2)))))
set_option maxHeartbeats 8000000 in
set_option maxRecDepth 100000 in
theorem itv_both_itv_Min_1.calls (k : Nat) (a0_0 : Int) (a0_1 : Int) (a1_0 : Int) (a1_1 : Int)  (r1 : Int) (r2 : Int) (w : World) (h : itv_both_itv_Min_1.f k a0_0 a0_1 a1_0 a1_1 = some (r1, r2)) :
    Calls Try.prog 73 #[.agg #[.int .i64 a0_0, .int .i64 a0_1], .agg #[.int .i64 a1_0, .int .i64 a1_1], .func (.func 80) #[] #[]] w fun e w' => e = .returned (.agg #[.int .i64 r1, .int .i64 r2]) ∧ Below w.heap.size w w' := by
  have hu23 := Try.underlying23
  have HB := Aside0.mk (Below.refl w.heap.size w)
  have H : ((itv_sound.f a0_0 a0_1).bind fun bt618 => ((itv_sound.f a1_0 a1_1).bind fun bt620 => ((itv_None.f bt618.1 bt618.2).bind fun t622 => (if t622 = true then (itv_both_itv_Min_1.j0 k true bt618.1 bt618.2 bt620.1 bt620.2) else ((itv_None.f bt620.1 bt620.2).bind fun t623 => (itv_both_itv_Min_1.j0 k t623 bt618.1 bt618.2 bt620.1 bt620.2)))))) = some (r1, r2) := h
  clear h
  replace H := Option.bind_eq_some_iff.mp H
  obtain ⟨⟨t618, t619⟩, A40, H⟩ := H
  replace H : ((itv_sound.f a1_0 a1_1).bind fun bt620 => ((itv_None.f t618 t619).bind fun t622 => (if t622 = true then (itv_both_itv_Min_1.j0 k true t618 t619 bt620.1 bt620.2) else ((itv_None.f bt620.1 bt620.2).bind fun t623 => (itv_both_itv_Min_1.j0 k t623 t618 t619 bt620.1 bt620.2))))) = some (r1, r2) := H
  have A4 := Aside0.mk A40
  clear A40
  replace H := Option.bind_eq_some_iff.mp H
  obtain ⟨⟨t620, t621⟩, A50, H⟩ := H
  replace H : ((itv_None.f t618 t619).bind fun t622 => (if t622 = true then (itv_both_itv_Min_1.j0 k true t618 t619 t620 t621) else ((itv_None.f t620 t621).bind fun t623 => (itv_both_itv_Min_1.j0 k t623 t618 t619 t620 t621)))) = some (r1, r2) := H
  have A5 := Aside0.mk A50
  clear A50
  have HC6 := Aside0.mk H
  clear H
  go_enter Try.func73, Try.ntmps73
  try go_wp2_with (first | ((with_reducible refine gate_dst (N := 3) rfl ?_); refine box_event ?hg (N := 3) ?hd (cs := #[.int .i64 a0_0, .int .i64 a0_1]) (t := 23) ?hr ?_; (case hd => rfl); (case hg => rfl); (case hr => first | (go_simp; done) | (go_simp; rfl)); intro gb615 hg w7 hbox hb; have n0_ := bst HB hb; have n1_ := Aside0.mk (hbox); have n2_ := bsz HB hg; have n3_ := bsz HB hg; clear HB; have HB := n0_; have BK615 := n1_; have GW615 := n2_; have GE615 := n3_; clear n0_ n1_ n2_ n3_; clear hb hbox hg) | ((with_reducible refine gate_dst (N := 4) rfl ?_); refine box_event ?hg (N := 4) ?hd (cs := #[.int .i64 a1_0, .int .i64 a1_1]) (t := 23) ?hr ?_; (case hd => rfl); (case hg => rfl); (case hr => first | (go_simp; done) | (go_simp; rfl)); intro gb616 hg w8 hbox hb; have n0_ := bst HB hb; have n1_ := Aside0.mk (hbox); have n2_ := bsz HB hg; have n3_ := bsz HB hg; have n4_ := bn1 BK615 hg; have n5_ := bn2 BK615 hg; replace BK615 := bbw BK615 hb; clear HB; have HB := n0_; have BK616 := n1_; have GW616 := n2_; have GE616 := n3_; have NB615_616 := n4_; have NB616_615 := n5_; clear n0_ n1_ n2_ n3_ n4_ n5_; clear hb hbox hg) | ((with_reducible refine gate_dst (N := 6) rfl ?_); refine box_event ?hg (N := 6) ?hd (cs := #[.int .i64 0, .int .i64 0]) (t := 23) ?hr ?_; (case hd => rfl); (case hg => rfl); (case hr => first | (go_simp; done) | (go_simp; rfl)); intro gb617 hg w9 hbox hb; have n0_ := bst HB hb; have n1_ := Aside0.mk (hbox); have n2_ := bsz HB hg; have n3_ := bsz HB hg; have n4_ := bn1 BK615 hg; have n5_ := bn2 BK615 hg; have n6_ := bn1 BK616 hg; have n7_ := bn2 BK616 hg; replace BK615 := bbw BK615 hb; replace BK616 := bbw BK616 hb; clear HB; have HB := n0_; have BK617 := n1_; have GW617 := n2_; have GE617 := n3_; have NB615_617 := n4_; have NB617_615 := n5_; have NB616_617 := n6_; have NB617_616 := n7_; clear n0_ n1_ n2_ n3_ n4_ n5_ n6_ n7_; clear hb hbox hg))
  have n0_ := Aside0.mk (blk_drew BK615.out)
  have n1_ := Aside0.mk (blk_drew BK616.out)
  have n2_ := Aside0.mk (blk_drew BK617.out)
  have n3_ := Aside0.mk (below_drew1 HB.out)
  clear BK615
  clear BK616
  clear BK617
  clear HB
  have BK615 := n0_
  have BK616 := n1_
  have BK617 := n2_
  have HB := n3_
  clear n0_ n1_ n2_ n3_
  refine start_ (n := 6) (S := fun w' => w'.cell? ⟨gb615, 0, none⟩ = some (.int .i64 a0_0) ∧ w'.cell? ⟨gb615, 1, none⟩ = some (.int .i64 a0_1) ∧ w'.cell? ⟨gb616, 0, none⟩ = some (.int .i64 a1_0) ∧ w'.cell? ⟨gb616, 1, none⟩ = some (.int .i64 a1_1)) (ds := [4, 5]) #[false, false, false, false, false, false] (by kernel_rfl) rfl rfl ⟨hcz BK615 0, hcz BK615 1, hcz BK616 0, hcz BK616 1⟩ (fun hHeld => ?_)
  generalize w9.drew = w10 at BK615 BK616 BK617 HB hHeld ⊢
  refine take_ (i := 0) (N := some 7) (v := ?_) (a' := ?_) #[true, false, false, false, false, false] rfl rfl (by kernel_rfl) (fun _ _ _ h => h) (Or.inl ⟨by rfl, ?_⟩) hHeld ?_ ?_
  rotate_left
  ·
   rintro w' ⟨s0, s1, s2, s3⟩
   go_simp
   with_reducible rfl
  rotate_left
  ·
   simp only [Act.put, List.setIfInBounds_toArray, List.set_cons_zero, List.set_cons_succ, i64_w, i32_w]
   rfl
  refine take_ (i := 2) (N := some 9) (v := ?_) (a' := ?_) #[true, false, true, false, false, false] rfl rfl (by kernel_rfl) (fun _ _ _ h => h) (Or.inl ⟨by rfl, ?_⟩) hHeld ?_ ?_
  rotate_left
  ·
   rintro w' ⟨s0, s1, s2, s3⟩
   go_simp
   with_reducible rfl
  rotate_left
  ·
   simp only [Act.put, List.setIfInBounds_toArray, List.set_cons_zero, List.set_cons_succ, i64_w, i32_w]
   rfl
  refine one_ (i := 1) (N := some 8) #[true, true, true, false, false, false] rfl rfl (by kernel_rfl) (by decide) (fun K hK => ?_)
  refine goesQ Try.func59 #[.agg #[.int .i64 a0_0, .int .i64 a0_1]] ?_
  with_reducible refine (itv_sound.calls a0_0 a0_1 t618 t619 _ A4.out).mono ?_
  rintro e w11 ⟨rfl, hb⟩
  refine ⟨_, rfl, ?_⟩
  have n0_ := bst HB hb
  replace BK615 := bbw BK615 hb
  replace BK616 := bbw BK616 hb
  replace BK617 := bbw BK617 hb
  clear HB
  have HB := n0_
  clear n0_
  (try clear hb)
  (try clear hb2)
  (try clear hk)
  (try clear hi)
  refine hK.out _ _ ⟨hcz BK615 0, hcz BK615 1, hcz BK616 0, hcz BK616 1⟩ (fun hHeld => ?_)
  clear hK K
  refine normQ (N := 8) ?_
  refine one_ (i := 3) (N := some 10) #[true, true, true, true, false, false] rfl rfl (by kernel_rfl) (by decide) (fun K hK => ?_)
  refine goesQ Try.func59 #[.agg #[.int .i64 a1_0, .int .i64 a1_1]] ?_
  with_reducible refine (itv_sound.calls a1_0 a1_1 t620 t621 _ A5.out).mono ?_
  rintro e w12 ⟨rfl, hb⟩
  refine ⟨_, rfl, ?_⟩
  have n0_ := bst HB hb
  replace BK615 := bbw BK615 hb
  replace BK616 := bbw BK616 hb
  replace BK617 := bbw BK617 hb
  clear HB
  have HB := n0_
  clear n0_
  (try clear hb)
  (try clear hb2)
  (try clear hk)
  (try clear hi)
  refine hK.out _ _ ⟨hcz BK615 0, hcz BK615 1, hcz BK616 0, hcz BK616 1⟩ (fun hHeld => ?_)
  clear hK K
  refine normQ (N := 10) ?_
  refine last_ (i := 4) (N := none) #[true, true, true, true, true, false] rfl rfl (by kernel_rfl) (by decide) (fun K hK => ?_)
  have hs13 : w12.cell? ⟨gb615, 0, none⟩ = some (.int .i64 a0_0) := hcz BK615 0
  have hfs13 := blk_frozen BK615.out 0
  have hns13_1 := NB616_615.out
  have hns13_2 := NB617_615.out
  have hms13_1 := NB615_616.out
  have hms13_2 := NB615_617.out
  have hs14 : w12.cell? ⟨gb615, 1, none⟩ = some (.int .i64 a0_1) := hcz BK615 1
  have hfs14 := blk_frozen BK615.out 1
  have hns14_1 := NB616_615.out
  have hns14_2 := NB617_615.out
  have hms14_1 := NB615_616.out
  have hms14_2 := NB615_617.out
  refine skip_ (w1 := ?_) (by rfl) rfl ?_ ?_
  rotate_left
  ·
   go_simp
   rfl
  refine hK.out _ _ ?_
  clear hK K
  refine last_ (i := 5) (N := none) #[true, true, true, true, true, true] rfl rfl (by kernel_rfl) (by decide) (fun K hK => ?_)
  have hs15 : w12.cell? ⟨gb616, 0, none⟩ = some (.int .i64 a1_0) := hcz BK616 0
  have hfs15 := blk_frozen BK616.out 0
  have hns15_0 := NB615_616.out
  have hns15_2 := NB617_616.out
  have hms15_0 := NB616_615.out
  have hms15_2 := NB616_617.out
  have hs16 : w12.cell? ⟨gb616, 1, none⟩ = some (.int .i64 a1_1) := hcz BK616 1
  have hfs16 := blk_frozen BK616.out 1
  have hns16_0 := NB615_616.out
  have hns16_2 := NB617_616.out
  have hms16_0 := NB616_615.out
  have hms16_2 := NB616_617.out
  refine skip_ (w1 := ?_) (by rfl) rfl ?_ ?_
  rotate_left
  ·
   go_simp
   rfl
  refine hK.out _ _ ?_
  clear hK K
  refine done_ (by kernel_rfl) ?_
  go_upto_region 2 with (fail)
  go_cut [16] (fun v16 wc => ∃ (kq : Nat) (x16_5 : Bool), v16 = .bool x16_5 ∧ Aside0 (itv_both_itv_Min_1.j0 kq x16_5 t618 t619 t620 t621 = some (r1, r2)) ∧ Aside0 (kq ≤ k) ∧ Aside0 (wc.heap[gb615]? = some (.cells #[.int .i64 t618, .int .i64 t619] 23 (0, 0))) ∧ Aside0 (wc.heap[gb616]? = some (.cells #[.int .i64 t620, .int .i64 t621] 23 (0, 0))) ∧ Aside0 (wc.heap[gb617]? = some (.cells #[.int .i64 0, .int .i64 0] 23 (0, 0))) ∧ Aside0 (Below w.heap.size w wc))
  case first =>
   have H := HC6.out
   clear HC6
   replace H := Option.bind_eq_some_iff.mp H
   obtain ⟨t622, A170, H⟩ := H
   replace H : (if t622 = true then (itv_both_itv_Min_1.j0 k true t618 t619 t620 t621) else ((itv_None.f t620 t621).bind fun t623 => (itv_both_itv_Min_1.j0 k t623 t618 t619 t620 t621))) = some (r1, r2) := H
   have A17 := Aside0.mk A170
   clear A170
   by_cases c18 : t622 = true
   ·
    subst c18
    have H1 : (itv_both_itv_Min_1.j0 k true t618 t619 t620 t621) = some (r1, r2) := by rw [if_pos rfl] at H; exact H
    clear H
    have H := H1
    clear H1
    have H' := Aside0.mk H
    clear H
    have hnb19 := NB615_616.out
    have hnc19 := NB616_615.out
    have hnb20 := NB615_617.out
    have hnc20 := NB617_615.out
    have hcz21_0 := hcz BK615 0
    have hcz21_1 := hcz BK615 1
    have hfz21_0 := blk_frozen BK615.out 0
    have hfz21_1 := blk_frozen BK615.out 1
    go_wp2_with (first | ((with_reducible refine gate_callee (f := 21) rfl ?_); refine goesL_ (some 12) rfl rfl Try.func21 (by kernel_rfl) rfl #[.agg #[.int .i64 t618, .int .i64 t619]] rfl (by (try simp only [List.map_toArray, List.map_cons, List.map_nil]); first | done | rfl | (simp only [List.length_drop, List.length_take]; rfl)) ?_; (with_reducible refine (itv_None.calls t618 t619 true _ A17.out).mono ?_); rintro e w22 ⟨rfl, hb⟩; refine ⟨_, rfl, ?_⟩; have n0_ := Aside0.mk (blk_below (g := gb615) (o := .cells #[.int .i64 t618, .int .i64 t619] 23 (0, 0)) (by refine pkB ?_; refine blk_far ?_ NB615_616.out _; refine pkB ?_; refine blk_far ?_ NB615_616.out _; refine pkB ?_; refine blk_put (cs := #[.int .i64 t618, .int .i64 a0_1]) ?_ 1 _ (by first | rfl | (subst_vars; rfl)); refine pkB ?_; refine blk_put (cs := #[.int .i64 a0_0, .int .i64 a0_1]) ?_ 0 _ (by first | rfl | (subst_vars; rfl)); refine pkB ?_; exact BK615.out) hb); have n1_ := Aside0.mk (blk_below (g := gb616) (o := .cells #[.int .i64 t620, .int .i64 t621] 23 (0, 0)) (by refine pkB ?_; refine blk_put (cs := #[.int .i64 t620, .int .i64 a1_1]) ?_ 1 _ (by first | rfl | (subst_vars; rfl)); refine pkB ?_; refine blk_put (cs := #[.int .i64 a1_0, .int .i64 a1_1]) ?_ 0 _ (by first | rfl | (subst_vars; rfl)); refine pkB ?_; refine blk_far ?_ NB616_615.out _; refine pkB ?_; refine blk_far ?_ NB616_615.out _; refine pkB ?_; exact BK616.out) hb); have n2_ := Aside0.mk (blk_below (g := gb617) (o := .cells #[.int .i64 0, .int .i64 0] 23 (0, 0)) (by refine pkB ?_; refine blk_far ?_ NB617_616.out _; refine pkB ?_; refine blk_far ?_ NB617_616.out _; refine pkB ?_; refine blk_far ?_ NB617_615.out _; refine pkB ?_; refine blk_far ?_ NB617_615.out _; refine pkB ?_; exact BK617.out) hb); have n3_ := bst HB hb; clear BK615; clear BK616; clear BK617; clear HB; have BK615 := n0_; have BK616 := n1_; have BK617 := n2_; have HB := n3_; clear n0_ n1_ n2_ n3_; (try clear hb); (try clear hb2); (try clear hk); (try clear hi)))
    go_meet
    case rel => exact ⟨_, (true), (by first | rfl | (simp; done) | (simp [*]; done)), H', ⟨by first | omega | exact Nat.le_refl _⟩, pkA BK615, pkA BK616, pkA BK617, bpk HB⟩
   ·
    replace c18 := Bool.eq_false_iff.mpr c18
    subst c18
    have H1 : ((itv_None.f t620 t621).bind fun t623 => (itv_both_itv_Min_1.j0 k t623 t618 t619 t620 t621)) = some (r1, r2) := by rw [if_neg (show ¬ (false = true) by decide)] at H; exact H
    clear H
    have H := H1
    clear H1
    replace H := Option.bind_eq_some_iff.mp H
    obtain ⟨t623, A230, H⟩ := H
    replace H : (itv_both_itv_Min_1.j0 k t623 t618 t619 t620 t621) = some (r1, r2) := H
    have A23 := Aside0.mk A230
    clear A230
    have H' := Aside0.mk H
    clear H
    have hnb24 := NB615_616.out
    have hnc24 := NB616_615.out
    have hnb25 := NB615_617.out
    have hnc25 := NB617_615.out
    have hcz26_0 := hcz BK615 0
    have hcz26_1 := hcz BK615 1
    have hfz26_0 := blk_frozen BK615.out 0
    have hfz26_1 := blk_frozen BK615.out 1
    go_wp2_with (first | ((with_reducible refine gate_callee (f := 21) rfl ?_); refine goesL_ (some 12) rfl rfl Try.func21 (by kernel_rfl) rfl #[.agg #[.int .i64 t618, .int .i64 t619]] rfl (by (try simp only [List.map_toArray, List.map_cons, List.map_nil]); first | done | rfl | (simp only [List.length_drop, List.length_take]; rfl)) ?_; (with_reducible refine (itv_None.calls t618 t619 false _ A17.out).mono ?_); rintro e w27 ⟨rfl, hb⟩; refine ⟨_, rfl, ?_⟩; have n0_ := Aside0.mk (blk_below (g := gb615) (o := .cells #[.int .i64 t618, .int .i64 t619] 23 (0, 0)) (by refine pkB ?_; refine blk_far ?_ NB615_616.out _; refine pkB ?_; refine blk_far ?_ NB615_616.out _; refine pkB ?_; refine blk_put (cs := #[.int .i64 t618, .int .i64 a0_1]) ?_ 1 _ (by first | rfl | (subst_vars; rfl)); refine pkB ?_; refine blk_put (cs := #[.int .i64 a0_0, .int .i64 a0_1]) ?_ 0 _ (by first | rfl | (subst_vars; rfl)); refine pkB ?_; exact BK615.out) hb); have n1_ := Aside0.mk (blk_below (g := gb616) (o := .cells #[.int .i64 t620, .int .i64 t621] 23 (0, 0)) (by refine pkB ?_; refine blk_put (cs := #[.int .i64 t620, .int .i64 a1_1]) ?_ 1 _ (by first | rfl | (subst_vars; rfl)); refine pkB ?_; refine blk_put (cs := #[.int .i64 a1_0, .int .i64 a1_1]) ?_ 0 _ (by first | rfl | (subst_vars; rfl)); refine pkB ?_; refine blk_far ?_ NB616_615.out _; refine pkB ?_; refine blk_far ?_ NB616_615.out _; refine pkB ?_; exact BK616.out) hb); have n2_ := Aside0.mk (blk_below (g := gb617) (o := .cells #[.int .i64 0, .int .i64 0] 23 (0, 0)) (by refine pkB ?_; refine blk_far ?_ NB617_616.out _; refine pkB ?_; refine blk_far ?_ NB617_616.out _; refine pkB ?_; refine blk_far ?_ NB617_615.out _; refine pkB ?_; refine blk_far ?_ NB617_615.out _; refine pkB ?_; exact BK617.out) hb); have n3_ := bst HB hb; clear BK615; clear BK616; clear BK617; clear HB; have BK615 := n0_; have BK616 := n1_; have BK617 := n2_; have HB := n3_; clear n0_ n1_ n2_ n3_; (try clear hb); (try clear hb2); (try clear hk); (try clear hi); have hnb28 := NB616_617.out; have hnc28 := NB617_616.out; have hcz29_0 := hcz BK616 0; have hcz29_1 := hcz BK616 1; have hfz29_0 := blk_frozen BK616.out 0; have hfz29_1 := blk_frozen BK616.out 1) | (go_at_call 21; (with_reducible refine (itv_None.calls t620 t621 t623 _ A23.out).mono ?_); rintro e w30 ⟨rfl, hb⟩; have n0_ := bst HB hb; replace BK615 := bbw BK615 hb; replace BK616 := bbw BK616 hb; replace BK617 := bbw BK617 hb; clear HB; have HB := n0_; clear n0_; (try clear hb); (try clear hb2); (try clear hk); (try clear hi)))
    go_meet
    case rel => exact ⟨_, (t623), (by first | rfl | (simp; done) | (simp [*]; done)), H', ⟨by first | omega | exact Nat.le_refl _⟩, pkA BK615, pkA BK616, pkA BK617, bpk HB⟩
  case rest =>
   clear HC6
   try clear c1
   try clear c2
   try clear p2
   try clear c5
   try clear c9
   try clear c18
   try clear c19
   try clear c20
   try clear c21
   try clear c24
   try clear c25
   try clear c28
   try clear hcz21_0
   try clear hcz21_1
   try clear hcz26_0
   try clear hcz26_1
   try clear hcz29_0
   try clear hcz29_1
   try clear hfz21_0
   try clear hfz21_1
   try clear hfz26_0
   try clear hfz26_1
   try clear hfz29_0
   try clear hfz29_1
   obtain ⟨kq, x16_5, rfl, HA, HJ5, BK615, BK616, BK617, HB⟩ := hcut
   cases kq with
   | zero => exact absurd HA.out (by simp [itv_both_itv_Min_1.j0])
   | succ kj5 =>
    have H := HA.out
    clear HA
    simp only [itv_both_itv_Min_1.j0] at H
    by_cases c31 : x16_5 = true
    ·
     subst c31
     have H1 : ((itv_Empty.f).bind fun bt624 => (some (bt624.1, bt624.2))) = some (r1, r2) := by rw [if_pos rfl] at H; exact H
     clear H
     have H := H1
     clear H1
     replace H := Option.bind_eq_some_iff.mp H
     obtain ⟨⟨t624, t625⟩, A320, H⟩ := H
     replace H : (some (t624, t625)) = some (r1, r2) := H
     have A32 := Aside0.mk A320
     clear A320
     simp only [Option.some.injEq, Prod.mk.injEq] at H
     obtain ⟨rfl, rfl⟩ := H
     go_wp2_with (first | ((with_reducible refine gate_callee (f := 15) rfl ?_); refine goesL_ (some 17) rfl rfl Try.func15 (by kernel_rfl) rfl #[] rfl (by (try simp only [List.map_toArray, List.map_cons, List.map_nil]); first | done | rfl | (simp only [List.length_drop, List.length_take]; rfl)) ?_; (with_reducible refine (itv_Empty.calls  t624 t625 _ A32.out).mono ?_); rintro e w33 ⟨rfl, hb⟩; refine ⟨_, rfl, ?_⟩; have n0_ := bst HB hb; replace BK615 := bbw BK615 hb; replace BK616 := bbw BK616 hb; replace BK617 := bbw BK617 hb; clear HB; have HB := n0_; clear n0_; (try clear hb); (try clear hb2); (try clear hk); (try clear hi); have hnb34 := NB617_615.out; have hnc34 := NB615_617.out; have hnb35 := NB617_616.out; have hnc35 := NB616_617.out; have hcz36_0 := hcz BK617 0; have hcz36_1 := hcz BK617 1; have hfz36_0 := blk_frozen BK617.out 0; have hfz36_1 := blk_frozen BK617.out 1))
     refine bodyPost_ret (results_cell_row rfl _ _ gb617 23 #[.int .i64 t624, .int .i64 t625] (0, 0) _ rfl (by refine pkB ?_; refine blk_put (cs := #[.int .i64 t624, .int .i64 0]) ?_ 1 _ (by first | rfl | (subst_vars; rfl)); refine pkB ?_; refine blk_put (cs := #[.int .i64 0, .int .i64 0]) ?_ 0 _ (by first | rfl | (subst_vars; rfl)); refine pkB ?_; exact BK617.out) Try.underlying23 rfl (by kernel_rfl)) rfl ?_
     exact ⟨by first | rfl | (simp [errW_none, errW_some] <;> rfl) | (simp [*, errW_none, errW_some] <;> rfl) | kernel_rfl, by repeat (first | (with_reducible first | exact HB.out | apply below_alloc | apply pw_below_drewN | apply below_drew1 | refine below_set ?_ GE615.out | refine below_set ?_ GE616.out | refine below_set ?_ GE617.out) | exact HB.out)⟩
    ·
     replace c31 := Bool.eq_false_iff.mpr c31
     subst c31
     have H1 : ((itv_Min_1.f t618 t619 t620 t621).bind fun bt626 => (some (bt626.1, bt626.2))) = some (r1, r2) := by rw [if_neg (show ¬ (false = true) by decide)] at H; exact H
     clear H
     have H := H1
     clear H1
     replace H := Option.bind_eq_some_iff.mp H
     obtain ⟨⟨t626, t627⟩, A370, H⟩ := H
     replace H : (some (t626, t627)) = some (r1, r2) := H
     have A37 := Aside0.mk A370
     clear A370
     simp only [Option.some.injEq, Prod.mk.injEq] at H
     obtain ⟨rfl, rfl⟩ := H
     have hnb38 := NB615_616.out
     have hnc38 := NB616_615.out
     have hnb39 := NB615_617.out
     have hnc39 := NB617_615.out
     have hcz40_0 := hcz BK615 0
     have hcz40_1 := hcz BK615 1
     have hfz40_0 := blk_frozen BK615.out 0
     have hfz40_1 := blk_frozen BK615.out 1
     have hnb41 := NB616_617.out
     have hnc41 := NB617_616.out
     have hcz42_0 := hcz BK616 0
     have hcz42_1 := hcz BK616 1
     have hfz42_0 := blk_frozen BK616.out 0
     have hfz42_1 := blk_frozen BK616.out 1
     go_wp2_with (first | (go_at_call 80; (with_reducible refine (itv_Min_1.calls t618 t619 t620 t621 t626 t627 _ A37.out).mono ?_); rintro e w43 ⟨rfl, hb⟩; have n0_ := bst HB hb; replace BK615 := bbw BK615 hb; replace BK616 := bbw BK616 hb; replace BK617 := bbw BK617 hb; clear HB; have HB := n0_; clear n0_; (try clear hb); (try clear hb2); (try clear hk); (try clear hi); have hcz44_0 := hcz BK617 0; have hcz44_1 := hcz BK617 1; have hfz44_0 := blk_frozen BK617.out 0; have hfz44_1 := blk_frozen BK617.out 1))
     refine bodyPost_ret (results_cell_row rfl _ _ gb617 23 #[.int .i64 t626, .int .i64 t627] (0, 0) _ rfl (by refine pkB ?_; refine blk_put (cs := #[.int .i64 t626, .int .i64 0]) ?_ 1 _ (by first | rfl | (subst_vars; rfl)); refine pkB ?_; refine blk_put (cs := #[.int .i64 0, .int .i64 0]) ?_ 0 _ (by first | rfl | (subst_vars; rfl)); refine pkB ?_; exact BK617.out) Try.underlying23 rfl (by kernel_rfl)) rfl ?_
     exact ⟨by first | rfl | (simp [errW_none, errW_some] <;> rfl) | (simp [*, errW_none, errW_some] <;> rfl) | kernel_rfl, by repeat (first | (with_reducible first | exact HB.out | apply below_alloc | apply pw_below_drewN | apply below_drew1 | refine below_set ?_ GE615.out | refine below_set ?_ GE616.out | refine below_set ?_ GE617.out) | exact HB.out)⟩
def itv_Min.f (k : Nat) (a0_0 : Int) (a0_1 : Int) (a1_0 : Int) (a1_1 : Int) : Option (Int × Int) := (itv_both_itv_Min_1.f k a0_0 a0_1 a1_0 a1_1).bind fun bt631 => (some (bt631.1, bt631.2))
set_option maxHeartbeats 8000000 in
set_option maxRecDepth 100000 in
theorem itv_Min.calls (k : Nat) (a0_0 : Int) (a0_1 : Int) (a1_0 : Int) (a1_1 : Int) (r1 : Int) (r2 : Int) (w : World) (h : itv_Min.f k a0_0 a0_1 a1_0 a1_1 = some (r1, r2)) :
    Calls Try.prog 43 #[.agg #[.int .i64 a0_0, .int .i64 a0_1], .agg #[.int .i64 a1_0, .int .i64 a1_1]] w fun e w' => e = .returned (.agg #[.int .i64 r1, .int .i64 r2]) ∧ Below w.heap.size w w' := by
  have hu23 := Try.underlying23
  have HB := Aside0.mk (Below.refl w.heap.size w)
  have H : ((itv_both_itv_Min_1.f k a0_0 a0_1 a1_0 a1_1).bind fun bt631 => (some (bt631.1, bt631.2))) = some (r1, r2) := h
  clear h
  replace H := Option.bind_eq_some_iff.mp H
  obtain ⟨⟨t631, t632⟩, A30, H⟩ := H
  replace H : (some (t631, t632)) = some (r1, r2) := H
  have A3 := Aside0.mk A30
  clear A30
  simp only [Option.some.injEq, Prod.mk.injEq] at H
  obtain ⟨rfl, rfl⟩ := H
  go_enter Try.func43, Try.ntmps43
  go_wp2_with (first | ((with_reducible refine gate_dst (N := 2) rfl ?_); refine box_event ?hg (N := 2) ?hd (cs := #[.int .i64 a0_0, .int .i64 a0_1]) (t := 23) ?hr ?_; (case hd => rfl); (case hg => rfl); (case hr => first | (go_simp; done) | (go_simp; rfl)); intro gb628 hg w4 hbox hb; have n0_ := bst HB hb; have n1_ := Aside0.mk (hbox); have n2_ := bsz HB hg; have n3_ := bsz HB hg; clear HB; have HB := n0_; have BK628 := n1_; have GW628 := n2_; have GE628 := n3_; clear n0_ n1_ n2_ n3_; clear hb hbox hg) | ((with_reducible refine gate_dst (N := 3) rfl ?_); refine box_event ?hg (N := 3) ?hd (cs := #[.int .i64 a1_0, .int .i64 a1_1]) (t := 23) ?hr ?_; (case hd => rfl); (case hg => rfl); (case hr => first | (go_simp; done) | (go_simp; rfl)); intro gb629 hg w5 hbox hb; have n0_ := bst HB hb; have n1_ := Aside0.mk (hbox); have n2_ := bsz HB hg; have n3_ := bsz HB hg; have n4_ := bn1 BK628 hg; have n5_ := bn2 BK628 hg; replace BK628 := bbw BK628 hb; clear HB; have HB := n0_; have BK629 := n1_; have GW629 := n2_; have GE629 := n3_; have NB628_629 := n4_; have NB629_628 := n5_; clear n0_ n1_ n2_ n3_ n4_ n5_; clear hb hbox hg) | ((with_reducible refine gate_dst (N := 4) rfl ?_); refine box_event ?hg (N := 4) ?hd (cs := #[.int .i64 0, .int .i64 0]) (t := 23) ?hr ?_; (case hd => rfl); (case hg => rfl); (case hr => first | (go_simp; done) | (go_simp; rfl)); intro gb630 hg w6 hbox hb; have n0_ := bst HB hb; have n1_ := Aside0.mk (hbox); have n2_ := bsz HB hg; have n3_ := bsz HB hg; have n4_ := bn1 BK628 hg; have n5_ := bn2 BK628 hg; have n6_ := bn1 BK629 hg; have n7_ := bn2 BK629 hg; replace BK628 := bbw BK628 hb; replace BK629 := bbw BK629 hb; clear HB; have HB := n0_; have BK630 := n1_; have GW630 := n2_; have GE630 := n3_; have NB628_630 := n4_; have NB630_628 := n5_; have NB629_630 := n6_; have NB630_629 := n7_; clear n0_ n1_ n2_ n3_ n4_ n5_ n6_ n7_; clear hb hbox hg; have hnb7 := NB628_629.out; have hnc7 := NB629_628.out; have hnb8 := NB628_630.out; have hnc8 := NB630_628.out; have hcz9_0 := hcz BK628 0; have hcz9_1 := hcz BK628 1; have hfz9_0 := blk_frozen BK628.out 0; have hfz9_1 := blk_frozen BK628.out 1; have hnb10 := NB629_630.out; have hnc10 := NB630_629.out; have hcz11_0 := hcz BK629 0; have hcz11_1 := hcz BK629 1; have hfz11_0 := blk_frozen BK629.out 0; have hfz11_1 := blk_frozen BK629.out 1) | ((with_reducible refine gate_callee (f := 73) rfl ?_); refine goesL_ (some 7) rfl rfl Try.func73 (by kernel_rfl) rfl #[.agg #[.int .i64 a0_0, .int .i64 a0_1], .agg #[.int .i64 a1_0, .int .i64 a1_1], .func (.func 80) #[] #[]] rfl (by (try simp only [List.map_toArray, List.map_cons, List.map_nil]); first | done | rfl | (simp only [List.length_drop, List.length_take]; rfl)) ?_; (with_reducible refine (itv_both_itv_Min_1.calls k a0_0 a0_1 a1_0 a1_1  t631 t632 _ A3.out).mono ?_); rintro e w12 ⟨rfl, hb⟩; refine ⟨_, rfl, ?_⟩; have n0_ := bst HB hb; replace BK628 := bbw BK628 hb; replace BK629 := bbw BK629 hb; replace BK630 := bbw BK630 hb; clear HB; have HB := n0_; clear n0_; (try clear hb); (try clear hb2); (try clear hk); (try clear hi); have hcz13_0 := hcz BK630 0; have hcz13_1 := hcz BK630 1; have hfz13_0 := blk_frozen BK630.out 0; have hfz13_1 := blk_frozen BK630.out 1))
  refine bodyPost_ret (results_cell_row rfl _ _ gb630 23 #[.int .i64 t631, .int .i64 t632] (0, 0) _ rfl (by refine pkB ?_; refine blk_put (cs := #[.int .i64 t631, .int .i64 0]) ?_ 1 _ (by first | rfl | (subst_vars; rfl)); refine pkB ?_; refine blk_put (cs := #[.int .i64 0, .int .i64 0]) ?_ 0 _ (by first | rfl | (subst_vars; rfl)); refine pkB ?_; exact BK630.out) Try.underlying23 rfl (by kernel_rfl)) rfl ?_
  exact ⟨by first | rfl | (simp [errW_none, errW_some] <;> rfl) | (simp [*, errW_none, errW_some] <;> rfl) | kernel_rfl, by repeat (first | (with_reducible first | exact HB.out | apply below_alloc | apply pw_below_drewN | apply below_drew1 | refine below_set ?_ GE628.out | refine below_set ?_ GE629.out | refine below_set ?_ GE630.out) | exact HB.out)⟩
def itv_Max_1.f (a0_0 : Int) (a0_1 : Int) (a1_0 : Int) (a1_1 : Int) : Option (Int × Int) := (itv_Of.f (mx a0_0 a1_0) (mx a0_1 a1_1)).bind fun bt636 => (some (bt636.1, bt636.2))
set_option maxHeartbeats 8000000 in
set_option maxRecDepth 100000 in
theorem itv_Max_1.calls (a0_0 : Int) (a0_1 : Int) (a1_0 : Int) (a1_1 : Int) (r1 : Int) (r2 : Int) (w : World) (h : itv_Max_1.f a0_0 a0_1 a1_0 a1_1 = some (r1, r2)) :
    Calls Try.prog 81 #[.agg #[.int .i64 a0_0, .int .i64 a0_1], .agg #[.int .i64 a1_0, .int .i64 a1_1]] w fun e w' => e = .returned (.agg #[.int .i64 r1, .int .i64 r2]) ∧ Below w.heap.size w w' := by
  have hu23 := Try.underlying23
  have HB := Aside0.mk (Below.refl w.heap.size w)
  have H : ((itv_Of.f (mx a0_0 a1_0) (mx a0_1 a1_1)).bind fun bt636 => (some (bt636.1, bt636.2))) = some (r1, r2) := h
  clear h
  obtain ⟨ji3, hji3⟩ : ∃ j_ : Int, (mx a0_0 a1_0) = j_ := ⟨_, rfl⟩
  replace H : ((itv_Of.f (ji3) (mx a0_1 a1_1)).bind fun bt636 => (some (bt636.1, bt636.2))) = some (r1, r2) := by first | (rw [hji3] at H; exact H) | (simp only [hji3] at H ⊢; exact H)
  have hji3_ : (if a0_0 < a1_0 then a1_0 else a0_0) = ji3 := hji3
  obtain ⟨ji4, hji4⟩ : ∃ j_ : Int, (mx a0_1 a1_1) = j_ := ⟨_, rfl⟩
  replace H : ((itv_Of.f (ji3) (ji4)).bind fun bt636 => (some (bt636.1, bt636.2))) = some (r1, r2) := by first | (rw [hji4] at H; exact H) | (simp only [hji4] at H ⊢; exact H)
  have hji4_ : (if a0_1 < a1_1 then a1_1 else a0_1) = ji4 := hji4
  replace H := Option.bind_eq_some_iff.mp H
  obtain ⟨⟨t636, t637⟩, A50, H⟩ := H
  replace H : (some (t636, t637)) = some (r1, r2) := H
  have A5 := Aside0.mk A50
  clear A50
  simp only [Option.some.injEq, Prod.mk.injEq] at H
  obtain ⟨rfl, rfl⟩ := H
  go_enter Try.func81, Try.ntmps81
  go_wp2_with (first | ((with_reducible refine gate_dst (N := 2) rfl ?_); refine box_event ?hg (N := 2) ?hd (cs := #[.int .i64 a0_0, .int .i64 a0_1]) (t := 23) ?hr ?_; (case hd => rfl); (case hg => rfl); (case hr => first | (go_simp; done) | (go_simp; rfl)); intro gb633 hg w6 hbox hb; have n0_ := bst HB hb; have n1_ := Aside0.mk (hbox); have n2_ := bsz HB hg; have n3_ := bsz HB hg; clear HB; have HB := n0_; have BK633 := n1_; have GW633 := n2_; have GE633 := n3_; clear n0_ n1_ n2_ n3_; clear hb hbox hg) | ((with_reducible refine gate_dst (N := 3) rfl ?_); refine box_event ?hg (N := 3) ?hd (cs := #[.int .i64 a1_0, .int .i64 a1_1]) (t := 23) ?hr ?_; (case hd => rfl); (case hg => rfl); (case hr => first | (go_simp; done) | (go_simp; rfl)); intro gb634 hg w7 hbox hb; have n0_ := bst HB hb; have n1_ := Aside0.mk (hbox); have n2_ := bsz HB hg; have n3_ := bsz HB hg; have n4_ := bn1 BK633 hg; have n5_ := bn2 BK633 hg; replace BK633 := bbw BK633 hb; clear HB; have HB := n0_; have BK634 := n1_; have GW634 := n2_; have GE634 := n3_; have NB633_634 := n4_; have NB634_633 := n5_; clear n0_ n1_ n2_ n3_ n4_ n5_; clear hb hbox hg) | ((with_reducible refine gate_dst (N := 4) rfl ?_); refine box_event ?hg (N := 4) ?hd (cs := #[.int .i64 0, .int .i64 0]) (t := 23) ?hr ?_; (case hd => rfl); (case hg => rfl); (case hr => first | (go_simp; done) | (go_simp; rfl)); intro gb635 hg w8 hbox hb; have n0_ := bst HB hb; have n1_ := Aside0.mk (hbox); have n2_ := bsz HB hg; have n3_ := bsz HB hg; have n4_ := bn1 BK633 hg; have n5_ := bn2 BK633 hg; have n6_ := bn1 BK634 hg; have n7_ := bn2 BK634 hg; replace BK633 := bbw BK633 hb; replace BK634 := bbw BK634 hb; clear HB; have HB := n0_; have BK635 := n1_; have GW635 := n2_; have GE635 := n3_; have NB633_635 := n4_; have NB635_633 := n5_; have NB634_635 := n6_; have NB635_634 := n7_; clear n0_ n1_ n2_ n3_ n4_ n5_ n6_ n7_; clear hb hbox hg; have hnb9 := NB633_634.out; have hnc9 := NB634_633.out; have hnb10 := NB633_635.out; have hnc10 := NB635_633.out; have hcz11_0 := hcz BK633 0; have hcz11_1 := hcz BK633 1; have hfz11_0 := blk_frozen BK633.out 0; have hfz11_1 := blk_frozen BK633.out 1; have hnb12 := NB634_635.out; have hnc12 := NB635_634.out; have hcz13_0 := hcz BK634 0; have hcz13_1 := hcz BK634 1; have hfz13_0 := blk_frozen BK634.out 0; have hfz13_1 := blk_frozen BK634.out 1) | ((with_reducible refine gate_callee (f := 13) rfl ?_); refine goesL_ (some 15) rfl rfl Try.func13 (by kernel_rfl) rfl #[.int .i64 ji3, .int .i64 ji4] rfl (by (try simp only [List.map_toArray, List.map_cons, List.map_nil]); first | done | (simp only [hji3, hji4]; rfl) | rfl | (simp only [List.length_drop, List.length_take]; rfl)) ?_; (with_reducible refine (itv_Of.calls ji3 ji4 t636 t637 _ A5.out).mono ?_); rintro e w14 ⟨rfl, hb⟩; refine ⟨_, rfl, ?_⟩; have n0_ := bst HB hb; replace BK633 := bbw BK633 hb; replace BK634 := bbw BK634 hb; replace BK635 := bbw BK635 hb; clear HB; have HB := n0_; clear n0_; (try clear hb); (try clear hb2); (try clear hk); (try clear hi); have hcz15_0 := hcz BK635 0; have hcz15_1 := hcz BK635 1; have hfz15_0 := blk_frozen BK635.out 0; have hfz15_1 := blk_frozen BK635.out 1))
  refine bodyPost_ret (results_cell_row rfl _ _ gb635 23 #[.int .i64 t636, .int .i64 t637] (0, 0) _ rfl (by refine pkB ?_; refine blk_put (cs := #[.int .i64 t636, .int .i64 0]) ?_ 1 _ (by first | rfl | (subst_vars; rfl)); refine pkB ?_; refine blk_put (cs := #[.int .i64 0, .int .i64 0]) ?_ 0 _ (by first | rfl | (subst_vars; rfl)); refine pkB ?_; exact BK635.out) Try.underlying23 rfl (by kernel_rfl)) rfl ?_
  exact ⟨by first | rfl | (simp [errW_none, errW_some] <;> rfl) | (simp only [← hji3, ← hji4]; first | rfl | (simp [errW_none, errW_some] <;> rfl)) | (simp [*, errW_none, errW_some] <;> rfl) | kernel_rfl, by repeat (first | (with_reducible first | exact HB.out | apply below_alloc | apply pw_below_drewN | apply below_drew1 | refine below_set ?_ GE633.out | refine below_set ?_ GE634.out | refine below_set ?_ GE635.out) | exact HB.out)⟩
end Go.Proofs.Ytbbnpipmjadpoaa.P
