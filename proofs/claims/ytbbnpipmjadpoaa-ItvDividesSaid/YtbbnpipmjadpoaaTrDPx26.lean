/- What the law's proof needs of Px26. -/
import Derived.Test.YtbbnpipmjadpoaaTrDU2
import Derived.Test.YtbbnpipmjadpoaaTrDU
import Derived.Test.YtbbnpipmjadpoaaTrDPx0
import Derived.Test.YtbbnpipmjadpoaaTrDPx2
import Derived.Test.YtbbnpipmjadpoaaTrDPx18
import Derived.Test.YtbbnpipmjadpoaaTrDPx25
-- PRINTED by print.py (a twelfth state) out of the translation. Not trusted: Lean checks it.
namespace Go.Proofs.Ytbbnpipmjadpoaa.P
open Go.RowKit Go.Proofs.YtbbnpipmjadpoaaW.PrintWords Go.Proofs.YtbbnpipmjadpoaaW.PrintLast Go.Proofs.YtbbnpipmjadpoaaW.PrintMore Go.Proofs.YtbbnpipmjadpoaaO
attribute [local go_sem] max2_int min2_int max_two min_two max_three min_three max_four min_four   -- for this text's walks alone
set_option linter.unusedVariables false
set_option linter.unusedSimpArgs false
def itv_hull.f (a0_0 : Int) (a0_1 : Int) (a0_2 : Int) (a0_3 : Int) : Option (Int × Int) := (itv_Of.f (mn (mn (mn a0_0 a0_1) a0_2) a0_3) (mx (mx (mx a0_0 a0_1) a0_2) a0_3)).bind fun bt575 => (some (bt575.1, bt575.2))
set_option maxHeartbeats 8000000 in
set_option maxRecDepth 100000 in
theorem itv_hull.calls (a0_0 : Int) (a0_1 : Int) (a0_2 : Int) (a0_3 : Int) (r1 : Int) (r2 : Int) (w : World) (h : itv_hull.f a0_0 a0_1 a0_2 a0_3 = some (r1, r2)) :
    Calls Try.prog 78 #[.agg #[.int .i64 a0_0, .int .i64 a0_1, .int .i64 a0_2, .int .i64 a0_3]] w fun e w' => e = .returned (.agg #[.int .i64 r1, .int .i64 r2]) ∧ Below w.heap.size w w' := by
  have hu60 := Try.underlying60
  have hu23 := Try.underlying23
  have hix60_0 : ∀ (y0_ : Int) (y1_ : Int) (y2_ : Int) (y3_ : Int) (W : World), (Instr.index 60 (.agg #[.int .i64 y0_, .int .i64 y1_, .int .i64 y2_, .int .i64 y3_]) (.int .i64 0)).run Try.prog W = .ok (.int .i64 y0_) W := fun _ _ _ _ _ => by kernel_rfl
  have hix60_1 : ∀ (y0_ : Int) (y1_ : Int) (y2_ : Int) (y3_ : Int) (W : World), (Instr.index 60 (.agg #[.int .i64 y0_, .int .i64 y1_, .int .i64 y2_, .int .i64 y3_]) (.int .i64 1)).run Try.prog W = .ok (.int .i64 y1_) W := fun _ _ _ _ _ => by kernel_rfl
  have hix60_2 : ∀ (y0_ : Int) (y1_ : Int) (y2_ : Int) (y3_ : Int) (W : World), (Instr.index 60 (.agg #[.int .i64 y0_, .int .i64 y1_, .int .i64 y2_, .int .i64 y3_]) (.int .i64 2)).run Try.prog W = .ok (.int .i64 y2_) W := fun _ _ _ _ _ => by kernel_rfl
  have hix60_3 : ∀ (y0_ : Int) (y1_ : Int) (y2_ : Int) (y3_ : Int) (W : World), (Instr.index 60 (.agg #[.int .i64 y0_, .int .i64 y1_, .int .i64 y2_, .int .i64 y3_]) (.int .i64 3)).run Try.prog W = .ok (.int .i64 y3_) W := fun _ _ _ _ _ => by kernel_rfl
  have HB := Aside0.mk (Below.refl w.heap.size w)
  have H : ((itv_Of.f (mn (mn (mn a0_0 a0_1) a0_2) a0_3) (mx (mx (mx a0_0 a0_1) a0_2) a0_3)).bind fun bt575 => (some (bt575.1, bt575.2))) = some (r1, r2) := h
  clear h
  have HC2 := Aside0.mk H
  clear H
  go_enter Try.func78, Try.ntmps78
  go_wp2_with (first | ((with_reducible refine gate_dst (N := 1) rfl ?_); refine box_event ?hg (N := 1) ?hd (cs := #[.int .i64 a0_0, .int .i64 a0_1, .int .i64 a0_2, .int .i64 a0_3]) (t := 60) ?hr ?_; (case hd => rfl); (case hg => rfl); (case hr => first | (go_simp; done) | (go_simp; rfl)); intro gb573 hg w3 hbox hb; have n0_ := bst HB hb; have n1_ := Aside0.mk (hbox); have n2_ := bsz HB hg; have n3_ := bsz HB hg; clear HB; have HB := n0_; have BK573 := n1_; have GW573 := n2_; have GE573 := n3_; clear n0_ n1_ n2_ n3_; clear hb hbox hg) | ((with_reducible refine gate_dst (N := 2) rfl ?_); refine box_event ?hg (N := 2) ?hd (cs := #[.int .i64 0, .int .i64 0]) (t := 23) ?hr ?_; (case hd => rfl); (case hg => rfl); (case hr => first | (go_simp; done) | (go_simp; rfl)); intro gb574 hg w4 hbox hb; have n0_ := bst HB hb; have n1_ := Aside0.mk (hbox); have n2_ := bsz HB hg; have n3_ := bsz HB hg; have n4_ := bn1 BK573 hg; have n5_ := bn2 BK573 hg; replace BK573 := bbw BK573 hb; clear HB; have HB := n0_; have BK574 := n1_; have GW574 := n2_; have GE574 := n3_; have NB573_574 := n4_; have NB574_573 := n5_; clear n0_ n1_ n2_ n3_ n4_ n5_; clear hb hbox hg; have hnb5 := NB573_574.out; have hnc5 := NB574_573.out; have hcz6_0 := hcz BK573 0; have hcz6_1 := hcz BK573 1; have hcz6_2 := hcz BK573 2; have hcz6_3 := hcz BK573 3; have hfz6_0 := blk_frozen BK573.out 0; have hfz6_1 := blk_frozen BK573.out 1; have hfz6_2 := blk_frozen BK573.out 2; have hfz6_3 := blk_frozen BK573.out 3))
  repeat (go_quiet (first | ((with_reducible refine gate_dst (N := 1) rfl ?_); refine box_event ?hg (N := 1) ?hd (cs := #[.int .i64 a0_0, .int .i64 a0_1, .int .i64 a0_2, .int .i64 a0_3]) (t := 60) ?hr ?_; (case hd => rfl); (case hg => rfl); (case hr => first | (go_simp; done) | (go_simp; rfl)); intro gb573 hg w3 hbox hb; have n0_ := bst HB hb; have n1_ := Aside0.mk (hbox); have n2_ := bsz HB hg; have n3_ := bsz HB hg; clear HB; have HB := n0_; have BK573 := n1_; have GW573 := n2_; have GE573 := n3_; clear n0_ n1_ n2_ n3_; clear hb hbox hg) | ((with_reducible refine gate_dst (N := 2) rfl ?_); refine box_event ?hg (N := 2) ?hd (cs := #[.int .i64 0, .int .i64 0]) (t := 23) ?hr ?_; (case hd => rfl); (case hg => rfl); (case hr => first | (go_simp; done) | (go_simp; rfl)); intro gb574 hg w4 hbox hb; have n0_ := bst HB hb; have n1_ := Aside0.mk (hbox); have n2_ := bsz HB hg; have n3_ := bsz HB hg; have n4_ := bn1 BK573 hg; have n5_ := bn2 BK573 hg; replace BK573 := bbw BK573 hb; clear HB; have HB := n0_; have BK574 := n1_; have GW574 := n2_; have GE574 := n3_; have NB573_574 := n4_; have NB574_573 := n5_; clear n0_ n1_ n2_ n3_ n4_ n5_; clear hb hbox hg; have hnb5 := NB573_574.out; have hnc5 := NB574_573.out; have hcz6_0 := hcz BK573 0; have hcz6_1 := hcz BK573 1; have hcz6_2 := hcz BK573 2; have hcz6_3 := hcz BK573 3; have hfz6_0 := blk_frozen BK573.out 0; have hfz6_1 := blk_frozen BK573.out 1; have hfz6_2 := blk_frozen BK573.out 2; have hfz6_3 := blk_frozen BK573.out 3)); try go_wp2_with (first | ((with_reducible refine gate_dst (N := 1) rfl ?_); refine box_event ?hg (N := 1) ?hd (cs := #[.int .i64 a0_0, .int .i64 a0_1, .int .i64 a0_2, .int .i64 a0_3]) (t := 60) ?hr ?_; (case hd => rfl); (case hg => rfl); (case hr => first | (go_simp; done) | (go_simp; rfl)); intro gb573 hg w3 hbox hb; have n0_ := bst HB hb; have n1_ := Aside0.mk (hbox); have n2_ := bsz HB hg; have n3_ := bsz HB hg; clear HB; have HB := n0_; have BK573 := n1_; have GW573 := n2_; have GE573 := n3_; clear n0_ n1_ n2_ n3_; clear hb hbox hg) | ((with_reducible refine gate_dst (N := 2) rfl ?_); refine box_event ?hg (N := 2) ?hd (cs := #[.int .i64 0, .int .i64 0]) (t := 23) ?hr ?_; (case hd => rfl); (case hg => rfl); (case hr => first | (go_simp; done) | (go_simp; rfl)); intro gb574 hg w4 hbox hb; have n0_ := bst HB hb; have n1_ := Aside0.mk (hbox); have n2_ := bsz HB hg; have n3_ := bsz HB hg; have n4_ := bn1 BK573 hg; have n5_ := bn2 BK573 hg; replace BK573 := bbw BK573 hb; clear HB; have HB := n0_; have BK574 := n1_; have GW574 := n2_; have GE574 := n3_; have NB573_574 := n4_; have NB574_573 := n5_; clear n0_ n1_ n2_ n3_ n4_ n5_; clear hb hbox hg; have hnb5 := NB573_574.out; have hnc5 := NB574_573.out; have hcz6_0 := hcz BK573 0; have hcz6_1 := hcz BK573 1; have hcz6_2 := hcz BK573 2; have hcz6_3 := hcz BK573 3; have hfz6_0 := blk_frozen BK573.out 0; have hfz6_1 := blk_frozen BK573.out 1; have hfz6_2 := blk_frozen BK573.out 2; have hfz6_3 := blk_frozen BK573.out 3)))
  refine loop_looped ?_
  refine looped_round (fun K_ hK_ => ?_)
  have H := HC2.out
  clear HC2
  try clear p2
  try clear c5
  try clear hcz6_0
  try clear hcz6_1
  try clear hcz6_2
  try clear hcz6_3
  try clear hfz6_0
  try clear hfz6_1
  try clear hfz6_2
  try clear hfz6_3
  have HC7 := Aside0.mk H
  clear H
  go_wp2
  repeat (go_quiet (fail); try go_wp2)
  refine looped_round (fun K_ hK_ => ?_)
  have H := HC7.out
  clear HC7
  try clear p2
  try clear c5
  try clear c7
  try clear hcz6_0
  try clear hcz6_1
  try clear hcz6_2
  try clear hcz6_3
  try clear hfz6_0
  try clear hfz6_1
  try clear hfz6_2
  try clear hfz6_3
  try clear p2
  obtain ⟨ji8, hji8⟩ : ∃ j_ : Int, (mn a0_0 a0_1) = j_ := ⟨_, rfl⟩
  replace H : ((itv_Of.f (mn (mn (ji8) a0_2) a0_3) (mx (mx (mx a0_0 a0_1) a0_2) a0_3)).bind fun bt575 => (some (bt575.1, bt575.2))) = some (r1, r2) := by first | (rw [hji8] at H; exact H) | (simp only [hji8] at H ⊢; exact H)
  have hji8_ : (if a0_1 < a0_0 then a0_1 else a0_0) = ji8 := hji8
  obtain ⟨ji9, hji9⟩ : ∃ j_ : Int, (mx a0_0 a0_1) = j_ := ⟨_, rfl⟩
  replace H : ((itv_Of.f (mn (mn (ji8) a0_2) a0_3) (mx (mx (ji9) a0_2) a0_3)).bind fun bt575 => (some (bt575.1, bt575.2))) = some (r1, r2) := by first | (rw [hji9] at H; exact H) | (simp only [hji9] at H ⊢; exact H)
  have hji9_ : (if a0_0 < a0_1 then a0_1 else a0_0) = ji9 := hji9
  have HC10 := Aside0.mk H
  clear H
  go_wp2
  repeat (go_quiet (fail); try go_wp2)
  refine looped_round (fun K_ hK_ => ?_)
  have H := HC10.out
  clear HC10
  try clear p2
  try clear c5
  try clear c7
  try clear hcz6_0
  try clear hcz6_1
  try clear hcz6_2
  try clear hcz6_3
  try clear hfz6_0
  try clear hfz6_1
  try clear hfz6_2
  try clear hfz6_3
  try clear p2
  obtain ⟨ji11, hji11⟩ : ∃ j_ : Int, (mn (ji8) a0_2) = j_ := ⟨_, rfl⟩
  replace H : ((itv_Of.f (mn (ji11) a0_3) (mx (mx (ji9) a0_2) a0_3)).bind fun bt575 => (some (bt575.1, bt575.2))) = some (r1, r2) := by first | (rw [hji11] at H; exact H) | (simp only [hji11] at H ⊢; exact H)
  have hji11_ : (if a0_2 < (ji8) then a0_2 else (ji8)) = ji11 := hji11
  obtain ⟨ji12, hji12⟩ : ∃ j_ : Int, (mx (ji9) a0_2) = j_ := ⟨_, rfl⟩
  replace H : ((itv_Of.f (mn (ji11) a0_3) (mx (ji12) a0_3)).bind fun bt575 => (some (bt575.1, bt575.2))) = some (r1, r2) := by first | (rw [hji12] at H; exact H) | (simp only [hji12] at H ⊢; exact H)
  have hji12_ : (if (ji9) < a0_2 then a0_2 else (ji9)) = ji12 := hji12
  have HC13 := Aside0.mk H
  clear H
  go_wp2
  repeat (go_quiet (fail); try go_wp2)
  refine looped_round (fun K_ hK_ => ?_)
  have H := HC13.out
  clear HC13
  try clear p2
  try clear c5
  try clear c7
  try clear hcz6_0
  try clear hcz6_1
  try clear hcz6_2
  try clear hcz6_3
  try clear hfz6_0
  try clear hfz6_1
  try clear hfz6_2
  try clear hfz6_3
  try clear p2
  obtain ⟨ji14, hji14⟩ : ∃ j_ : Int, (mn (ji11) a0_3) = j_ := ⟨_, rfl⟩
  replace H : ((itv_Of.f (ji14) (mx (ji12) a0_3)).bind fun bt575 => (some (bt575.1, bt575.2))) = some (r1, r2) := by first | (rw [hji14] at H; exact H) | (simp only [hji14] at H ⊢; exact H)
  have hji14_ : (if a0_3 < (ji11) then a0_3 else (ji11)) = ji14 := hji14
  obtain ⟨ji15, hji15⟩ : ∃ j_ : Int, (mx (ji12) a0_3) = j_ := ⟨_, rfl⟩
  replace H : ((itv_Of.f (ji14) (ji15)).bind fun bt575 => (some (bt575.1, bt575.2))) = some (r1, r2) := by first | (rw [hji15] at H; exact H) | (simp only [hji15] at H ⊢; exact H)
  have hji15_ : (if (ji12) < a0_3 then a0_3 else (ji12)) = ji15 := hji15
  have HC16 := Aside0.mk H
  clear H
  go_wp2
  repeat (go_quiet (fail); try go_wp2)
  refine looped_round (fun K_ hK_ => ?_)
  have H := HC16.out
  clear HC16
  try clear p2
  try clear c5
  try clear c7
  try clear hcz6_0
  try clear hcz6_1
  try clear hcz6_2
  try clear hcz6_3
  try clear hfz6_0
  try clear hfz6_1
  try clear hfz6_2
  try clear hfz6_3
  try clear p2
  replace H := Option.bind_eq_some_iff.mp H
  obtain ⟨⟨t575, t576⟩, A170, H⟩ := H
  replace H : (some (t575, t576)) = some (r1, r2) := H
  have A17 := Aside0.mk A170
  clear A170
  simp only [Option.some.injEq, Prod.mk.injEq] at H
  obtain ⟨rfl, rfl⟩ := H
  go_wp2_with (first | (go_at_call 13; (with_reducible refine (itv_Of.calls ji14 ji15 t575 t576 _ A17.out).mono ?_); rintro e w18 ⟨rfl, hb⟩; have n0_ := bst HB hb; replace BK573 := bbw BK573 hb; replace BK574 := bbw BK574 hb; clear HB; have HB := n0_; clear n0_; (try clear hb); (try clear hb2); (try clear hk); (try clear hi); have hnb19 := NB574_573.out; have hnc19 := NB573_574.out; have hcz20_0 := hcz BK574 0; have hcz20_1 := hcz BK574 1; have hfz20_0 := blk_frozen BK574.out 0; have hfz20_1 := blk_frozen BK574.out 1))
  repeat (go_quiet (first | (go_at_call 13; (with_reducible refine (itv_Of.calls ji14 ji15 t575 t576 _ A17.out).mono ?_); rintro e w18 ⟨rfl, hb⟩; have n0_ := bst HB hb; replace BK573 := bbw BK573 hb; replace BK574 := bbw BK574 hb; clear HB; have HB := n0_; clear n0_; (try clear hb); (try clear hb2); (try clear hk); (try clear hi); have hnb19 := NB574_573.out; have hnc19 := NB573_574.out; have hcz20_0 := hcz BK574 0; have hcz20_1 := hcz BK574 1; have hfz20_0 := blk_frozen BK574.out 0; have hfz20_1 := blk_frozen BK574.out 1)); try go_wp2_with (first | (go_at_call 13; (with_reducible refine (itv_Of.calls ji14 ji15 t575 t576 _ A17.out).mono ?_); rintro e w18 ⟨rfl, hb⟩; have n0_ := bst HB hb; replace BK573 := bbw BK573 hb; replace BK574 := bbw BK574 hb; clear HB; have HB := n0_; clear n0_; (try clear hb); (try clear hb2); (try clear hk); (try clear hi); have hnb19 := NB574_573.out; have hnc19 := NB573_574.out; have hcz20_0 := hcz BK574 0; have hcz20_1 := hcz BK574 1; have hfz20_0 := blk_frozen BK574.out 0; have hfz20_1 := blk_frozen BK574.out 1)))
  refine bodyPost_ret (results_cell_row rfl _ _ gb574 23 #[.int .i64 t575, .int .i64 t576] (0, 0) _ rfl (by refine pkB ?_; refine blk_put (cs := #[.int .i64 t575, .int .i64 0]) ?_ 1 _ (by first | rfl | (subst_vars; rfl)); refine pkB ?_; refine blk_put (cs := #[.int .i64 0, .int .i64 0]) ?_ 0 _ (by first | rfl | (subst_vars; rfl)); refine pkB ?_; exact BK574.out) Try.underlying23 rfl (by kernel_rfl)) rfl ?_
  exact ⟨by first | rfl | (simp [errW_none, errW_some] <;> rfl) | (simp only [← hji8, ← hji9, ← hji11, ← hji12, ← hji14, ← hji15]; first | rfl | (simp [errW_none, errW_some] <;> rfl)) | (simp [*, errW_none, errW_some] <;> rfl) | kernel_rfl, by repeat (first | (with_reducible first | exact HB.out | apply below_alloc | apply pw_below_drewN | apply below_drew1 | refine below_set ?_ GE573.out | refine below_set ?_ GE574.out) | exact HB.out)⟩
end Go.Proofs.Ytbbnpipmjadpoaa.P
