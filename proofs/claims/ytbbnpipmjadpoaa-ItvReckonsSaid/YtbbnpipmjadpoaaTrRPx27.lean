/- What the law's proof needs of Px27. -/
import Derived.Test.YtbbnpipmjadpoaaTrRPx0
import Derived.Test.YtbbnpipmjadpoaaTrRPx2
import Derived.Test.YtbbnpipmjadpoaaTrRPx3
import Derived.Test.YtbbnpipmjadpoaaTrRPx26
-- PRINTED by print.py (a twelfth state) out of the translation. Not trusted: Lean checks it.
namespace Go.Proofs.Ytbbnpipmjadpoaa.P
open Go.RowKit Go.Proofs.YtbbnpipmjadpoaaW.PrintWords Go.Proofs.YtbbnpipmjadpoaaW.PrintLast Go.Proofs.YtbbnpipmjadpoaaW.PrintMore Go.Proofs.YtbbnpipmjadpoaaO
attribute [local go_sem] max2_int min2_int max_two min_two max_three min_three max_four min_four   -- for this text's walks alone
set_option linter.unusedVariables false
set_option linter.unusedSimpArgs false
def itv_both_itv_Min_1.j0 : Nat → Bool → Int → Int → Int → Int → Option (Int × Int)
  | 0, _, _, _, _, _ => none
  | k + 1, x16, x638000, x638001, x639000, x639001 => if x16 = true then ((itv_Empty.f).bind fun bt646 => (some (bt646.1, bt646.2))) else ((itv_Min_1.f x638000 x638001 x639000 x639001).bind fun bt648 => (some (bt648.1, bt648.2)))
def itv_both_itv_Min_1.f (k : Nat) (a0_0 : Int) (a0_1 : Int) (a1_0 : Int) (a1_1 : Int)  : Option (Int × Int) := (itv_sound.f a0_0 a0_1).bind fun bt640 => ((itv_sound.f a1_0 a1_1).bind fun bt642 => ((itv_None.f bt640.1 bt640.2).bind fun t644 => (if t644 = true then (itv_both_itv_Min_1.j0 k true bt640.1 bt640.2 bt642.1 bt642.2) else ((itv_None.f bt642.1 bt642.2).bind fun t645 => (itv_both_itv_Min_1.j0 k t645 bt640.1 bt640.2 bt642.1 bt642.2)))))
set_option maxHeartbeats 8000000 in
set_option maxRecDepth 100000 in
theorem itv_both_itv_Min_1.calls (k : Nat) (a0_0 : Int) (a0_1 : Int) (a1_0 : Int) (a1_1 : Int)  (r1 : Int) (r2 : Int) (w : World) (h : itv_both_itv_Min_1.f k a0_0 a0_1 a1_0 a1_1 = some (r1, r2)) :
    Calls Try.prog 73 #[.agg #[.int .i64 a0_0, .int .i64 a0_1], .agg #[.int .i64 a1_0, .int .i64 a1_1], .func (.func 80) #[] #[]] w fun e w' => e = .returned (.agg #[.int .i64 r1, .int .i64 r2]) ∧ Below w.heap.size w w' := by
  have hu23 := Try.underlying23
  have HB := Aside0.mk (Below.refl w.heap.size w)
  have H : ((itv_sound.f a0_0 a0_1).bind fun bt640 => ((itv_sound.f a1_0 a1_1).bind fun bt642 => ((itv_None.f bt640.1 bt640.2).bind fun t644 => (if t644 = true then (itv_both_itv_Min_1.j0 k true bt640.1 bt640.2 bt642.1 bt642.2) else ((itv_None.f bt642.1 bt642.2).bind fun t645 => (itv_both_itv_Min_1.j0 k t645 bt640.1 bt640.2 bt642.1 bt642.2)))))) = some (r1, r2) := h
  clear h
  replace H := Option.bind_eq_some_iff.mp H
  obtain ⟨⟨t640, t641⟩, A40, H⟩ := H
  replace H : ((itv_sound.f a1_0 a1_1).bind fun bt642 => ((itv_None.f t640 t641).bind fun t644 => (if t644 = true then (itv_both_itv_Min_1.j0 k true t640 t641 bt642.1 bt642.2) else ((itv_None.f bt642.1 bt642.2).bind fun t645 => (itv_both_itv_Min_1.j0 k t645 t640 t641 bt642.1 bt642.2))))) = some (r1, r2) := H
  have A4 := Aside0.mk A40
  clear A40
  replace H := Option.bind_eq_some_iff.mp H
  obtain ⟨⟨t642, t643⟩, A50, H⟩ := H
  replace H : ((itv_None.f t640 t641).bind fun t644 => (if t644 = true then (itv_both_itv_Min_1.j0 k true t640 t641 t642 t643) else ((itv_None.f t642 t643).bind fun t645 => (itv_both_itv_Min_1.j0 k t645 t640 t641 t642 t643)))) = some (r1, r2) := H
  have A5 := Aside0.mk A50
  clear A50
  have HC6 := Aside0.mk H
  clear H
  go_enter Try.func73, Try.ntmps73
  try go_wp2_with (first | ((with_reducible refine gate_dst (N := 3) rfl ?_); refine box_event ?hg (N := 3) ?hd (cs := #[.int .i64 a0_0, .int .i64 a0_1]) (t := 23) ?hr ?_; (case hd => rfl); (case hg => rfl); (case hr => first | (go_simp; done) | (go_simp; rfl)); intro gb637 hg w7 hbox hb; have n0_ := Aside0.mk (below_step (by repeat (first | (with_reducible first | exact HB.out | apply below_alloc | apply pw_below_drewN | apply below_drew1) | exact HB.out)) hb); have n1_ := Aside0.mk (hbox); have n2_ := Aside0.mk ((by rw [hg]; exact (below_size (by repeat (first | (with_reducible first | exact HB.out | apply below_alloc | apply pw_below_drewN | apply below_drew1) | exact HB.out))) : w.heap.size ≤ gb637)); have n3_ := Aside0.mk ((by rw [hg]; exact (below_size (by repeat (first | (with_reducible first | exact HB.out | apply below_alloc | apply pw_below_drewN | apply below_drew1) | exact HB.out))) : w.heap.size ≤ gb637)); clear HB; have HB := n0_; have BK637 := n1_; have GW637 := n2_; have GE637 := n3_; clear n0_ n1_ n2_ n3_; clear hb hbox hg) | ((with_reducible refine gate_dst (N := 4) rfl ?_); refine box_event ?hg (N := 4) ?hd (cs := #[.int .i64 a1_0, .int .i64 a1_1]) (t := 23) ?hr ?_; (case hd => rfl); (case hg => rfl); (case hr => first | (go_simp; done) | (go_simp; rfl)); intro gb638 hg w8 hbox hb; have n0_ := Aside0.mk (below_step (by repeat (first | (with_reducible first | exact HB.out | apply below_alloc | apply pw_below_drewN | apply below_drew1 | refine below_set ?_ GE637.out) | exact HB.out)) hb); have n1_ := Aside0.mk (hbox); have n2_ := Aside0.mk ((by rw [hg]; exact (below_size (by repeat (first | (with_reducible first | exact HB.out | apply below_alloc | apply pw_below_drewN | apply below_drew1 | refine below_set ?_ GE637.out) | exact HB.out))) : w.heap.size ≤ gb638)); have n3_ := Aside0.mk ((by rw [hg]; exact (below_size (by repeat (first | (with_reducible first | exact HB.out | apply below_alloc | apply pw_below_drewN | apply below_drew1 | refine below_set ?_ GE637.out) | exact HB.out))) : w.heap.size ≤ gb638)); have n4_ := Aside0.mk ((by rw [hg]; exact Nat.ne_of_lt (blk_lt (g := gb637) (o := .cells #[.int .i64 a0_0, .int .i64 a0_1] 23 (0, 0)) (pk BK637.out)) : gb637 ≠ gb638)); have n5_ := Aside0.mk ((by rw [hg]; exact Nat.ne_of_gt (blk_lt (g := gb637) (o := .cells #[.int .i64 a0_0, .int .i64 a0_1] 23 (0, 0)) (pk BK637.out)) : gb638 ≠ gb637)); replace BK637 := bbw BK637 hb; clear HB; have HB := n0_; have BK638 := n1_; have GW638 := n2_; have GE638 := n3_; have NB637_638 := n4_; have NB638_637 := n5_; clear n0_ n1_ n2_ n3_ n4_ n5_; clear hb hbox hg) | ((with_reducible refine gate_dst (N := 6) rfl ?_); refine box_event ?hg (N := 6) ?hd (cs := #[.int .i64 0, .int .i64 0]) (t := 23) ?hr ?_; (case hd => rfl); (case hg => rfl); (case hr => first | (go_simp; done) | (go_simp; rfl)); intro gb639 hg w9 hbox hb; have n0_ := Aside0.mk (below_step (by repeat (first | (with_reducible first | exact HB.out | apply below_alloc | apply pw_below_drewN | apply below_drew1 | refine below_set ?_ GE637.out | refine below_set ?_ GE638.out) | exact HB.out)) hb); have n1_ := Aside0.mk (hbox); have n2_ := Aside0.mk ((by rw [hg]; exact (below_size (by repeat (first | (with_reducible first | exact HB.out | apply below_alloc | apply pw_below_drewN | apply below_drew1 | refine below_set ?_ GE637.out | refine below_set ?_ GE638.out) | exact HB.out))) : w.heap.size ≤ gb639)); have n3_ := Aside0.mk ((by rw [hg]; exact (below_size (by repeat (first | (with_reducible first | exact HB.out | apply below_alloc | apply pw_below_drewN | apply below_drew1 | refine below_set ?_ GE637.out | refine below_set ?_ GE638.out) | exact HB.out))) : w.heap.size ≤ gb639)); have n4_ := Aside0.mk ((by rw [hg]; exact Nat.ne_of_lt (blk_lt (g := gb637) (o := .cells #[.int .i64 a0_0, .int .i64 a0_1] 23 (0, 0)) (pk BK637.out)) : gb637 ≠ gb639)); have n5_ := Aside0.mk ((by rw [hg]; exact Nat.ne_of_gt (blk_lt (g := gb637) (o := .cells #[.int .i64 a0_0, .int .i64 a0_1] 23 (0, 0)) (pk BK637.out)) : gb639 ≠ gb637)); have n6_ := Aside0.mk ((by rw [hg]; exact Nat.ne_of_lt (blk_lt (g := gb638) (o := .cells #[.int .i64 a1_0, .int .i64 a1_1] 23 (0, 0)) (pk BK638.out)) : gb638 ≠ gb639)); have n7_ := Aside0.mk ((by rw [hg]; exact Nat.ne_of_gt (blk_lt (g := gb638) (o := .cells #[.int .i64 a1_0, .int .i64 a1_1] 23 (0, 0)) (pk BK638.out)) : gb639 ≠ gb638)); replace BK637 := bbw BK637 hb; replace BK638 := bbw BK638 hb; clear HB; have HB := n0_; have BK639 := n1_; have GW639 := n2_; have GE639 := n3_; have NB637_639 := n4_; have NB639_637 := n5_; have NB638_639 := n6_; have NB639_638 := n7_; clear n0_ n1_ n2_ n3_ n4_ n5_ n6_ n7_; clear hb hbox hg))
  have n0_ := Aside0.mk (blk_drew BK637.out)
  have n1_ := Aside0.mk (blk_drew BK638.out)
  have n2_ := Aside0.mk (blk_drew BK639.out)
  have n3_ := Aside0.mk (below_drew1 HB.out)
  clear BK637
  clear BK638
  clear BK639
  clear HB
  have BK637 := n0_
  have BK638 := n1_
  have BK639 := n2_
  have HB := n3_
  clear n0_ n1_ n2_ n3_
  refine start_ (n := 6) (S := fun w' => w'.cell? ⟨gb637, 0, none⟩ = some (.int .i64 a0_0) ∧ w'.cell? ⟨gb637, 1, none⟩ = some (.int .i64 a0_1) ∧ w'.cell? ⟨gb638, 0, none⟩ = some (.int .i64 a1_0) ∧ w'.cell? ⟨gb638, 1, none⟩ = some (.int .i64 a1_1)) (ds := [4, 5]) #[false, false, false, false, false, false] (by kernel_rfl) rfl rfl ⟨(blk_cell BK637.out 0).trans rfl, (blk_cell BK637.out 1).trans rfl, (blk_cell BK638.out 0).trans rfl, (blk_cell BK638.out 1).trans rfl⟩ (fun hHeld => ?_)
  generalize w9.drew = w10 at BK637 BK638 BK639 HB hHeld ⊢
  refine take_ (i := 0) (N := some 7) (v := ?_) (a' := ?_) #[true, false, false, false, false, false] rfl rfl (by kernel_rfl) (fun _ _ _ h => h) (Or.inl ⟨by rfl, ?_⟩) hHeld ?_ ?_
  rotate_left
  ·
   rintro w' ⟨s0, s1, s2, s3⟩
   go_simp
   with_reducible rfl
  rotate_left
  ·
   simp only [Act.put, List.setIfInBounds_toArray, List.set_cons_zero, List.set_cons_succ, i64_w, i32_w]
   rfl
  refine take_ (i := 2) (N := some 9) (v := ?_) (a' := ?_) #[true, false, true, false, false, false] rfl rfl (by kernel_rfl) (fun _ _ _ h => h) (Or.inl ⟨by rfl, ?_⟩) hHeld ?_ ?_
  rotate_left
  ·
   rintro w' ⟨s0, s1, s2, s3⟩
   go_simp
   with_reducible rfl
  rotate_left
  ·
   simp only [Act.put, List.setIfInBounds_toArray, List.set_cons_zero, List.set_cons_succ, i64_w, i32_w]
   rfl
  refine one_ (i := 1) (N := some 8) #[true, true, true, false, false, false] rfl rfl (by kernel_rfl) (by decide) (fun K hK => ?_)
  refine goes_ Try.func59 (by kernel_rfl) rfl #[.agg #[.int .i64 a0_0, .int .i64 a0_1]] (by rfl) rfl rfl (by (try simp only [List.map_toArray, List.map_cons, List.map_nil]); first | done | rfl | (simp only [List.length_drop, List.length_take]; rfl)) ?_
  with_reducible refine (itv_sound.calls a0_0 a0_1 t640 t641 _ A4.out).mono ?_
  rintro e w11 ⟨rfl, hb⟩
  refine ⟨_, rfl, ?_⟩
  have n0_ := Aside0.mk (below_step (by repeat (first | (with_reducible first | exact HB.out | apply below_alloc | apply pw_below_drewN | apply below_drew1 | refine below_set ?_ GE637.out | refine below_set ?_ GE638.out | refine below_set ?_ GE639.out) | exact HB.out)) hb)
  replace BK637 := bbw BK637 hb
  replace BK638 := bbw BK638 hb
  replace BK639 := bbw BK639 hb
  clear HB
  have HB := n0_
  clear n0_
  (try clear hb)
  (try clear hb2)
  (try clear hk)
  (try clear hi)
  refine hK.out _ _ ⟨(blk_cell BK637.out 0).trans rfl, (blk_cell BK637.out 1).trans rfl, (blk_cell BK638.out 0).trans rfl, (blk_cell BK638.out 1).trans rfl⟩ (fun hHeld => ?_)
  clear hK K
  refine norm_ (a' := ?_) ?_ ?_
  rotate_left
  ·
   show Act.put _ (some 8) _ = _
   simp only [Act.put, List.setIfInBounds_toArray, List.set_cons_zero, List.set_cons_succ, i64_w, i32_w]
   rfl
  refine one_ (i := 3) (N := some 10) #[true, true, true, true, false, false] rfl rfl (by kernel_rfl) (by decide) (fun K hK => ?_)
  refine goes_ Try.func59 (by kernel_rfl) rfl #[.agg #[.int .i64 a1_0, .int .i64 a1_1]] (by rfl) rfl rfl (by (try simp only [List.map_toArray, List.map_cons, List.map_nil]); first | done | rfl | (simp only [List.length_drop, List.length_take]; rfl)) ?_
  with_reducible refine (itv_sound.calls a1_0 a1_1 t642 t643 _ A5.out).mono ?_
  rintro e w12 ⟨rfl, hb⟩
  refine ⟨_, rfl, ?_⟩
  have n0_ := Aside0.mk (below_step (by repeat (first | (with_reducible first | exact HB.out | apply below_alloc | apply pw_below_drewN | apply below_drew1 | refine below_set ?_ GE637.out | refine below_set ?_ GE638.out | refine below_set ?_ GE639.out) | exact HB.out)) hb)
  replace BK637 := bbw BK637 hb
  replace BK638 := bbw BK638 hb
  replace BK639 := bbw BK639 hb
  clear HB
  have HB := n0_
  clear n0_
  (try clear hb)
  (try clear hb2)
  (try clear hk)
  (try clear hi)
  refine hK.out _ _ ⟨(blk_cell BK637.out 0).trans rfl, (blk_cell BK637.out 1).trans rfl, (blk_cell BK638.out 0).trans rfl, (blk_cell BK638.out 1).trans rfl⟩ (fun hHeld => ?_)
  clear hK K
  refine norm_ (a' := ?_) ?_ ?_
  rotate_left
  ·
   show Act.put _ (some 10) _ = _
   simp only [Act.put, List.setIfInBounds_toArray, List.set_cons_zero, List.set_cons_succ, i64_w, i32_w]
   rfl
  refine last_ (i := 4) (N := none) #[true, true, true, true, true, false] rfl rfl (by kernel_rfl) (by decide) (fun K hK => ?_)
  have hs13 : w12.cell? ⟨gb637, 0, none⟩ = some (.int .i64 a0_0) := (blk_cell BK637.out 0).trans rfl
  have hfs13 := blk_frozen BK637.out 0
  have hns13_1 := NB638_637.out
  have hns13_2 := NB639_637.out
  have hms13_1 := NB637_638.out
  have hms13_2 := NB637_639.out
  have hs14 : w12.cell? ⟨gb637, 1, none⟩ = some (.int .i64 a0_1) := (blk_cell BK637.out 1).trans rfl
  have hfs14 := blk_frozen BK637.out 1
  have hns14_1 := NB638_637.out
  have hns14_2 := NB639_637.out
  have hms14_1 := NB637_638.out
  have hms14_2 := NB637_639.out
  refine skip_ (w1 := ?_) (by rfl) rfl ?_ ?_
  rotate_left
  ·
   go_simp
   rfl
  refine hK.out _ _ ?_
  clear hK K
  refine last_ (i := 5) (N := none) #[true, true, true, true, true, true] rfl rfl (by kernel_rfl) (by decide) (fun K hK => ?_)
  have hs15 : w12.cell? ⟨gb638, 0, none⟩ = some (.int .i64 a1_0) := (blk_cell BK638.out 0).trans rfl
  have hfs15 := blk_frozen BK638.out 0
  have hns15_0 := NB637_638.out
  have hns15_2 := NB639_638.out
  have hms15_0 := NB638_637.out
  have hms15_2 := NB638_639.out
  have hs16 : w12.cell? ⟨gb638, 1, none⟩ = some (.int .i64 a1_1) := (blk_cell BK638.out 1).trans rfl
  have hfs16 := blk_frozen BK638.out 1
  have hns16_0 := NB637_638.out
  have hns16_2 := NB639_638.out
  have hms16_0 := NB638_637.out
  have hms16_2 := NB638_639.out
  refine skip_ (w1 := ?_) (by rfl) rfl ?_ ?_
  rotate_left
  ·
   go_simp
   rfl
  refine hK.out _ _ ?_
  clear hK K
  refine done_ (by kernel_rfl) ?_
  go_upto_region 2 with (fail)
  go_cut [16] (fun v16 wc => ∃ (kq : Nat) (x16_5 : Bool), v16 = .bool x16_5 ∧ Aside0 (itv_both_itv_Min_1.j0 kq x16_5 t640 t641 t642 t643 = some (r1, r2)) ∧ Aside0 (kq ≤ k) ∧ Aside0 (wc.heap[gb637]? = some (.cells #[.int .i64 t640, .int .i64 t641] 23 (0, 0))) ∧ Aside0 (wc.heap[gb638]? = some (.cells #[.int .i64 t642, .int .i64 t643] 23 (0, 0))) ∧ Aside0 (wc.heap[gb639]? = some (.cells #[.int .i64 0, .int .i64 0] 23 (0, 0))) ∧ Aside0 (Below w.heap.size w wc))
  case first =>
   have H := HC6.out
   clear HC6
   replace H := Option.bind_eq_some_iff.mp H
   obtain ⟨t644, A170, H⟩ := H
   replace H : (if t644 = true then (itv_both_itv_Min_1.j0 k true t640 t641 t642 t643) else ((itv_None.f t642 t643).bind fun t645 => (itv_both_itv_Min_1.j0 k t645 t640 t641 t642 t643))) = some (r1, r2) := H
   have A17 := Aside0.mk A170
   clear A170
   by_cases c18 : t644 = true
   ·
    subst c18
    have H1 : (itv_both_itv_Min_1.j0 k true t640 t641 t642 t643) = some (r1, r2) := by rw [if_pos rfl] at H; exact H
    clear H
    have H := H1
    clear H1
    have H' := Aside0.mk H
    clear H
    have hnb19 := NB637_638.out
    have hnc19 := NB638_637.out
    have hnb20 := NB637_639.out
    have hnc20 := NB639_637.out
    have hcz21_0 : w12.cell? ⟨gb637, 0, none⟩ = some (.int .i64 a0_0) := (blk_cell BK637.out 0).trans rfl
    have hcz21_1 : w12.cell? ⟨gb637, 1, none⟩ = some (.int .i64 a0_1) := (blk_cell BK637.out 1).trans rfl
    have hfz21_0 := blk_frozen BK637.out 0
    have hfz21_1 := blk_frozen BK637.out 1
    go_wp2_with (first | ((with_reducible refine gate_callee (f := 21) rfl ?_); refine goesL_ (some 12) rfl rfl Try.func21 (by kernel_rfl) rfl #[.agg #[.int .i64 t640, .int .i64 t641]] rfl (by (try simp only [List.map_toArray, List.map_cons, List.map_nil]); first | done | rfl | (simp only [List.length_drop, List.length_take]; rfl)) ?_; (with_reducible refine (itv_None.calls t640 t641 true _ A17.out).mono ?_); rintro e w22 ⟨rfl, hb⟩; refine ⟨_, rfl, ?_⟩; have n0_ := Aside0.mk (blk_below (g := gb637) (o := .cells #[.int .i64 t640, .int .i64 t641] 23 (0, 0)) (by (with_reducible repeat (first | refine blk_drewN ?_ _ | refine blk_drew ?_ | refine blk_alloc ?_ _)); refine blk_far ?_ NB637_638.out _; (with_reducible repeat (first | refine blk_drewN ?_ _ | refine blk_drew ?_ | refine blk_alloc ?_ _)); refine blk_far ?_ NB637_638.out _; (with_reducible repeat (first | refine blk_drewN ?_ _ | refine blk_drew ?_ | refine blk_alloc ?_ _)); refine blk_put (cs := #[.int .i64 t640, .int .i64 a0_1]) ?_ 1 _ (by first | rfl | (subst_vars; rfl)); (with_reducible repeat (first | refine blk_drewN ?_ _ | refine blk_drew ?_ | refine blk_alloc ?_ _)); refine blk_put (cs := #[.int .i64 a0_0, .int .i64 a0_1]) ?_ 0 _ (by first | rfl | (subst_vars; rfl)); (with_reducible repeat (first | refine blk_drewN ?_ _ | refine blk_drew ?_ | refine blk_alloc ?_ _)); exact BK637.out) hb); have n1_ := Aside0.mk (blk_below (g := gb638) (o := .cells #[.int .i64 t642, .int .i64 t643] 23 (0, 0)) (by (with_reducible repeat (first | refine blk_drewN ?_ _ | refine blk_drew ?_ | refine blk_alloc ?_ _)); refine blk_put (cs := #[.int .i64 t642, .int .i64 a1_1]) ?_ 1 _ (by first | rfl | (subst_vars; rfl)); (with_reducible repeat (first | refine blk_drewN ?_ _ | refine blk_drew ?_ | refine blk_alloc ?_ _)); refine blk_put (cs := #[.int .i64 a1_0, .int .i64 a1_1]) ?_ 0 _ (by first | rfl | (subst_vars; rfl)); (with_reducible repeat (first | refine blk_drewN ?_ _ | refine blk_drew ?_ | refine blk_alloc ?_ _)); refine blk_far ?_ NB638_637.out _; (with_reducible repeat (first | refine blk_drewN ?_ _ | refine blk_drew ?_ | refine blk_alloc ?_ _)); refine blk_far ?_ NB638_637.out _; (with_reducible repeat (first | refine blk_drewN ?_ _ | refine blk_drew ?_ | refine blk_alloc ?_ _)); exact BK638.out) hb); have n2_ := Aside0.mk (blk_below (g := gb639) (o := .cells #[.int .i64 0, .int .i64 0] 23 (0, 0)) (by (with_reducible repeat (first | refine blk_drewN ?_ _ | refine blk_drew ?_ | refine blk_alloc ?_ _)); refine blk_far ?_ NB639_638.out _; (with_reducible repeat (first | refine blk_drewN ?_ _ | refine blk_drew ?_ | refine blk_alloc ?_ _)); refine blk_far ?_ NB639_638.out _; (with_reducible repeat (first | refine blk_drewN ?_ _ | refine blk_drew ?_ | refine blk_alloc ?_ _)); refine blk_far ?_ NB639_637.out _; (with_reducible repeat (first | refine blk_drewN ?_ _ | refine blk_drew ?_ | refine blk_alloc ?_ _)); refine blk_far ?_ NB639_637.out _; (with_reducible repeat (first | refine blk_drewN ?_ _ | refine blk_drew ?_ | refine blk_alloc ?_ _)); exact BK639.out) hb); have n3_ := Aside0.mk (below_step (by repeat (first | (with_reducible first | exact HB.out | apply below_alloc | apply pw_below_drewN | apply below_drew1 | refine below_set ?_ GE637.out | refine below_set ?_ GE638.out | refine below_set ?_ GE639.out) | exact HB.out)) hb); clear BK637; clear BK638; clear BK639; clear HB; have BK637 := n0_; have BK638 := n1_; have BK639 := n2_; have HB := n3_; clear n0_ n1_ n2_ n3_; (try clear hb); (try clear hb2); (try clear hk); (try clear hi)))
    go_meet
    case rel => exact ⟨_, (true), (by first | rfl | (simp; done) | (simp [*]; done)), H', ⟨by first | omega | exact Nat.le_refl _⟩, ⟨by (with_reducible repeat (first | refine blk_drewN ?_ _ | refine blk_drew ?_ | refine blk_alloc ?_ _)); exact BK637.out⟩, ⟨by (with_reducible repeat (first | refine blk_drewN ?_ _ | refine blk_drew ?_ | refine blk_alloc ?_ _)); exact BK638.out⟩, ⟨by (with_reducible repeat (first | refine blk_drewN ?_ _ | refine blk_drew ?_ | refine blk_alloc ?_ _)); exact BK639.out⟩, ⟨by repeat (first | (with_reducible first | exact HB.out | apply below_alloc | apply pw_below_drewN | apply below_drew1 | refine below_set ?_ GE637.out | refine below_set ?_ GE638.out | refine below_set ?_ GE639.out) | exact HB.out)⟩⟩
   ·
    replace c18 := Bool.eq_false_iff.mpr c18
    subst c18
    have H1 : ((itv_None.f t642 t643).bind fun t645 => (itv_both_itv_Min_1.j0 k t645 t640 t641 t642 t643)) = some (r1, r2) := by rw [if_neg (show ¬ (false = true) by decide)] at H; exact H
    clear H
    have H := H1
    clear H1
    replace H := Option.bind_eq_some_iff.mp H
    obtain ⟨t645, A230, H⟩ := H
    replace H : (itv_both_itv_Min_1.j0 k t645 t640 t641 t642 t643) = some (r1, r2) := H
    have A23 := Aside0.mk A230
    clear A230
    have H' := Aside0.mk H
    clear H
    have hnb24 := NB637_638.out
    have hnc24 := NB638_637.out
    have hnb25 := NB637_639.out
    have hnc25 := NB639_637.out
    have hcz26_0 : w12.cell? ⟨gb637, 0, none⟩ = some (.int .i64 a0_0) := (blk_cell BK637.out 0).trans rfl
    have hcz26_1 : w12.cell? ⟨gb637, 1, none⟩ = some (.int .i64 a0_1) := (blk_cell BK637.out 1).trans rfl
    have hfz26_0 := blk_frozen BK637.out 0
    have hfz26_1 := blk_frozen BK637.out 1
    go_wp2_with (first | ((with_reducible refine gate_callee (f := 21) rfl ?_); refine goesL_ (some 12) rfl rfl Try.func21 (by kernel_rfl) rfl #[.agg #[.int .i64 t640, .int .i64 t641]] rfl (by (try simp only [List.map_toArray, List.map_cons, List.map_nil]); first | done | rfl | (simp only [List.length_drop, List.length_take]; rfl)) ?_; (with_reducible refine (itv_None.calls t640 t641 false _ A17.out).mono ?_); rintro e w27 ⟨rfl, hb⟩; refine ⟨_, rfl, ?_⟩; have n0_ := Aside0.mk (blk_below (g := gb637) (o := .cells #[.int .i64 t640, .int .i64 t641] 23 (0, 0)) (by (with_reducible repeat (first | refine blk_drewN ?_ _ | refine blk_drew ?_ | refine blk_alloc ?_ _)); refine blk_far ?_ NB637_638.out _; (with_reducible repeat (first | refine blk_drewN ?_ _ | refine blk_drew ?_ | refine blk_alloc ?_ _)); refine blk_far ?_ NB637_638.out _; (with_reducible repeat (first | refine blk_drewN ?_ _ | refine blk_drew ?_ | refine blk_alloc ?_ _)); refine blk_put (cs := #[.int .i64 t640, .int .i64 a0_1]) ?_ 1 _ (by first | rfl | (subst_vars; rfl)); (with_reducible repeat (first | refine blk_drewN ?_ _ | refine blk_drew ?_ | refine blk_alloc ?_ _)); refine blk_put (cs := #[.int .i64 a0_0, .int .i64 a0_1]) ?_ 0 _ (by first | rfl | (subst_vars; rfl)); (with_reducible repeat (first | refine blk_drewN ?_ _ | refine blk_drew ?_ | refine blk_alloc ?_ _)); exact BK637.out) hb); have n1_ := Aside0.mk (blk_below (g := gb638) (o := .cells #[.int .i64 t642, .int .i64 t643] 23 (0, 0)) (by (with_reducible repeat (first | refine blk_drewN ?_ _ | refine blk_drew ?_ | refine blk_alloc ?_ _)); refine blk_put (cs := #[.int .i64 t642, .int .i64 a1_1]) ?_ 1 _ (by first | rfl | (subst_vars; rfl)); (with_reducible repeat (first | refine blk_drewN ?_ _ | refine blk_drew ?_ | refine blk_alloc ?_ _)); refine blk_put (cs := #[.int .i64 a1_0, .int .i64 a1_1]) ?_ 0 _ (by first | rfl | (subst_vars; rfl)); (with_reducible repeat (first | refine blk_drewN ?_ _ | refine blk_drew ?_ | refine blk_alloc ?_ _)); refine blk_far ?_ NB638_637.out _; (with_reducible repeat (first | refine blk_drewN ?_ _ | refine blk_drew ?_ | refine blk_alloc ?_ _)); refine blk_far ?_ NB638_637.out _; (with_reducible repeat (first | refine blk_drewN ?_ _ | refine blk_drew ?_ | refine blk_alloc ?_ _)); exact BK638.out) hb); have n2_ := Aside0.mk (blk_below (g := gb639) (o := .cells #[.int .i64 0, .int .i64 0] 23 (0, 0)) (by (with_reducible repeat (first | refine blk_drewN ?_ _ | refine blk_drew ?_ | refine blk_alloc ?_ _)); refine blk_far ?_ NB639_638.out _; (with_reducible repeat (first | refine blk_drewN ?_ _ | refine blk_drew ?_ | refine blk_alloc ?_ _)); refine blk_far ?_ NB639_638.out _; (with_reducible repeat (first | refine blk_drewN ?_ _ | refine blk_drew ?_ | refine blk_alloc ?_ _)); refine blk_far ?_ NB639_637.out _; (with_reducible repeat (first | refine blk_drewN ?_ _ | refine blk_drew ?_ | refine blk_alloc ?_ _)); refine blk_far ?_ NB639_637.out _; (with_reducible repeat (first | refine blk_drewN ?_ _ | refine blk_drew ?_ | refine blk_alloc ?_ _)); exact BK639.out) hb); have n3_ := Aside0.mk (below_step (by repeat (first | (with_reducible first | exact HB.out | apply below_alloc | apply pw_below_drewN | apply below_drew1 | refine below_set ?_ GE637.out | refine below_set ?_ GE638.out | refine below_set ?_ GE639.out) | exact HB.out)) hb); clear BK637; clear BK638; clear BK639; clear HB; have BK637 := n0_; have BK638 := n1_; have BK639 := n2_; have HB := n3_; clear n0_ n1_ n2_ n3_; (try clear hb); (try clear hb2); (try clear hk); (try clear hi); have hnb28 := NB638_639.out; have hnc28 := NB639_638.out; have hcz29_0 : w27.cell? ⟨gb638, 0, none⟩ = some (.int .i64 t642) := (blk_cell BK638.out 0).trans rfl; have hcz29_1 : w27.cell? ⟨gb638, 1, none⟩ = some (.int .i64 t643) := (blk_cell BK638.out 1).trans rfl; have hfz29_0 := blk_frozen BK638.out 0; have hfz29_1 := blk_frozen BK638.out 1) | (go_at_call 21; (with_reducible refine (itv_None.calls t642 t643 t645 _ A23.out).mono ?_); rintro e w30 ⟨rfl, hb⟩; have n0_ := Aside0.mk (below_step (by repeat (first | (with_reducible first | exact HB.out | apply below_alloc | apply pw_below_drewN | apply below_drew1 | refine below_set ?_ GE637.out | refine below_set ?_ GE638.out | refine below_set ?_ GE639.out) | exact HB.out)) hb); replace BK637 := bbw BK637 hb; replace BK638 := bbw BK638 hb; replace BK639 := bbw BK639 hb; clear HB; have HB := n0_; clear n0_; (try clear hb); (try clear hb2); (try clear hk); (try clear hi)))
    go_meet
    case rel => exact ⟨_, (t645), (by first | rfl | (simp; done) | (simp [*]; done)), H', ⟨by first | omega | exact Nat.le_refl _⟩, ⟨by (with_reducible repeat (first | refine blk_drewN ?_ _ | refine blk_drew ?_ | refine blk_alloc ?_ _)); exact BK637.out⟩, ⟨by (with_reducible repeat (first | refine blk_drewN ?_ _ | refine blk_drew ?_ | refine blk_alloc ?_ _)); exact BK638.out⟩, ⟨by (with_reducible repeat (first | refine blk_drewN ?_ _ | refine blk_drew ?_ | refine blk_alloc ?_ _)); exact BK639.out⟩, ⟨by repeat (first | (with_reducible first | exact HB.out | apply below_alloc | apply pw_below_drewN | apply below_drew1 | refine below_set ?_ GE637.out | refine below_set ?_ GE638.out | refine below_set ?_ GE639.out) | exact HB.out)⟩⟩
  case rest =>
   clear HC6
   try clear c1
   try clear c2
   try clear p2
   try clear c5
   try clear c9
   try clear c18
   try clear c19
   try clear c20
   try clear c21
   try clear c24
   try clear c25
   try clear c28
   try clear hcz21_0
   try clear hcz21_1
   try clear hcz26_0
   try clear hcz26_1
   try clear hcz29_0
   try clear hcz29_1
   try clear hfz21_0
   try clear hfz21_1
   try clear hfz26_0
   try clear hfz26_1
   try clear hfz29_0
   try clear hfz29_1
   obtain ⟨kq, x16_5, rfl, HA, HJ5, BK637, BK638, BK639, HB⟩ := hcut
   cases kq with
   | zero => exact absurd HA.out (by simp [itv_both_itv_Min_1.j0])
   | succ kj5 =>
    have H := HA.out
    clear HA
    simp only [itv_both_itv_Min_1.j0] at H
    by_cases c31 : x16_5 = true
    ·
     subst c31
     have H1 : ((itv_Empty.f).bind fun bt646 => (some (bt646.1, bt646.2))) = some (r1, r2) := by rw [if_pos rfl] at H; exact H
     clear H
     have H := H1
     clear H1
     replace H := Option.bind_eq_some_iff.mp H
     obtain ⟨⟨t646, t647⟩, A320, H⟩ := H
     replace H : (some (t646, t647)) = some (r1, r2) := H
     have A32 := Aside0.mk A320
     clear A320
     simp only [Option.some.injEq, Prod.mk.injEq] at H
     obtain ⟨rfl, rfl⟩ := H
     go_wp2_with (first | ((with_reducible refine gate_callee (f := 15) rfl ?_); refine goesL_ (some 17) rfl rfl Try.func15 (by kernel_rfl) rfl #[] rfl (by (try simp only [List.map_toArray, List.map_cons, List.map_nil]); first | done | rfl | (simp only [List.length_drop, List.length_take]; rfl)) ?_; (with_reducible refine (itv_Empty.calls  t646 t647 _ A32.out).mono ?_); rintro e w33 ⟨rfl, hb⟩; refine ⟨_, rfl, ?_⟩; have n0_ := Aside0.mk (below_step (by repeat (first | (with_reducible first | exact HB.out | apply below_alloc | apply pw_below_drewN | apply below_drew1 | refine below_set ?_ GE637.out | refine below_set ?_ GE638.out | refine below_set ?_ GE639.out) | exact HB.out)) hb); replace BK637 := bbw BK637 hb; replace BK638 := bbw BK638 hb; replace BK639 := bbw BK639 hb; clear HB; have HB := n0_; clear n0_; (try clear hb); (try clear hb2); (try clear hk); (try clear hi); have hnb34 := NB639_637.out; have hnc34 := NB637_639.out; have hnb35 := NB639_638.out; have hnc35 := NB638_639.out; have hcz36_0 : w33.cell? ⟨gb639, 0, none⟩ = some (.int .i64 0) := (blk_cell BK639.out 0).trans rfl; have hcz36_1 : w33.cell? ⟨gb639, 1, none⟩ = some (.int .i64 0) := (blk_cell BK639.out 1).trans rfl; have hfz36_0 := blk_frozen BK639.out 0; have hfz36_1 := blk_frozen BK639.out 1))
     refine bodyPost_ret (results_cell_row rfl _ _ gb639 23 #[.int .i64 t646, .int .i64 t647] (0, 0) _ rfl (by (with_reducible repeat (first | refine blk_drewN ?_ _ | refine blk_drew ?_ | refine blk_alloc ?_ _)); refine blk_put (cs := #[.int .i64 t646, .int .i64 0]) ?_ 1 _ (by first | rfl | (subst_vars; rfl)); (with_reducible repeat (first | refine blk_drewN ?_ _ | refine blk_drew ?_ | refine blk_alloc ?_ _)); refine blk_put (cs := #[.int .i64 0, .int .i64 0]) ?_ 0 _ (by first | rfl | (subst_vars; rfl)); (with_reducible repeat (first | refine blk_drewN ?_ _ | refine blk_drew ?_ | refine blk_alloc ?_ _)); exact BK639.out) Try.underlying23 rfl (by kernel_rfl)) rfl ?_
     exact ⟨by first | rfl | (simp [errW_none, errW_some] <;> rfl) | (simp [*, errW_none, errW_some] <;> rfl) | kernel_rfl, by repeat (first | (with_reducible first | exact HB.out | apply below_alloc | apply pw_below_drewN | apply below_drew1 | refine below_set ?_ GE637.out | refine below_set ?_ GE638.out | refine below_set ?_ GE639.out) | exact HB.out)⟩
    ·
     replace c31 := Bool.eq_false_iff.mpr c31
     subst c31
     have H1 : ((itv_Min_1.f t640 t641 t642 t643).bind fun bt648 => (some (bt648.1, bt648.2))) = some (r1, r2) := by rw [if_neg (show ¬ (false = true) by decide)] at H; exact H
     clear H
     have H := H1
     clear H1
     replace H := Option.bind_eq_some_iff.mp H
     obtain ⟨⟨t648, t649⟩, A370, H⟩ := H
     replace H : (some (t648, t649)) = some (r1, r2) := H
     have A37 := Aside0.mk A370
     clear A370
     simp only [Option.some.injEq, Prod.mk.injEq] at H
     obtain ⟨rfl, rfl⟩ := H
     have hnb38 := NB637_638.out
     have hnc38 := NB638_637.out
     have hnb39 := NB637_639.out
     have hnc39 := NB639_637.out
     have hcz40_0 : wc.cell? ⟨gb637, 0, none⟩ = some (.int .i64 t640) := (blk_cell BK637.out 0).trans rfl
     have hcz40_1 : wc.cell? ⟨gb637, 1, none⟩ = some (.int .i64 t641) := (blk_cell BK637.out 1).trans rfl
     have hfz40_0 := blk_frozen BK637.out 0
     have hfz40_1 := blk_frozen BK637.out 1
     have hnb41 := NB638_639.out
     have hnc41 := NB639_638.out
     have hcz42_0 : wc.cell? ⟨gb638, 0, none⟩ = some (.int .i64 t642) := (blk_cell BK638.out 0).trans rfl
     have hcz42_1 : wc.cell? ⟨gb638, 1, none⟩ = some (.int .i64 t643) := (blk_cell BK638.out 1).trans rfl
     have hfz42_0 := blk_frozen BK638.out 0
     have hfz42_1 := blk_frozen BK638.out 1
     go_wp2_with (first | (go_at_call 80; (with_reducible refine (itv_Min_1.calls t640 t641 t642 t643 t648 t649 _ A37.out).mono ?_); rintro e w43 ⟨rfl, hb⟩; have n0_ := Aside0.mk (below_step (by repeat (first | (with_reducible first | exact HB.out | apply below_alloc | apply pw_below_drewN | apply below_drew1 | refine below_set ?_ GE637.out | refine below_set ?_ GE638.out | refine below_set ?_ GE639.out) | exact HB.out)) hb); replace BK637 := bbw BK637 hb; replace BK638 := bbw BK638 hb; replace BK639 := bbw BK639 hb; clear HB; have HB := n0_; clear n0_; (try clear hb); (try clear hb2); (try clear hk); (try clear hi); have hcz44_0 : w43.cell? ⟨gb639, 0, none⟩ = some (.int .i64 0) := (blk_cell BK639.out 0).trans rfl; have hcz44_1 : w43.cell? ⟨gb639, 1, none⟩ = some (.int .i64 0) := (blk_cell BK639.out 1).trans rfl; have hfz44_0 := blk_frozen BK639.out 0; have hfz44_1 := blk_frozen BK639.out 1))
     refine bodyPost_ret (results_cell_row rfl _ _ gb639 23 #[.int .i64 t648, .int .i64 t649] (0, 0) _ rfl (by (with_reducible repeat (first | refine blk_drewN ?_ _ | refine blk_drew ?_ | refine blk_alloc ?_ _)); refine blk_put (cs := #[.int .i64 t648, .int .i64 0]) ?_ 1 _ (by first | rfl | (subst_vars; rfl)); (with_reducible repeat (first | refine blk_drewN ?_ _ | refine blk_drew ?_ | refine blk_alloc ?_ _)); refine blk_put (cs := #[.int .i64 0, .int .i64 0]) ?_ 0 _ (by first | rfl | (subst_vars; rfl)); (with_reducible repeat (first | refine blk_drewN ?_ _ | refine blk_drew ?_ | refine blk_alloc ?_ _)); exact BK639.out) Try.underlying23 rfl (by kernel_rfl)) rfl ?_
     exact ⟨by first | rfl | (simp [errW_none, errW_some] <;> rfl) | (simp [*, errW_none, errW_some] <;> rfl) | kernel_rfl, by repeat (first | (with_reducible first | exact HB.out | apply below_alloc | apply pw_below_drewN | apply below_drew1 | refine below_set ?_ GE637.out | refine below_set ?_ GE638.out | refine below_set ?_ GE639.out) | exact HB.out)⟩
def itv_Min.f (k : Nat) (a0_0 : Int) (a0_1 : Int) (a1_0 : Int) (a1_1 : Int) : Option (Int × Int) := (itv_both_itv_Min_1.f k a0_0 a0_1 a1_0 a1_1).bind fun bt653 => (some (bt653.1, bt653.2))
set_option maxHeartbeats 8000000 in
set_option maxRecDepth 100000 in
theorem itv_Min.calls (k : Nat) (a0_0 : Int) (a0_1 : Int) (a1_0 : Int) (a1_1 : Int) (r1 : Int) (r2 : Int) (w : World) (h : itv_Min.f k a0_0 a0_1 a1_0 a1_1 = some (r1, r2)) :
    Calls Try.prog 43 #[.agg #[.int .i64 a0_0, .int .i64 a0_1], .agg #[.int .i64 a1_0, .int .i64 a1_1]] w fun e w' => e = .returned (.agg #[.int .i64 r1, .int .i64 r2]) ∧ Below w.heap.size w w' := by
  have hu23 := Try.underlying23
  have HB := Aside0.mk (Below.refl w.heap.size w)
  have H : ((itv_both_itv_Min_1.f k a0_0 a0_1 a1_0 a1_1).bind fun bt653 => (some (bt653.1, bt653.2))) = some (r1, r2) := h
  clear h
  replace H := Option.bind_eq_some_iff.mp H
  obtain ⟨⟨t653, t654⟩, A30, H⟩ := H
  replace H : (some (t653, t654)) = some (r1, r2) := H
  have A3 := Aside0.mk A30
  clear A30
  simp only [Option.some.injEq, Prod.mk.injEq] at H
  obtain ⟨rfl, rfl⟩ := H
  go_enter Try.func43, Try.ntmps43
  go_wp2_with (first | ((with_reducible refine gate_dst (N := 2) rfl ?_); refine box_event ?hg (N := 2) ?hd (cs := #[.int .i64 a0_0, .int .i64 a0_1]) (t := 23) ?hr ?_; (case hd => rfl); (case hg => rfl); (case hr => first | (go_simp; done) | (go_simp; rfl)); intro gb650 hg w4 hbox hb; have n0_ := Aside0.mk (below_step (by repeat (first | (with_reducible first | exact HB.out | apply below_alloc | apply pw_below_drewN | apply below_drew1) | exact HB.out)) hb); have n1_ := Aside0.mk (hbox); have n2_ := Aside0.mk ((by rw [hg]; exact (below_size (by repeat (first | (with_reducible first | exact HB.out | apply below_alloc | apply pw_below_drewN | apply below_drew1) | exact HB.out))) : w.heap.size ≤ gb650)); have n3_ := Aside0.mk ((by rw [hg]; exact (below_size (by repeat (first | (with_reducible first | exact HB.out | apply below_alloc | apply pw_below_drewN | apply below_drew1) | exact HB.out))) : w.heap.size ≤ gb650)); clear HB; have HB := n0_; have BK650 := n1_; have GW650 := n2_; have GE650 := n3_; clear n0_ n1_ n2_ n3_; clear hb hbox hg) | ((with_reducible refine gate_dst (N := 3) rfl ?_); refine box_event ?hg (N := 3) ?hd (cs := #[.int .i64 a1_0, .int .i64 a1_1]) (t := 23) ?hr ?_; (case hd => rfl); (case hg => rfl); (case hr => first | (go_simp; done) | (go_simp; rfl)); intro gb651 hg w5 hbox hb; have n0_ := Aside0.mk (below_step (by repeat (first | (with_reducible first | exact HB.out | apply below_alloc | apply pw_below_drewN | apply below_drew1 | refine below_set ?_ GE650.out) | exact HB.out)) hb); have n1_ := Aside0.mk (hbox); have n2_ := Aside0.mk ((by rw [hg]; exact (below_size (by repeat (first | (with_reducible first | exact HB.out | apply below_alloc | apply pw_below_drewN | apply below_drew1 | refine below_set ?_ GE650.out) | exact HB.out))) : w.heap.size ≤ gb651)); have n3_ := Aside0.mk ((by rw [hg]; exact (below_size (by repeat (first | (with_reducible first | exact HB.out | apply below_alloc | apply pw_below_drewN | apply below_drew1 | refine below_set ?_ GE650.out) | exact HB.out))) : w.heap.size ≤ gb651)); have n4_ := Aside0.mk ((by rw [hg]; exact Nat.ne_of_lt (blk_lt (g := gb650) (o := .cells #[.int .i64 a0_0, .int .i64 a0_1] 23 (0, 0)) (pk BK650.out)) : gb650 ≠ gb651)); have n5_ := Aside0.mk ((by rw [hg]; exact Nat.ne_of_gt (blk_lt (g := gb650) (o := .cells #[.int .i64 a0_0, .int .i64 a0_1] 23 (0, 0)) (pk BK650.out)) : gb651 ≠ gb650)); replace BK650 := bbw BK650 hb; clear HB; have HB := n0_; have BK651 := n1_; have GW651 := n2_; have GE651 := n3_; have NB650_651 := n4_; have NB651_650 := n5_; clear n0_ n1_ n2_ n3_ n4_ n5_; clear hb hbox hg) | ((with_reducible refine gate_dst (N := 4) rfl ?_); refine box_event ?hg (N := 4) ?hd (cs := #[.int .i64 0, .int .i64 0]) (t := 23) ?hr ?_; (case hd => rfl); (case hg => rfl); (case hr => first | (go_simp; done) | (go_simp; rfl)); intro gb652 hg w6 hbox hb; have n0_ := Aside0.mk (below_step (by repeat (first | (with_reducible first | exact HB.out | apply below_alloc | apply pw_below_drewN | apply below_drew1 | refine below_set ?_ GE650.out | refine below_set ?_ GE651.out) | exact HB.out)) hb); have n1_ := Aside0.mk (hbox); have n2_ := Aside0.mk ((by rw [hg]; exact (below_size (by repeat (first | (with_reducible first | exact HB.out | apply below_alloc | apply pw_below_drewN | apply below_drew1 | refine below_set ?_ GE650.out | refine below_set ?_ GE651.out) | exact HB.out))) : w.heap.size ≤ gb652)); have n3_ := Aside0.mk ((by rw [hg]; exact (below_size (by repeat (first | (with_reducible first | exact HB.out | apply below_alloc | apply pw_below_drewN | apply below_drew1 | refine below_set ?_ GE650.out | refine below_set ?_ GE651.out) | exact HB.out))) : w.heap.size ≤ gb652)); have n4_ := Aside0.mk ((by rw [hg]; exact Nat.ne_of_lt (blk_lt (g := gb650) (o := .cells #[.int .i64 a0_0, .int .i64 a0_1] 23 (0, 0)) (pk BK650.out)) : gb650 ≠ gb652)); have n5_ := Aside0.mk ((by rw [hg]; exact Nat.ne_of_gt (blk_lt (g := gb650) (o := .cells #[.int .i64 a0_0, .int .i64 a0_1] 23 (0, 0)) (pk BK650.out)) : gb652 ≠ gb650)); have n6_ := Aside0.mk ((by rw [hg]; exact Nat.ne_of_lt (blk_lt (g := gb651) (o := .cells #[.int .i64 a1_0, .int .i64 a1_1] 23 (0, 0)) (pk BK651.out)) : gb651 ≠ gb652)); have n7_ := Aside0.mk ((by rw [hg]; exact Nat.ne_of_gt (blk_lt (g := gb651) (o := .cells #[.int .i64 a1_0, .int .i64 a1_1] 23 (0, 0)) (pk BK651.out)) : gb652 ≠ gb651)); replace BK650 := bbw BK650 hb; replace BK651 := bbw BK651 hb; clear HB; have HB := n0_; have BK652 := n1_; have GW652 := n2_; have GE652 := n3_; have NB650_652 := n4_; have NB652_650 := n5_; have NB651_652 := n6_; have NB652_651 := n7_; clear n0_ n1_ n2_ n3_ n4_ n5_ n6_ n7_; clear hb hbox hg; have hnb7 := NB650_651.out; have hnc7 := NB651_650.out; have hnb8 := NB650_652.out; have hnc8 := NB652_650.out; have hcz9_0 : w6.cell? ⟨gb650, 0, none⟩ = some (.int .i64 a0_0) := (blk_cell BK650.out 0).trans rfl; have hcz9_1 : w6.cell? ⟨gb650, 1, none⟩ = some (.int .i64 a0_1) := (blk_cell BK650.out 1).trans rfl; have hfz9_0 := blk_frozen BK650.out 0; have hfz9_1 := blk_frozen BK650.out 1; have hnb10 := NB651_652.out; have hnc10 := NB652_651.out; have hcz11_0 : w6.cell? ⟨gb651, 0, none⟩ = some (.int .i64 a1_0) := (blk_cell BK651.out 0).trans rfl; have hcz11_1 : w6.cell? ⟨gb651, 1, none⟩ = some (.int .i64 a1_1) := (blk_cell BK651.out 1).trans rfl; have hfz11_0 := blk_frozen BK651.out 0; have hfz11_1 := blk_frozen BK651.out 1) | ((with_reducible refine gate_callee (f := 73) rfl ?_); refine goesL_ (some 7) rfl rfl Try.func73 (by kernel_rfl) rfl #[.agg #[.int .i64 a0_0, .int .i64 a0_1], .agg #[.int .i64 a1_0, .int .i64 a1_1], .func (.func 80) #[] #[]] rfl (by (try simp only [List.map_toArray, List.map_cons, List.map_nil]); first | done | rfl | (simp only [List.length_drop, List.length_take]; rfl)) ?_; (with_reducible refine (itv_both_itv_Min_1.calls k a0_0 a0_1 a1_0 a1_1  t653 t654 _ A3.out).mono ?_); rintro e w12 ⟨rfl, hb⟩; refine ⟨_, rfl, ?_⟩; have n0_ := Aside0.mk (below_step (by repeat (first | (with_reducible first | exact HB.out | apply below_alloc | apply pw_below_drewN | apply below_drew1 | refine below_set ?_ GE650.out | refine below_set ?_ GE651.out | refine below_set ?_ GE652.out) | exact HB.out)) hb); replace BK650 := bbw BK650 hb; replace BK651 := bbw BK651 hb; replace BK652 := bbw BK652 hb; clear HB; have HB := n0_; clear n0_; (try clear hb); (try clear hb2); (try clear hk); (try clear hi); have hcz13_0 : w12.cell? ⟨gb652, 0, none⟩ = some (.int .i64 0) := (blk_cell BK652.out 0).trans rfl; have hcz13_1 : w12.cell? ⟨gb652, 1, none⟩ = some (.int .i64 0) := (blk_cell BK652.out 1).trans rfl; have hfz13_0 := blk_frozen BK652.out 0; have hfz13_1 := blk_frozen BK652.out 1))
  refine bodyPost_ret (results_cell_row rfl _ _ gb652 23 #[.int .i64 t653, .int .i64 t654] (0, 0) _ rfl (by (with_reducible repeat (first | refine blk_drewN ?_ _ | refine blk_drew ?_ | refine blk_alloc ?_ _)); refine blk_put (cs := #[.int .i64 t653, .int .i64 0]) ?_ 1 _ (by first | rfl | (subst_vars; rfl)); (with_reducible repeat (first | refine blk_drewN ?_ _ | refine blk_drew ?_ | refine blk_alloc ?_ _)); refine blk_put (cs := #[.int .i64 0, .int .i64 0]) ?_ 0 _ (by first | rfl | (subst_vars; rfl)); (with_reducible repeat (first | refine blk_drewN ?_ _ | refine blk_drew ?_ | refine blk_alloc ?_ _)); exact BK652.out) Try.underlying23 rfl (by kernel_rfl)) rfl ?_
  exact ⟨by first | rfl | (simp [errW_none, errW_some] <;> rfl) | (simp [*, errW_none, errW_some] <;> rfl) | kernel_rfl, by repeat (first | (with_reducible first | exact HB.out | apply below_alloc | apply pw_below_drewN | apply below_drew1 | refine below_set ?_ GE650.out | refine below_set ?_ GE651.out | refine below_set ?_ GE652.out) | exact HB.out)⟩
def itv_Max_1.f (a0_0 : Int) (a0_1 : Int) (a1_0 : Int) (a1_1 : Int) : Option (Int × Int) := (itv_Of.f (mx a0_0 a1_0) (mx a0_1 a1_1)).bind fun bt658 => (some (bt658.1, bt658.2))
set_option maxHeartbeats 8000000 in
set_option maxRecDepth 100000 in
theorem itv_Max_1.calls (a0_0 : Int) (a0_1 : Int) (a1_0 : Int) (a1_1 : Int) (r1 : Int) (r2 : Int) (w : World) (h : itv_Max_1.f a0_0 a0_1 a1_0 a1_1 = some (r1, r2)) :
    Calls Try.prog 81 #[.agg #[.int .i64 a0_0, .int .i64 a0_1], .agg #[.int .i64 a1_0, .int .i64 a1_1]] w fun e w' => e = .returned (.agg #[.int .i64 r1, .int .i64 r2]) ∧ Below w.heap.size w w' := by
  have hu23 := Try.underlying23
  have HB := Aside0.mk (Below.refl w.heap.size w)
  have H : ((itv_Of.f (mx a0_0 a1_0) (mx a0_1 a1_1)).bind fun bt658 => (some (bt658.1, bt658.2))) = some (r1, r2) := h
  clear h
  obtain ⟨ji3, hji3⟩ : ∃ j_ : Int, (mx a0_0 a1_0) = j_ := ⟨_, rfl⟩
  replace H : ((itv_Of.f (ji3) (mx a0_1 a1_1)).bind fun bt658 => (some (bt658.1, bt658.2))) = some (r1, r2) := by first | (rw [hji3] at H; exact H) | (simp only [hji3] at H ⊢; exact H)
  have hji3_ : (if a0_0 < a1_0 then a1_0 else a0_0) = ji3 := hji3
  obtain ⟨ji4, hji4⟩ : ∃ j_ : Int, (mx a0_1 a1_1) = j_ := ⟨_, rfl⟩
  replace H : ((itv_Of.f (ji3) (ji4)).bind fun bt658 => (some (bt658.1, bt658.2))) = some (r1, r2) := by first | (rw [hji4] at H; exact H) | (simp only [hji4] at H ⊢; exact H)
  have hji4_ : (if a0_1 < a1_1 then a1_1 else a0_1) = ji4 := hji4
  replace H := Option.bind_eq_some_iff.mp H
  obtain ⟨⟨t658, t659⟩, A50, H⟩ := H
  replace H : (some (t658, t659)) = some (r1, r2) := H
  have A5 := Aside0.mk A50
  clear A50
  simp only [Option.some.injEq, Prod.mk.injEq] at H
  obtain ⟨rfl, rfl⟩ := H
  go_enter Try.func81, Try.ntmps81
  go_wp2_with (first | ((with_reducible refine gate_dst (N := 2) rfl ?_); refine box_event ?hg (N := 2) ?hd (cs := #[.int .i64 a0_0, .int .i64 a0_1]) (t := 23) ?hr ?_; (case hd => rfl); (case hg => rfl); (case hr => first | (go_simp; done) | (go_simp; rfl)); intro gb655 hg w6 hbox hb; have n0_ := Aside0.mk (below_step (by repeat (first | (with_reducible first | exact HB.out | apply below_alloc | apply pw_below_drewN | apply below_drew1) | exact HB.out)) hb); have n1_ := Aside0.mk (hbox); have n2_ := Aside0.mk ((by rw [hg]; exact (below_size (by repeat (first | (with_reducible first | exact HB.out | apply below_alloc | apply pw_below_drewN | apply below_drew1) | exact HB.out))) : w.heap.size ≤ gb655)); have n3_ := Aside0.mk ((by rw [hg]; exact (below_size (by repeat (first | (with_reducible first | exact HB.out | apply below_alloc | apply pw_below_drewN | apply below_drew1) | exact HB.out))) : w.heap.size ≤ gb655)); clear HB; have HB := n0_; have BK655 := n1_; have GW655 := n2_; have GE655 := n3_; clear n0_ n1_ n2_ n3_; clear hb hbox hg) | ((with_reducible refine gate_dst (N := 3) rfl ?_); refine box_event ?hg (N := 3) ?hd (cs := #[.int .i64 a1_0, .int .i64 a1_1]) (t := 23) ?hr ?_; (case hd => rfl); (case hg => rfl); (case hr => first | (go_simp; done) | (go_simp; rfl)); intro gb656 hg w7 hbox hb; have n0_ := Aside0.mk (below_step (by repeat (first | (with_reducible first | exact HB.out | apply below_alloc | apply pw_below_drewN | apply below_drew1 | refine below_set ?_ GE655.out) | exact HB.out)) hb); have n1_ := Aside0.mk (hbox); have n2_ := Aside0.mk ((by rw [hg]; exact (below_size (by repeat (first | (with_reducible first | exact HB.out | apply below_alloc | apply pw_below_drewN | apply below_drew1 | refine below_set ?_ GE655.out) | exact HB.out))) : w.heap.size ≤ gb656)); have n3_ := Aside0.mk ((by rw [hg]; exact (below_size (by repeat (first | (with_reducible first | exact HB.out | apply below_alloc | apply pw_below_drewN | apply below_drew1 | refine below_set ?_ GE655.out) | exact HB.out))) : w.heap.size ≤ gb656)); have n4_ := Aside0.mk ((by rw [hg]; exact Nat.ne_of_lt (blk_lt (g := gb655) (o := .cells #[.int .i64 a0_0, .int .i64 a0_1] 23 (0, 0)) (pk BK655.out)) : gb655 ≠ gb656)); have n5_ := Aside0.mk ((by rw [hg]; exact Nat.ne_of_gt (blk_lt (g := gb655) (o := .cells #[.int .i64 a0_0, .int .i64 a0_1] 23 (0, 0)) (pk BK655.out)) : gb656 ≠ gb655)); replace BK655 := bbw BK655 hb; clear HB; have HB := n0_; have BK656 := n1_; have GW656 := n2_; have GE656 := n3_; have NB655_656 := n4_; have NB656_655 := n5_; clear n0_ n1_ n2_ n3_ n4_ n5_; clear hb hbox hg) | ((with_reducible refine gate_dst (N := 4) rfl ?_); refine box_event ?hg (N := 4) ?hd (cs := #[.int .i64 0, .int .i64 0]) (t := 23) ?hr ?_; (case hd => rfl); (case hg => rfl); (case hr => first | (go_simp; done) | (go_simp; rfl)); intro gb657 hg w8 hbox hb; have n0_ := Aside0.mk (below_step (by repeat (first | (with_reducible first | exact HB.out | apply below_alloc | apply pw_below_drewN | apply below_drew1 | refine below_set ?_ GE655.out | refine below_set ?_ GE656.out) | exact HB.out)) hb); have n1_ := Aside0.mk (hbox); have n2_ := Aside0.mk ((by rw [hg]; exact (below_size (by repeat (first | (with_reducible first | exact HB.out | apply below_alloc | apply pw_below_drewN | apply below_drew1 | refine below_set ?_ GE655.out | refine below_set ?_ GE656.out) | exact HB.out))) : w.heap.size ≤ gb657)); have n3_ := Aside0.mk ((by rw [hg]; exact (below_size (by repeat (first | (with_reducible first | exact HB.out | apply below_alloc | apply pw_below_drewN | apply below_drew1 | refine below_set ?_ GE655.out | refine below_set ?_ GE656.out) | exact HB.out))) : w.heap.size ≤ gb657)); have n4_ := Aside0.mk ((by rw [hg]; exact Nat.ne_of_lt (blk_lt (g := gb655) (o := .cells #[.int .i64 a0_0, .int .i64 a0_1] 23 (0, 0)) (pk BK655.out)) : gb655 ≠ gb657)); have n5_ := Aside0.mk ((by rw [hg]; exact Nat.ne_of_gt (blk_lt (g := gb655) (o := .cells #[.int .i64 a0_0, .int .i64 a0_1] 23 (0, 0)) (pk BK655.out)) : gb657 ≠ gb655)); have n6_ := Aside0.mk ((by rw [hg]; exact Nat.ne_of_lt (blk_lt (g := gb656) (o := .cells #[.int .i64 a1_0, .int .i64 a1_1] 23 (0, 0)) (pk BK656.out)) : gb656 ≠ gb657)); have n7_ := Aside0.mk ((by rw [hg]; exact Nat.ne_of_gt (blk_lt (g := gb656) (o := .cells #[.int .i64 a1_0, .int .i64 a1_1] 23 (0, 0)) (pk BK656.out)) : gb657 ≠ gb656)); replace BK655 := bbw BK655 hb; replace BK656 := bbw BK656 hb; clear HB; have HB := n0_; have BK657 := n1_; have GW657 := n2_; have GE657 := n3_; have NB655_657 := n4_; have NB657_655 := n5_; have NB656_657 := n6_; have NB657_656 := n7_; clear n0_ n1_ n2_ n3_ n4_ n5_ n6_ n7_; clear hb hbox hg; have hnb9 := NB655_656.out; have hnc9 := NB656_655.out; have hnb10 := NB655_657.out; have hnc10 := NB657_655.out; have hcz11_0 : w8.cell? ⟨gb655, 0, none⟩ = some (.int .i64 a0_0) := (blk_cell BK655.out 0).trans rfl; have hcz11_1 : w8.cell? ⟨gb655, 1, none⟩ = some (.int .i64 a0_1) := (blk_cell BK655.out 1).trans rfl; have hfz11_0 := blk_frozen BK655.out 0; have hfz11_1 := blk_frozen BK655.out 1; have hnb12 := NB656_657.out; have hnc12 := NB657_656.out; have hcz13_0 : w8.cell? ⟨gb656, 0, none⟩ = some (.int .i64 a1_0) := (blk_cell BK656.out 0).trans rfl; have hcz13_1 : w8.cell? ⟨gb656, 1, none⟩ = some (.int .i64 a1_1) := (blk_cell BK656.out 1).trans rfl; have hfz13_0 := blk_frozen BK656.out 0; have hfz13_1 := blk_frozen BK656.out 1) | ((with_reducible refine gate_callee (f := 13) rfl ?_); refine goesL_ (some 15) rfl rfl Try.func13 (by kernel_rfl) rfl #[.int .i64 ji3, .int .i64 ji4] rfl (by (try simp only [List.map_toArray, List.map_cons, List.map_nil]); first | done | (simp only [hji3, hji4]; rfl) | rfl | (simp only [List.length_drop, List.length_take]; rfl)) ?_; (with_reducible refine (itv_Of.calls ji3 ji4 t658 t659 _ A5.out).mono ?_); rintro e w14 ⟨rfl, hb⟩; refine ⟨_, rfl, ?_⟩; have n0_ := Aside0.mk (below_step (by repeat (first | (with_reducible first | exact HB.out | apply below_alloc | apply pw_below_drewN | apply below_drew1 | refine below_set ?_ GE655.out | refine below_set ?_ GE656.out | refine below_set ?_ GE657.out) | exact HB.out)) hb); replace BK655 := bbw BK655 hb; replace BK656 := bbw BK656 hb; replace BK657 := bbw BK657 hb; clear HB; have HB := n0_; clear n0_; (try clear hb); (try clear hb2); (try clear hk); (try clear hi); have hcz15_0 : w14.cell? ⟨gb657, 0, none⟩ = some (.int .i64 0) := (blk_cell BK657.out 0).trans rfl; have hcz15_1 : w14.cell? ⟨gb657, 1, none⟩ = some (.int .i64 0) := (blk_cell BK657.out 1).trans rfl; have hfz15_0 := blk_frozen BK657.out 0; have hfz15_1 := blk_frozen BK657.out 1))
  refine bodyPost_ret (results_cell_row rfl _ _ gb657 23 #[.int .i64 t658, .int .i64 t659] (0, 0) _ rfl (by (with_reducible repeat (first | refine blk_drewN ?_ _ | refine blk_drew ?_ | refine blk_alloc ?_ _)); refine blk_put (cs := #[.int .i64 t658, .int .i64 0]) ?_ 1 _ (by first | rfl | (subst_vars; rfl)); (with_reducible repeat (first | refine blk_drewN ?_ _ | refine blk_drew ?_ | refine blk_alloc ?_ _)); refine blk_put (cs := #[.int .i64 0, .int .i64 0]) ?_ 0 _ (by first | rfl | (subst_vars; rfl)); (with_reducible repeat (first | refine blk_drewN ?_ _ | refine blk_drew ?_ | refine blk_alloc ?_ _)); exact BK657.out) Try.underlying23 rfl (by kernel_rfl)) rfl ?_
  exact ⟨by first | rfl | (simp [errW_none, errW_some] <;> rfl) | (simp only [← hji3, ← hji4]; first | rfl | (simp [errW_none, errW_some] <;> rfl)) | (simp [*, errW_none, errW_some] <;> rfl) | kernel_rfl, by repeat (first | (with_reducible first | exact HB.out | apply below_alloc | apply pw_below_drewN | apply below_drew1 | refine below_set ?_ GE655.out | refine below_set ?_ GE656.out | refine below_set ?_ GE657.out) | exact HB.out)⟩
end Go.Proofs.Ytbbnpipmjadpoaa.P
