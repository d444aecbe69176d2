/- What the law's proof needs of Px34. -/
import Derived.Test.YtbbnpipmjadpoaaTrRPx0
import Derived.Test.YtbbnpipmjadpoaaTrRPx2
import Derived.Test.YtbbnpipmjadpoaaTrRPx3
import Derived.Test.YtbbnpipmjadpoaaTrRPx7
import Derived.Test.YtbbnpipmjadpoaaTrRPx33
-- PRINTED by print.py (a twelfth state) out of the translation. Not trusted: Lean checks it.
namespace Go.Proofs.Ytbbnpipmjadpoaa.P
open Go.RowKit Go.Proofs.YtbbnpipmjadpoaaW.PrintWords Go.Proofs.YtbbnpipmjadpoaaW.PrintLast Go.Proofs.YtbbnpipmjadpoaaW.PrintMore Go.Proofs.YtbbnpipmjadpoaaO
attribute [local go_sem] max2_int min2_int max_two min_two max_three min_three max_four min_four   -- for this text's walks alone
set_option linter.unusedVariables false
set_option linter.unusedSimpArgs false
def gimbalref02_Add.j0 : Nat → Bool → Int → Int → Int → Int → Option (Int × Int)
  | 0, _, _, _, _, _ => none
  | k + 1, x14, x895000, x895001, x896000, x896001 => if x14 = true then ((gimbalref02_Empty.f).bind fun bt903 => (some (bt903.1, bt903.2))) else ((gimbalref01_Down.f k x895000 x896000).bind fun t905 => ((gimbalref01_Up.f k x895001 x896001).bind fun t906 => ((gimbalref02_Of.f k t905 t906).bind fun bt907 => (some (bt907.1, bt907.2)))))
def gimbalref02_Add.f (k : Nat) (a0_0 : Int) (a0_1 : Int) (a1_0 : Int) (a1_1 : Int) : Option (Int × Int) := (gimbalref02_norm.f k a0_0 a0_1).bind fun bt897 => ((gimbalref02_norm.f k a1_0 a1_1).bind fun bt899 => ((gimbalref02_None.f bt897.1 bt897.2).bind fun t901 => (if t901 = true then (gimbalref02_Add.j0 k true bt897.1 bt897.2 bt899.1 bt899.2) else ((gimbalref02_None.f bt899.1 bt899.2).bind fun t902 => (gimbalref02_Add.j0 k t902 bt897.1 bt897.2 bt899.1 bt899.2)))))
def gimbalref02_Add.T5 : Bool × List (List Nat × List Nat) := (true, [([], []), ([0], [0]), ([], []), ([2], [2]), ([1, 3], [1, 3]), ([], []), ([5], [5]), ([], []), ([7], [7]), ([6, 8, 4], [6, 8]), ([4, 9, 9], [4, 9]), ([10, 10, 0, 1, 2, 3, 4, 5, 6, 7, 8, 9, 10], [10])])
def gimbalref02_Add.B5 : List Nat := [0, 1, 0, 4, 15, 0, 32, 0, 128, 511, 1023, 2047]
theorem gimbalref02_Add.tab5 : rtab .any (opsOf Try.f48 5) = gimbalref02_Add.T5 := by kernel_rfl
theorem gimbalref02_Add.bits5 : waitsOk gimbalref02_Add.T5.2 gimbalref02_Add.B5 = true := by kernel_rfl
set_option maxHeartbeats 8000000 in
set_option maxRecDepth 100000 in
theorem gimbalref02_Add.calls (k : Nat) (a0_0 : Int) (a0_1 : Int) (a1_0 : Int) (a1_1 : Int) (r1 : Int) (r2 : Int) (w : World) (h : gimbalref02_Add.f k a0_0 a0_1 a1_0 a1_1 = some (r1, r2)) :
    Calls Try.prog 48 #[.agg #[.int .i64 a0_0, .int .i64 a0_1], .agg #[.int .i64 a1_0, .int .i64 a1_1]] w fun e w' => e = .returned (.agg #[.int .i64 r1, .int .i64 r2]) ∧ Below w.heap.size w w' := by
  have hu23 := Try.underlying23
  have HB := Aside0.mk (Below.refl w.heap.size w)
  have H : ((gimbalref02_norm.f k a0_0 a0_1).bind fun bt897 => ((gimbalref02_norm.f k a1_0 a1_1).bind fun bt899 => ((gimbalref02_None.f bt897.1 bt897.2).bind fun t901 => (if t901 = true then (gimbalref02_Add.j0 k true bt897.1 bt897.2 bt899.1 bt899.2) else ((gimbalref02_None.f bt899.1 bt899.2).bind fun t902 => (gimbalref02_Add.j0 k t902 bt897.1 bt897.2 bt899.1 bt899.2)))))) = some (r1, r2) := h
  clear h
  replace H := Option.bind_eq_some_iff.mp H
  obtain ⟨⟨t897, t898⟩, A30, H⟩ := H
  replace H : ((gimbalref02_norm.f k a1_0 a1_1).bind fun bt899 => ((gimbalref02_None.f t897 t898).bind fun t901 => (if t901 = true then (gimbalref02_Add.j0 k true t897 t898 bt899.1 bt899.2) else ((gimbalref02_None.f bt899.1 bt899.2).bind fun t902 => (gimbalref02_Add.j0 k t902 t897 t898 bt899.1 bt899.2))))) = some (r1, r2) := H
  have A3 := Aside0.mk A30
  clear A30
  replace H := Option.bind_eq_some_iff.mp H
  obtain ⟨⟨t899, t900⟩, A40, H⟩ := H
  replace H : ((gimbalref02_None.f t897 t898).bind fun t901 => (if t901 = true then (gimbalref02_Add.j0 k true t897 t898 t899 t900) else ((gimbalref02_None.f t899 t900).bind fun t902 => (gimbalref02_Add.j0 k t902 t897 t898 t899 t900)))) = some (r1, r2) := H
  have A4 := Aside0.mk A40
  clear A40
  have HC5 := Aside0.mk H
  clear H
  go_enter Try.func48, Try.ntmps48
  go_upto_region 3 with (first | ((with_reducible refine gate_dst (N := 2) rfl ?_); refine box_event ?hg (N := 2) ?hd (cs := #[.int .i64 a0_0, .int .i64 a0_1]) (t := 23) ?hr ?_; (case hd => rfl); (case hg => rfl); (case hr => first | (go_simp; done) | (go_simp; rfl)); intro gb894 hg w6 hbox hb; have n0_ := Aside0.mk (below_step (by repeat (first | (with_reducible first | exact HB.out | apply below_alloc | apply pw_below_drewN | apply below_drew1) | exact HB.out)) hb); have n1_ := Aside0.mk (hbox); have n2_ := Aside0.mk ((by rw [hg]; exact (below_size (by repeat (first | (with_reducible first | exact HB.out | apply below_alloc | apply pw_below_drewN | apply below_drew1) | exact HB.out))) : w.heap.size ≤ gb894)); have n3_ := Aside0.mk ((by rw [hg]; exact (below_size (by repeat (first | (with_reducible first | exact HB.out | apply below_alloc | apply pw_below_drewN | apply below_drew1) | exact HB.out))) : w.heap.size ≤ gb894)); clear HB; have HB := n0_; have BK894 := n1_; have GW894 := n2_; have GE894 := n3_; clear n0_ n1_ n2_ n3_; clear hb hbox hg) | ((with_reducible refine gate_dst (N := 3) rfl ?_); refine box_event ?hg (N := 3) ?hd (cs := #[.int .i64 a1_0, .int .i64 a1_1]) (t := 23) ?hr ?_; (case hd => rfl); (case hg => rfl); (case hr => first | (go_simp; done) | (go_simp; rfl)); intro gb895 hg w7 hbox hb; have n0_ := Aside0.mk (below_step (by repeat (first | (with_reducible first | exact HB.out | apply below_alloc | apply pw_below_drewN | apply below_drew1 | refine below_set ?_ GE894.out) | exact HB.out)) hb); have n1_ := Aside0.mk (hbox); have n2_ := Aside0.mk ((by rw [hg]; exact (below_size (by repeat (first | (with_reducible first | exact HB.out | apply below_alloc | apply pw_below_drewN | apply below_drew1 | refine below_set ?_ GE894.out) | exact HB.out))) : w.heap.size ≤ gb895)); have n3_ := Aside0.mk ((by rw [hg]; exact (below_size (by repeat (first | (with_reducible first | exact HB.out | apply below_alloc | apply pw_below_drewN | apply below_drew1 | refine below_set ?_ GE894.out) | exact HB.out))) : w.heap.size ≤ gb895)); have n4_ := Aside0.mk ((by rw [hg]; exact Nat.ne_of_lt (blk_lt (g := gb894) (o := .cells #[.int .i64 a0_0, .int .i64 a0_1] 23 (0, 0)) (pk BK894.out)) : gb894 ≠ gb895)); have n5_ := Aside0.mk ((by rw [hg]; exact Nat.ne_of_gt (blk_lt (g := gb894) (o := .cells #[.int .i64 a0_0, .int .i64 a0_1] 23 (0, 0)) (pk BK894.out)) : gb895 ≠ gb894)); replace BK894 := bbw BK894 hb; clear HB; have HB := n0_; have BK895 := n1_; have GW895 := n2_; have GE895 := n3_; have NB894_895 := n4_; have NB895_894 := n5_; clear n0_ n1_ n2_ n3_ n4_ n5_; clear hb hbox hg) | ((with_reducible refine gate_dst (N := 4) rfl ?_); refine box_event ?hg (N := 4) ?hd (cs := #[.int .i64 0, .int .i64 0]) (t := 23) ?hr ?_; (case hd => rfl); (case hg => rfl); (case hr => first | (go_simp; done) | (go_simp; rfl)); intro gb896 hg w8 hbox hb; have n0_ := Aside0.mk (below_step (by repeat (first | (with_reducible first | exact HB.out | apply below_alloc | apply pw_below_drewN | apply below_drew1 | refine below_set ?_ GE894.out | refine below_set ?_ GE895.out) | exact HB.out)) hb); have n1_ := Aside0.mk (hbox); have n2_ := Aside0.mk ((by rw [hg]; exact (below_size (by repeat (first | (with_reducible first | exact HB.out | apply below_alloc | apply pw_below_drewN | apply below_drew1 | refine below_set ?_ GE894.out | refine below_set ?_ GE895.out) | exact HB.out))) : w.heap.size ≤ gb896)); have n3_ := Aside0.mk ((by rw [hg]; exact (below_size (by repeat (first | (with_reducible first | exact HB.out | apply below_alloc | apply pw_below_drewN | apply below_drew1 | refine below_set ?_ GE894.out | refine below_set ?_ GE895.out) | exact HB.out))) : w.heap.size ≤ gb896)); have n4_ := Aside0.mk ((by rw [hg]; exact Nat.ne_of_lt (blk_lt (g := gb894) (o := .cells #[.int .i64 a0_0, .int .i64 a0_1] 23 (0, 0)) (pk BK894.out)) : gb894 ≠ gb896)); have n5_ := Aside0.mk ((by rw [hg]; exact Nat.ne_of_gt (blk_lt (g := gb894) (o := .cells #[.int .i64 a0_0, .int .i64 a0_1] 23 (0, 0)) (pk BK894.out)) : gb896 ≠ gb894)); have n6_ := Aside0.mk ((by rw [hg]; exact Nat.ne_of_lt (blk_lt (g := gb895) (o := .cells #[.int .i64 a1_0, .int .i64 a1_1] 23 (0, 0)) (pk BK895.out)) : gb895 ≠ gb896)); have n7_ := Aside0.mk ((by rw [hg]; exact Nat.ne_of_gt (blk_lt (g := gb895) (o := .cells #[.int .i64 a1_0, .int .i64 a1_1] 23 (0, 0)) (pk BK895.out)) : gb896 ≠ gb895)); replace BK894 := bbw BK894 hb; replace BK895 := bbw BK895 hb; clear HB; have HB := n0_; have BK896 := n1_; have GW896 := n2_; have GE896 := n3_; have NB894_896 := n4_; have NB896_894 := n5_; have NB895_896 := n6_; have NB896_895 := n7_; clear n0_ n1_ n2_ n3_ n4_ n5_ n6_ n7_; clear hb hbox hg; have hnb9 := NB894_895.out; have hnc9 := NB895_894.out; have hnb10 := NB894_896.out; have hnc10 := NB896_894.out; have hcz11_0 : w8.cell? ⟨gb894, 0, none⟩ = some (.int .i64 a0_0) := (blk_cell BK894.out 0).trans rfl; have hcz11_1 : w8.cell? ⟨gb894, 1, none⟩ = some (.int .i64 a0_1) := (blk_cell BK894.out 1).trans rfl; have hfz11_0 := blk_frozen BK894.out 0; have hfz11_1 := blk_frozen BK894.out 1) | ((with_reducible refine gate_callee (f := 60) rfl ?_); refine goesL_ (some 6) rfl rfl Try.func60 (by kernel_rfl) rfl #[.agg #[.int .i64 a0_0, .int .i64 a0_1]] rfl (by (try simp only [List.map_toArray, List.map_cons, List.map_nil]); first | done | rfl | (simp only [List.length_drop, List.length_take]; rfl)) ?_; (with_reducible refine (gimbalref02_norm.calls k a0_0 a0_1 t897 t898 _ A3.out).mono ?_); rintro e w12 ⟨rfl, hb⟩; refine ⟨_, rfl, ?_⟩; have n0_ := Aside0.mk (below_step (by repeat (first | (with_reducible first | exact HB.out | apply below_alloc | apply pw_below_drewN | apply below_drew1 | refine below_set ?_ GE894.out | refine below_set ?_ GE895.out | refine below_set ?_ GE896.out) | exact HB.out)) hb); replace BK894 := bbw BK894 hb; replace BK895 := bbw BK895 hb; replace BK896 := bbw BK896 hb; clear HB; have HB := n0_; clear n0_; (try clear hb); (try clear hb2); (try clear hk); (try clear hi); have hcz13_0 : w12.cell? ⟨gb894, 0, none⟩ = some (.int .i64 a0_0) := (blk_cell BK894.out 0).trans rfl; have hcz13_1 : w12.cell? ⟨gb894, 1, none⟩ = some (.int .i64 a0_1) := (blk_cell BK894.out 1).trans rfl; have hfz13_0 := blk_frozen BK894.out 0; have hfz13_1 := blk_frozen BK894.out 1; have hnb14 := NB895_896.out; have hnc14 := NB896_895.out; have hcz15_0 : w12.cell? ⟨gb895, 0, none⟩ = some (.int .i64 a1_0) := (blk_cell BK895.out 0).trans rfl; have hcz15_1 : w12.cell? ⟨gb895, 1, none⟩ = some (.int .i64 a1_1) := (blk_cell BK895.out 1).trans rfl; have hfz15_0 := blk_frozen BK895.out 0; have hfz15_1 := blk_frozen BK895.out 1) | ((with_reducible refine gate_callee (f := 60) rfl ?_); refine goesL_ (some 8) rfl rfl Try.func60 (by kernel_rfl) rfl #[.agg #[.int .i64 a1_0, .int .i64 a1_1]] rfl (by (try simp only [List.map_toArray, List.map_cons, List.map_nil]); first | done | rfl | (simp only [List.length_drop, List.length_take]; rfl)) ?_; (with_reducible refine (gimbalref02_norm.calls k a1_0 a1_1 t899 t900 _ A4.out).mono ?_); rintro e w16 ⟨rfl, hb⟩; refine ⟨_, rfl, ?_⟩; have n0_ := Aside0.mk (blk_below (g := gb894) (o := .cells #[.int .i64 t897, .int .i64 t898] 23 (0, 0)) (by (with_reducible repeat (first | refine blk_drewN ?_ _ | refine blk_drew ?_ | refine blk_alloc ?_ _)); refine blk_put (cs := #[.int .i64 t897, .int .i64 a0_1]) ?_ 1 _ (by first | rfl | (subst_vars; rfl)); (with_reducible repeat (first | refine blk_drewN ?_ _ | refine blk_drew ?_ | refine blk_alloc ?_ _)); refine blk_put (cs := #[.int .i64 a0_0, .int .i64 a0_1]) ?_ 0 _ (by first | rfl | (subst_vars; rfl)); (with_reducible repeat (first | refine blk_drewN ?_ _ | refine blk_drew ?_ | refine blk_alloc ?_ _)); exact BK894.out) hb); have n1_ := Aside0.mk (blk_below (g := gb895) (o := .cells #[.int .i64 a1_0, .int .i64 a1_1] 23 (0, 0)) (by (with_reducible repeat (first | refine blk_drewN ?_ _ | refine blk_drew ?_ | refine blk_alloc ?_ _)); refine blk_far ?_ NB895_894.out _; (with_reducible repeat (first | refine blk_drewN ?_ _ | refine blk_drew ?_ | refine blk_alloc ?_ _)); refine blk_far ?_ NB895_894.out _; (with_reducible repeat (first | refine blk_drewN ?_ _ | refine blk_drew ?_ | refine blk_alloc ?_ _)); exact BK895.out) hb); have n2_ := Aside0.mk (blk_below (g := gb896) (o := .cells #[.int .i64 0, .int .i64 0] 23 (0, 0)) (by (with_reducible repeat (first | refine blk_drewN ?_ _ | refine blk_drew ?_ | refine blk_alloc ?_ _)); refine blk_far ?_ NB896_894.out _; (with_reducible repeat (first | refine blk_drewN ?_ _ | refine blk_drew ?_ | refine blk_alloc ?_ _)); refine blk_far ?_ NB896_894.out _; (with_reducible repeat (first | refine blk_drewN ?_ _ | refine blk_drew ?_ | refine blk_alloc ?_ _)); exact BK896.out) hb); have n3_ := Aside0.mk (below_step (by repeat (first | (with_reducible first | exact HB.out | apply below_alloc | apply pw_below_drewN | apply below_drew1 | refine below_set ?_ GE894.out | refine below_set ?_ GE895.out | refine below_set ?_ GE896.out) | exact HB.out)) hb); clear BK894; clear BK895; clear BK896; clear HB; have BK894 := n0_; have BK895 := n1_; have BK896 := n2_; have HB := n3_; clear n0_ n1_ n2_ n3_; (try clear hb); (try clear hb2); (try clear hk); (try clear hi); have hcz17_0 : w16.cell? ⟨gb895, 0, none⟩ = some (.int .i64 a1_0) := (blk_cell BK895.out 0).trans rfl; have hcz17_1 : w16.cell? ⟨gb895, 1, none⟩ = some (.int .i64 a1_1) := (blk_cell BK895.out 1).trans rfl; have hfz17_0 := blk_frozen BK895.out 0; have hfz17_1 := blk_frozen BK895.out 1))
  (try simp only [Act.put, List.setIfInBounds_toArray, List.set_cons_zero, List.set_cons_succ])
  go_cut [14] (fun v14 wc => ∃ (kq : Nat) (x14_4 : Bool), v14 = .bool x14_4 ∧ Aside0 (gimbalref02_Add.j0 kq x14_4 t897 t898 t899 t900 = some (r1, r2)) ∧ Aside0 (kq ≤ k) ∧ Aside0 (wc.heap[gb894]? = some (.cells #[.int .i64 t897, .int .i64 t898] 23 (0, 0))) ∧ Aside0 (wc.heap[gb895]? = some (.cells #[.int .i64 t899, .int .i64 t900] 23 (0, 0))) ∧ Aside0 (wc.heap[gb896]? = some (.cells #[.int .i64 0, .int .i64 0] 23 (0, 0))) ∧ Aside0 (Below w.heap.size w wc))
  case first =>
   have H := HC5.out
   clear HC5
   replace H := Option.bind_eq_some_iff.mp H
   obtain ⟨t901, A180, H⟩ := H
   replace H : (if t901 = true then (gimbalref02_Add.j0 k true t897 t898 t899 t900) else ((gimbalref02_None.f t899 t900).bind fun t902 => (gimbalref02_Add.j0 k t902 t897 t898 t899 t900))) = some (r1, r2) := H
   have A18 := Aside0.mk A180
   clear A180
   by_cases c19 : t901 = true
   ·
    subst c19
    have H1 : (gimbalref02_Add.j0 k true t897 t898 t899 t900) = some (r1, r2) := by rw [if_pos rfl] at H; exact H
    clear H
    have H := H1
    clear H1
    have H' := Aside0.mk H
    clear H
    have hnb20 := NB894_895.out
    have hnc20 := NB895_894.out
    have hnb21 := NB894_896.out
    have hnc21 := NB896_894.out
    have hcz22_0 : w16.cell? ⟨gb894, 0, none⟩ = some (.int .i64 t897) := (blk_cell BK894.out 0).trans rfl
    have hcz22_1 : w16.cell? ⟨gb894, 1, none⟩ = some (.int .i64 t898) := (blk_cell BK894.out 1).trans rfl
    have hfz22_0 := blk_frozen BK894.out 0
    have hfz22_1 := blk_frozen BK894.out 1
    go_wp2_with (first | ((with_reducible refine gate_callee (f := 61) rfl ?_); refine goesL_ (some 10) rfl rfl Try.func61 (by kernel_rfl) rfl #[.agg #[.int .i64 t897, .int .i64 t898]] rfl (by (try simp only [List.map_toArray, List.map_cons, List.map_nil]); first | done | rfl | (simp only [List.length_drop, List.length_take]; rfl)) ?_; (with_reducible refine (gimbalref02_None.calls t897 t898 true _ A18.out).mono ?_); rintro e w23 ⟨rfl, hb⟩; refine ⟨_, rfl, ?_⟩; have n0_ := Aside0.mk (blk_below (g := gb894) (o := .cells #[.int .i64 t897, .int .i64 t898] 23 (0, 0)) (by (with_reducible repeat (first | refine blk_drewN ?_ _ | refine blk_drew ?_ | refine blk_alloc ?_ _)); refine blk_far ?_ NB894_895.out _; (with_reducible repeat (first | refine blk_drewN ?_ _ | refine blk_drew ?_ | refine blk_alloc ?_ _)); refine blk_far ?_ NB894_895.out _; (with_reducible repeat (first | refine blk_drewN ?_ _ | refine blk_drew ?_ | refine blk_alloc ?_ _)); exact BK894.out) hb); have n1_ := Aside0.mk (blk_below (g := gb895) (o := .cells #[.int .i64 t899, .int .i64 t900] 23 (0, 0)) (by (with_reducible repeat (first | refine blk_drewN ?_ _ | refine blk_drew ?_ | refine blk_alloc ?_ _)); refine blk_put (cs := #[.int .i64 t899, .int .i64 a1_1]) ?_ 1 _ (by first | rfl | (subst_vars; rfl)); (with_reducible repeat (first | refine blk_drewN ?_ _ | refine blk_drew ?_ | refine blk_alloc ?_ _)); refine blk_put (cs := #[.int .i64 a1_0, .int .i64 a1_1]) ?_ 0 _ (by first | rfl | (subst_vars; rfl)); (with_reducible repeat (first | refine blk_drewN ?_ _ | refine blk_drew ?_ | refine blk_alloc ?_ _)); exact BK895.out) hb); have n2_ := Aside0.mk (blk_below (g := gb896) (o := .cells #[.int .i64 0, .int .i64 0] 23 (0, 0)) (by (with_reducible repeat (first | refine blk_drewN ?_ _ | refine blk_drew ?_ | refine blk_alloc ?_ _)); refine blk_far ?_ NB896_895.out _; (with_reducible repeat (first | refine blk_drewN ?_ _ | refine blk_drew ?_ | refine blk_alloc ?_ _)); refine blk_far ?_ NB896_895.out _; (with_reducible repeat (first | refine blk_drewN ?_ _ | refine blk_drew ?_ | refine blk_alloc ?_ _)); exact BK896.out) hb); have n3_ := Aside0.mk (below_step (by repeat (first | (with_reducible first | exact HB.out | apply below_alloc | apply pw_below_drewN | apply below_drew1 | refine below_set ?_ GE894.out | refine below_set ?_ GE895.out | refine below_set ?_ GE896.out) | exact HB.out)) hb); clear BK894; clear BK895; clear BK896; clear HB; have BK894 := n0_; have BK895 := n1_; have BK896 := n2_; have HB := n3_; clear n0_ n1_ n2_ n3_; (try clear hb); (try clear hb2); (try clear hk); (try clear hi)))
    go_meet
    case rel => exact ⟨_, (true), (by first | rfl | (simp; done) | (simp [*]; done)), H', ⟨by first | omega | exact Nat.le_refl _⟩, ⟨by (with_reducible repeat (first | refine blk_drewN ?_ _ | refine blk_drew ?_ | refine blk_alloc ?_ _)); exact BK894.out⟩, ⟨by (with_reducible repeat (first | refine blk_drewN ?_ _ | refine blk_drew ?_ | refine blk_alloc ?_ _)); exact BK895.out⟩, ⟨by (with_reducible repeat (first | refine blk_drewN ?_ _ | refine blk_drew ?_ | refine blk_alloc ?_ _)); exact BK896.out⟩, ⟨by repeat (first | (with_reducible first | exact HB.out | apply below_alloc | apply pw_below_drewN | apply below_drew1 | refine below_set ?_ GE894.out | refine below_set ?_ GE895.out | refine below_set ?_ GE896.out) | exact HB.out)⟩⟩
   ·
    replace c19 := Bool.eq_false_iff.mpr c19
    subst c19
    have H1 : ((gimbalref02_None.f t899 t900).bind fun t902 => (gimbalref02_Add.j0 k t902 t897 t898 t899 t900)) = some (r1, r2) := by rw [if_neg (show ¬ (false = true) by decide)] at H; exact H
    clear H
    have H := H1
    clear H1
    replace H := Option.bind_eq_some_iff.mp H
    obtain ⟨t902, A240, H⟩ := H
    replace H : (gimbalref02_Add.j0 k t902 t897 t898 t899 t900) = some (r1, r2) := H
    have A24 := Aside0.mk A240
    clear A240
    have H' := Aside0.mk H
    clear H
    have hnb25 := NB894_895.out
    have hnc25 := NB895_894.out
    have hnb26 := NB894_896.out
    have hnc26 := NB896_894.out
    have hcz27_0 : w16.cell? ⟨gb894, 0, none⟩ = some (.int .i64 t897) := (blk_cell BK894.out 0).trans rfl
    have hcz27_1 : w16.cell? ⟨gb894, 1, none⟩ = some (.int .i64 t898) := (blk_cell BK894.out 1).trans rfl
    have hfz27_0 := blk_frozen BK894.out 0
    have hfz27_1 := blk_frozen BK894.out 1
    go_wp2_with (first | ((with_reducible refine gate_callee (f := 61) rfl ?_); refine goesL_ (some 10) rfl rfl Try.func61 (by kernel_rfl) rfl #[.agg #[.int .i64 t897, .int .i64 t898]] rfl (by (try simp only [List.map_toArray, List.map_cons, List.map_nil]); first | done | rfl | (simp only [List.length_drop, List.length_take]; rfl)) ?_; (with_reducible refine (gimbalref02_None.calls t897 t898 false _ A18.out).mono ?_); rintro e w28 ⟨rfl, hb⟩; refine ⟨_, rfl, ?_⟩; have n0_ := Aside0.mk (blk_below (g := gb894) (o := .cells #[.int .i64 t897, .int .i64 t898] 23 (0, 0)) (by (with_reducible repeat (first | refine blk_drewN ?_ _ | refine blk_drew ?_ | refine blk_alloc ?_ _)); refine blk_far ?_ NB894_895.out _; (with_reducible repeat (first | refine blk_drewN ?_ _ | refine blk_drew ?_ | refine blk_alloc ?_ _)); refine blk_far ?_ NB894_895.out _; (with_reducible repeat (first | refine blk_drewN ?_ _ | refine blk_drew ?_ | refine blk_alloc ?_ _)); exact BK894.out) hb); have n1_ := Aside0.mk (blk_below (g := gb895) (o := .cells #[.int .i64 t899, .int .i64 t900] 23 (0, 0)) (by (with_reducible repeat (first | refine blk_drewN ?_ _ | refine blk_drew ?_ | refine blk_alloc ?_ _)); refine blk_put (cs := #[.int .i64 t899, .int .i64 a1_1]) ?_ 1 _ (by first | rfl | (subst_vars; rfl)); (with_reducible repeat (first | refine blk_drewN ?_ _ | refine blk_drew ?_ | refine blk_alloc ?_ _)); refine blk_put (cs := #[.int .i64 a1_0, .int .i64 a1_1]) ?_ 0 _ (by first | rfl | (subst_vars; rfl)); (with_reducible repeat (first | refine blk_drewN ?_ _ | refine blk_drew ?_ | refine blk_alloc ?_ _)); exact BK895.out) hb); have n2_ := Aside0.mk (blk_below (g := gb896) (o := .cells #[.int .i64 0, .int .i64 0] 23 (0, 0)) (by (with_reducible repeat (first | refine blk_drewN ?_ _ | refine blk_drew ?_ | refine blk_alloc ?_ _)); refine blk_far ?_ NB896_895.out _; (with_reducible repeat (first | refine blk_drewN ?_ _ | refine blk_drew ?_ | refine blk_alloc ?_ _)); refine blk_far ?_ NB896_895.out _; (with_reducible repeat (first | refine blk_drewN ?_ _ | refine blk_drew ?_ | refine blk_alloc ?_ _)); exact BK896.out) hb); have n3_ := Aside0.mk (below_step (by repeat (first | (with_reducible first | exact HB.out | apply below_alloc | apply pw_below_drewN | apply below_drew1 | refine below_set ?_ GE894.out | refine below_set ?_ GE895.out | refine below_set ?_ GE896.out) | exact HB.out)) hb); clear BK894; clear BK895; clear BK896; clear HB; have BK894 := n0_; have BK895 := n1_; have BK896 := n2_; have HB := n3_; clear n0_ n1_ n2_ n3_; (try clear hb); (try clear hb2); (try clear hk); (try clear hi); have hnb29 := NB895_896.out; have hnc29 := NB896_895.out; have hcz30_0 : w28.cell? ⟨gb895, 0, none⟩ = some (.int .i64 t899) := (blk_cell BK895.out 0).trans rfl; have hcz30_1 : w28.cell? ⟨gb895, 1, none⟩ = some (.int .i64 t900) := (blk_cell BK895.out 1).trans rfl; have hfz30_0 := blk_frozen BK895.out 0; have hfz30_1 := blk_frozen BK895.out 1) | (go_at_call 61; (with_reducible refine (gimbalref02_None.calls t899 t900 t902 _ A24.out).mono ?_); rintro e w31 ⟨rfl, hb⟩; have n0_ := Aside0.mk (below_step (by repeat (first | (with_reducible first | exact HB.out | apply below_alloc | apply pw_below_drewN | apply below_drew1 | refine below_set ?_ GE894.out | refine below_set ?_ GE895.out | refine below_set ?_ GE896.out) | exact HB.out)) hb); replace BK894 := bbw BK894 hb; replace BK895 := bbw BK895 hb; replace BK896 := bbw BK896 hb; clear HB; have HB := n0_; clear n0_; (try clear hb); (try clear hb2); (try clear hk); (try clear hi)))
    go_meet
    case rel => exact ⟨_, (t902), (by first | rfl | (simp; done) | (simp [*]; done)), H', ⟨by first | omega | exact Nat.le_refl _⟩, ⟨by (with_reducible repeat (first | refine blk_drewN ?_ _ | refine blk_drew ?_ | refine blk_alloc ?_ _)); exact BK894.out⟩, ⟨by (with_reducible repeat (first | refine blk_drewN ?_ _ | refine blk_drew ?_ | refine blk_alloc ?_ _)); exact BK895.out⟩, ⟨by (with_reducible repeat (first | refine blk_drewN ?_ _ | refine blk_drew ?_ | refine blk_alloc ?_ _)); exact BK896.out⟩, ⟨by repeat (first | (with_reducible first | exact HB.out | apply below_alloc | apply pw_below_drewN | apply below_drew1 | refine below_set ?_ GE894.out | refine below_set ?_ GE895.out | refine below_set ?_ GE896.out) | exact HB.out)⟩⟩
  case rest =>
   clear HC5
   try clear c1
   try clear c2
   try clear p2
   try clear c4
   try clear c6
   try clear c9
   try clear c10
   try clear c14
   try clear c19
   try clear c20
   try clear c21
   try clear c25
   try clear c26
   try clear c29
   try clear hcz11_0
   try clear hcz11_1
   try clear hcz13_0
   try clear hcz13_1
   try clear hcz15_0
   try clear hcz15_1
   try clear hcz17_0
   try clear hcz17_1
   try clear hcz22_0
   try clear hcz22_1
   try clear hcz27_0
   try clear hcz27_1
   try clear hcz30_0
   try clear hcz30_1
   try clear hfz11_0
   try clear hfz11_1
   try clear hfz13_0
   try clear hfz13_1
   try clear hfz15_0
   try clear hfz15_1
   try clear hfz17_0
   try clear hfz17_1
   try clear hfz22_0
   try clear hfz22_1
   try clear hfz27_0
   try clear hfz27_1
   try clear hfz30_0
   try clear hfz30_1
   obtain ⟨kq, x14_4, rfl, HA, HJ4, BK894, BK895, BK896, HB⟩ := hcut
   cases kq with
   | zero => exact absurd HA.out (by simp [gimbalref02_Add.j0])
   | succ kj4 =>
    have H := HA.out
    clear HA
    simp only [gimbalref02_Add.j0] at H
    by_cases c32 : x14_4 = true
    ·
     subst c32
     have H1 : ((gimbalref02_Empty.f).bind fun bt903 => (some (bt903.1, bt903.2))) = some (r1, r2) := by rw [if_pos rfl] at H; exact H
     clear H
     have H := H1
     clear H1
     replace H := Option.bind_eq_some_iff.mp H
     obtain ⟨⟨t903, t904⟩, A330, H⟩ := H
     replace H : (some (t903, t904)) = some (r1, r2) := H
     have A33 := Aside0.mk A330
     clear A330
     simp only [Option.some.injEq, Prod.mk.injEq] at H
     obtain ⟨rfl, rfl⟩ := H
     go_wp2_with (first | ((with_reducible refine gate_callee (f := 16) rfl ?_); refine goesL_ (some 15) rfl rfl Try.func16 (by kernel_rfl) rfl #[] rfl (by (try simp only [List.map_toArray, List.map_cons, List.map_nil]); first | done | rfl | (simp only [List.length_drop, List.length_take]; rfl)) ?_; (with_reducible refine (gimbalref02_Empty.calls  t903 t904 _ A33.out).mono ?_); rintro e w34 ⟨rfl, hb⟩; refine ⟨_, rfl, ?_⟩; have n0_ := Aside0.mk (below_step (by repeat (first | (with_reducible first | exact HB.out | apply below_alloc | apply pw_below_drewN | apply below_drew1 | refine below_set ?_ GE894.out | refine below_set ?_ GE895.out | refine below_set ?_ GE896.out) | exact HB.out)) hb); replace BK894 := bbw BK894 hb; replace BK895 := bbw BK895 hb; replace BK896 := bbw BK896 hb; clear HB; have HB := n0_; clear n0_; (try clear hb); (try clear hb2); (try clear hk); (try clear hi); have hnb35 := NB896_894.out; have hnc35 := NB894_896.out; have hnb36 := NB896_895.out; have hnc36 := NB895_896.out; have hcz37_0 : w34.cell? ⟨gb896, 0, none⟩ = some (.int .i64 0) := (blk_cell BK896.out 0).trans rfl; have hcz37_1 : w34.cell? ⟨gb896, 1, none⟩ = some (.int .i64 0) := (blk_cell BK896.out 1).trans rfl; have hfz37_0 := blk_frozen BK896.out 0; have hfz37_1 := blk_frozen BK896.out 1))
     refine bodyPost_ret (results_cell_row rfl _ _ gb896 23 #[.int .i64 t903, .int .i64 t904] (0, 0) _ rfl (by (with_reducible repeat (first | refine blk_drewN ?_ _ | refine blk_drew ?_ | refine blk_alloc ?_ _)); refine blk_put (cs := #[.int .i64 t903, .int .i64 0]) ?_ 1 _ (by first | rfl | (subst_vars; rfl)); (with_reducible repeat (first | refine blk_drewN ?_ _ | refine blk_drew ?_ | refine blk_alloc ?_ _)); refine blk_put (cs := #[.int .i64 0, .int .i64 0]) ?_ 0 _ (by first | rfl | (subst_vars; rfl)); (with_reducible repeat (first | refine blk_drewN ?_ _ | refine blk_drew ?_ | refine blk_alloc ?_ _)); exact BK896.out) Try.underlying23 rfl (by kernel_rfl)) rfl ?_
     exact ⟨by first | rfl | (simp [errW_none, errW_some] <;> rfl) | (simp [*, errW_none, errW_some] <;> rfl) | kernel_rfl, by repeat (first | (with_reducible first | exact HB.out | apply below_alloc | apply pw_below_drewN | apply below_drew1 | refine below_set ?_ GE894.out | refine below_set ?_ GE895.out | refine below_set ?_ GE896.out) | exact HB.out)⟩
    ·
     replace c32 := Bool.eq_false_iff.mpr c32
     subst c32
     have H1 : ((gimbalref01_Down.f kj4 t897 t899).bind fun t905 => ((gimbalref01_Up.f kj4 t898 t900).bind fun t906 => ((gimbalref02_Of.f kj4 t905 t906).bind fun bt907 => (some (bt907.1, bt907.2))))) = some (r1, r2) := by rw [if_neg (show ¬ (false = true) by decide)] at H; exact H
     clear H
     have H := H1
     clear H1
     replace H := Option.bind_eq_some_iff.mp H
     obtain ⟨t905, A380, H⟩ := H
     replace H : ((gimbalref01_Up.f kj4 t898 t900).bind fun t906 => ((gimbalref02_Of.f kj4 t905 t906).bind fun bt907 => (some (bt907.1, bt907.2)))) = some (r1, r2) := H
     have A38 := Aside0.mk A380
     clear A380
     replace H := Option.bind_eq_some_iff.mp H
     obtain ⟨t906, A390, H⟩ := H
     replace H : ((gimbalref02_Of.f kj4 t905 t906).bind fun bt907 => (some (bt907.1, bt907.2))) = some (r1, r2) := H
     have A39 := Aside0.mk A390
     clear A390
     replace H := Option.bind_eq_some_iff.mp H
     obtain ⟨⟨t907, t908⟩, A400, H⟩ := H
     replace H : (some (t907, t908)) = some (r1, r2) := H
     have A40 := Aside0.mk A400
     clear A400
     simp only [Option.some.injEq, Prod.mk.injEq] at H
     obtain ⟨rfl, rfl⟩ := H
     try go_wp2
     have n0_ := Aside0.mk (blk_drew BK894.out)
     have n1_ := Aside0.mk (blk_drew BK895.out)
     have n2_ := Aside0.mk (blk_drew BK896.out)
     have n3_ := Aside0.mk (below_drew1 HB.out)
     clear BK894
     clear BK895
     clear BK896
     clear HB
     have BK894 := n0_
     have BK895 := n1_
     have BK896 := n2_
     have HB := n3_
     clear n0_ n1_ n2_ n3_
     refine start_ (n := 12) (S := fun w' => w'.cell? ⟨gb894, 0, none⟩ = some (.int .i64 t897) ∧ w'.cell? ⟨gb894, 1, none⟩ = some (.int .i64 t898) ∧ w'.cell? ⟨gb895, 0, none⟩ = some (.int .i64 t899) ∧ w'.cell? ⟨gb895, 1, none⟩ = some (.int .i64 t900)) (ds := []) #[false, false, false, false, false, false, false, false, false, false, false, false] (by kernel_rfl) rfl rfl ⟨(blk_cell BK894.out 0).trans rfl, (blk_cell BK894.out 1).trans rfl, (blk_cell BK895.out 0).trans rfl, (blk_cell BK895.out 1).trans rfl⟩ (fun hHeld => ?_); refine with_tabW gimbalref02_Add.tab5 gimbalref02_Add.bits5 (fun HT_ HW_ => ?_)
     generalize wc.drew = w41 at BK894 BK895 BK896 HB hHeld ⊢
     refine pure_ (i := 0) (N := some 16) (v := ?_) (a' := ?_) #[true, false, false, false, false, false, false, false, false, false, false, false] rfl rfl (any_of HT_.out (by kernel_rfl)) (fun _ _ _ h => h) (Or.inl ⟨by rfl, ?_⟩) ?_ ?_
     rotate_left
     ·
      intro w'
      go_simp
      with_reducible rfl
     rotate_left
     ·
      simp only [Act.put, List.setIfInBounds_toArray, List.set_cons_zero, List.set_cons_succ, i64_w, i32_w]
      rfl
     refine pure_ (i := 2) (N := some 18) (v := ?_) (a' := ?_) #[true, false, true, false, false, false, false, false, false, false, false, false] rfl rfl (any_of HT_.out (by kernel_rfl)) (fun _ _ _ h => h) (Or.inl ⟨by rfl, ?_⟩) ?_ ?_
     rotate_left
     ·
      intro w'
      go_simp
      with_reducible rfl
     rotate_left
     ·
      simp only [Act.put, List.setIfInBounds_toArray, List.set_cons_zero, List.set_cons_succ, i64_w, i32_w]
      rfl
     refine pure_ (i := 5) (N := some 21) (v := ?_) (a' := ?_) #[true, false, true, false, false, true, false, false, false, false, false, false] rfl rfl (any_of HT_.out (by kernel_rfl)) (fun _ _ _ h => h) (Or.inl ⟨by rfl, ?_⟩) ?_ ?_
     rotate_left
     ·
      intro w'
      go_simp
      with_reducible rfl
     rotate_left
     ·
      simp only [Act.put, List.setIfInBounds_toArray, List.set_cons_zero, List.set_cons_succ, i64_w, i32_w]
      rfl
     refine pure_ (i := 7) (N := some 23) (v := ?_) (a' := ?_) #[true, false, true, false, false, true, false, true, false, false, false, false] rfl rfl (any_of HT_.out (by kernel_rfl)) (fun _ _ _ h => h) (Or.inl ⟨by rfl, ?_⟩) ?_ ?_
     rotate_left
     ·
      intro w'
      go_simp
      with_reducible rfl
     rotate_left
     ·
      simp only [Act.put, List.setIfInBounds_toArray, List.set_cons_zero, List.set_cons_succ, i64_w, i32_w]
      rfl
     refine take_ (i := 1) (N := some 17) (v := ?_) (a' := ?_) #[true, true, true, false, false, true, false, true, false, false, false, false] rfl rfl (take_ofW HT_.out HW_.out (by kernel_rfl)) (fun _ _ _ h => h) (Or.inl ⟨by rfl, ?_⟩) hHeld ?_ ?_
     rotate_left
     ·
      rintro w' ⟨s0, s1, s2, s3⟩
      go_simp
      with_reducible rfl
     rotate_left
     ·
      simp only [Act.put, List.setIfInBounds_toArray, List.set_cons_zero, List.set_cons_succ, i64_w, i32_w]
      rfl
     refine take_ (i := 3) (N := some 19) (v := ?_) (a' := ?_) #[true, true, true, true, false, true, false, true, false, false, false, false] rfl rfl (take_ofW HT_.out HW_.out (by kernel_rfl)) (fun _ _ _ h => h) (Or.inl ⟨by rfl, ?_⟩) hHeld ?_ ?_
     rotate_left
     ·
      rintro w' ⟨s0, s1, s2, s3⟩
      go_simp
      with_reducible rfl
     rotate_left
     ·
      simp only [Act.put, List.setIfInBounds_toArray, List.set_cons_zero, List.set_cons_succ, i64_w, i32_w]
      rfl
     refine take_ (i := 6) (N := some 22) (v := ?_) (a' := ?_) #[true, true, true, true, false, true, true, true, false, false, false, false] rfl rfl (take_ofW HT_.out HW_.out (by kernel_rfl)) (fun _ _ _ h => h) (Or.inl ⟨by rfl, ?_⟩) hHeld ?_ ?_
     rotate_left
     ·
      rintro w' ⟨s0, s1, s2, s3⟩
      go_simp
      with_reducible rfl
     rotate_left
     ·
      simp only [Act.put, List.setIfInBounds_toArray, List.set_cons_zero, List.set_cons_succ, i64_w, i32_w]
      rfl
     refine take_ (i := 8) (N := some 24) (v := ?_) (a' := ?_) #[true, true, true, true, false, true, true, true, true, false, false, false] rfl rfl (take_ofW HT_.out HW_.out (by kernel_rfl)) (fun _ _ _ h => h) (Or.inl ⟨by rfl, ?_⟩) hHeld ?_ ?_
     rotate_left
     ·
      rintro w' ⟨s0, s1, s2, s3⟩
      go_simp
      with_reducible rfl
     rotate_left
     ·
      simp only [Act.put, List.setIfInBounds_toArray, List.set_cons_zero, List.set_cons_succ, i64_w, i32_w]
      rfl
     refine one_ (i := 4) (N := some 20) #[true, true, true, true, true, true, true, true, true, false, false, false] rfl rfl (one_of HT_.out (by kernel_rfl)) (by decide) (fun K hK => ?_)
     refine goes_ Try.func86 (by kernel_rfl) rfl #[.int .i64 t897, .int .i64 t899] (by rfl) rfl rfl (by (try simp only [List.map_toArray, List.map_cons, List.map_nil]); first | done | rfl | (simp only [List.length_drop, List.length_take]; rfl)) ?_
     with_reducible refine (gimbalref01_Down.calls kj4 t897 t899 t905 _ A38.out).mono ?_
     rintro e w' ⟨rfl, ⟨nd, rfl⟩⟩
     refine ⟨_, rfl, ?_⟩
     refine hK.out _ _ ⟨(blk_cell BK894.out 0).trans rfl, (blk_cell BK894.out 1).trans rfl, (blk_cell BK895.out 0).trans rfl, (blk_cell BK895.out 1).trans rfl⟩ (fun hHeld => ?_)
     clear hK K
     refine norm_ (a' := ?_) ?_ ?_
     rotate_left
     ·
      show Act.put _ (some 20) _ = _
      simp only [Act.put, List.setIfInBounds_toArray, List.set_cons_zero, List.set_cons_succ, i64_w, i32_w]
      rfl
     refine one_ (i := 9) (N := some 25) #[true, true, true, true, true, true, true, true, true, true, false, false] rfl rfl (one_of HT_.out (by kernel_rfl)) (by decide) (fun K hK => ?_)
     refine goes_ Try.func87 (by kernel_rfl) rfl #[.int .i64 t898, .int .i64 t900] (by rfl) rfl rfl (by (try simp only [List.map_toArray, List.map_cons, List.map_nil]); first | done | rfl | (simp only [List.length_drop, List.length_take]; rfl)) ?_
     with_reducible refine (gimbalref01_Up.calls kj4 t898 t900 t906 _ A39.out).mono ?_
     rintro e w' ⟨rfl, ⟨nd, rfl⟩⟩
     refine ⟨_, rfl, ?_⟩
     refine hK.out _ _ ⟨(blk_cell BK894.out 0).trans rfl, (blk_cell BK894.out 1).trans rfl, (blk_cell BK895.out 0).trans rfl, (blk_cell BK895.out 1).trans rfl⟩ (fun hHeld => ?_)
     clear hK K
     refine norm_ (a' := ?_) ?_ ?_
     rotate_left
     ·
      show Act.put _ (some 25) _ = _
      simp only [Act.put, List.setIfInBounds_toArray, List.set_cons_zero, List.set_cons_succ, i64_w, i32_w]
      rfl
     refine one_ (i := 10) (N := some 26) #[true, true, true, true, true, true, true, true, true, true, true, false] rfl rfl (one_of HT_.out (by kernel_rfl)) (by decide) (fun K hK => ?_)
     refine goes_ Try.func14 (by kernel_rfl) rfl #[.int .i64 t905, .int .i64 t906] (by rfl) rfl rfl (by (try simp only [List.map_toArray, List.map_cons, List.map_nil]); first | done | rfl | (simp only [List.length_drop, List.length_take]; rfl)) ?_
     with_reducible refine (gimbalref02_Of.calls kj4 t905 t906 t907 t908 _ A40.out).mono ?_
     rintro e w42 ⟨rfl, hb⟩
     refine ⟨_, rfl, ?_⟩
     have n0_ := Aside0.mk (below_step (by repeat (first | (with_reducible first | exact HB.out | apply below_alloc | apply pw_below_drewN | apply below_drew1 | refine below_set ?_ GE894.out | refine below_set ?_ GE895.out | refine below_set ?_ GE896.out) | exact HB.out)) hb)
     replace BK894 := bbw BK894 hb
     replace BK895 := bbw BK895 hb
     replace BK896 := bbw BK896 hb
     clear HB
     have HB := n0_
     clear n0_
     (try clear hb)
     (try clear hb2)
     (try clear hk)
     (try clear hi)
     refine hK.out _ _ ⟨(blk_cell BK894.out 0).trans rfl, (blk_cell BK894.out 1).trans rfl, (blk_cell BK895.out 0).trans rfl, (blk_cell BK895.out 1).trans rfl⟩ (fun hHeld => ?_)
     clear hK K
     refine norm_ (a' := ?_) ?_ ?_
     rotate_left
     ·
      show Act.put _ (some 26) _ = _
      simp only [Act.put, List.setIfInBounds_toArray, List.set_cons_zero, List.set_cons_succ, i64_w, i32_w]
      rfl
     refine one_ (i := 11) (N := none) #[true, true, true, true, true, true, true, true, true, true, true, true] rfl rfl (one_of HT_.out (by kernel_rfl)) (by decide) (fun K hK => ?_)
     have hs43 : w42.cell? ⟨gb896, 0, none⟩ = some (.int .i64 0) := (blk_cell BK896.out 0).trans rfl
     have hfs43 := blk_frozen BK896.out 0
     have hns43_0 := NB894_896.out
     have hns43_1 := NB895_896.out
     have hms43_0 := NB896_894.out
     have hms43_1 := NB896_895.out
     have hs44 : w42.cell? ⟨gb896, 1, none⟩ = some (.int .i64 0) := (blk_cell BK896.out 1).trans rfl
     have hfs44 := blk_frozen BK896.out 1
     have hns44_0 := NB894_896.out
     have hns44_1 := NB895_896.out
     have hms44_0 := NB896_894.out
     have hms44_1 := NB896_895.out
     refine skip_ (w1 := ?_) (by rfl) rfl ?_ ?_
     rotate_left
     ·
      go_simp
      rfl
     refine hK.out _ _ ⟨((cell_far (p := ⟨gb896, _, none⟩) NB894_896.out _).trans (((cell_far (p := ⟨gb896, _, none⟩) NB894_896.out _).trans (hHeld.1)))), ((cell_far (p := ⟨gb896, _, none⟩) NB894_896.out _).trans (((cell_far (p := ⟨gb896, _, none⟩) NB894_896.out _).trans (hHeld.2.1)))), ((cell_far (p := ⟨gb896, _, none⟩) NB895_896.out _).trans (((cell_far (p := ⟨gb896, _, none⟩) NB895_896.out _).trans (hHeld.2.2.1)))), ((cell_far (p := ⟨gb896, _, none⟩) NB895_896.out _).trans (((cell_far (p := ⟨gb896, _, none⟩) NB895_896.out _).trans (hHeld.2.2.2))))⟩ (fun hHeld => ?_)
     clear hK K
     refine done_ (done_of HT_.out (by kernel_rfl)) ?_
     try go_wp2
     refine bodyPost_ret (results_cell_row rfl _ _ gb896 23 #[.int .i64 t907, .int .i64 t908] (0, 0) _ rfl (by (with_reducible repeat (first | refine blk_drewN ?_ _ | refine blk_drew ?_ | refine blk_alloc ?_ _)); refine blk_put (cs := #[.int .i64 t907, .int .i64 0]) ?_ 1 _ (by first | rfl | (subst_vars; rfl)); (with_reducible repeat (first | refine blk_drewN ?_ _ | refine blk_drew ?_ | refine blk_alloc ?_ _)); refine blk_put (cs := #[.int .i64 0, .int .i64 0]) ?_ 0 _ (by first | rfl | (subst_vars; rfl)); (with_reducible repeat (first | refine blk_drewN ?_ _ | refine blk_drew ?_ | refine blk_alloc ?_ _)); exact BK896.out) Try.underlying23 rfl (by kernel_rfl)) rfl ?_
     exact ⟨by first | rfl | (simp [errW_none, errW_some] <;> rfl) | (simp [*, errW_none, errW_some] <;> rfl) | kernel_rfl, by repeat (first | (with_reducible first | exact HB.out | apply below_alloc | apply pw_below_drewN | apply below_drew1 | refine below_set ?_ GE894.out | refine below_set ?_ GE895.out | refine below_set ?_ GE896.out) | exact HB.out)⟩
def gimbalref02_Neg.f (k : Nat) (a0_0 : Int) (a0_1 : Int) : Option (Int × Int) := (gimbalref02_norm.f k a0_0 a0_1).bind fun bt911 => ((gimbalref02_None.f bt911.1 bt911.2).bind fun t913 => (if t913 = true then (some (bt911.1, bt911.2)) else ((gimbalref02_Of.f k (wrap64 (-bt911.2)) (wrap64 (-bt911.1))).bind fun bt914 => (some (bt914.1, bt914.2)))))
set_option maxHeartbeats 8000000 in
set_option maxRecDepth 100000 in
theorem gimbalref02_Neg.calls (k : Nat) (a0_0 : Int) (a0_1 : Int) (r1 : Int) (r2 : Int) (w : World) (h : gimbalref02_Neg.f k a0_0 a0_1 = some (r1, r2)) :
    Calls Try.prog 51 #[.agg #[.int .i64 a0_0, .int .i64 a0_1]] w fun e w' => e = .returned (.agg #[.int .i64 r1, .int .i64 r2]) ∧ Below w.heap.size w w' := by
  have hu23 := Try.underlying23
  have HB := Aside0.mk (Below.refl w.heap.size w)
  have H : ((gimbalref02_norm.f k a0_0 a0_1).bind fun bt911 => ((gimbalref02_None.f bt911.1 bt911.2).bind fun t913 => (if t913 = true then (some (bt911.1, bt911.2)) else ((gimbalref02_Of.f k (wrap64 (-bt911.2)) (wrap64 (-bt911.1))).bind fun bt914 => (some (bt914.1, bt914.2)))))) = some (r1, r2) := h
  clear h
  replace H := Option.bind_eq_some_iff.mp H
  obtain ⟨⟨t911, t912⟩, A20, H⟩ := H
  replace H : ((gimbalref02_None.f t911 t912).bind fun t913 => (if t913 = true then (some (t911, t912)) else ((gimbalref02_Of.f k (wrap64 (-t912)) (wrap64 (-t911))).bind fun bt914 => (some (bt914.1, bt914.2))))) = some (r1, r2) := H
  have A2 := Aside0.mk A20
  clear A20
  replace H := Option.bind_eq_some_iff.mp H
  obtain ⟨t913, A30, H⟩ := H
  replace H : (if t913 = true then (some (t911, t912)) else ((gimbalref02_Of.f k (wrap64 (-t912)) (wrap64 (-t911))).bind fun bt914 => (some (bt914.1, bt914.2)))) = some (r1, r2) := H
  have A3 := Aside0.mk A30
  clear A30
  by_cases c4 : t913 = true
  ·
   subst c4
   have H1 : (some (t911, t912)) = some (r1, r2) := by rw [if_pos rfl] at H; exact H
   clear H
   have H := H1
   clear H1
   simp only [Option.some.injEq, Prod.mk.injEq] at H
   obtain ⟨rfl, rfl⟩ := H
   go_enter Try.func51, Try.ntmps51
   go_wp2_with (first | ((with_reducible refine gate_dst (N := 1) rfl ?_); refine box_event ?hg (N := 1) ?hd (cs := #[.int .i64 a0_0, .int .i64 a0_1]) (t := 23) ?hr ?_; (case hd => rfl); (case hg => rfl); (case hr => first | (go_simp; done) | (go_simp; rfl)); intro gb909 hg w5 hbox hb; have n0_ := Aside0.mk (below_step (by repeat (first | (with_reducible first | exact HB.out | apply below_alloc | apply pw_below_drewN | apply below_drew1) | exact HB.out)) hb); have n1_ := Aside0.mk (hbox); have n2_ := Aside0.mk ((by rw [hg]; exact (below_size (by repeat (first | (with_reducible first | exact HB.out | apply below_alloc | apply pw_below_drewN | apply below_drew1) | exact HB.out))) : w.heap.size ≤ gb909)); have n3_ := Aside0.mk ((by rw [hg]; exact (below_size (by repeat (first | (with_reducible first | exact HB.out | apply below_alloc | apply pw_below_drewN | apply below_drew1) | exact HB.out))) : w.heap.size ≤ gb909)); clear HB; have HB := n0_; have BK909 := n1_; have GW909 := n2_; have GE909 := n3_; clear n0_ n1_ n2_ n3_; clear hb hbox hg) | ((with_reducible refine gate_dst (N := 2) rfl ?_); refine box_event ?hg (N := 2) ?hd (cs := #[.int .i64 0, .int .i64 0]) (t := 23) ?hr ?_; (case hd => rfl); (case hg => rfl); (case hr => first | (go_simp; done) | (go_simp; rfl)); intro gb910 hg w6 hbox hb; have n0_ := Aside0.mk (below_step (by repeat (first | (with_reducible first | exact HB.out | apply below_alloc | apply pw_below_drewN | apply below_drew1 | refine below_set ?_ GE909.out) | exact HB.out)) hb); have n1_ := Aside0.mk (hbox); have n2_ := Aside0.mk ((by rw [hg]; exact (below_size (by repeat (first | (with_reducible first | exact HB.out | apply below_alloc | apply pw_below_drewN | apply below_drew1 | refine below_set ?_ GE909.out) | exact HB.out))) : w.heap.size ≤ gb910)); have n3_ := Aside0.mk ((by rw [hg]; exact (below_size (by repeat (first | (with_reducible first | exact HB.out | apply below_alloc | apply pw_below_drewN | apply below_drew1 | refine below_set ?_ GE909.out) | exact HB.out))) : w.heap.size ≤ gb910)); have n4_ := Aside0.mk ((by rw [hg]; exact Nat.ne_of_lt (blk_lt (g := gb909) (o := .cells #[.int .i64 a0_0, .int .i64 a0_1] 23 (0, 0)) (pk BK909.out)) : gb909 ≠ gb910)); have n5_ := Aside0.mk ((by rw [hg]; exact Nat.ne_of_gt (blk_lt (g := gb909) (o := .cells #[.int .i64 a0_0, .int .i64 a0_1] 23 (0, 0)) (pk BK909.out)) : gb910 ≠ gb909)); replace BK909 := bbw BK909 hb; clear HB; have HB := n0_; have BK910 := n1_; have GW910 := n2_; have GE910 := n3_; have NB909_910 := n4_; have NB910_909 := n5_; clear n0_ n1_ n2_ n3_ n4_ n5_; clear hb hbox hg; have hnb7 := NB909_910.out; have hnc7 := NB910_909.out; have hcz8_0 : w6.cell? ⟨gb909, 0, none⟩ = some (.int .i64 a0_0) := (blk_cell BK909.out 0).trans rfl; have hcz8_1 : w6.cell? ⟨gb909, 1, none⟩ = some (.int .i64 a0_1) := (blk_cell BK909.out 1).trans rfl; have hfz8_0 := blk_frozen BK909.out 0; have hfz8_1 := blk_frozen BK909.out 1) | ((with_reducible refine gate_callee (f := 60) rfl ?_); refine goesL_ (some 4) rfl rfl Try.func60 (by kernel_rfl) rfl #[.agg #[.int .i64 a0_0, .int .i64 a0_1]] rfl (by (try simp only [List.map_toArray, List.map_cons, List.map_nil]); first | done | rfl | (simp only [List.length_drop, List.length_take]; rfl)) ?_; (with_reducible refine (gimbalref02_norm.calls k a0_0 a0_1 t911 t912 _ A2.out).mono ?_); rintro e w9 ⟨rfl, hb⟩; refine ⟨_, rfl, ?_⟩; have n0_ := Aside0.mk (below_step (by repeat (first | (with_reducible first | exact HB.out | apply below_alloc | apply pw_below_drewN | apply below_drew1 | refine below_set ?_ GE909.out | refine below_set ?_ GE910.out) | exact HB.out)) hb); replace BK909 := bbw BK909 hb; replace BK910 := bbw BK910 hb; clear HB; have HB := n0_; clear n0_; (try clear hb); (try clear hb2); (try clear hk); (try clear hi); have hcz10_0 : w9.cell? ⟨gb909, 0, none⟩ = some (.int .i64 a0_0) := (blk_cell BK909.out 0).trans rfl; have hcz10_1 : w9.cell? ⟨gb909, 1, none⟩ = some (.int .i64 a0_1) := (blk_cell BK909.out 1).trans rfl; have hfz10_0 := blk_frozen BK909.out 0; have hfz10_1 := blk_frozen BK909.out 1) | ((with_reducible refine gate_callee (f := 61) rfl ?_); refine goesL_ (some 6) rfl rfl Try.func61 (by kernel_rfl) rfl #[.agg #[.int .i64 t911, .int .i64 t912]] rfl (by (try simp only [List.map_toArray, List.map_cons, List.map_nil]); first | done | rfl | (simp only [List.length_drop, List.length_take]; rfl)) ?_; (with_reducible refine (gimbalref02_None.calls t911 t912 true _ A3.out).mono ?_); rintro e w11 ⟨rfl, hb⟩; refine ⟨_, rfl, ?_⟩; have n0_ := Aside0.mk (blk_below (g := gb909) (o := .cells #[.int .i64 t911, .int .i64 t912] 23 (0, 0)) (by (with_reducible repeat (first | refine blk_drewN ?_ _ | refine blk_drew ?_ | refine blk_alloc ?_ _)); refine blk_put (cs := #[.int .i64 t911, .int .i64 a0_1]) ?_ 1 _ (by first | rfl | (subst_vars; rfl)); (with_reducible repeat (first | refine blk_drewN ?_ _ | refine blk_drew ?_ | refine blk_alloc ?_ _)); refine blk_put (cs := #[.int .i64 a0_0, .int .i64 a0_1]) ?_ 0 _ (by first | rfl | (subst_vars; rfl)); (with_reducible repeat (first | refine blk_drewN ?_ _ | refine blk_drew ?_ | refine blk_alloc ?_ _)); exact BK909.out) hb); have n1_ := Aside0.mk (blk_below (g := gb910) (o := .cells #[.int .i64 0, .int .i64 0] 23 (0, 0)) (by (with_reducible repeat (first | refine blk_drewN ?_ _ | refine blk_drew ?_ | refine blk_alloc ?_ _)); refine blk_far ?_ NB910_909.out _; (with_reducible repeat (first | refine blk_drewN ?_ _ | refine blk_drew ?_ | refine blk_alloc ?_ _)); refine blk_far ?_ NB910_909.out _; (with_reducible repeat (first | refine blk_drewN ?_ _ | refine blk_drew ?_ | refine blk_alloc ?_ _)); exact BK910.out) hb); have n2_ := Aside0.mk (below_step (by repeat (first | (with_reducible first | exact HB.out | apply below_alloc | apply pw_below_drewN | apply below_drew1 | refine below_set ?_ GE909.out | refine below_set ?_ GE910.out) | exact HB.out)) hb); clear BK909; clear BK910; clear HB; have BK909 := n0_; have BK910 := n1_; have HB := n2_; clear n0_ n1_ n2_; (try clear hb); (try clear hb2); (try clear hk); (try clear hi); have hcz12_0 : w11.cell? ⟨gb909, 0, none⟩ = some (.int .i64 t911) := (blk_cell BK909.out 0).trans rfl; have hcz12_1 : w11.cell? ⟨gb909, 1, none⟩ = some (.int .i64 t912) := (blk_cell BK909.out 1).trans rfl; have hfz12_0 := blk_frozen BK909.out 0; have hfz12_1 := blk_frozen BK909.out 1; have hcz13_0 : w11.cell? ⟨gb910, 0, none⟩ = some (.int .i64 0) := (blk_cell BK910.out 0).trans rfl; have hcz13_1 : w11.cell? ⟨gb910, 1, none⟩ = some (.int .i64 0) := (blk_cell BK910.out 1).trans rfl; have hfz13_0 := blk_frozen BK910.out 0; have hfz13_1 := blk_frozen BK910.out 1))
   refine bodyPost_ret (results_cell_row rfl _ _ gb910 23 #[.int .i64 t911, .int .i64 t912] (0, 0) _ rfl (by (with_reducible repeat (first | refine blk_drewN ?_ _ | refine blk_drew ?_ | refine blk_alloc ?_ _)); refine blk_put (cs := #[.int .i64 t911, .int .i64 0]) ?_ 1 _ (by first | rfl | (subst_vars; rfl)); (with_reducible repeat (first | refine blk_drewN ?_ _ | refine blk_drew ?_ | refine blk_alloc ?_ _)); refine blk_put (cs := #[.int .i64 0, .int .i64 0]) ?_ 0 _ (by first | rfl | (subst_vars; rfl)); (with_reducible repeat (first | refine blk_drewN ?_ _ | refine blk_drew ?_ | refine blk_alloc ?_ _)); exact BK910.out) Try.underlying23 rfl (by kernel_rfl)) rfl ?_
   exact ⟨by first | rfl | (simp [errW_none, errW_some] <;> rfl) | (simp [*, errW_none, errW_some] <;> rfl) | kernel_rfl, by repeat (first | (with_reducible first | exact HB.out | apply below_alloc | apply pw_below_drewN | apply below_drew1 | refine below_set ?_ GE909.out | refine below_set ?_ GE910.out) | exact HB.out)⟩
  ·
   replace c4 := Bool.eq_false_iff.mpr c4
   subst c4
   have H1 : ((gimbalref02_Of.f k (wrap64 (-t912)) (wrap64 (-t911))).bind fun bt914 => (some (bt914.1, bt914.2))) = some (r1, r2) := by rw [if_neg (show ¬ (false = true) by decide)] at H; exact H
   clear H
   have H := H1
   clear H1
   replace H := Option.bind_eq_some_iff.mp H
   obtain ⟨⟨t914, t915⟩, A140, H⟩ := H
   replace H : (some (t914, t915)) = some (r1, r2) := H
   have A14 := Aside0.mk A140
   clear A140
   simp only [Option.some.injEq, Prod.mk.injEq] at H
   obtain ⟨rfl, rfl⟩ := H
   go_enter Try.func51, Try.ntmps51
   go_wp2_with (first | ((with_reducible refine gate_dst (N := 1) rfl ?_); refine box_event ?hg (N := 1) ?hd (cs := #[.int .i64 a0_0, .int .i64 a0_1]) (t := 23) ?hr ?_; (case hd => rfl); (case hg => rfl); (case hr => first | (go_simp; done) | (go_simp; rfl)); intro gb909 hg w15 hbox hb; have n0_ := Aside0.mk (below_step (by repeat (first | (with_reducible first | exact HB.out | apply below_alloc | apply pw_below_drewN | apply below_drew1) | exact HB.out)) hb); have n1_ := Aside0.mk (hbox); have n2_ := Aside0.mk ((by rw [hg]; exact (below_size (by repeat (first | (with_reducible first | exact HB.out | apply below_alloc | apply pw_below_drewN | apply below_drew1) | exact HB.out))) : w.heap.size ≤ gb909)); have n3_ := Aside0.mk ((by rw [hg]; exact (below_size (by repeat (first | (with_reducible first | exact HB.out | apply below_alloc | apply pw_below_drewN | apply below_drew1) | exact HB.out))) : w.heap.size ≤ gb909)); clear HB; have HB := n0_; have BK909 := n1_; have GW909 := n2_; have GE909 := n3_; clear n0_ n1_ n2_ n3_; clear hb hbox hg) | ((with_reducible refine gate_dst (N := 2) rfl ?_); refine box_event ?hg (N := 2) ?hd (cs := #[.int .i64 0, .int .i64 0]) (t := 23) ?hr ?_; (case hd => rfl); (case hg => rfl); (case hr => first | (go_simp; done) | (go_simp; rfl)); intro gb910 hg w16 hbox hb; have n0_ := Aside0.mk (below_step (by repeat (first | (with_reducible first | exact HB.out | apply below_alloc | apply pw_below_drewN | apply below_drew1 | refine below_set ?_ GE909.out) | exact HB.out)) hb); have n1_ := Aside0.mk (hbox); have n2_ := Aside0.mk ((by rw [hg]; exact (below_size (by repeat (first | (with_reducible first | exact HB.out | apply below_alloc | apply pw_below_drewN | apply below_drew1 | refine below_set ?_ GE909.out) | exact HB.out))) : w.heap.size ≤ gb910)); have n3_ := Aside0.mk ((by rw [hg]; exact (below_size (by repeat (first | (with_reducible first | exact HB.out | apply below_alloc | apply pw_below_drewN | apply below_drew1 | refine below_set ?_ GE909.out) | exact HB.out))) : w.heap.size ≤ gb910)); have n4_ := Aside0.mk ((by rw [hg]; exact Nat.ne_of_lt (blk_lt (g := gb909) (o := .cells #[.int .i64 a0_0, .int .i64 a0_1] 23 (0, 0)) (pk BK909.out)) : gb909 ≠ gb910)); have n5_ := Aside0.mk ((by rw [hg]; exact Nat.ne_of_gt (blk_lt (g := gb909) (o := .cells #[.int .i64 a0_0, .int .i64 a0_1] 23 (0, 0)) (pk BK909.out)) : gb910 ≠ gb909)); replace BK909 := bbw BK909 hb; clear HB; have HB := n0_; have BK910 := n1_; have GW910 := n2_; have GE910 := n3_; have NB909_910 := n4_; have NB910_909 := n5_; clear n0_ n1_ n2_ n3_ n4_ n5_; clear hb hbox hg; have hnb17 := NB909_910.out; have hnc17 := NB910_909.out; have hcz18_0 : w16.cell? ⟨gb909, 0, none⟩ = some (.int .i64 a0_0) := (blk_cell BK909.out 0).trans rfl; have hcz18_1 : w16.cell? ⟨gb909, 1, none⟩ = some (.int .i64 a0_1) := (blk_cell BK909.out 1).trans rfl; have hfz18_0 := blk_frozen BK909.out 0; have hfz18_1 := blk_frozen BK909.out 1) | ((with_reducible refine gate_callee (f := 60) rfl ?_); refine goesL_ (some 4) rfl rfl Try.func60 (by kernel_rfl) rfl #[.agg #[.int .i64 a0_0, .int .i64 a0_1]] rfl (by (try simp only [List.map_toArray, List.map_cons, List.map_nil]); first | done | rfl | (simp only [List.length_drop, List.length_take]; rfl)) ?_; (with_reducible refine (gimbalref02_norm.calls k a0_0 a0_1 t911 t912 _ A2.out).mono ?_); rintro e w19 ⟨rfl, hb⟩; refine ⟨_, rfl, ?_⟩; have n0_ := Aside0.mk (below_step (by repeat (first | (with_reducible first | exact HB.out | apply below_alloc | apply pw_below_drewN | apply below_drew1 | refine below_set ?_ GE909.out | refine below_set ?_ GE910.out) | exact HB.out)) hb); replace BK909 := bbw BK909 hb; replace BK910 := bbw BK910 hb; clear HB; have HB := n0_; clear n0_; (try clear hb); (try clear hb2); (try clear hk); (try clear hi); have hcz20_0 : w19.cell? ⟨gb909, 0, none⟩ = some (.int .i64 a0_0) := (blk_cell BK909.out 0).trans rfl; have hcz20_1 : w19.cell? ⟨gb909, 1, none⟩ = some (.int .i64 a0_1) := (blk_cell BK909.out 1).trans rfl; have hfz20_0 := blk_frozen BK909.out 0; have hfz20_1 := blk_frozen BK909.out 1) | ((with_reducible refine gate_callee (f := 61) rfl ?_); refine goesL_ (some 6) rfl rfl Try.func61 (by kernel_rfl) rfl #[.agg #[.int .i64 t911, .int .i64 t912]] rfl (by (try simp only [List.map_toArray, List.map_cons, List.map_nil]); first | done | rfl | (simp only [List.length_drop, List.length_take]; rfl)) ?_; (with_reducible refine (gimbalref02_None.calls t911 t912 false _ A3.out).mono ?_); rintro e w21 ⟨rfl, hb⟩; refine ⟨_, rfl, ?_⟩; have n0_ := Aside0.mk (blk_below (g := gb909) (o := .cells #[.int .i64 t911, .int .i64 t912] 23 (0, 0)) (by (with_reducible repeat (first | refine blk_drewN ?_ _ | refine blk_drew ?_ | refine blk_alloc ?_ _)); refine blk_put (cs := #[.int .i64 t911, .int .i64 a0_1]) ?_ 1 _ (by first | rfl | (subst_vars; rfl)); (with_reducible repeat (first | refine blk_drewN ?_ _ | refine blk_drew ?_ | refine blk_alloc ?_ _)); refine blk_put (cs := #[.int .i64 a0_0, .int .i64 a0_1]) ?_ 0 _ (by first | rfl | (subst_vars; rfl)); (with_reducible repeat (first | refine blk_drewN ?_ _ | refine blk_drew ?_ | refine blk_alloc ?_ _)); exact BK909.out) hb); have n1_ := Aside0.mk (blk_below (g := gb910) (o := .cells #[.int .i64 0, .int .i64 0] 23 (0, 0)) (by (with_reducible repeat (first | refine blk_drewN ?_ _ | refine blk_drew ?_ | refine blk_alloc ?_ _)); refine blk_far ?_ NB910_909.out _; (with_reducible repeat (first | refine blk_drewN ?_ _ | refine blk_drew ?_ | refine blk_alloc ?_ _)); refine blk_far ?_ NB910_909.out _; (with_reducible repeat (first | refine blk_drewN ?_ _ | refine blk_drew ?_ | refine blk_alloc ?_ _)); exact BK910.out) hb); have n2_ := Aside0.mk (below_step (by repeat (first | (with_reducible first | exact HB.out | apply below_alloc | apply pw_below_drewN | apply below_drew1 | refine below_set ?_ GE909.out | refine below_set ?_ GE910.out) | exact HB.out)) hb); clear BK909; clear BK910; clear HB; have BK909 := n0_; have BK910 := n1_; have HB := n2_; clear n0_ n1_ n2_; (try clear hb); (try clear hb2); (try clear hk); (try clear hi); have hcz22_0 : w21.cell? ⟨gb909, 0, none⟩ = some (.int .i64 t911) := (blk_cell BK909.out 0).trans rfl; have hcz22_1 : w21.cell? ⟨gb909, 1, none⟩ = some (.int .i64 t912) := (blk_cell BK909.out 1).trans rfl; have hfz22_0 := blk_frozen BK909.out 0; have hfz22_1 := blk_frozen BK909.out 1) | ((with_reducible refine gate_callee (f := 14) rfl ?_); refine goesL_ (some 14) rfl rfl Try.func14 (by kernel_rfl) rfl #[.int .i64 (wrap64 (-t912)), .int .i64 (wrap64 (-t911))] rfl (by (try simp only [List.map_toArray, List.map_cons, List.map_nil]); first | done | rfl | (simp only [List.length_drop, List.length_take]; rfl)) ?_; (with_reducible refine (gimbalref02_Of.calls k (wrap64 (-t912)) (wrap64 (-t911)) t914 t915 _ A14.out).mono ?_); rintro e w23 ⟨rfl, hb⟩; refine ⟨_, rfl, ?_⟩; have n0_ := Aside0.mk (below_step (by repeat (first | (with_reducible first | exact HB.out | apply below_alloc | apply pw_below_drewN | apply below_drew1 | refine below_set ?_ GE909.out | refine below_set ?_ GE910.out) | exact HB.out)) hb); replace BK909 := bbw BK909 hb; replace BK910 := bbw BK910 hb; clear HB; have HB := n0_; clear n0_; (try clear hb); (try clear hb2); (try clear hk); (try clear hi); have hcz24_0 : w23.cell? ⟨gb910, 0, none⟩ = some (.int .i64 0) := (blk_cell BK910.out 0).trans rfl; have hcz24_1 : w23.cell? ⟨gb910, 1, none⟩ = some (.int .i64 0) := (blk_cell BK910.out 1).trans rfl; have hfz24_0 := blk_frozen BK910.out 0; have hfz24_1 := blk_frozen BK910.out 1))
   refine bodyPost_ret (results_cell_row rfl _ _ gb910 23 #[.int .i64 t914, .int .i64 t915] (0, 0) _ rfl (by (with_reducible repeat (first | refine blk_drewN ?_ _ | refine blk_drew ?_ | refine blk_alloc ?_ _)); refine blk_put (cs := #[.int .i64 t914, .int .i64 0]) ?_ 1 _ (by first | rfl | (subst_vars; rfl)); (with_reducible repeat (first | refine blk_drewN ?_ _ | refine blk_drew ?_ | refine blk_alloc ?_ _)); refine blk_put (cs := #[.int .i64 0, .int .i64 0]) ?_ 0 _ (by first | rfl | (subst_vars; rfl)); (with_reducible repeat (first | refine blk_drewN ?_ _ | refine blk_drew ?_ | refine blk_alloc ?_ _)); exact BK910.out) Try.underlying23 rfl (by kernel_rfl)) rfl ?_
   exact ⟨by first | rfl | (simp [errW_none, errW_some] <;> rfl) | (simp [*, errW_none, errW_some] <;> rfl) | kernel_rfl, by repeat (first | (with_reducible first | exact HB.out | apply below_alloc | apply pw_below_drewN | apply below_drew1 | refine below_set ?_ GE909.out | refine below_set ?_ GE910.out) | exact HB.out)⟩
end Go.Proofs.Ytbbnpipmjadpoaa.P
