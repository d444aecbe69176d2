/- What the law's proof needs of Px38. -/
import Derived.Test.YtbbnpipmjadpoaaTrRPx0
import Derived.Test.YtbbnpipmjadpoaaTrRPx2
import Derived.Test.YtbbnpipmjadpoaaTrRPx3
import Derived.Test.YtbbnpipmjadpoaaTrRPx7
import Derived.Test.YtbbnpipmjadpoaaTrRPx9
-- PRINTED by print.py (a twelfth state) out of the translation. Not trusted: Lean checks it.
namespace Go.Proofs.Ytbbnpipmjadpoaa.P
open Go.RowKit Go.Proofs.YtbbnpipmjadpoaaW.PrintWords Go.Proofs.YtbbnpipmjadpoaaW.PrintLast Go.Proofs.YtbbnpipmjadpoaaW.PrintMore Go.Proofs.YtbbnpipmjadpoaaO
attribute [local go_sem] max2_int min2_int max_two min_two max_three min_three max_four min_four   -- for this text's walks alone
set_option linter.unusedVariables false
set_option linter.unusedSimpArgs false
def gimbalref02_Min.j0 : Nat → Bool → Int → Int → Int → Int → Option (Int × Int)
  | 0, _, _, _, _, _ => none
  | k + 1, x14, x966000, x966001, x967000, x967001 => if x14 = true then ((gimbalref02_Empty.f).bind fun bt974 => (some (bt974.1, bt974.2))) else ((gimbalref02_less.f x966000 x967000).bind fun t976 => ((gimbalref02_less.f x966001 x967001).bind fun t977 => ((gimbalref02_Of.f k t976 t977).bind fun bt978 => (some (bt978.1, bt978.2)))))
def gimbalref02_Min.f (k : Nat) (a0_0 : Int) (a0_1 : Int) (a1_0 : Int) (a1_1 : Int) : Option (Int × Int) := (gimbalref02_norm.f k a0_0 a0_1).bind fun bt968 => ((gimbalref02_norm.f k a1_0 a1_1).bind fun bt970 => ((gimbalref02_None.f bt968.1 bt968.2).bind fun t972 => (if t972 = true then (gimbalref02_Min.j0 k true bt968.1 bt968.2 bt970.1 bt970.2) else ((gimbalref02_None.f bt970.1 bt970.2).bind fun t973 => (gimbalref02_Min.j0 k t973 bt968.1 bt968.2 bt970.1 bt970.2)))))
def gimbalref02_Min.T5 : Bool × List (List Nat × List Nat) := (true, [([], []), ([0], [0]), ([], []), ([2], [2]), ([1, 3], [1, 3]), ([], []), ([5], [5]), ([], []), ([7], [7]), ([6, 8, 4], [6, 8]), ([4, 9, 9], [4, 9]), ([10, 10, 0, 1, 2, 3, 4, 5, 6, 7, 8, 9, 10], [10])])
def gimbalref02_Min.B5 : List Nat := [0, 1, 0, 4, 15, 0, 32, 0, 128, 511, 1023, 2047]
theorem gimbalref02_Min.tab5 : rtab .any (opsOf Try.f53 5) = gimbalref02_Min.T5 := by kernel_rfl
theorem gimbalref02_Min.bits5 : waitsOk gimbalref02_Min.T5.2 gimbalref02_Min.B5 = true := by kernel_rfl
set_option maxHeartbeats 8000000 in
set_option maxRecDepth 100000 in
theorem gimbalref02_Min.calls (k : Nat) (a0_0 : Int) (a0_1 : Int) (a1_0 : Int) (a1_1 : Int) (r1 : Int) (r2 : Int) (w : World) (h : gimbalref02_Min.f k a0_0 a0_1 a1_0 a1_1 = some (r1, r2)) :
    Calls Try.prog 53 #[.agg #[.int .i64 a0_0, .int .i64 a0_1], .agg #[.int .i64 a1_0, .int .i64 a1_1]] w fun e w' => e = .returned (.agg #[.int .i64 r1, .int .i64 r2]) ∧ Below w.heap.size w w' := by
  have hu23 := Try.underlying23
  have HB := Aside0.mk (Below.refl w.heap.size w)
  have H : ((gimbalref02_norm.f k a0_0 a0_1).bind fun bt968 => ((gimbalref02_norm.f k a1_0 a1_1).bind fun bt970 => ((gimbalref02_None.f bt968.1 bt968.2).bind fun t972 => (if t972 = true then (gimbalref02_Min.j0 k true bt968.1 bt968.2 bt970.1 bt970.2) else ((gimbalref02_None.f bt970.1 bt970.2).bind fun t973 => (gimbalref02_Min.j0 k t973 bt968.1 bt968.2 bt970.1 bt970.2)))))) = some (r1, r2) := h
  clear h
  replace H := Option.bind_eq_some_iff.mp H
  obtain ⟨⟨t968, t969⟩, A30, H⟩ := H
  replace H : ((gimbalref02_norm.f k a1_0 a1_1).bind fun bt970 => ((gimbalref02_None.f t968 t969).bind fun t972 => (if t972 = true then (gimbalref02_Min.j0 k true t968 t969 bt970.1 bt970.2) else ((gimbalref02_None.f bt970.1 bt970.2).bind fun t973 => (gimbalref02_Min.j0 k t973 t968 t969 bt970.1 bt970.2))))) = some (r1, r2) := H
  have A3 := Aside0.mk A30
  clear A30
  replace H := Option.bind_eq_some_iff.mp H
  obtain ⟨⟨t970, t971⟩, A40, H⟩ := H
  replace H : ((gimbalref02_None.f t968 t969).bind fun t972 => (if t972 = true then (gimbalref02_Min.j0 k true t968 t969 t970 t971) else ((gimbalref02_None.f t970 t971).bind fun t973 => (gimbalref02_Min.j0 k t973 t968 t969 t970 t971)))) = some (r1, r2) := H
  have A4 := Aside0.mk A40
  clear A40
  have HC5 := Aside0.mk H
  clear H
  go_enter Try.func53, Try.ntmps53
  go_upto_region 3 with (first | ((with_reducible refine gate_dst (N := 2) rfl ?_); refine box_event ?hg (N := 2) ?hd (cs := #[.int .i64 a0_0, .int .i64 a0_1]) (t := 23) ?hr ?_; (case hd => rfl); (case hg => rfl); (case hr => first | (go_simp; done) | (go_simp; rfl)); intro gb965 hg w6 hbox hb; have n0_ := Aside0.mk (below_step (by repeat (first | (with_reducible first | exact HB.out | apply below_alloc | apply pw_below_drewN | apply below_drew1) | exact HB.out)) hb); have n1_ := Aside0.mk (hbox); have n2_ := Aside0.mk ((by rw [hg]; exact (below_size (by repeat (first | (with_reducible first | exact HB.out | apply below_alloc | apply pw_below_drewN | apply below_drew1) | exact HB.out))) : w.heap.size ≤ gb965)); have n3_ := Aside0.mk ((by rw [hg]; exact (below_size (by repeat (first | (with_reducible first | exact HB.out | apply below_alloc | apply pw_below_drewN | apply below_drew1) | exact HB.out))) : w.heap.size ≤ gb965)); clear HB; have HB := n0_; have BK965 := n1_; have GW965 := n2_; have GE965 := n3_; clear n0_ n1_ n2_ n3_; clear hb hbox hg) | ((with_reducible refine gate_dst (N := 3) rfl ?_); refine box_event ?hg (N := 3) ?hd (cs := #[.int .i64 a1_0, .int .i64 a1_1]) (t := 23) ?hr ?_; (case hd => rfl); (case hg => rfl); (case hr => first | (go_simp; done) | (go_simp; rfl)); intro gb966 hg w7 hbox hb; have n0_ := Aside0.mk (below_step (by repeat (first | (with_reducible first | exact HB.out | apply below_alloc | apply pw_below_drewN | apply below_drew1 | refine below_set ?_ GE965.out) | exact HB.out)) hb); have n1_ := Aside0.mk (hbox); have n2_ := Aside0.mk ((by rw [hg]; exact (below_size (by repeat (first | (with_reducible first | exact HB.out | apply below_alloc | apply pw_below_drewN | apply below_drew1 | refine below_set ?_ GE965.out) | exact HB.out))) : w.heap.size ≤ gb966)); have n3_ := Aside0.mk ((by rw [hg]; exact (below_size (by repeat (first | (with_reducible first | exact HB.out | apply below_alloc | apply pw_below_drewN | apply below_drew1 | refine below_set ?_ GE965.out) | exact HB.out))) : w.heap.size ≤ gb966)); have n4_ := Aside0.mk ((by rw [hg]; exact Nat.ne_of_lt (blk_lt (g := gb965) (o := .cells #[.int .i64 a0_0, .int .i64 a0_1] 23 (0, 0)) (pk BK965.out)) : gb965 ≠ gb966)); have n5_ := Aside0.mk ((by rw [hg]; exact Nat.ne_of_gt (blk_lt (g := gb965) (o := .cells #[.int .i64 a0_0, .int .i64 a0_1] 23 (0, 0)) (pk BK965.out)) : gb966 ≠ gb965)); replace BK965 := bbw BK965 hb; clear HB; have HB := n0_; have BK966 := n1_; have GW966 := n2_; have GE966 := n3_; have NB965_966 := n4_; have NB966_965 := n5_; clear n0_ n1_ n2_ n3_ n4_ n5_; clear hb hbox hg) | ((with_reducible refine gate_dst (N := 4) rfl ?_); refine box_event ?hg (N := 4) ?hd (cs := #[.int .i64 0, .int .i64 0]) (t := 23) ?hr ?_; (case hd => rfl); (case hg => rfl); (case hr => first | (go_simp; done) | (go_simp; rfl)); intro gb967 hg w8 hbox hb; have n0_ := Aside0.mk (below_step (by repeat (first | (with_reducible first | exact HB.out | apply below_alloc | apply pw_below_drewN | apply below_drew1 | refine below_set ?_ GE965.out | refine below_set ?_ GE966.out) | exact HB.out)) hb); have n1_ := Aside0.mk (hbox); have n2_ := Aside0.mk ((by rw [hg]; exact (below_size (by repeat (first | (with_reducible first | exact HB.out | apply below_alloc | apply pw_below_drewN | apply below_drew1 | refine below_set ?_ GE965.out | refine below_set ?_ GE966.out) | exact HB.out))) : w.heap.size ≤ gb967)); have n3_ := Aside0.mk ((by rw [hg]; exact (below_size (by repeat (first | (with_reducible first | exact HB.out | apply below_alloc | apply pw_below_drewN | apply below_drew1 | refine below_set ?_ GE965.out | refine below_set ?_ GE966.out) | exact HB.out))) : w.heap.size ≤ gb967)); have n4_ := Aside0.mk ((by rw [hg]; exact Nat.ne_of_lt (blk_lt (g := gb965) (o := .cells #[.int .i64 a0_0, .int .i64 a0_1] 23 (0, 0)) (pk BK965.out)) : gb965 ≠ gb967)); have n5_ := Aside0.mk ((by rw [hg]; exact Nat.ne_of_gt (blk_lt (g := gb965) (o := .cells #[.int .i64 a0_0, .int .i64 a0_1] 23 (0, 0)) (pk BK965.out)) : gb967 ≠ gb965)); have n6_ := Aside0.mk ((by rw [hg]; exact Nat.ne_of_lt (blk_lt (g := gb966) (o := .cells #[.int .i64 a1_0, .int .i64 a1_1] 23 (0, 0)) (pk BK966.out)) : gb966 ≠ gb967)); have n7_ := Aside0.mk ((by rw [hg]; exact Nat.ne_of_gt (blk_lt (g := gb966) (o := .cells #[.int .i64 a1_0, .int .i64 a1_1] 23 (0, 0)) (pk BK966.out)) : gb967 ≠ gb966)); replace BK965 := bbw BK965 hb; replace BK966 := bbw BK966 hb; clear HB; have HB := n0_; have BK967 := n1_; have GW967 := n2_; have GE967 := n3_; have NB965_967 := n4_; have NB967_965 := n5_; have NB966_967 := n6_; have NB967_966 := n7_; clear n0_ n1_ n2_ n3_ n4_ n5_ n6_ n7_; clear hb hbox hg; have hnb9 := NB965_966.out; have hnc9 := NB966_965.out; have hnb10 := NB965_967.out; have hnc10 := NB967_965.out; have hcz11_0 : w8.cell? ⟨gb965, 0, none⟩ = some (.int .i64 a0_0) := (blk_cell BK965.out 0).trans rfl; have hcz11_1 : w8.cell? ⟨gb965, 1, none⟩ = some (.int .i64 a0_1) := (blk_cell BK965.out 1).trans rfl; have hfz11_0 := blk_frozen BK965.out 0; have hfz11_1 := blk_frozen BK965.out 1) | ((with_reducible refine gate_callee (f := 60) rfl ?_); refine goesL_ (some 6) rfl rfl Try.func60 (by kernel_rfl) rfl #[.agg #[.int .i64 a0_0, .int .i64 a0_1]] rfl (by (try simp only [List.map_toArray, List.map_cons, List.map_nil]); first | done | rfl | (simp only [List.length_drop, List.length_take]; rfl)) ?_; (with_reducible refine (gimbalref02_norm.calls k a0_0 a0_1 t968 t969 _ A3.out).mono ?_); rintro e w12 ⟨rfl, hb⟩; refine ⟨_, rfl, ?_⟩; have n0_ := Aside0.mk (below_step (by repeat (first | (with_reducible first | exact HB.out | apply below_alloc | apply pw_below_drewN | apply below_drew1 | refine below_set ?_ GE965.out | refine below_set ?_ GE966.out | refine below_set ?_ GE967.out) | exact HB.out)) hb); replace BK965 := bbw BK965 hb; replace BK966 := bbw BK966 hb; replace BK967 := bbw BK967 hb; clear HB; have HB := n0_; clear n0_; (try clear hb); (try clear hb2); (try clear hk); (try clear hi); have hcz13_0 : w12.cell? ⟨gb965, 0, none⟩ = some (.int .i64 a0_0) := (blk_cell BK965.out 0).trans rfl; have hcz13_1 : w12.cell? ⟨gb965, 1, none⟩ = some (.int .i64 a0_1) := (blk_cell BK965.out 1).trans rfl; have hfz13_0 := blk_frozen BK965.out 0; have hfz13_1 := blk_frozen BK965.out 1; have hnb14 := NB966_967.out; have hnc14 := NB967_966.out; have hcz15_0 : w12.cell? ⟨gb966, 0, none⟩ = some (.int .i64 a1_0) := (blk_cell BK966.out 0).trans rfl; have hcz15_1 : w12.cell? ⟨gb966, 1, none⟩ = some (.int .i64 a1_1) := (blk_cell BK966.out 1).trans rfl; have hfz15_0 := blk_frozen BK966.out 0; have hfz15_1 := blk_frozen BK966.out 1) | ((with_reducible refine gate_callee (f := 60) rfl ?_); refine goesL_ (some 8) rfl rfl Try.func60 (by kernel_rfl) rfl #[.agg #[.int .i64 a1_0, .int .i64 a1_1]] rfl (by (try simp only [List.map_toArray, List.map_cons, List.map_nil]); first | done | rfl | (simp only [List.length_drop, List.length_take]; rfl)) ?_; (with_reducible refine (gimbalref02_norm.calls k a1_0 a1_1 t970 t971 _ A4.out).mono ?_); rintro e w16 ⟨rfl, hb⟩; refine ⟨_, rfl, ?_⟩; have n0_ := Aside0.mk (blk_below (g := gb965) (o := .cells #[.int .i64 t968, .int .i64 t969] 23 (0, 0)) (by (with_reducible repeat (first | refine blk_drewN ?_ _ | refine blk_drew ?_ | refine blk_alloc ?_ _)); refine blk_put (cs := #[.int .i64 t968, .int .i64 a0_1]) ?_ 1 _ (by first | rfl | (subst_vars; rfl)); (with_reducible repeat (first | refine blk_drewN ?_ _ | refine blk_drew ?_ | refine blk_alloc ?_ _)); refine blk_put (cs := #[.int .i64 a0_0, .int .i64 a0_1]) ?_ 0 _ (by first | rfl | (subst_vars; rfl)); (with_reducible repeat (first | refine blk_drewN ?_ _ | refine blk_drew ?_ | refine blk_alloc ?_ _)); exact BK965.out) hb); have n1_ := Aside0.mk (blk_below (g := gb966) (o := .cells #[.int .i64 a1_0, .int .i64 a1_1] 23 (0, 0)) (by (with_reducible repeat (first | refine blk_drewN ?_ _ | refine blk_drew ?_ | refine blk_alloc ?_ _)); refine blk_far ?_ NB966_965.out _; (with_reducible repeat (first | refine blk_drewN ?_ _ | refine blk_drew ?_ | refine blk_alloc ?_ _)); refine blk_far ?_ NB966_965.out _; (with_reducible repeat (first | refine blk_drewN ?_ _ | refine blk_drew ?_ | refine blk_alloc ?_ _)); exact BK966.out) hb); have n2_ := Aside0.mk (blk_below (g := gb967) (o := .cells #[.int .i64 0, .int .i64 0] 23 (0, 0)) (by (with_reducible repeat (first | refine blk_drewN ?_ _ | refine blk_drew ?_ | refine blk_alloc ?_ _)); refine blk_far ?_ NB967_965.out _; (with_reducible repeat (first | refine blk_drewN ?_ _ | refine blk_drew ?_ | refine blk_alloc ?_ _)); refine blk_far ?_ NB967_965.out _; (with_reducible repeat (first | refine blk_drewN ?_ _ | refine blk_drew ?_ | refine blk_alloc ?_ _)); exact BK967.out) hb); have n3_ := Aside0.mk (below_step (by repeat (first | (with_reducible first | exact HB.out | apply below_alloc | apply pw_below_drewN | apply below_drew1 | refine below_set ?_ GE965.out | refine below_set ?_ GE966.out | refine below_set ?_ GE967.out) | exact HB.out)) hb); clear BK965; clear BK966; clear BK967; clear HB; have BK965 := n0_; have BK966 := n1_; have BK967 := n2_; have HB := n3_; clear n0_ n1_ n2_ n3_; (try clear hb); (try clear hb2); (try clear hk); (try clear hi); have hcz17_0 : w16.cell? ⟨gb966, 0, none⟩ = some (.int .i64 a1_0) := (blk_cell BK966.out 0).trans rfl; have hcz17_1 : w16.cell? ⟨gb966, 1, none⟩ = some (.int .i64 a1_1) := (blk_cell BK966.out 1).trans rfl; have hfz17_0 := blk_frozen BK966.out 0; have hfz17_1 := blk_frozen BK966.out 1))
  (try simp only [Act.put, List.setIfInBounds_toArray, List.set_cons_zero, List.set_cons_succ])
  go_cut [14] (fun v14 wc => ∃ (kq : Nat) (x14_4 : Bool), v14 = .bool x14_4 ∧ Aside0 (gimbalref02_Min.j0 kq x14_4 t968 t969 t970 t971 = some (r1, r2)) ∧ Aside0 (kq ≤ k) ∧ Aside0 (wc.heap[gb965]? = some (.cells #[.int .i64 t968, .int .i64 t969] 23 (0, 0))) ∧ Aside0 (wc.heap[gb966]? = some (.cells #[.int .i64 t970, .int .i64 t971] 23 (0, 0))) ∧ Aside0 (wc.heap[gb967]? = some (.cells #[.int .i64 0, .int .i64 0] 23 (0, 0))) ∧ Aside0 (Below w.heap.size w wc))
  case first =>
   have H := HC5.out
   clear HC5
   replace H := Option.bind_eq_some_iff.mp H
   obtain ⟨t972, A180, H⟩ := H
   replace H : (if t972 = true then (gimbalref02_Min.j0 k true t968 t969 t970 t971) else ((gimbalref02_None.f t970 t971).bind fun t973 => (gimbalref02_Min.j0 k t973 t968 t969 t970 t971))) = some (r1, r2) := H
   have A18 := Aside0.mk A180
   clear A180
   by_cases c19 : t972 = true
   ·
    subst c19
    have H1 : (gimbalref02_Min.j0 k true t968 t969 t970 t971) = some (r1, r2) := by rw [if_pos rfl] at H; exact H
    clear H
    have H := H1
    clear H1
    have H' := Aside0.mk H
    clear H
    have hnb20 := NB965_966.out
    have hnc20 := NB966_965.out
    have hnb21 := NB965_967.out
    have hnc21 := NB967_965.out
    have hcz22_0 : w16.cell? ⟨gb965, 0, none⟩ = some (.int .i64 t968) := (blk_cell BK965.out 0).trans rfl
    have hcz22_1 : w16.cell? ⟨gb965, 1, none⟩ = some (.int .i64 t969) := (blk_cell BK965.out 1).trans rfl
    have hfz22_0 := blk_frozen BK965.out 0
    have hfz22_1 := blk_frozen BK965.out 1
    go_wp2_with (first | ((with_reducible refine gate_callee (f := 61) rfl ?_); refine goesL_ (some 10) rfl rfl Try.func61 (by kernel_rfl) rfl #[.agg #[.int .i64 t968, .int .i64 t969]] rfl (by (try simp only [List.map_toArray, List.map_cons, List.map_nil]); first | done | rfl | (simp only [List.length_drop, List.length_take]; rfl)) ?_; (with_reducible refine (gimbalref02_None.calls t968 t969 true _ A18.out).mono ?_); rintro e w23 ⟨rfl, hb⟩; refine ⟨_, rfl, ?_⟩; have n0_ := Aside0.mk (blk_below (g := gb965) (o := .cells #[.int .i64 t968, .int .i64 t969] 23 (0, 0)) (by (with_reducible repeat (first | refine blk_drewN ?_ _ | refine blk_drew ?_ | refine blk_alloc ?_ _)); refine blk_far ?_ NB965_966.out _; (with_reducible repeat (first | refine blk_drewN ?_ _ | refine blk_drew ?_ | refine blk_alloc ?_ _)); refine blk_far ?_ NB965_966.out _; (with_reducible repeat (first | refine blk_drewN ?_ _ | refine blk_drew ?_ | refine blk_alloc ?_ _)); exact BK965.out) hb); have n1_ := Aside0.mk (blk_below (g := gb966) (o := .cells #[.int .i64 t970, .int .i64 t971] 23 (0, 0)) (by (with_reducible repeat (first | refine blk_drewN ?_ _ | refine blk_drew ?_ | refine blk_alloc ?_ _)); refine blk_put (cs := #[.int .i64 t970, .int .i64 a1_1]) ?_ 1 _ (by first | rfl | (subst_vars; rfl)); (with_reducible repeat (first | refine blk_drewN ?_ _ | refine blk_drew ?_ | refine blk_alloc ?_ _)); refine blk_put (cs := #[.int .i64 a1_0, .int .i64 a1_1]) ?_ 0 _ (by first | rfl | (subst_vars; rfl)); (with_reducible repeat (first | refine blk_drewN ?_ _ | refine blk_drew ?_ | refine blk_alloc ?_ _)); exact BK966.out) hb); have n2_ := Aside0.mk (blk_below (g := gb967) (o := .cells #[.int .i64 0, .int .i64 0] 23 (0, 0)) (by (with_reducible repeat (first | refine blk_drewN ?_ _ | refine blk_drew ?_ | refine blk_alloc ?_ _)); refine blk_far ?_ NB967_966.out _; (with_reducible repeat (first | refine blk_drewN ?_ _ | refine blk_drew ?_ | refine blk_alloc ?_ _)); refine blk_far ?_ NB967_966.out _; (with_reducible repeat (first | refine blk_drewN ?_ _ | refine blk_drew ?_ | refine blk_alloc ?_ _)); exact BK967.out) hb); have n3_ := Aside0.mk (below_step (by repeat (first | (with_reducible first | exact HB.out | apply below_alloc | apply pw_below_drewN | apply below_drew1 | refine below_set ?_ GE965.out | refine below_set ?_ GE966.out | refine below_set ?_ GE967.out) | exact HB.out)) hb); clear BK965; clear BK966; clear BK967; clear HB; have BK965 := n0_; have BK966 := n1_; have BK967 := n2_; have HB := n3_; clear n0_ n1_ n2_ n3_; (try clear hb); (try clear hb2); (try clear hk); (try clear hi)))
    go_meet
    case rel => exact ⟨_, (true), (by first | rfl | (simp; done) | (simp [*]; done)), H', ⟨by first | omega | exact Nat.le_refl _⟩, ⟨by (with_reducible repeat (first | refine blk_drewN ?_ _ | refine blk_drew ?_ | refine blk_alloc ?_ _)); exact BK965.out⟩, ⟨by (with_reducible repeat (first | refine blk_drewN ?_ _ | refine blk_drew ?_ | refine blk_alloc ?_ _)); exact BK966.out⟩, ⟨by (with_reducible repeat (first | refine blk_drewN ?_ _ | refine blk_drew ?_ | refine blk_alloc ?_ _)); exact BK967.out⟩, ⟨by repeat (first | (with_reducible first | exact HB.out | apply below_alloc | apply pw_below_drewN | apply below_drew1 | refine below_set ?_ GE965.out | refine below_set ?_ GE966.out | refine below_set ?_ GE967.out) | exact HB.out)⟩⟩
   ·
    replace c19 := Bool.eq_false_iff.mpr c19
    subst c19
    have H1 : ((gimbalref02_None.f t970 t971).bind fun t973 => (gimbalref02_Min.j0 k t973 t968 t969 t970 t971)) = some (r1, r2) := by rw [if_neg (show ¬ (false = true) by decide)] at H; exact H
    clear H
    have H := H1
    clear H1
    replace H := Option.bind_eq_some_iff.mp H
    obtain ⟨t973, A240, H⟩ := H
    replace H : (gimbalref02_Min.j0 k t973 t968 t969 t970 t971) = some (r1, r2) := H
    have A24 := Aside0.mk A240
    clear A240
    have H' := Aside0.mk H
    clear H
    have hnb25 := NB965_966.out
    have hnc25 := NB966_965.out
    have hnb26 := NB965_967.out
    have hnc26 := NB967_965.out
    have hcz27_0 : w16.cell? ⟨gb965, 0, none⟩ = some (.int .i64 t968) := (blk_cell BK965.out 0).trans rfl
    have hcz27_1 : w16.cell? ⟨gb965, 1, none⟩ = some (.int .i64 t969) := (blk_cell BK965.out 1).trans rfl
    have hfz27_0 := blk_frozen BK965.out 0
    have hfz27_1 := blk_frozen BK965.out 1
    go_wp2_with (first | ((with_reducible refine gate_callee (f := 61) rfl ?_); refine goesL_ (some 10) rfl rfl Try.func61 (by kernel_rfl) rfl #[.agg #[.int .i64 t968, .int .i64 t969]] rfl (by (try simp only [List.map_toArray, List.map_cons, List.map_nil]); first | done | rfl | (simp only [List.length_drop, List.length_take]; rfl)) ?_; (with_reducible refine (gimbalref02_None.calls t968 t969 false _ A18.out).mono ?_); rintro e w28 ⟨rfl, hb⟩; refine ⟨_, rfl, ?_⟩; have n0_ := Aside0.mk (blk_below (g := gb965) (o := .cells #[.int .i64 t968, .int .i64 t969] 23 (0, 0)) (by (with_reducible repeat (first | refine blk_drewN ?_ _ | refine blk_drew ?_ | refine blk_alloc ?_ _)); refine blk_far ?_ NB965_966.out _; (with_reducible repeat (first | refine blk_drewN ?_ _ | refine blk_drew ?_ | refine blk_alloc ?_ _)); refine blk_far ?_ NB965_966.out _; (with_reducible repeat (first | refine blk_drewN ?_ _ | refine blk_drew ?_ | refine blk_alloc ?_ _)); exact BK965.out) hb); have n1_ := Aside0.mk (blk_below (g := gb966) (o := .cells #[.int .i64 t970, .int .i64 t971] 23 (0, 0)) (by (with_reducible repeat (first | refine blk_drewN ?_ _ | refine blk_drew ?_ | refine blk_alloc ?_ _)); refine blk_put (cs := #[.int .i64 t970, .int .i64 a1_1]) ?_ 1 _ (by first | rfl | (subst_vars; rfl)); (with_reducible repeat (first | refine blk_drewN ?_ _ | refine blk_drew ?_ | refine blk_alloc ?_ _)); refine blk_put (cs := #[.int .i64 a1_0, .int .i64 a1_1]) ?_ 0 _ (by first | rfl | (subst_vars; rfl)); (with_reducible repeat (first | refine blk_drewN ?_ _ | refine blk_drew ?_ | refine blk_alloc ?_ _)); exact BK966.out) hb); have n2_ := Aside0.mk (blk_below (g := gb967) (o := .cells #[.int .i64 0, .int .i64 0] 23 (0, 0)) (by (with_reducible repeat (first | refine blk_drewN ?_ _ | refine blk_drew ?_ | refine blk_alloc ?_ _)); refine blk_far ?_ NB967_966.out _; (with_reducible repeat (first | refine blk_drewN ?_ _ | refine blk_drew ?_ | refine blk_alloc ?_ _)); refine blk_far ?_ NB967_966.out _; (with_reducible repeat (first | refine blk_drewN ?_ _ | refine blk_drew ?_ | refine blk_alloc ?_ _)); exact BK967.out) hb); have n3_ := Aside0.mk (below_step (by repeat (first | (with_reducible first | exact HB.out | apply below_alloc | apply pw_below_drewN | apply below_drew1 | refine below_set ?_ GE965.out | refine below_set ?_ GE966.out | refine below_set ?_ GE967.out) | exact HB.out)) hb); clear BK965; clear BK966; clear BK967; clear HB; have BK965 := n0_; have BK966 := n1_; have BK967 := n2_; have HB := n3_; clear n0_ n1_ n2_ n3_; (try clear hb); (try clear hb2); (try clear hk); (try clear hi); have hnb29 := NB966_967.out; have hnc29 := NB967_966.out; have hcz30_0 : w28.cell? ⟨gb966, 0, none⟩ = some (.int .i64 t970) := (blk_cell BK966.out 0).trans rfl; have hcz30_1 : w28.cell? ⟨gb966, 1, none⟩ = some (.int .i64 t971) := (blk_cell BK966.out 1).trans rfl; have hfz30_0 := blk_frozen BK966.out 0; have hfz30_1 := blk_frozen BK966.out 1) | (go_at_call 61; (with_reducible refine (gimbalref02_None.calls t970 t971 t973 _ A24.out).mono ?_); rintro e w31 ⟨rfl, hb⟩; have n0_ := Aside0.mk (below_step (by repeat (first | (with_reducible first | exact HB.out | apply below_alloc | apply pw_below_drewN | apply below_drew1 | refine below_set ?_ GE965.out | refine below_set ?_ GE966.out | refine below_set ?_ GE967.out) | exact HB.out)) hb); replace BK965 := bbw BK965 hb; replace BK966 := bbw BK966 hb; replace BK967 := bbw BK967 hb; clear HB; have HB := n0_; clear n0_; (try clear hb); (try clear hb2); (try clear hk); (try clear hi)))
    go_meet
    case rel => exact ⟨_, (t973), (by first | rfl | (simp; done) | (simp [*]; done)), H', ⟨by first | omega | exact Nat.le_refl _⟩, ⟨by (with_reducible repeat (first | refine blk_drewN ?_ _ | refine blk_drew ?_ | refine blk_alloc ?_ _)); exact BK965.out⟩, ⟨by (with_reducible repeat (first | refine blk_drewN ?_ _ | refine blk_drew ?_ | refine blk_alloc ?_ _)); exact BK966.out⟩, ⟨by (with_reducible repeat (first | refine blk_drewN ?_ _ | refine blk_drew ?_ | refine blk_alloc ?_ _)); exact BK967.out⟩, ⟨by repeat (first | (with_reducible first | exact HB.out | apply below_alloc | apply pw_below_drewN | apply below_drew1 | refine below_set ?_ GE965.out | refine below_set ?_ GE966.out | refine below_set ?_ GE967.out) | exact HB.out)⟩⟩
  case rest =>
   clear HC5
   try clear c1
   try clear c2
   try clear p2
   try clear c5
   try clear c6
   try clear c9
   try clear c10
   try clear c14
   try clear c19
   try clear c20
   try clear c21
   try clear c25
   try clear c26
   try clear c29
   try clear hcz11_0
   try clear hcz11_1
   try clear hcz13_0
   try clear hcz13_1
   try clear hcz15_0
   try clear hcz15_1
   try clear hcz17_0
   try clear hcz17_1
   try clear hcz22_0
   try clear hcz22_1
   try clear hcz27_0
   try clear hcz27_1
   try clear hcz30_0
   try clear hcz30_1
   try clear hfz11_0
   try clear hfz11_1
   try clear hfz13_0
   try clear hfz13_1
   try clear hfz15_0
   try clear hfz15_1
   try clear hfz17_0
   try clear hfz17_1
   try clear hfz22_0
   try clear hfz22_1
   try clear hfz27_0
   try clear hfz27_1
   try clear hfz30_0
   try clear hfz30_1
   obtain ⟨kq, x14_4, rfl, HA, HJ4, BK965, BK966, BK967, HB⟩ := hcut
   cases kq with
   | zero => exact absurd HA.out (by simp [gimbalref02_Min.j0])
   | succ kj4 =>
    have H := HA.out
    clear HA
    simp only [gimbalref02_Min.j0] at H
    by_cases c32 : x14_4 = true
    ·
     subst c32
     have H1 : ((gimbalref02_Empty.f).bind fun bt974 => (some (bt974.1, bt974.2))) = some (r1, r2) := by rw [if_pos rfl] at H; exact H
     clear H
     have H := H1
     clear H1
     replace H := Option.bind_eq_some_iff.mp H
     obtain ⟨⟨t974, t975⟩, A330, H⟩ := H
     replace H : (some (t974, t975)) = some (r1, r2) := H
     have A33 := Aside0.mk A330
     clear A330
     simp only [Option.some.injEq, Prod.mk.injEq] at H
     obtain ⟨rfl, rfl⟩ := H
     go_wp2_with (first | ((with_reducible refine gate_callee (f := 16) rfl ?_); refine goesL_ (some 15) rfl rfl Try.func16 (by kernel_rfl) rfl #[] rfl (by (try simp only [List.map_toArray, List.map_cons, List.map_nil]); first | done | rfl | (simp only [List.length_drop, List.length_take]; rfl)) ?_; (with_reducible refine (gimbalref02_Empty.calls  t974 t975 _ A33.out).mono ?_); rintro e w34 ⟨rfl, hb⟩; refine ⟨_, rfl, ?_⟩; have n0_ := Aside0.mk (below_step (by repeat (first | (with_reducible first | exact HB.out | apply below_alloc | apply pw_below_drewN | apply below_drew1 | refine below_set ?_ GE965.out | refine below_set ?_ GE966.out | refine below_set ?_ GE967.out) | exact HB.out)) hb); replace BK965 := bbw BK965 hb; replace BK966 := bbw BK966 hb; replace BK967 := bbw BK967 hb; clear HB; have HB := n0_; clear n0_; (try clear hb); (try clear hb2); (try clear hk); (try clear hi); have hnb35 := NB967_965.out; have hnc35 := NB965_967.out; have hnb36 := NB967_966.out; have hnc36 := NB966_967.out; have hcz37_0 : w34.cell? ⟨gb967, 0, none⟩ = some (.int .i64 0) := (blk_cell BK967.out 0).trans rfl; have hcz37_1 : w34.cell? ⟨gb967, 1, none⟩ = some (.int .i64 0) := (blk_cell BK967.out 1).trans rfl; have hfz37_0 := blk_frozen BK967.out 0; have hfz37_1 := blk_frozen BK967.out 1))
     refine bodyPost_ret (results_cell_row rfl _ _ gb967 23 #[.int .i64 t974, .int .i64 t975] (0, 0) _ rfl (by (with_reducible repeat (first | refine blk_drewN ?_ _ | refine blk_drew ?_ | refine blk_alloc ?_ _)); refine blk_put (cs := #[.int .i64 t974, .int .i64 0]) ?_ 1 _ (by first | rfl | (subst_vars; rfl)); (with_reducible repeat (first | refine blk_drewN ?_ _ | refine blk_drew ?_ | refine blk_alloc ?_ _)); refine blk_put (cs := #[.int .i64 0, .int .i64 0]) ?_ 0 _ (by first | rfl | (subst_vars; rfl)); (with_reducible repeat (first | refine blk_drewN ?_ _ | refine blk_drew ?_ | refine blk_alloc ?_ _)); exact BK967.out) Try.underlying23 rfl (by kernel_rfl)) rfl ?_
     exact ⟨by first | rfl | (simp [errW_none, errW_some] <;> rfl) | (simp [*, errW_none, errW_some] <;> rfl) | kernel_rfl, by repeat (first | (with_reducible first | exact HB.out | apply below_alloc | apply pw_below_drewN | apply below_drew1 | refine below_set ?_ GE965.out | refine below_set ?_ GE966.out | refine below_set ?_ GE967.out) | exact HB.out)⟩
    ·
     replace c32 := Bool.eq_false_iff.mpr c32
     subst c32
     have H1 : ((gimbalref02_less.f t968 t970).bind fun t976 => ((gimbalref02_less.f t969 t971).bind fun t977 => ((gimbalref02_Of.f kj4 t976 t977).bind fun bt978 => (some (bt978.1, bt978.2))))) = some (r1, r2) := by rw [if_neg (show ¬ (false = true) by decide)] at H; exact H
     clear H
     have H := H1
     clear H1
     replace H := Option.bind_eq_some_iff.mp H
     obtain ⟨t976, A380, H⟩ := H
     replace H : ((gimbalref02_less.f t969 t971).bind fun t977 => ((gimbalref02_Of.f kj4 t976 t977).bind fun bt978 => (some (bt978.1, bt978.2)))) = some (r1, r2) := H
     have A38 := Aside0.mk A380
     clear A380
     replace H := Option.bind_eq_some_iff.mp H
     obtain ⟨t977, A390, H⟩ := H
     replace H : ((gimbalref02_Of.f kj4 t976 t977).bind fun bt978 => (some (bt978.1, bt978.2))) = some (r1, r2) := H
     have A39 := Aside0.mk A390
     clear A390
     replace H := Option.bind_eq_some_iff.mp H
     obtain ⟨⟨t978, t979⟩, A400, H⟩ := H
     replace H : (some (t978, t979)) = some (r1, r2) := H
     have A40 := Aside0.mk A400
     clear A400
     simp only [Option.some.injEq, Prod.mk.injEq] at H
     obtain ⟨rfl, rfl⟩ := H
     try go_wp2
     have n0_ := Aside0.mk (blk_drew BK965.out)
     have n1_ := Aside0.mk (blk_drew BK966.out)
     have n2_ := Aside0.mk (blk_drew BK967.out)
     have n3_ := Aside0.mk (below_drew1 HB.out)
     clear BK965
     clear BK966
     clear BK967
     clear HB
     have BK965 := n0_
     have BK966 := n1_
     have BK967 := n2_
     have HB := n3_
     clear n0_ n1_ n2_ n3_
     refine start_ (n := 12) (S := fun w' => w'.cell? ⟨gb965, 0, none⟩ = some (.int .i64 t968) ∧ w'.cell? ⟨gb965, 1, none⟩ = some (.int .i64 t969) ∧ w'.cell? ⟨gb966, 0, none⟩ = some (.int .i64 t970) ∧ w'.cell? ⟨gb966, 1, none⟩ = some (.int .i64 t971)) (ds := []) #[false, false, false, false, false, false, false, false, false, false, false, false] (by kernel_rfl) rfl rfl ⟨(blk_cell BK965.out 0).trans rfl, (blk_cell BK965.out 1).trans rfl, (blk_cell BK966.out 0).trans rfl, (blk_cell BK966.out 1).trans rfl⟩ (fun hHeld => ?_); refine with_tabW gimbalref02_Min.tab5 gimbalref02_Min.bits5 (fun HT_ HW_ => ?_)
     generalize wc.drew = w41 at BK965 BK966 BK967 HB hHeld ⊢
     refine pure_ (i := 0) (N := some 16) (v := ?_) (a' := ?_) #[true, false, false, false, false, false, false, false, false, false, false, false] rfl rfl (any_of HT_.out (by kernel_rfl)) (fun _ _ _ h => h) (Or.inl ⟨by rfl, ?_⟩) ?_ ?_
     rotate_left
     ·
      intro w'
      go_simp
      with_reducible rfl
     rotate_left
     ·
      simp only [Act.put, List.setIfInBounds_toArray, List.set_cons_zero, List.set_cons_succ, i64_w, i32_w]
      rfl
     refine pure_ (i := 2) (N := some 18) (v := ?_) (a' := ?_) #[true, false, true, false, false, false, false, false, false, false, false, false] rfl rfl (any_of HT_.out (by kernel_rfl)) (fun _ _ _ h => h) (Or.inl ⟨by rfl, ?_⟩) ?_ ?_
     rotate_left
     ·
      intro w'
      go_simp
      with_reducible rfl
     rotate_left
     ·
      simp only [Act.put, List.setIfInBounds_toArray, List.set_cons_zero, List.set_cons_succ, i64_w, i32_w]
      rfl
     refine pure_ (i := 5) (N := some 21) (v := ?_) (a' := ?_) #[true, false, true, false, false, true, false, false, false, false, false, false] rfl rfl (any_of HT_.out (by kernel_rfl)) (fun _ _ _ h => h) (Or.inl ⟨by rfl, ?_⟩) ?_ ?_
     rotate_left
     ·
      intro w'
      go_simp
      with_reducible rfl
     rotate_left
     ·
      simp only [Act.put, List.setIfInBounds_toArray, List.set_cons_zero, List.set_cons_succ, i64_w, i32_w]
      rfl
     refine pure_ (i := 7) (N := some 23) (v := ?_) (a' := ?_) #[true, false, true, false, false, true, false, true, false, false, false, false] rfl rfl (any_of HT_.out (by kernel_rfl)) (fun _ _ _ h => h) (Or.inl ⟨by rfl, ?_⟩) ?_ ?_
     rotate_left
     ·
      intro w'
      go_simp
      with_reducible rfl
     rotate_left
     ·
      simp only [Act.put, List.setIfInBounds_toArray, List.set_cons_zero, List.set_cons_succ, i64_w, i32_w]
      rfl
     refine take_ (i := 1) (N := some 17) (v := ?_) (a' := ?_) #[true, true, true, false, false, true, false, true, false, false, false, false] rfl rfl (take_ofW HT_.out HW_.out (by kernel_rfl)) (fun _ _ _ h => h) (Or.inl ⟨by rfl, ?_⟩) hHeld ?_ ?_
     rotate_left
     ·
      rintro w' ⟨s0, s1, s2, s3⟩
      go_simp
      with_reducible rfl
     rotate_left
     ·
      simp only [Act.put, List.setIfInBounds_toArray, List.set_cons_zero, List.set_cons_succ, i64_w, i32_w]
      rfl
     refine take_ (i := 3) (N := some 19) (v := ?_) (a' := ?_) #[true, true, true, true, false, true, false, true, false, false, false, false] rfl rfl (take_ofW HT_.out HW_.out (by kernel_rfl)) (fun _ _ _ h => h) (Or.inl ⟨by rfl, ?_⟩) hHeld ?_ ?_
     rotate_left
     ·
      rintro w' ⟨s0, s1, s2, s3⟩
      go_simp
      with_reducible rfl
     rotate_left
     ·
      simp only [Act.put, List.setIfInBounds_toArray, List.set_cons_zero, List.set_cons_succ, i64_w, i32_w]
      rfl
     refine take_ (i := 6) (N := some 22) (v := ?_) (a' := ?_) #[true, true, true, true, false, true, true, true, false, false, false, false] rfl rfl (take_ofW HT_.out HW_.out (by kernel_rfl)) (fun _ _ _ h => h) (Or.inl ⟨by rfl, ?_⟩) hHeld ?_ ?_
     rotate_left
     ·
      rintro w' ⟨s0, s1, s2, s3⟩
      go_simp
      with_reducible rfl
     rotate_left
     ·
      simp only [Act.put, List.setIfInBounds_toArray, List.set_cons_zero, List.set_cons_succ, i64_w, i32_w]
      rfl
     refine take_ (i := 8) (N := some 24) (v := ?_) (a' := ?_) #[true, true, true, true, false, true, true, true, true, false, false, false] rfl rfl (take_ofW HT_.out HW_.out (by kernel_rfl)) (fun _ _ _ h => h) (Or.inl ⟨by rfl, ?_⟩) hHeld ?_ ?_
     rotate_left
     ·
      rintro w' ⟨s0, s1, s2, s3⟩
      go_simp
      with_reducible rfl
     rotate_left
     ·
      simp only [Act.put, List.setIfInBounds_toArray, List.set_cons_zero, List.set_cons_succ, i64_w, i32_w]
      rfl
     refine one_ (i := 4) (N := some 20) #[true, true, true, true, true, true, true, true, true, false, false, false] rfl rfl (one_of HT_.out (by kernel_rfl)) (by decide) (fun K hK => ?_)
     refine goes_ Try.func62 (by kernel_rfl) rfl #[.int .i64 t968, .int .i64 t970] (by rfl) rfl rfl (by (try simp only [List.map_toArray, List.map_cons, List.map_nil]); first | done | rfl | (simp only [List.length_drop, List.length_take]; rfl)) ?_
     with_reducible refine (gimbalref02_less.calls t968 t970 t976 _ A38.out).mono ?_
     rintro e w' ⟨rfl, ⟨nd, rfl⟩⟩
     refine ⟨_, rfl, ?_⟩
     refine hK.out _ _ ⟨(blk_cell BK965.out 0).trans rfl, (blk_cell BK965.out 1).trans rfl, (blk_cell BK966.out 0).trans rfl, (blk_cell BK966.out 1).trans rfl⟩ (fun hHeld => ?_)
     clear hK K
     refine norm_ (a' := ?_) ?_ ?_
     rotate_left
     ·
      show Act.put _ (some 20) _ = _
      simp only [Act.put, List.setIfInBounds_toArray, List.set_cons_zero, List.set_cons_succ, i64_w, i32_w]
      rfl
     refine one_ (i := 9) (N := some 25) #[true, true, true, true, true, true, true, true, true, true, false, false] rfl rfl (one_of HT_.out (by kernel_rfl)) (by decide) (fun K hK => ?_)
     refine goes_ Try.func62 (by kernel_rfl) rfl #[.int .i64 t969, .int .i64 t971] (by rfl) rfl rfl (by (try simp only [List.map_toArray, List.map_cons, List.map_nil]); first | done | rfl | (simp only [List.length_drop, List.length_take]; rfl)) ?_
     with_reducible refine (gimbalref02_less.calls t969 t971 t977 _ A39.out).mono ?_
     rintro e w' ⟨rfl, ⟨nd, rfl⟩⟩
     refine ⟨_, rfl, ?_⟩
     refine hK.out _ _ ⟨(blk_cell BK965.out 0).trans rfl, (blk_cell BK965.out 1).trans rfl, (blk_cell BK966.out 0).trans rfl, (blk_cell BK966.out 1).trans rfl⟩ (fun hHeld => ?_)
     clear hK K
     refine norm_ (a' := ?_) ?_ ?_
     rotate_left
     ·
      show Act.put _ (some 25) _ = _
      simp only [Act.put, List.setIfInBounds_toArray, List.set_cons_zero, List.set_cons_succ, i64_w, i32_w]
      rfl
     refine one_ (i := 10) (N := some 26) #[true, true, true, true, true, true, true, true, true, true, true, false] rfl rfl (one_of HT_.out (by kernel_rfl)) (by decide) (fun K hK => ?_)
     refine goes_ Try.func14 (by kernel_rfl) rfl #[.int .i64 t976, .int .i64 t977] (by rfl) rfl rfl (by (try simp only [List.map_toArray, List.map_cons, List.map_nil]); first | done | rfl | (simp only [List.length_drop, List.length_take]; rfl)) ?_
     with_reducible refine (gimbalref02_Of.calls kj4 t976 t977 t978 t979 _ A40.out).mono ?_
     rintro e w42 ⟨rfl, hb⟩
     refine ⟨_, rfl, ?_⟩
     have n0_ := Aside0.mk (below_step (by repeat (first | (with_reducible first | exact HB.out | apply below_alloc | apply pw_below_drewN | apply below_drew1 | refine below_set ?_ GE965.out | refine below_set ?_ GE966.out | refine below_set ?_ GE967.out) | exact HB.out)) hb)
     replace BK965 := bbw BK965 hb
     replace BK966 := bbw BK966 hb
     replace BK967 := bbw BK967 hb
     clear HB
     have HB := n0_
     clear n0_
     (try clear hb)
     (try clear hb2)
     (try clear hk)
     (try clear hi)
     refine hK.out _ _ ⟨(blk_cell BK965.out 0).trans rfl, (blk_cell BK965.out 1).trans rfl, (blk_cell BK966.out 0).trans rfl, (blk_cell BK966.out 1).trans rfl⟩ (fun hHeld => ?_)
     clear hK K
     refine norm_ (a' := ?_) ?_ ?_
     rotate_left
     ·
      show Act.put _ (some 26) _ = _
      simp only [Act.put, List.setIfInBounds_toArray, List.set_cons_zero, List.set_cons_succ, i64_w, i32_w]
      rfl
     refine one_ (i := 11) (N := none) #[true, true, true, true, true, true, true, true, true, true, true, true] rfl rfl (one_of HT_.out (by kernel_rfl)) (by decide) (fun K hK => ?_)
     have hs43 : w42.cell? ⟨gb967, 0, none⟩ = some (.int .i64 0) := (blk_cell BK967.out 0).trans rfl
     have hfs43 := blk_frozen BK967.out 0
     have hns43_0 := NB965_967.out
     have hns43_1 := NB966_967.out
     have hms43_0 := NB967_965.out
     have hms43_1 := NB967_966.out
     have hs44 : w42.cell? ⟨gb967, 1, none⟩ = some (.int .i64 0) := (blk_cell BK967.out 1).trans rfl
     have hfs44 := blk_frozen BK967.out 1
     have hns44_0 := NB965_967.out
     have hns44_1 := NB966_967.out
     have hms44_0 := NB967_965.out
     have hms44_1 := NB967_966.out
     refine skip_ (w1 := ?_) (by rfl) rfl ?_ ?_
     rotate_left
     ·
      go_simp
      rfl
     refine hK.out _ _ ⟨((cell_far (p := ⟨gb967, _, none⟩) NB965_967.out _).trans (((cell_far (p := ⟨gb967, _, none⟩) NB965_967.out _).trans (hHeld.1)))), ((cell_far (p := ⟨gb967, _, none⟩) NB965_967.out _).trans (((cell_far (p := ⟨gb967, _, none⟩) NB965_967.out _).trans (hHeld.2.1)))), ((cell_far (p := ⟨gb967, _, none⟩) NB966_967.out _).trans (((cell_far (p := ⟨gb967, _, none⟩) NB966_967.out _).trans (hHeld.2.2.1)))), ((cell_far (p := ⟨gb967, _, none⟩) NB966_967.out _).trans (((cell_far (p := ⟨gb967, _, none⟩) NB966_967.out _).trans (hHeld.2.2.2))))⟩ (fun hHeld => ?_)
     clear hK K
     refine done_ (done_of HT_.out (by kernel_rfl)) ?_
     try go_wp2
     refine bodyPost_ret (results_cell_row rfl _ _ gb967 23 #[.int .i64 t978, .int .i64 t979] (0, 0) _ rfl (by (with_reducible repeat (first | refine blk_drewN ?_ _ | refine blk_drew ?_ | refine blk_alloc ?_ _)); refine blk_put (cs := #[.int .i64 t978, .int .i64 0]) ?_ 1 _ (by first | rfl | (subst_vars; rfl)); (with_reducible repeat (first | refine blk_drewN ?_ _ | refine blk_drew ?_ | refine blk_alloc ?_ _)); refine blk_put (cs := #[.int .i64 0, .int .i64 0]) ?_ 0 _ (by first | rfl | (subst_vars; rfl)); (with_reducible repeat (first | refine blk_drewN ?_ _ | refine blk_drew ?_ | refine blk_alloc ?_ _)); exact BK967.out) Try.underlying23 rfl (by kernel_rfl)) rfl ?_
     exact ⟨by first | rfl | (simp [errW_none, errW_some] <;> rfl) | (simp [*, errW_none, errW_some] <;> rfl) | kernel_rfl, by repeat (first | (with_reducible first | exact HB.out | apply below_alloc | apply pw_below_drewN | apply below_drew1 | refine below_set ?_ GE965.out | refine below_set ?_ GE966.out | refine below_set ?_ GE967.out) | exact HB.out)⟩
end Go.Proofs.Ytbbnpipmjadpoaa.P
