/- What the law's proof needs of Px37. -/
import Derived.Test.YtbbnpipmjadpoaaTrRPx0
import Derived.Test.YtbbnpipmjadpoaaTrRPx2
import Derived.Test.YtbbnpipmjadpoaaTrRPx3
import Derived.Test.YtbbnpipmjadpoaaTrRPx7
import Derived.Test.YtbbnpipmjadpoaaTrRPx9
import Derived.Test.YtbbnpipmjadpoaaTrRPx34
-- PRINTED by print.py (a twelfth state) out of the translation. Not trusted: Lean checks it.
namespace Go.Proofs.Ytbbnpipmjadpoaa.P
open Go.RowKit Go.Proofs.YtbbnpipmjadpoaaW.PrintWords Go.Proofs.YtbbnpipmjadpoaaW.PrintLast Go.Proofs.YtbbnpipmjadpoaaW.PrintMore Go.Proofs.YtbbnpipmjadpoaaO
attribute [local go_sem] max2_int min2_int max_two min_two max_three min_three max_four min_four   -- for this text's walks alone
set_option linter.unusedVariables false
set_option linter.unusedSimpArgs false
def gimbalref02_Abs.j0 : Nat → Bool → Int → Int → Option (Int × Int)
  | 0, _, _, _ => none
  | k + 1, x11, x956000, x956001 => if x11 = true then (some (x956000, x956001)) else (if x956001 ≤ 0 then ((gimbalref02_Neg.f k x956000 x956001).bind fun bt960 => (some (bt960.1, bt960.2))) else ((gimbalref02_more.f (wrap64 (-x956000)) x956001).bind fun t962 => ((gimbalref02_Of.f k 0 t962).bind fun bt963 => (some (bt963.1, bt963.2)))))
def gimbalref02_Abs.f (k : Nat) (a0_0 : Int) (a0_1 : Int) : Option (Int × Int) := (gimbalref02_norm.f k a0_0 a0_1).bind fun bt957 => ((gimbalref02_None.f bt957.1 bt957.2).bind fun t959 => (if t959 = true then (gimbalref02_Abs.j0 k true bt957.1 bt957.2) else (gimbalref02_Abs.j0 k (decide (bt957.1 ≥ 0)) bt957.1 bt957.2)))
set_option maxHeartbeats 8000000 in
set_option maxRecDepth 100000 in
theorem gimbalref02_Abs.calls (k : Nat) (a0_0 : Int) (a0_1 : Int) (r1 : Int) (r2 : Int) (w : World) (h : gimbalref02_Abs.f k a0_0 a0_1 = some (r1, r2)) :
    Calls Try.prog 52 #[.agg #[.int .i64 a0_0, .int .i64 a0_1]] w fun e w' => e = .returned (.agg #[.int .i64 r1, .int .i64 r2]) ∧ Below w.heap.size w w' := by
  have hu23 := Try.underlying23
  have HB := Aside0.mk (Below.refl w.heap.size w)
  have H : ((gimbalref02_norm.f k a0_0 a0_1).bind fun bt957 => ((gimbalref02_None.f bt957.1 bt957.2).bind fun t959 => (if t959 = true then (gimbalref02_Abs.j0 k true bt957.1 bt957.2) else (gimbalref02_Abs.j0 k (decide (bt957.1 ≥ 0)) bt957.1 bt957.2)))) = some (r1, r2) := h
  clear h
  replace H := Option.bind_eq_some_iff.mp H
  obtain ⟨⟨t957, t958⟩, A20, H⟩ := H
  replace H : ((gimbalref02_None.f t957 t958).bind fun t959 => (if t959 = true then (gimbalref02_Abs.j0 k true t957 t958) else (gimbalref02_Abs.j0 k (decide (t957 ≥ 0)) t957 t958))) = some (r1, r2) := H
  have A2 := Aside0.mk A20
  clear A20
  have HC3 := Aside0.mk H
  clear H
  go_enter Try.func52, Try.ntmps52
  go_upto_region 2 with (first | ((with_reducible refine gate_dst (N := 1) rfl ?_); refine box_event ?hg (N := 1) ?hd (cs := #[.int .i64 a0_0, .int .i64 a0_1]) (t := 23) ?hr ?_; (case hd => rfl); (case hg => rfl); (case hr => first | (go_simp; done) | (go_simp; rfl)); intro gb955 hg w4 hbox hb; have n0_ := Aside0.mk (below_step (by repeat (first | (with_reducible first | exact HB.out | apply below_alloc | apply pw_below_drewN | apply below_drew1) | exact HB.out)) hb); have n1_ := Aside0.mk (hbox); have n2_ := Aside0.mk ((by rw [hg]; exact (below_size (by repeat (first | (with_reducible first | exact HB.out | apply below_alloc | apply pw_below_drewN | apply below_drew1) | exact HB.out))) : w.heap.size ≤ gb955)); have n3_ := Aside0.mk ((by rw [hg]; exact (below_size (by repeat (first | (with_reducible first | exact HB.out | apply below_alloc | apply pw_below_drewN | apply below_drew1) | exact HB.out))) : w.heap.size ≤ gb955)); clear HB; have HB := n0_; have BK955 := n1_; have GW955 := n2_; have GE955 := n3_; clear n0_ n1_ n2_ n3_; clear hb hbox hg) | ((with_reducible refine gate_dst (N := 2) rfl ?_); refine box_event ?hg (N := 2) ?hd (cs := #[.int .i64 0, .int .i64 0]) (t := 23) ?hr ?_; (case hd => rfl); (case hg => rfl); (case hr => first | (go_simp; done) | (go_simp; rfl)); intro gb956 hg w5 hbox hb; have n0_ := Aside0.mk (below_step (by repeat (first | (with_reducible first | exact HB.out | apply below_alloc | apply pw_below_drewN | apply below_drew1 | refine below_set ?_ GE955.out) | exact HB.out)) hb); have n1_ := Aside0.mk (hbox); have n2_ := Aside0.mk ((by rw [hg]; exact (below_size (by repeat (first | (with_reducible first | exact HB.out | apply below_alloc | apply pw_below_drewN | apply below_drew1 | refine below_set ?_ GE955.out) | exact HB.out))) : w.heap.size ≤ gb956)); have n3_ := Aside0.mk ((by rw [hg]; exact (below_size (by repeat (first | (with_reducible first | exact HB.out | apply below_alloc | apply pw_below_drewN | apply below_drew1 | refine below_set ?_ GE955.out) | exact HB.out))) : w.heap.size ≤ gb956)); have n4_ := Aside0.mk ((by rw [hg]; exact Nat.ne_of_lt (blk_lt (g := gb955) (o := .cells #[.int .i64 a0_0, .int .i64 a0_1] 23 (0, 0)) (pk BK955.out)) : gb955 ≠ gb956)); have n5_ := Aside0.mk ((by rw [hg]; exact Nat.ne_of_gt (blk_lt (g := gb955) (o := .cells #[.int .i64 a0_0, .int .i64 a0_1] 23 (0, 0)) (pk BK955.out)) : gb956 ≠ gb955)); replace BK955 := bbw BK955 hb; clear HB; have HB := n0_; have BK956 := n1_; have GW956 := n2_; have GE956 := n3_; have NB955_956 := n4_; have NB956_955 := n5_; clear n0_ n1_ n2_ n3_ n4_ n5_; clear hb hbox hg; have hnb6 := NB955_956.out; have hnc6 := NB956_955.out; have hcz7_0 : w5.cell? ⟨gb955, 0, none⟩ = some (.int .i64 a0_0) := (blk_cell BK955.out 0).trans rfl; have hcz7_1 : w5.cell? ⟨gb955, 1, none⟩ = some (.int .i64 a0_1) := (blk_cell BK955.out 1).trans rfl; have hfz7_0 := blk_frozen BK955.out 0; have hfz7_1 := blk_frozen BK955.out 1) | ((with_reducible refine gate_callee (f := 60) rfl ?_); refine goesL_ (some 4) rfl rfl Try.func60 (by kernel_rfl) rfl #[.agg #[.int .i64 a0_0, .int .i64 a0_1]] rfl (by (try simp only [List.map_toArray, List.map_cons, List.map_nil]); first | done | rfl | (simp only [List.length_drop, List.length_take]; rfl)) ?_; (with_reducible refine (gimbalref02_norm.calls k a0_0 a0_1 t957 t958 _ A2.out).mono ?_); rintro e w8 ⟨rfl, hb⟩; refine ⟨_, rfl, ?_⟩; have n0_ := Aside0.mk (below_step (by repeat (first | (with_reducible first | exact HB.out | apply below_alloc | apply pw_below_drewN | apply below_drew1 | refine below_set ?_ GE955.out | refine below_set ?_ GE956.out) | exact HB.out)) hb); replace BK955 := bbw BK955 hb; replace BK956 := bbw BK956 hb; clear HB; have HB := n0_; clear n0_; (try clear hb); (try clear hb2); (try clear hk); (try clear hi); have hcz9_0 : w8.cell? ⟨gb955, 0, none⟩ = some (.int .i64 a0_0) := (blk_cell BK955.out 0).trans rfl; have hcz9_1 : w8.cell? ⟨gb955, 1, none⟩ = some (.int .i64 a0_1) := (blk_cell BK955.out 1).trans rfl; have hfz9_0 := blk_frozen BK955.out 0; have hfz9_1 := blk_frozen BK955.out 1))
  (try simp only [Act.put, List.setIfInBounds_toArray, List.set_cons_zero, List.set_cons_succ])
  go_cut [11] (fun v11 wc => ∃ (kq : Nat) (x11_2 : Bool), v11 = .bool x11_2 ∧ Aside0 (gimbalref02_Abs.j0 kq x11_2 t957 t958 = some (r1, r2)) ∧ Aside0 (kq ≤ k) ∧ Aside0 (wc.heap[gb955]? = some (.cells #[.int .i64 t957, .int .i64 t958] 23 (0, 0))) ∧ Aside0 (wc.heap[gb956]? = some (.cells #[.int .i64 0, .int .i64 0] 23 (0, 0))) ∧ Aside0 (Below w.heap.size w wc))
  case first =>
   have H := HC3.out
   clear HC3
   replace H := Option.bind_eq_some_iff.mp H
   obtain ⟨t959, A100, H⟩ := H
   replace H : (if t959 = true then (gimbalref02_Abs.j0 k true t957 t958) else (gimbalref02_Abs.j0 k (decide (t957 ≥ 0)) t957 t958)) = some (r1, r2) := H
   have A10 := Aside0.mk A100
   clear A100
   by_cases c11 : t959 = true
   ·
    subst c11
    have H1 : (gimbalref02_Abs.j0 k true t957 t958) = some (r1, r2) := by rw [if_pos rfl] at H; exact H
    clear H
    have H := H1
    clear H1
    have H' := Aside0.mk H
    clear H
    have hnb12 := NB955_956.out
    have hnc12 := NB956_955.out
    have hcz13_0 : w8.cell? ⟨gb955, 0, none⟩ = some (.int .i64 a0_0) := (blk_cell BK955.out 0).trans rfl
    have hcz13_1 : w8.cell? ⟨gb955, 1, none⟩ = some (.int .i64 a0_1) := (blk_cell BK955.out 1).trans rfl
    have hfz13_0 := blk_frozen BK955.out 0
    have hfz13_1 := blk_frozen BK955.out 1
    go_wp2_with (first | ((with_reducible refine gate_callee (f := 61) rfl ?_); refine goesL_ (some 6) rfl rfl Try.func61 (by kernel_rfl) rfl #[.agg #[.int .i64 t957, .int .i64 t958]] rfl (by (try simp only [List.map_toArray, List.map_cons, List.map_nil]); first | done | rfl | (simp only [List.length_drop, List.length_take]; rfl)) ?_; (with_reducible refine (gimbalref02_None.calls t957 t958 true _ A10.out).mono ?_); rintro e w14 ⟨rfl, hb⟩; refine ⟨_, rfl, ?_⟩; have n0_ := Aside0.mk (blk_below (g := gb955) (o := .cells #[.int .i64 t957, .int .i64 t958] 23 (0, 0)) (by (with_reducible repeat (first | refine blk_drewN ?_ _ | refine blk_drew ?_ | refine blk_alloc ?_ _)); refine blk_put (cs := #[.int .i64 t957, .int .i64 a0_1]) ?_ 1 _ (by first | rfl | (subst_vars; rfl)); (with_reducible repeat (first | refine blk_drewN ?_ _ | refine blk_drew ?_ | refine blk_alloc ?_ _)); refine blk_put (cs := #[.int .i64 a0_0, .int .i64 a0_1]) ?_ 0 _ (by first | rfl | (subst_vars; rfl)); (with_reducible repeat (first | refine blk_drewN ?_ _ | refine blk_drew ?_ | refine blk_alloc ?_ _)); exact BK955.out) hb); have n1_ := Aside0.mk (blk_below (g := gb956) (o := .cells #[.int .i64 0, .int .i64 0] 23 (0, 0)) (by (with_reducible repeat (first | refine blk_drewN ?_ _ | refine blk_drew ?_ | refine blk_alloc ?_ _)); refine blk_far ?_ NB956_955.out _; (with_reducible repeat (first | refine blk_drewN ?_ _ | refine blk_drew ?_ | refine blk_alloc ?_ _)); refine blk_far ?_ NB956_955.out _; (with_reducible repeat (first | refine blk_drewN ?_ _ | refine blk_drew ?_ | refine blk_alloc ?_ _)); exact BK956.out) hb); have n2_ := Aside0.mk (below_step (by repeat (first | (with_reducible first | exact HB.out | apply below_alloc | apply pw_below_drewN | apply below_drew1 | refine below_set ?_ GE955.out | refine below_set ?_ GE956.out) | exact HB.out)) hb); clear BK955; clear BK956; clear HB; have BK955 := n0_; have BK956 := n1_; have HB := n2_; clear n0_ n1_ n2_; (try clear hb); (try clear hb2); (try clear hk); (try clear hi)))
    go_meet
    case rel => exact ⟨_, (true), (by first | rfl | (simp; done) | (simp [*]; done)), H', ⟨by first | omega | exact Nat.le_refl _⟩, ⟨by (with_reducible repeat (first | refine blk_drewN ?_ _ | refine blk_drew ?_ | refine blk_alloc ?_ _)); exact BK955.out⟩, ⟨by (with_reducible repeat (first | refine blk_drewN ?_ _ | refine blk_drew ?_ | refine blk_alloc ?_ _)); exact BK956.out⟩, ⟨by repeat (first | (with_reducible first | exact HB.out | apply below_alloc | apply pw_below_drewN | apply below_drew1 | refine below_set ?_ GE955.out | refine below_set ?_ GE956.out) | exact HB.out)⟩⟩
   ·
    replace c11 := Bool.eq_false_iff.mpr c11
    subst c11
    have H1 : (gimbalref02_Abs.j0 k (decide (t957 ≥ 0)) t957 t958) = some (r1, r2) := by rw [if_neg (show ¬ (false = true) by decide)] at H; exact H
    clear H
    have H := H1
    clear H1
    have H' := Aside0.mk H
    clear H
    have hnb15 := NB955_956.out
    have hnc15 := NB956_955.out
    have hcz16_0 : w8.cell? ⟨gb955, 0, none⟩ = some (.int .i64 a0_0) := (blk_cell BK955.out 0).trans rfl
    have hcz16_1 : w8.cell? ⟨gb955, 1, none⟩ = some (.int .i64 a0_1) := (blk_cell BK955.out 1).trans rfl
    have hfz16_0 := blk_frozen BK955.out 0
    have hfz16_1 := blk_frozen BK955.out 1
    go_wp2_with (first | ((with_reducible refine gate_callee (f := 61) rfl ?_); refine goesL_ (some 6) rfl rfl Try.func61 (by kernel_rfl) rfl #[.agg #[.int .i64 t957, .int .i64 t958]] rfl (by (try simp only [List.map_toArray, List.map_cons, List.map_nil]); first | done | rfl | (simp only [List.length_drop, List.length_take]; rfl)) ?_; (with_reducible refine (gimbalref02_None.calls t957 t958 false _ A10.out).mono ?_); rintro e w17 ⟨rfl, hb⟩; refine ⟨_, rfl, ?_⟩; have n0_ := Aside0.mk (blk_below (g := gb955) (o := .cells #[.int .i64 t957, .int .i64 t958] 23 (0, 0)) (by (with_reducible repeat (first | refine blk_drewN ?_ _ | refine blk_drew ?_ | refine blk_alloc ?_ _)); refine blk_put (cs := #[.int .i64 t957, .int .i64 a0_1]) ?_ 1 _ (by first | rfl | (subst_vars; rfl)); (with_reducible repeat (first | refine blk_drewN ?_ _ | refine blk_drew ?_ | refine blk_alloc ?_ _)); refine blk_put (cs := #[.int .i64 a0_0, .int .i64 a0_1]) ?_ 0 _ (by first | rfl | (subst_vars; rfl)); (with_reducible repeat (first | refine blk_drewN ?_ _ | refine blk_drew ?_ | refine blk_alloc ?_ _)); exact BK955.out) hb); have n1_ := Aside0.mk (blk_below (g := gb956) (o := .cells #[.int .i64 0, .int .i64 0] 23 (0, 0)) (by (with_reducible repeat (first | refine blk_drewN ?_ _ | refine blk_drew ?_ | refine blk_alloc ?_ _)); refine blk_far ?_ NB956_955.out _; (with_reducible repeat (first | refine blk_drewN ?_ _ | refine blk_drew ?_ | refine blk_alloc ?_ _)); refine blk_far ?_ NB956_955.out _; (with_reducible repeat (first | refine blk_drewN ?_ _ | refine blk_drew ?_ | refine blk_alloc ?_ _)); exact BK956.out) hb); have n2_ := Aside0.mk (below_step (by repeat (first | (with_reducible first | exact HB.out | apply below_alloc | apply pw_below_drewN | apply below_drew1 | refine below_set ?_ GE955.out | refine below_set ?_ GE956.out) | exact HB.out)) hb); clear BK955; clear BK956; clear HB; have BK955 := n0_; have BK956 := n1_; have HB := n2_; clear n0_ n1_ n2_; (try clear hb); (try clear hb2); (try clear hk); (try clear hi); have hcz18_0 : w17.cell? ⟨gb955, 0, none⟩ = some (.int .i64 t957) := (blk_cell BK955.out 0).trans rfl; have hcz18_1 : w17.cell? ⟨gb955, 1, none⟩ = some (.int .i64 t958) := (blk_cell BK955.out 1).trans rfl; have hfz18_0 := blk_frozen BK955.out 0; have hfz18_1 := blk_frozen BK955.out 1))
    go_meet
    case rel => exact ⟨_, (decide (t957 ≥ 0)), (by first | rfl | (simp; done) | (simp [*]; done)), H', ⟨by first | omega | exact Nat.le_refl _⟩, ⟨by (with_reducible repeat (first | refine blk_drewN ?_ _ | refine blk_drew ?_ | refine blk_alloc ?_ _)); exact BK955.out⟩, ⟨by (with_reducible repeat (first | refine blk_drewN ?_ _ | refine blk_drew ?_ | refine blk_alloc ?_ _)); exact BK956.out⟩, ⟨by repeat (first | (with_reducible first | exact HB.out | apply below_alloc | apply pw_below_drewN | apply below_drew1 | refine below_set ?_ GE955.out | refine below_set ?_ GE956.out) | exact HB.out)⟩⟩
  case rest =>
   clear HC3
   try clear c1
   try clear p2
   try clear c5
   try clear c6
   try clear c11
   try clear c12
   try clear c15
   try clear hcz13_0
   try clear hcz13_1
   try clear hcz16_0
   try clear hcz16_1
   try clear hcz18_0
   try clear hcz18_1
   try clear hcz7_0
   try clear hcz7_1
   try clear hcz9_0
   try clear hcz9_1
   try clear hfz13_0
   try clear hfz13_1
   try clear hfz16_0
   try clear hfz16_1
   try clear hfz18_0
   try clear hfz18_1
   try clear hfz7_0
   try clear hfz7_1
   try clear hfz9_0
   try clear hfz9_1
   obtain ⟨kq, x11_2, rfl, HA, HJ2, BK955, BK956, HB⟩ := hcut
   cases kq with
   | zero => exact absurd HA.out (by simp [gimbalref02_Abs.j0])
   | succ kj2 =>
    have H := HA.out
    clear HA
    simp only [gimbalref02_Abs.j0] at H
    by_cases c19 : x11_2 = true
    ·
     subst c19
     have H1 : (some (t957, t958)) = some (r1, r2) := by rw [if_pos rfl] at H; exact H
     clear H
     have H := H1
     clear H1
     simp only [Option.some.injEq, Prod.mk.injEq] at H
     obtain ⟨rfl, rfl⟩ := H
     have hnb20 := NB955_956.out
     have hnc20 := NB956_955.out
     have hcz21_0 : wc.cell? ⟨gb955, 0, none⟩ = some (.int .i64 t957) := (blk_cell BK955.out 0).trans rfl
     have hcz21_1 : wc.cell? ⟨gb955, 1, none⟩ = some (.int .i64 t958) := (blk_cell BK955.out 1).trans rfl
     have hfz21_0 := blk_frozen BK955.out 0
     have hfz21_1 := blk_frozen BK955.out 1
     have hcz22_0 : wc.cell? ⟨gb956, 0, none⟩ = some (.int .i64 0) := (blk_cell BK956.out 0).trans rfl
     have hcz22_1 : wc.cell? ⟨gb956, 1, none⟩ = some (.int .i64 0) := (blk_cell BK956.out 1).trans rfl
     have hfz22_0 := blk_frozen BK956.out 0
     have hfz22_1 := blk_frozen BK956.out 1
     go_wp2
     refine bodyPost_ret (results_cell_row rfl _ _ gb956 23 #[.int .i64 t957, .int .i64 t958] (0, 0) _ rfl (by (with_reducible repeat (first | refine blk_drewN ?_ _ | refine blk_drew ?_ | refine blk_alloc ?_ _)); refine blk_put (cs := #[.int .i64 t957, .int .i64 0]) ?_ 1 _ (by first | rfl | (subst_vars; rfl)); (with_reducible repeat (first | refine blk_drewN ?_ _ | refine blk_drew ?_ | refine blk_alloc ?_ _)); refine blk_put (cs := #[.int .i64 0, .int .i64 0]) ?_ 0 _ (by first | rfl | (subst_vars; rfl)); (with_reducible repeat (first | refine blk_drewN ?_ _ | refine blk_drew ?_ | refine blk_alloc ?_ _)); exact BK956.out) Try.underlying23 rfl (by kernel_rfl)) rfl ?_
     exact ⟨by first | rfl | (simp [errW_none, errW_some] <;> rfl) | (simp [*, errW_none, errW_some] <;> rfl) | kernel_rfl, by repeat (first | (with_reducible first | exact HB.out | apply below_alloc | apply pw_below_drewN | apply below_drew1 | refine below_set ?_ GE955.out | refine below_set ?_ GE956.out) | exact HB.out)⟩
    ·
     replace c19 := Bool.eq_false_iff.mpr c19
     subst c19
     have H1 : (if t958 ≤ 0 then ((gimbalref02_Neg.f kj2 t957 t958).bind fun bt960 => (some (bt960.1, bt960.2))) else ((gimbalref02_more.f (wrap64 (-t957)) t958).bind fun t962 => ((gimbalref02_Of.f kj2 0 t962).bind fun bt963 => (some (bt963.1, bt963.2))))) = some (r1, r2) := by rw [if_neg (show ¬ (false = true) by decide)] at H; exact H
     clear H
     have H := H1
     clear H1
     by_cases c23 : t958 ≤ 0
     ·
      rw [if_pos c23] at H
      have c23b0 : decide (t958 ≤ 0) = true := decide_eq_true c23
      clear c23
      replace H := Option.bind_eq_some_iff.mp H
      obtain ⟨⟨t960, t961⟩, A240, H⟩ := H
      replace H : (some (t960, t961)) = some (r1, r2) := H
      have A24 := Aside0.mk A240
      clear A240
      simp only [Option.some.injEq, Prod.mk.injEq] at H
      obtain ⟨rfl, rfl⟩ := H
      have hnb25 := NB955_956.out
      have hnc25 := NB956_955.out
      have hcz26_0 : wc.cell? ⟨gb955, 0, none⟩ = some (.int .i64 t957) := (blk_cell BK955.out 0).trans rfl
      have hcz26_1 : wc.cell? ⟨gb955, 1, none⟩ = some (.int .i64 t958) := (blk_cell BK955.out 1).trans rfl
      have hfz26_0 := blk_frozen BK955.out 0
      have hfz26_1 := blk_frozen BK955.out 1
      go_wp2_with (first | ((with_reducible refine gate_callee (f := 51) rfl ?_); refine goesL_ (some 17) rfl rfl Try.func51 (by kernel_rfl) rfl #[.agg #[.int .i64 t957, .int .i64 t958]] rfl (by (try simp only [List.map_toArray, List.map_cons, List.map_nil]); first | done | rfl | (simp only [List.length_drop, List.length_take]; rfl)) ?_; (with_reducible refine (gimbalref02_Neg.calls kj2 t957 t958 t960 t961 _ A24.out).mono ?_); rintro e w27 ⟨rfl, hb⟩; refine ⟨_, rfl, ?_⟩; have n0_ := Aside0.mk (below_step (by repeat (first | (with_reducible first | exact HB.out | apply below_alloc | apply pw_below_drewN | apply below_drew1 | refine below_set ?_ GE955.out | refine below_set ?_ GE956.out) | exact HB.out)) hb); replace BK955 := bbw BK955 hb; replace BK956 := bbw BK956 hb; clear HB; have HB := n0_; clear n0_; (try clear hb); (try clear hb2); (try clear hk); (try clear hi); have hcz28_0 : w27.cell? ⟨gb956, 0, none⟩ = some (.int .i64 0) := (blk_cell BK956.out 0).trans rfl; have hcz28_1 : w27.cell? ⟨gb956, 1, none⟩ = some (.int .i64 0) := (blk_cell BK956.out 1).trans rfl; have hfz28_0 := blk_frozen BK956.out 0; have hfz28_1 := blk_frozen BK956.out 1))
      refine bodyPost_ret (results_cell_row rfl _ _ gb956 23 #[.int .i64 t960, .int .i64 t961] (0, 0) _ rfl (by (with_reducible repeat (first | refine blk_drewN ?_ _ | refine blk_drew ?_ | refine blk_alloc ?_ _)); refine blk_put (cs := #[.int .i64 t960, .int .i64 0]) ?_ 1 _ (by first | rfl | (subst_vars; rfl)); (with_reducible repeat (first | refine blk_drewN ?_ _ | refine blk_drew ?_ | refine blk_alloc ?_ _)); refine blk_put (cs := #[.int .i64 0, .int .i64 0]) ?_ 0 _ (by first | rfl | (subst_vars; rfl)); (with_reducible repeat (first | refine blk_drewN ?_ _ | refine blk_drew ?_ | refine blk_alloc ?_ _)); exact BK956.out) Try.underlying23 rfl (by kernel_rfl)) rfl ?_
      exact ⟨by first | rfl | (simp [errW_none, errW_some] <;> rfl) | (simp [*, errW_none, errW_some] <;> rfl) | kernel_rfl, by repeat (first | (with_reducible first | exact HB.out | apply below_alloc | apply pw_below_drewN | apply below_drew1 | refine below_set ?_ GE955.out | refine below_set ?_ GE956.out) | exact HB.out)⟩
     ·
      rw [if_neg c23] at H
      have c23b0 : decide (t958 ≤ 0) = false := decide_eq_false c23
      clear c23
      replace H := Option.bind_eq_some_iff.mp H
      obtain ⟨t962, A290, H⟩ := H
      replace H : ((gimbalref02_Of.f kj2 0 t962).bind fun bt963 => (some (bt963.1, bt963.2))) = some (r1, r2) := H
      have A29 := Aside0.mk A290
      clear A290
      replace H := Option.bind_eq_some_iff.mp H
      obtain ⟨⟨t963, t964⟩, A300, H⟩ := H
      replace H : (some (t963, t964)) = some (r1, r2) := H
      have A30 := Aside0.mk A300
      clear A300
      simp only [Option.some.injEq, Prod.mk.injEq] at H
      obtain ⟨rfl, rfl⟩ := H
      have hnb31 := NB955_956.out
      have hnc31 := NB956_955.out
      have hcz32_0 : wc.cell? ⟨gb955, 0, none⟩ = some (.int .i64 t957) := (blk_cell BK955.out 0).trans rfl
      have hcz32_1 : wc.cell? ⟨gb955, 1, none⟩ = some (.int .i64 t958) := (blk_cell BK955.out 1).trans rfl
      have hfz32_0 := blk_frozen BK955.out 0
      have hfz32_1 := blk_frozen BK955.out 1
      go_wp2_with (first | ((with_reducible refine gate_callee (f := 63) rfl ?_); refine goesL_ (some 23) rfl rfl Try.func63 (by kernel_rfl) rfl #[.int .i64 (wrap64 (-t957)), .int .i64 t958] rfl (by (try simp only [List.map_toArray, List.map_cons, List.map_nil]); first | done | rfl | (simp only [List.length_drop, List.length_take]; rfl)) ?_; (with_reducible refine (gimbalref02_more.calls (wrap64 (-t957)) t958 t962 _ A29.out).mono ?_); rintro e w' ⟨rfl, ⟨nd, rfl⟩⟩; refine ⟨_, rfl, ?_⟩; (try (rw [drewN_self wc]; generalize hq_ : World.drewN wc _ = wc; have n0_ : Aside0 (wc.heap[gb955]? = some (.cells #[.int .i64 t957, .int .i64 t958] 23 (0, 0))) := ⟨by rw [← hq_]; exact (pk BK955.out)⟩; have n1_ : Aside0 (wc.heap[gb956]? = some (.cells #[.int .i64 0, .int .i64 0] 23 (0, 0))) := ⟨by rw [← hq_]; exact (pk BK956.out)⟩; have n2_ : Aside0 (Below w.heap.size w wc) := ⟨by rw [← hq_]; exact (by repeat (first | (with_reducible first | exact HB.out | apply below_alloc | apply pw_below_drewN | apply below_drew1 | refine below_set ?_ GE955.out | refine below_set ?_ GE956.out) | exact HB.out))⟩; clear BK955 BK956 HB hq_; have BK955 := n0_; have BK956 := n1_; have HB := n2_; clear n0_ n1_ n2_))) | ((with_reducible refine gate_callee (f := 14) rfl ?_); refine goesL_ (some 24) rfl rfl Try.func14 (by kernel_rfl) rfl #[.int .i64 0, .int .i64 t962] rfl (by (try simp only [List.map_toArray, List.map_cons, List.map_nil]); first | done | rfl | (simp only [List.length_drop, List.length_take]; rfl)) ?_; (with_reducible refine (gimbalref02_Of.calls kj2 0 t962 t963 t964 _ A30.out).mono ?_); rintro e w33 ⟨rfl, hb⟩; refine ⟨_, rfl, ?_⟩; have n0_ := Aside0.mk (below_step (by repeat (first | (with_reducible first | exact HB.out | apply below_alloc | apply pw_below_drewN | apply below_drew1 | refine below_set ?_ GE955.out | refine below_set ?_ GE956.out) | exact HB.out)) hb); replace BK955 := bbw BK955 hb; replace BK956 := bbw BK956 hb; clear HB; have HB := n0_; clear n0_; (try clear hb); (try clear hb2); (try clear hk); (try clear hi); have hcz34_0 : w33.cell? ⟨gb956, 0, none⟩ = some (.int .i64 0) := (blk_cell BK956.out 0).trans rfl; have hcz34_1 : w33.cell? ⟨gb956, 1, none⟩ = some (.int .i64 0) := (blk_cell BK956.out 1).trans rfl; have hfz34_0 := blk_frozen BK956.out 0; have hfz34_1 := blk_frozen BK956.out 1))
      refine bodyPost_ret (results_cell_row rfl _ _ gb956 23 #[.int .i64 t963, .int .i64 t964] (0, 0) _ rfl (by (with_reducible repeat (first | refine blk_drewN ?_ _ | refine blk_drew ?_ | refine blk_alloc ?_ _)); refine blk_put (cs := #[.int .i64 t963, .int .i64 0]) ?_ 1 _ (by first | rfl | (subst_vars; rfl)); (with_reducible repeat (first | refine blk_drewN ?_ _ | refine blk_drew ?_ | refine blk_alloc ?_ _)); refine blk_put (cs := #[.int .i64 0, .int .i64 0]) ?_ 0 _ (by first | rfl | (subst_vars; rfl)); (with_reducible repeat (first | refine blk_drewN ?_ _ | refine blk_drew ?_ | refine blk_alloc ?_ _)); exact BK956.out) Try.underlying23 rfl (by kernel_rfl)) rfl ?_
      exact ⟨by first | rfl | (simp [errW_none, errW_some] <;> rfl) | (simp [*, errW_none, errW_some] <;> rfl) | kernel_rfl, by repeat (first | (with_reducible first | exact HB.out | apply below_alloc | apply pw_below_drewN | apply below_drew1 | refine below_set ?_ GE955.out | refine below_set ?_ GE956.out) | exact HB.out)⟩
end Go.Proofs.Ytbbnpipmjadpoaa.P
