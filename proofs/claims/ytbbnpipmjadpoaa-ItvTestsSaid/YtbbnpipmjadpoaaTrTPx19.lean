/- What the law's proof needs of Px19. -/
import Derived.Test.YtbbnpipmjadpoaaTrTPx0
import Derived.Test.YtbbnpipmjadpoaaTrTPx7
import Derived.Test.YtbbnpipmjadpoaaTrTPx11
-- PRINTED by print.py (a twelfth state) out of the translation. Not trusted: Lean checks it.
namespace Go.Proofs.Ytbbnpipmjadpoaa.P
open Go.RowKit Go.Proofs.YtbbnpipmjadpoaaW.PrintWords Go.Proofs.YtbbnpipmjadpoaaW.PrintLast Go.Proofs.YtbbnpipmjadpoaaW.PrintMore Go.Proofs.YtbbnpipmjadpoaaO
attribute [local go_sem] max2_int min2_int max_two min_two max_three min_three max_four min_four   -- for this text's walks alone
set_option linter.unusedVariables false
set_option linter.unusedSimpArgs false
mutual
def gimbalref02_pair.j0 : Nat → Int → Bool → Int → Int → Int → Int → Option (Bool)
  | 0, _, _, _, _, _, _ => none
  | k + 1, x0, x7, x459000, x459001, x460000, x460001 => if x0 = 14 then ((gimbalref02_Meet.f k x459000 x459001 x460000 x460001).bind fun bt460 => ((gimbalref02_None.f bt460.1 bt460.2).bind fun t462 => (some (!t462)))) else (if x0 = 15 then (some (!x7)) else (if x0 = 16 then (if x459000 = (-4611686018427387904) then (some true) else (if x460001 = 4611686018427387904 then (some true) else (some (decide (x459000 < x460001))))) else (if x0 = 17 then (if x459000 = (-4611686018427387904) then (some true) else (if x460001 = 4611686018427387904 then (some true) else (some (decide (x459000 ≤ x460001))))) else (if x0 = 18 then ((gimbalref02_pair.f k 16 x460000 x460001 x459000 x459001).bind fun t463 => (some t463)) else (if x0 = 19 then ((gimbalref02_pair.f k 17 x460000 x460001 x459000 x459001).bind fun t464 => (some t464)) else (some true))))))
def gimbalref02_pair.f : Nat → Int → Int → Int → Int → Int → Option (Bool)
  | 0, _, _, _, _, _ => none
  | k + 1, a0, a1_0, a1_1, a2_0, a2_1 => if a1_0 = a1_1 then (if a2_0 = a2_1 then (gimbalref02_pair.j0 k a0 (a1_0 == a2_0) a1_0 a1_1 a2_0 a2_1) else (gimbalref02_pair.j0 k a0 false a1_0 a1_1 a2_0 a2_1)) else (gimbalref02_pair.j0 k a0 false a1_0 a1_1 a2_0 a2_1)
end
set_option maxHeartbeats 8000000 in
set_option maxRecDepth 100000 in
theorem gimbalref02_pair.calls (k : Nat) : ∀ (a0 : Int) (a1_0 : Int) (a1_1 : Int) (a2_0 : Int) (a2_1 : Int) (r : Bool) (w : World) (h : gimbalref02_pair.f k a0 a1_0 a1_1 a2_0 a2_1 = some r),
    Calls Try.prog 68 #[.int .i64 a0, .agg #[.int .i64 a1_0, .int .i64 a1_1], .agg #[.int .i64 a2_0, .int .i64 a2_1]] w fun e w' => e = .returned (.bool r) ∧ Below w.heap.size w w' := by
  induction k using Nat.strongRecOn with
  | _ k ih =>
  intro a0 a1_0 a1_1 a2_0 a2_1 r w h
  cases k with
  | zero => exact absurd h (by simp [gimbalref02_pair.f])
  | succ k =>
  simp only [gimbalref02_pair.f] at h
  have hu23 := Try.underlying23
  have HB := Aside0.mk (Below.refl w.heap.size w)
  have H : (if a1_0 = a1_1 then (if a2_0 = a2_1 then (gimbalref02_pair.j0 k a0 (a1_0 == a2_0) a1_0 a1_1 a2_0 a2_1) else (gimbalref02_pair.j0 k a0 false a1_0 a1_1 a2_0 a2_1)) else (gimbalref02_pair.j0 k a0 false a1_0 a1_1 a2_0 a2_1)) = some r := h
  clear h
  have HC4 := Aside0.mk H
  clear H
  go_enter Try.func68, Try.ntmps68
  go_upto_region 1 with (first | ((with_reducible refine gate_dst (N := 4) rfl ?_); refine box_event ?hg (N := 4) ?hd (cs := #[.int .i64 a1_0, .int .i64 a1_1]) (t := 23) ?hr ?_; (case hd => rfl); (case hg => rfl); (case hr => first | (go_simp; done) | (go_simp; rfl)); intro gb458 hg w5 hbox hb; have n0_ := Aside0.mk (below_step (by repeat (first | (with_reducible first | exact HB.out | apply below_alloc | apply pw_below_drewN | apply below_drew1) | exact HB.out)) hb); have n1_ := Aside0.mk (hbox); have n2_ := Aside0.mk ((by rw [hg]; exact (below_size (by repeat (first | (with_reducible first | exact HB.out | apply below_alloc | apply pw_below_drewN | apply below_drew1) | exact HB.out))) : w.heap.size ≤ gb458)); have n3_ := Aside0.mk ((by rw [hg]; exact (below_size (by repeat (first | (with_reducible first | exact HB.out | apply below_alloc | apply pw_below_drewN | apply below_drew1) | exact HB.out))) : w.heap.size ≤ gb458)); clear HB; have HB := n0_; have BK458 := n1_; have GW458 := n2_; have GE458 := n3_; clear n0_ n1_ n2_ n3_; clear hb hbox hg) | ((with_reducible refine gate_dst (N := 5) rfl ?_); refine box_event ?hg (N := 5) ?hd (cs := #[.int .i64 a2_0, .int .i64 a2_1]) (t := 23) ?hr ?_; (case hd => rfl); (case hg => rfl); (case hr => first | (go_simp; done) | (go_simp; rfl)); intro gb459 hg w6 hbox hb; have n0_ := Aside0.mk (below_step (by repeat (first | (with_reducible first | exact HB.out | apply below_alloc | apply pw_below_drewN | apply below_drew1 | refine below_set ?_ GE458.out) | exact HB.out)) hb); have n1_ := Aside0.mk (hbox); have n2_ := Aside0.mk ((by rw [hg]; exact (below_size (by repeat (first | (with_reducible first | exact HB.out | apply below_alloc | apply pw_below_drewN | apply below_drew1 | refine below_set ?_ GE458.out) | exact HB.out))) : w.heap.size ≤ gb459)); have n3_ := Aside0.mk ((by rw [hg]; exact (below_size (by repeat (first | (with_reducible first | exact HB.out | apply below_alloc | apply pw_below_drewN | apply below_drew1 | refine below_set ?_ GE458.out) | exact HB.out))) : w.heap.size ≤ gb459)); have n4_ := Aside0.mk ((by rw [hg]; exact Nat.ne_of_lt (blk_lt (g := gb458) (o := .cells #[.int .i64 a1_0, .int .i64 a1_1] 23 (0, 0)) (pk BK458.out)) : gb458 ≠ gb459)); have n5_ := Aside0.mk ((by rw [hg]; exact Nat.ne_of_gt (blk_lt (g := gb458) (o := .cells #[.int .i64 a1_0, .int .i64 a1_1] 23 (0, 0)) (pk BK458.out)) : gb459 ≠ gb458)); replace BK458 := bbw BK458 hb; clear HB; have HB := n0_; have BK459 := n1_; have GW459 := n2_; have GE459 := n3_; have NB458_459 := n4_; have NB459_458 := n5_; clear n0_ n1_ n2_ n3_ n4_ n5_; clear hb hbox hg))
  (try simp only [Act.put, List.setIfInBounds_toArray, List.set_cons_zero, List.set_cons_succ])
  go_cut [7] (fun v7 wc => ∃ (kq : Nat) (x7_3 : Bool), v7 = .bool x7_3 ∧ Aside0 (gimbalref02_pair.j0 kq a0 x7_3 a1_0 a1_1 a2_0 a2_1 = some r) ∧ Aside0 (kq ≤ k) ∧ Aside0 (wc.heap[gb458]? = some (.cells #[.int .i64 a1_0, .int .i64 a1_1] 23 (0, 0))) ∧ Aside0 (wc.heap[gb459]? = some (.cells #[.int .i64 a2_0, .int .i64 a2_1] 23 (0, 0))) ∧ Aside0 (Below w.heap.size w wc))
  case first =>
   have H := HC4.out
   clear HC4
   by_cases c7 : a1_0 = a1_1
   ·
    rw [if_pos c7] at H
    have c7b0 : (a1_0 == a1_1) = true := beq_iff_eq.mpr c7
    have c7b1 : (a1_0 != a1_1) = false := bne_eq_false_iff_eq.mpr c7
    clear c7
    (first | rw [c7b0] | (simp only [i64_w, i32_w]; rw [c7b0]) | skip)
    by_cases c8 : a2_0 = a2_1
    ·
     rw [if_pos c8] at H
     have c8b0 : (a2_0 == a2_1) = true := beq_iff_eq.mpr c8
     have c8b1 : (a2_0 != a2_1) = false := bne_eq_false_iff_eq.mpr c8
     clear c8
     have H' := Aside0.mk H
     clear H
     have hnb9 := NB458_459.out
     have hnc9 := NB459_458.out
     have hcz10_0 : w6.cell? ⟨gb458, 0, none⟩ = some (.int .i64 a1_0) := (blk_cell BK458.out 0).trans rfl
     have hcz10_1 : w6.cell? ⟨gb458, 1, none⟩ = some (.int .i64 a1_1) := (blk_cell BK458.out 1).trans rfl
     have hfz10_0 := blk_frozen BK458.out 0
     have hfz10_1 := blk_frozen BK458.out 1
     have hcz11_0 : w6.cell? ⟨gb459, 0, none⟩ = some (.int .i64 a2_0) := (blk_cell BK459.out 0).trans rfl
     have hcz11_1 : w6.cell? ⟨gb459, 1, none⟩ = some (.int .i64 a2_1) := (blk_cell BK459.out 1).trans rfl
     have hfz11_0 := blk_frozen BK459.out 0
     have hfz11_1 := blk_frozen BK459.out 1
     go_wp2
     go_meet
     case rel => exact ⟨_, ((a1_0 == a2_0)), (by first | rfl | (simp; done) | (simp [*]; done)), H', ⟨by first | omega | exact Nat.le_refl _⟩, ⟨by (with_reducible repeat (first | refine blk_drewN ?_ _ | refine blk_drew ?_ | refine blk_alloc ?_ _)); exact BK458.out⟩, ⟨by (with_reducible repeat (first | refine blk_drewN ?_ _ | refine blk_drew ?_ | refine blk_alloc ?_ _)); exact BK459.out⟩, ⟨by repeat (first | (with_reducible first | exact HB.out | apply below_alloc | apply pw_below_drewN | apply below_drew1 | refine below_set ?_ GE458.out | refine below_set ?_ GE459.out) | exact HB.out)⟩⟩
    ·
     rw [if_neg c8] at H
     have c8b0 : (a2_0 == a2_1) = false := beq_eq_false_iff_ne.mpr c8
     have c8b1 : (a2_0 != a2_1) = true := bne_iff_ne.mpr c8
     have H' := Aside0.mk H
     clear H
     have hnb12 := NB458_459.out
     have hnc12 := NB459_458.out
     have hcz13_0 : w6.cell? ⟨gb458, 0, none⟩ = some (.int .i64 a1_0) := (blk_cell BK458.out 0).trans rfl
     have hcz13_1 : w6.cell? ⟨gb458, 1, none⟩ = some (.int .i64 a1_1) := (blk_cell BK458.out 1).trans rfl
     have hfz13_0 := blk_frozen BK458.out 0
     have hfz13_1 := blk_frozen BK458.out 1
     have hcz14_0 : w6.cell? ⟨gb459, 0, none⟩ = some (.int .i64 a2_0) := (blk_cell BK459.out 0).trans rfl
     have hcz14_1 : w6.cell? ⟨gb459, 1, none⟩ = some (.int .i64 a2_1) := (blk_cell BK459.out 1).trans rfl
     have hfz14_0 := blk_frozen BK459.out 0
     have hfz14_1 := blk_frozen BK459.out 1
     go_wp2
     go_meet
     case rel => exact ⟨_, (false), (by first | rfl | (simp; done) | (simp [*]; done)), H', ⟨by first | omega | exact Nat.le_refl _⟩, ⟨by (with_reducible repeat (first | refine blk_drewN ?_ _ | refine blk_drew ?_ | refine blk_alloc ?_ _)); exact BK458.out⟩, ⟨by (with_reducible repeat (first | refine blk_drewN ?_ _ | refine blk_drew ?_ | refine blk_alloc ?_ _)); exact BK459.out⟩, ⟨by repeat (first | (with_reducible first | exact HB.out | apply below_alloc | apply pw_below_drewN | apply below_drew1 | refine below_set ?_ GE458.out | refine below_set ?_ GE459.out) | exact HB.out)⟩⟩
   ·
    rw [if_neg c7] at H
    have c7b0 : (a1_0 == a1_1) = false := beq_eq_false_iff_ne.mpr c7
    have c7b1 : (a1_0 != a1_1) = true := bne_iff_ne.mpr c7
    (first | rw [c7b0] | (simp only [i64_w, i32_w]; rw [c7b0]) | skip)
    have H' := Aside0.mk H
    clear H
    have hnb15 := NB458_459.out
    have hnc15 := NB459_458.out
    have hcz16_0 : w6.cell? ⟨gb458, 0, none⟩ = some (.int .i64 a1_0) := (blk_cell BK458.out 0).trans rfl
    have hcz16_1 : w6.cell? ⟨gb458, 1, none⟩ = some (.int .i64 a1_1) := (blk_cell BK458.out 1).trans rfl
    have hfz16_0 := blk_frozen BK458.out 0
    have hfz16_1 := blk_frozen BK458.out 1
    go_wp2
    go_meet
    case rel => exact ⟨_, (false), (by first | rfl | (simp; done) | (simp [*]; done)), H', ⟨by first | omega | exact Nat.le_refl _⟩, ⟨by (with_reducible repeat (first | refine blk_drewN ?_ _ | refine blk_drew ?_ | refine blk_alloc ?_ _)); exact BK458.out⟩, ⟨by (with_reducible repeat (first | refine blk_drewN ?_ _ | refine blk_drew ?_ | refine blk_alloc ?_ _)); exact BK459.out⟩, ⟨by repeat (first | (with_reducible first | exact HB.out | apply below_alloc | apply pw_below_drewN | apply below_drew1 | refine below_set ?_ GE458.out | refine below_set ?_ GE459.out) | exact HB.out)⟩⟩
  case rest =>
   clear HC4
   try clear c1
   try clear p2
   try clear c6
   try clear c7
   try clear c7b0
   try clear c7b1
   try clear c8
   try clear c8b0
   try clear c8b1
   try clear c9
   try clear c12
   try clear c15
   try clear hcz10_0
   try clear hcz10_1
   try clear hcz11_0
   try clear hcz11_1
   try clear hcz13_0
   try clear hcz13_1
   try clear hcz14_0
   try clear hcz14_1
   try clear hcz16_0
   try clear hcz16_1
   try clear hfz10_0
   try clear hfz10_1
   try clear hfz11_0
   try clear hfz11_1
   try clear hfz13_0
   try clear hfz13_1
   try clear hfz14_0
   try clear hfz14_1
   try clear hfz16_0
   try clear hfz16_1
   obtain ⟨kq, x7_3, rfl, HA, HJ3, BK458, BK459, HB⟩ := hcut
   cases kq with
   | zero => exact absurd HA.out (by simp [gimbalref02_pair.j0])
   | succ kj3 =>
    have H := HA.out
    clear HA
    simp only [gimbalref02_pair.j0] at H
    by_cases c17 : a0 = 14
    ·
     rw [if_pos c17] at H
     have c17b0 : (a0 == 14) = true := beq_iff_eq.mpr c17
     have c17b1 : (a0 != 14) = false := bne_eq_false_iff_eq.mpr c17
     clear c17
     replace H := Option.bind_eq_some_iff.mp H
     obtain ⟨⟨t460, t461⟩, A180, H⟩ := H
     replace H : ((gimbalref02_None.f t460 t461).bind fun t462 => (some (!t462))) = some r := H
     have A18 := Aside0.mk A180
     clear A180
     replace H := Option.bind_eq_some_iff.mp H
     obtain ⟨t462, A190, H⟩ := H
     replace H : (some (!t462)) = some r := H
     have A19 := Aside0.mk A190
     clear A190
     obtain rfl := Option.some.inj H
     have hnb20 := NB458_459.out
     have hnc20 := NB459_458.out
     have hcz21_0 : wc.cell? ⟨gb458, 0, none⟩ = some (.int .i64 a1_0) := (blk_cell BK458.out 0).trans rfl
     have hcz21_1 : wc.cell? ⟨gb458, 1, none⟩ = some (.int .i64 a1_1) := (blk_cell BK458.out 1).trans rfl
     have hfz21_0 := blk_frozen BK458.out 0
     have hfz21_1 := blk_frozen BK458.out 1
     have hcz22_0 : wc.cell? ⟨gb459, 0, none⟩ = some (.int .i64 a2_0) := (blk_cell BK459.out 0).trans rfl
     have hcz22_1 : wc.cell? ⟨gb459, 1, none⟩ = some (.int .i64 a2_1) := (blk_cell BK459.out 1).trans rfl
     have hfz22_0 := blk_frozen BK459.out 0
     have hfz22_1 := blk_frozen BK459.out 1
     go_wp2_with (first | ((with_reducible refine gate_callee (f := 29) rfl ?_); refine goesL_ (some 32) rfl rfl Try.func29 (by kernel_rfl) rfl #[.agg #[.int .i64 a1_0, .int .i64 a1_1], .agg #[.int .i64 a2_0, .int .i64 a2_1]] rfl (by (try simp only [List.map_toArray, List.map_cons, List.map_nil]); first | done | rfl | (simp only [List.length_drop, List.length_take]; rfl)) ?_; (with_reducible refine (gimbalref02_Meet.calls kj3 a1_0 a1_1 a2_0 a2_1 t460 t461 _ A18.out).mono ?_); rintro e w23 ⟨rfl, hb⟩; refine ⟨_, rfl, ?_⟩; have n0_ := Aside0.mk (below_step (by repeat (first | (with_reducible first | exact HB.out | apply below_alloc | apply pw_below_drewN | apply below_drew1 | refine below_set ?_ GE458.out | refine below_set ?_ GE459.out) | exact HB.out)) hb); replace BK458 := bbw BK458 hb; replace BK459 := bbw BK459 hb; clear HB; have HB := n0_; clear n0_; (try clear hb); (try clear hb2); (try clear hk); (try clear hi)) | ((with_reducible refine gate_callee (f := 61) rfl ?_); refine goesL_ (some 33) rfl rfl Try.func61 (by kernel_rfl) rfl #[.agg #[.int .i64 t460, .int .i64 t461]] rfl (by (try simp only [List.map_toArray, List.map_cons, List.map_nil]); first | done | rfl | (simp only [List.length_drop, List.length_take]; rfl)) ?_; (with_reducible refine (gimbalref02_None.calls t460 t461 t462 _ A19.out).mono ?_); rintro e w24 ⟨rfl, hb⟩; refine ⟨_, rfl, ?_⟩; have n0_ := Aside0.mk (below_step (by repeat (first | (with_reducible first | exact HB.out | apply below_alloc | apply pw_below_drewN | apply below_drew1 | refine below_set ?_ GE458.out | refine below_set ?_ GE459.out) | exact HB.out)) hb); replace BK458 := bbw BK458 hb; replace BK459 := bbw BK459 hb; clear HB; have HB := n0_; clear n0_; (try clear hb); (try clear hb2); (try clear hk); (try clear hi)))
     go_ret
     exact ⟨by first | rfl | (simp [errW_none, errW_some] <;> rfl) | (simp [*, errW_none, errW_some] <;> rfl) | kernel_rfl, by repeat (first | (with_reducible first | exact HB.out | apply below_alloc | apply pw_below_drewN | apply below_drew1 | refine below_set ?_ GE458.out | refine below_set ?_ GE459.out) | exact HB.out)⟩
    ·
     rw [if_neg c17] at H
     have c17b0 : (a0 == 14) = false := beq_eq_false_iff_ne.mpr c17
     have c17b1 : (a0 != 14) = true := bne_iff_ne.mpr c17
     by_cases c25 : a0 = 15
     ·
      rw [if_pos c25] at H
      have c25b0 : (a0 == 15) = true := beq_iff_eq.mpr c25
      have c25b1 : (a0 != 15) = false := bne_eq_false_iff_eq.mpr c25
      clear c25
      obtain rfl := Option.some.inj H
      go_wp2
      go_ret
      exact ⟨by first | rfl | (simp [errW_none, errW_some] <;> rfl) | (simp [*, errW_none, errW_some] <;> rfl) | kernel_rfl, by repeat (first | (with_reducible first | exact HB.out | apply below_alloc | apply pw_below_drewN | apply below_drew1 | refine below_set ?_ GE458.out | refine below_set ?_ GE459.out) | exact HB.out)⟩
     ·
      rw [if_neg c25] at H
      have c25b0 : (a0 == 15) = false := beq_eq_false_iff_ne.mpr c25
      have c25b1 : (a0 != 15) = true := bne_iff_ne.mpr c25
      by_cases c26 : a0 = 16
      ·
       rw [if_pos c26] at H
       have c26b0 : (a0 == 16) = true := beq_iff_eq.mpr c26
       have c26b1 : (a0 != 16) = false := bne_eq_false_iff_eq.mpr c26
       clear c26
       by_cases c27 : a1_0 = (-4611686018427387904)
       ·
        rw [if_pos c27] at H
        have c27b0 : (a1_0 == (-4611686018427387904)) = true := beq_iff_eq.mpr c27
        have c27b1 : (a1_0 != (-4611686018427387904)) = false := bne_eq_false_iff_eq.mpr c27
        clear c27
        obtain rfl := Option.some.inj H
        have hnb28 := NB458_459.out
        have hnc28 := NB459_458.out
        have hcz29_0 : wc.cell? ⟨gb458, 0, none⟩ = some (.int .i64 a1_0) := (blk_cell BK458.out 0).trans rfl
        have hcz29_1 : wc.cell? ⟨gb458, 1, none⟩ = some (.int .i64 a1_1) := (blk_cell BK458.out 1).trans rfl
        have hfz29_0 := blk_frozen BK458.out 0
        have hfz29_1 := blk_frozen BK458.out 1
        go_wp2
        go_ret
        exact ⟨by first | rfl | (simp [errW_none, errW_some] <;> rfl) | (simp [*, errW_none, errW_some] <;> rfl) | kernel_rfl, by repeat (first | (with_reducible first | exact HB.out | apply below_alloc | apply pw_below_drewN | apply below_drew1 | refine below_set ?_ GE458.out | refine below_set ?_ GE459.out) | exact HB.out)⟩
       ·
        rw [if_neg c27] at H
        have c27b0 : (a1_0 == (-4611686018427387904)) = false := beq_eq_false_iff_ne.mpr c27
        have c27b1 : (a1_0 != (-4611686018427387904)) = true := bne_iff_ne.mpr c27
        by_cases c30 : a2_1 = 4611686018427387904
        ·
         rw [if_pos c30] at H
         have c30b0 : (a2_1 == 4611686018427387904) = true := beq_iff_eq.mpr c30
         have c30b1 : (a2_1 != 4611686018427387904) = false := bne_eq_false_iff_eq.mpr c30
         clear c30
         obtain rfl := Option.some.inj H
         have hnb31 := NB458_459.out
         have hnc31 := NB459_458.out
         have hcz32_0 : wc.cell? ⟨gb458, 0, none⟩ = some (.int .i64 a1_0) := (blk_cell BK458.out 0).trans rfl
         have hcz32_1 : wc.cell? ⟨gb458, 1, none⟩ = some (.int .i64 a1_1) := (blk_cell BK458.out 1).trans rfl
         have hfz32_0 := blk_frozen BK458.out 0
         have hfz32_1 := blk_frozen BK458.out 1
         have hcz33_0 : wc.cell? ⟨gb459, 0, none⟩ = some (.int .i64 a2_0) := (blk_cell BK459.out 0).trans rfl
         have hcz33_1 : wc.cell? ⟨gb459, 1, none⟩ = some (.int .i64 a2_1) := (blk_cell BK459.out 1).trans rfl
         have hfz33_0 := blk_frozen BK459.out 0
         have hfz33_1 := blk_frozen BK459.out 1
         go_wp2
         go_ret
         exact ⟨by first | rfl | (simp [errW_none, errW_some] <;> rfl) | (simp [*, errW_none, errW_some] <;> rfl) | kernel_rfl, by repeat (first | (with_reducible first | exact HB.out | apply below_alloc | apply pw_below_drewN | apply below_drew1 | refine below_set ?_ GE458.out | refine below_set ?_ GE459.out) | exact HB.out)⟩
        ·
         rw [if_neg c30] at H
         have c30b0 : (a2_1 == 4611686018427387904) = false := beq_eq_false_iff_ne.mpr c30
         have c30b1 : (a2_1 != 4611686018427387904) = true := bne_iff_ne.mpr c30
         obtain rfl := Option.some.inj H
         have hnb34 := NB458_459.out
         have hnc34 := NB459_458.out
         have hcz35_0 : wc.cell? ⟨gb458, 0, none⟩ = some (.int .i64 a1_0) := (blk_cell BK458.out 0).trans rfl
         have hcz35_1 : wc.cell? ⟨gb458, 1, none⟩ = some (.int .i64 a1_1) := (blk_cell BK458.out 1).trans rfl
         have hfz35_0 := blk_frozen BK458.out 0
         have hfz35_1 := blk_frozen BK458.out 1
         have hcz36_0 : wc.cell? ⟨gb459, 0, none⟩ = some (.int .i64 a2_0) := (blk_cell BK459.out 0).trans rfl
         have hcz36_1 : wc.cell? ⟨gb459, 1, none⟩ = some (.int .i64 a2_1) := (blk_cell BK459.out 1).trans rfl
         have hfz36_0 := blk_frozen BK459.out 0
         have hfz36_1 := blk_frozen BK459.out 1
         go_wp2
         go_ret
         exact ⟨by first | rfl | (simp [errW_none, errW_some] <;> rfl) | (simp [*, errW_none, errW_some] <;> rfl) | kernel_rfl, by repeat (first | (with_reducible first | exact HB.out | apply below_alloc | apply pw_below_drewN | apply below_drew1 | refine below_set ?_ GE458.out | refine below_set ?_ GE459.out) | exact HB.out)⟩
      ·
       rw [if_neg c26] at H
       have c26b0 : (a0 == 16) = false := beq_eq_false_iff_ne.mpr c26
       have c26b1 : (a0 != 16) = true := bne_iff_ne.mpr c26
       by_cases c37 : a0 = 17
       ·
        rw [if_pos c37] at H
        have c37b0 : (a0 == 17) = true := beq_iff_eq.mpr c37
        have c37b1 : (a0 != 17) = false := bne_eq_false_iff_eq.mpr c37
        clear c37
        by_cases c38 : a1_0 = (-4611686018427387904)
        ·
         rw [if_pos c38] at H
         have c38b0 : (a1_0 == (-4611686018427387904)) = true := beq_iff_eq.mpr c38
         have c38b1 : (a1_0 != (-4611686018427387904)) = false := bne_eq_false_iff_eq.mpr c38
         clear c38
         obtain rfl := Option.some.inj H
         have hnb39 := NB458_459.out
         have hnc39 := NB459_458.out
         have hcz40_0 : wc.cell? ⟨gb458, 0, none⟩ = some (.int .i64 a1_0) := (blk_cell BK458.out 0).trans rfl
         have hcz40_1 : wc.cell? ⟨gb458, 1, none⟩ = some (.int .i64 a1_1) := (blk_cell BK458.out 1).trans rfl
         have hfz40_0 := blk_frozen BK458.out 0
         have hfz40_1 := blk_frozen BK458.out 1
         go_wp2
         go_ret
         exact ⟨by first | rfl | (simp [errW_none, errW_some] <;> rfl) | (simp [*, errW_none, errW_some] <;> rfl) | kernel_rfl, by repeat (first | (with_reducible first | exact HB.out | apply below_alloc | apply pw_below_drewN | apply below_drew1 | refine below_set ?_ GE458.out | refine below_set ?_ GE459.out) | exact HB.out)⟩
        ·
         rw [if_neg c38] at H
         have c38b0 : (a1_0 == (-4611686018427387904)) = false := beq_eq_false_iff_ne.mpr c38
         have c38b1 : (a1_0 != (-4611686018427387904)) = true := bne_iff_ne.mpr c38
         by_cases c41 : a2_1 = 4611686018427387904
         ·
          rw [if_pos c41] at H
          have c41b0 : (a2_1 == 4611686018427387904) = true := beq_iff_eq.mpr c41
          have c41b1 : (a2_1 != 4611686018427387904) = false := bne_eq_false_iff_eq.mpr c41
          clear c41
          obtain rfl := Option.some.inj H
          have hnb42 := NB458_459.out
          have hnc42 := NB459_458.out
          have hcz43_0 : wc.cell? ⟨gb458, 0, none⟩ = some (.int .i64 a1_0) := (blk_cell BK458.out 0).trans rfl
          have hcz43_1 : wc.cell? ⟨gb458, 1, none⟩ = some (.int .i64 a1_1) := (blk_cell BK458.out 1).trans rfl
          have hfz43_0 := blk_frozen BK458.out 0
          have hfz43_1 := blk_frozen BK458.out 1
          have hcz44_0 : wc.cell? ⟨gb459, 0, none⟩ = some (.int .i64 a2_0) := (blk_cell BK459.out 0).trans rfl
          have hcz44_1 : wc.cell? ⟨gb459, 1, none⟩ = some (.int .i64 a2_1) := (blk_cell BK459.out 1).trans rfl
          have hfz44_0 := blk_frozen BK459.out 0
          have hfz44_1 := blk_frozen BK459.out 1
          go_wp2
          go_ret
          exact ⟨by first | rfl | (simp [errW_none, errW_some] <;> rfl) | (simp [*, errW_none, errW_some] <;> rfl) | kernel_rfl, by repeat (first | (with_reducible first | exact HB.out | apply below_alloc | apply pw_below_drewN | apply below_drew1 | refine below_set ?_ GE458.out | refine below_set ?_ GE459.out) | exact HB.out)⟩
         ·
          rw [if_neg c41] at H
          have c41b0 : (a2_1 == 4611686018427387904) = false := beq_eq_false_iff_ne.mpr c41
          have c41b1 : (a2_1 != 4611686018427387904) = true := bne_iff_ne.mpr c41
          obtain rfl := Option.some.inj H
          have hnb45 := NB458_459.out
          have hnc45 := NB459_458.out
          have hcz46_0 : wc.cell? ⟨gb458, 0, none⟩ = some (.int .i64 a1_0) := (blk_cell BK458.out 0).trans rfl
          have hcz46_1 : wc.cell? ⟨gb458, 1, none⟩ = some (.int .i64 a1_1) := (blk_cell BK458.out 1).trans rfl
          have hfz46_0 := blk_frozen BK458.out 0
          have hfz46_1 := blk_frozen BK458.out 1
          have hcz47_0 : wc.cell? ⟨gb459, 0, none⟩ = some (.int .i64 a2_0) := (blk_cell BK459.out 0).trans rfl
          have hcz47_1 : wc.cell? ⟨gb459, 1, none⟩ = some (.int .i64 a2_1) := (blk_cell BK459.out 1).trans rfl
          have hfz47_0 := blk_frozen BK459.out 0
          have hfz47_1 := blk_frozen BK459.out 1
          go_wp2
          go_ret
          exact ⟨by first | rfl | (simp [errW_none, errW_some] <;> rfl) | (simp [*, errW_none, errW_some] <;> rfl) | kernel_rfl, by repeat (first | (with_reducible first | exact HB.out | apply below_alloc | apply pw_below_drewN | apply below_drew1 | refine below_set ?_ GE458.out | refine below_set ?_ GE459.out) | exact HB.out)⟩
       ·
        rw [if_neg c37] at H
        have c37b0 : (a0 == 17) = false := beq_eq_false_iff_ne.mpr c37
        have c37b1 : (a0 != 17) = true := bne_iff_ne.mpr c37
        by_cases c48 : a0 = 18
        ·
         rw [if_pos c48] at H
         have c48b0 : (a0 == 18) = true := beq_iff_eq.mpr c48
         have c48b1 : (a0 != 18) = false := bne_eq_false_iff_eq.mpr c48
         clear c48
         replace H := Option.bind_eq_some_iff.mp H
         obtain ⟨t463, A490, H⟩ := H
         replace H : (some t463) = some r := H
         have A49 := Aside0.mk A490
         clear A490
         obtain rfl := Option.some.inj H
         have hnb50 := NB459_458.out
         have hnc50 := NB458_459.out
         have hcz51_0 : wc.cell? ⟨gb459, 0, none⟩ = some (.int .i64 a2_0) := (blk_cell BK459.out 0).trans rfl
         have hcz51_1 : wc.cell? ⟨gb459, 1, none⟩ = some (.int .i64 a2_1) := (blk_cell BK459.out 1).trans rfl
         have hfz51_0 := blk_frozen BK459.out 0
         have hfz51_1 := blk_frozen BK459.out 1
         have hcz52_0 : wc.cell? ⟨gb458, 0, none⟩ = some (.int .i64 a1_0) := (blk_cell BK458.out 0).trans rfl
         have hcz52_1 : wc.cell? ⟨gb458, 1, none⟩ = some (.int .i64 a1_1) := (blk_cell BK458.out 1).trans rfl
         have hfz52_0 := blk_frozen BK458.out 0
         have hfz52_1 := blk_frozen BK458.out 1
         go_wp2_with (first | ((with_reducible refine gate_callee (f := 68) rfl ?_); refine goesL_ (some 77) rfl rfl Try.func68 (by kernel_rfl) rfl #[.int .i64 16, .agg #[.int .i64 a2_0, .int .i64 a2_1], .agg #[.int .i64 a1_0, .int .i64 a1_1]] rfl (by (try simp only [List.map_toArray, List.map_cons, List.map_nil]); first | done | rfl | (simp only [List.length_drop, List.length_take]; rfl)) ?_; (with_reducible refine (ih kj3 (by have := HJ3.out; omega) 16 a2_0 a2_1 a1_0 a1_1 t463 _ A49.out).mono ?_); rintro e w53 ⟨rfl, hb⟩; refine ⟨_, rfl, ?_⟩; have n0_ := Aside0.mk (below_step (by repeat (first | (with_reducible first | exact HB.out | apply below_alloc | apply pw_below_drewN | apply below_drew1 | refine below_set ?_ GE458.out | refine below_set ?_ GE459.out) | exact HB.out)) hb); replace BK458 := bbw BK458 hb; replace BK459 := bbw BK459 hb; clear HB; have HB := n0_; clear n0_; (try clear hb); (try clear hb2); (try clear hk); (try clear hi)))
         go_ret
         exact ⟨by first | rfl | (simp [errW_none, errW_some] <;> rfl) | (simp [*, errW_none, errW_some] <;> rfl) | kernel_rfl, by repeat (first | (with_reducible first | exact HB.out | apply below_alloc | apply pw_below_drewN | apply below_drew1 | refine below_set ?_ GE458.out | refine below_set ?_ GE459.out) | exact HB.out)⟩
        ·
         rw [if_neg c48] at H
         have c48b0 : (a0 == 18) = false := beq_eq_false_iff_ne.mpr c48
         have c48b1 : (a0 != 18) = true := bne_iff_ne.mpr c48
         by_cases c54 : a0 = 19
         ·
          rw [if_pos c54] at H
          have c54b0 : (a0 == 19) = true := beq_iff_eq.mpr c54
          have c54b1 : (a0 != 19) = false := bne_eq_false_iff_eq.mpr c54
          clear c54
          replace H := Option.bind_eq_some_iff.mp H
          obtain ⟨t464, A550, H⟩ := H
          replace H : (some t464) = some r := H
          have A55 := Aside0.mk A550
          clear A550
          obtain rfl := Option.some.inj H
          have hnb56 := NB459_458.out
          have hnc56 := NB458_459.out
          have hcz57_0 : wc.cell? ⟨gb459, 0, none⟩ = some (.int .i64 a2_0) := (blk_cell BK459.out 0).trans rfl
          have hcz57_1 : wc.cell? ⟨gb459, 1, none⟩ = some (.int .i64 a2_1) := (blk_cell BK459.out 1).trans rfl
          have hfz57_0 := blk_frozen BK459.out 0
          have hfz57_1 := blk_frozen BK459.out 1
          have hcz58_0 : wc.cell? ⟨gb458, 0, none⟩ = some (.int .i64 a1_0) := (blk_cell BK458.out 0).trans rfl
          have hcz58_1 : wc.cell? ⟨gb458, 1, none⟩ = some (.int .i64 a1_1) := (blk_cell BK458.out 1).trans rfl
          have hfz58_0 := blk_frozen BK458.out 0
          have hfz58_1 := blk_frozen BK458.out 1
          go_wp2_with (first | ((with_reducible refine gate_callee (f := 68) rfl ?_); refine goesL_ (some 82) rfl rfl Try.func68 (by kernel_rfl) rfl #[.int .i64 17, .agg #[.int .i64 a2_0, .int .i64 a2_1], .agg #[.int .i64 a1_0, .int .i64 a1_1]] rfl (by (try simp only [List.map_toArray, List.map_cons, List.map_nil]); first | done | rfl | (simp only [List.length_drop, List.length_take]; rfl)) ?_; (with_reducible refine (ih kj3 (by have := HJ3.out; omega) 17 a2_0 a2_1 a1_0 a1_1 t464 _ A55.out).mono ?_); rintro e w59 ⟨rfl, hb⟩; refine ⟨_, rfl, ?_⟩; have n0_ := Aside0.mk (below_step (by repeat (first | (with_reducible first | exact HB.out | apply below_alloc | apply pw_below_drewN | apply below_drew1 | refine below_set ?_ GE458.out | refine below_set ?_ GE459.out) | exact HB.out)) hb); replace BK458 := bbw BK458 hb; replace BK459 := bbw BK459 hb; clear HB; have HB := n0_; clear n0_; (try clear hb); (try clear hb2); (try clear hk); (try clear hi)))
          go_ret
          exact ⟨by first | rfl | (simp [errW_none, errW_some] <;> rfl) | (simp [*, errW_none, errW_some] <;> rfl) | kernel_rfl, by repeat (first | (with_reducible first | exact HB.out | apply below_alloc | apply pw_below_drewN | apply below_drew1 | refine below_set ?_ GE458.out | refine below_set ?_ GE459.out) | exact HB.out)⟩
         ·
          rw [if_neg c54] at H
          have c54b0 : (a0 == 19) = false := beq_eq_false_iff_ne.mpr c54
          have c54b1 : (a0 != 19) = true := bne_iff_ne.mpr c54
          obtain rfl := Option.some.inj H
          go_wp2
          go_ret
          exact ⟨by first | rfl | (simp [errW_none, errW_some] <;> rfl) | (simp [*, errW_none, errW_some] <;> rfl) | kernel_rfl, by repeat (first | (with_reducible first | exact HB.out | apply below_alloc | apply pw_below_drewN | apply below_drew1 | refine below_set ?_ GE458.out | refine below_set ?_ GE459.out) | exact HB.out)⟩
end Go.Proofs.Ytbbnpipmjadpoaa.P
