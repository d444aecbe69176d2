/- What the law's proof needs of Px2. -/
import Derived.Test.YtbbnpipmjadpoaaTrJU2
import Derived.Test.YtbbnpipmjadpoaaTrJU
import Derived.Test.YtbbnpipmjadpoaaTrJPx0
-- PRINTED by print.py (a twelfth state) out of the translation. Not trusted: Lean checks it.
namespace Go.Proofs.Ytbbnpipmjadpoaa.P
open Go.RowKit Go.Proofs.YtbbnpipmjadpoaaW.PrintWords Go.Proofs.YtbbnpipmjadpoaaW.PrintLast Go.Proofs.YtbbnpipmjadpoaaW.PrintMore Go.Proofs.YtbbnpipmjadpoaaO
attribute [local go_sem] max2_int min2_int max_two min_two max_three min_three max_four min_four   -- for this text's walks alone
set_option linter.unusedVariables false
set_option linter.unusedSimpArgs false
def itv_Empty.f  : Option (Int × Int) := some (1, 0)
set_option maxHeartbeats 8000000 in
set_option maxRecDepth 100000 in
theorem itv_Empty.calls  (r1 : Int) (r2 : Int) (w : World) (h : itv_Empty.f  = some (r1, r2)) :
    Calls Try.prog 15 #[] w fun e w' => e = .returned (.agg #[.int .i64 r1, .int .i64 r2]) ∧ Below w.heap.size w w' := by
  have hu23 := Try.underlying23
  have HB := Aside0.mk (Below.refl w.heap.size w)
  have H : (some (1, 0)) = some (r1, r2) := h
  clear h
  simp only [Option.some.injEq, Prod.mk.injEq] at H
  obtain ⟨rfl, rfl⟩ := H
  go_enter Try.func15, Try.ntmps15
  go_wp2_with (first | ((with_reducible refine gate_dst (N := 0) rfl ?_); refine box_event ?hg (N := 0) ?hd (cs := #[.int .i64 0, .int .i64 0]) (t := 23) ?hr ?_; (case hd => rfl); (case hg => rfl); (case hr => first | (go_simp; done) | (go_simp; rfl)); intro gb101 hg w1 hbox hb; have n0_ := bst HB hb; have n1_ := Aside0.mk (hbox); have n2_ := bsz HB hg; have n3_ := bsz HB hg; clear HB; have HB := n0_; have BK101 := n1_; have GW101 := n2_; have GE101 := n3_; clear n0_ n1_ n2_ n3_; clear hb hbox hg; have hcz2_0 := hcz BK101 0; have hcz2_1 := hcz BK101 1; have hfz2_0 := blk_frozen BK101.out 0; have hfz2_1 := blk_frozen BK101.out 1))
  refine bodyPost_ret (results_cell_row rfl _ _ gb101 23 #[.int .i64 1, .int .i64 0] (0, 0) _ rfl (by refine pkB ?_; refine blk_put (cs := #[.int .i64 1, .int .i64 0]) ?_ 1 _ (by first | rfl | (subst_vars; rfl)); refine pkB ?_; refine blk_put (cs := #[.int .i64 0, .int .i64 0]) ?_ 0 _ (by first | rfl | (subst_vars; rfl)); refine pkB ?_; exact BK101.out) Try.underlying23 rfl (by kernel_rfl)) rfl ?_
  exact ⟨by first | rfl | (simp [errW_none, errW_some] <;> rfl) | (simp [*, errW_none, errW_some] <;> rfl) | kernel_rfl, by repeat (first | (with_reducible first | exact HB.out | apply below_alloc | apply pw_below_drewN | apply below_drew1 | refine below_set ?_ GE101.out) | exact HB.out)⟩
def itv_Of.f (a0 : Int) (a1 : Int) : Option (Int × Int) := if a0 > a1 then ((itv_Empty.f).bind fun bt103 => (some (bt103.1, bt103.2))) else (if a0 ≥ 4611686018427387904 then (if a1 ≤ (-4611686018427387904) then (some (mx 4611686018427387903 (-4611686018427387904), mn (-4611686018427387903) 4611686018427387904)) else (some (mx 4611686018427387903 (-4611686018427387904), mn a1 4611686018427387904))) else (if a1 ≤ (-4611686018427387904) then (some (mx a0 (-4611686018427387904), mn (-4611686018427387903) 4611686018427387904)) else (some (mx a0 (-4611686018427387904), mn a1 4611686018427387904))))
set_option maxHeartbeats 8000000 in
set_option maxRecDepth 100000 in
theorem itv_Of.calls (a0 : Int) (a1 : Int) (r1 : Int) (r2 : Int) (w : World) (h : itv_Of.f a0 a1 = some (r1, r2)) :
    Calls Try.prog 13 #[.int .i64 a0, .int .i64 a1] w fun e w' => e = .returned (.agg #[.int .i64 r1, .int .i64 r2]) ∧ Below w.heap.size w w' := by
  have hu23 := Try.underlying23
  have HB := Aside0.mk (Below.refl w.heap.size w)
  have H : (if a0 > a1 then ((itv_Empty.f).bind fun bt103 => (some (bt103.1, bt103.2))) else (if a0 ≥ 4611686018427387904 then (if a1 ≤ (-4611686018427387904) then (some (mx 4611686018427387903 (-4611686018427387904), mn (-4611686018427387903) 4611686018427387904)) else (some (mx 4611686018427387903 (-4611686018427387904), mn a1 4611686018427387904))) else (if a1 ≤ (-4611686018427387904) then (some (mx a0 (-4611686018427387904), mn (-4611686018427387903) 4611686018427387904)) else (some (mx a0 (-4611686018427387904), mn a1 4611686018427387904))))) = some (r1, r2) := h
  clear h
  by_cases c3 : a0 > a1
  ·
   rw [if_pos c3] at H
   have c3b0 : decide (a1 < a0) = true := decide_eq_true c3
   clear c3
   replace H := Option.bind_eq_some_iff.mp H
   obtain ⟨⟨t103, t104⟩, A40, H⟩ := H
   replace H : (some (t103, t104)) = some (r1, r2) := H
   have A4 := Aside0.mk A40
   clear A40
   simp only [Option.some.injEq, Prod.mk.injEq] at H
   obtain ⟨rfl, rfl⟩ := H
   go_enter Try.func13, Try.ntmps13
   go_wp2_with (first | ((with_reducible refine gate_dst (N := 4) rfl ?_); refine box_event ?hg (N := 4) ?hd (cs := #[.int .i64 0, .int .i64 0]) (t := 23) ?hr ?_; (case hd => rfl); (case hg => rfl); (case hr => first | (go_simp; done) | (go_simp; rfl)); intro gb102 hg w5 hbox hb; have n0_ := bst HB hb; have n1_ := Aside0.mk (hbox); have n2_ := bsz HB hg; have n3_ := bsz HB hg; clear HB; have HB := n0_; have BK102 := n1_; have GW102 := n2_; have GE102 := n3_; clear n0_ n1_ n2_ n3_; clear hb hbox hg) | ((with_reducible refine gate_callee (f := 15) rfl ?_); refine goesL_ (some 8) rfl rfl Try.func15 (by kernel_rfl) rfl #[] rfl (by (try simp only [List.map_toArray, List.map_cons, List.map_nil]); first | done | rfl | (simp only [List.length_drop, List.length_take]; rfl)) ?_; (with_reducible refine (itv_Empty.calls  t103 t104 _ A4.out).mono ?_); rintro e w6 ⟨rfl, hb⟩; refine ⟨_, rfl, ?_⟩; have n0_ := bst HB hb; replace BK102 := bbw BK102 hb; clear HB; have HB := n0_; clear n0_; (try clear hb); (try clear hb2); (try clear hk); (try clear hi); have hcz7_0 := hcz BK102 0; have hcz7_1 := hcz BK102 1; have hfz7_0 := blk_frozen BK102.out 0; have hfz7_1 := blk_frozen BK102.out 1))
   refine bodyPost_ret (results_cell_row rfl _ _ gb102 23 #[.int .i64 t103, .int .i64 t104] (0, 0) _ rfl (by refine pkB ?_; refine blk_put (cs := #[.int .i64 t103, .int .i64 0]) ?_ 1 _ (by first | rfl | (subst_vars; rfl)); refine pkB ?_; refine blk_put (cs := #[.int .i64 0, .int .i64 0]) ?_ 0 _ (by first | rfl | (subst_vars; rfl)); refine pkB ?_; exact BK102.out) Try.underlying23 rfl (by kernel_rfl)) rfl ?_
   exact ⟨by first | rfl | (simp [errW_none, errW_some] <;> rfl) | (simp [*, errW_none, errW_some] <;> rfl) | kernel_rfl, by repeat (first | (with_reducible first | exact HB.out | apply below_alloc | apply pw_below_drewN | apply below_drew1 | refine below_set ?_ GE102.out) | exact HB.out)⟩
  ·
   rw [if_neg c3] at H
   have c3b0 : decide (a1 < a0) = false := decide_eq_false c3
   clear c3
   by_cases c8 : a0 ≥ 4611686018427387904
   ·
    rw [if_pos c8] at H
    have c8b0 : decide (4611686018427387904 ≤ a0) = true := decide_eq_true c8
    clear c8
    by_cases c9 : a1 ≤ (-4611686018427387904)
    ·
     rw [if_pos c9] at H
     have c9b0 : decide (a1 ≤ (-4611686018427387904)) = true := decide_eq_true c9
     clear c9
     obtain ⟨ji10, hji10⟩ : ∃ j_ : Int, (mx 4611686018427387903 (-4611686018427387904)) = j_ := ⟨_, rfl⟩
     replace H : (some (ji10, mn (-4611686018427387903) 4611686018427387904)) = some (r1, r2) := by first | (rw [hji10] at H; exact H) | (simp only [hji10] at H ⊢; exact H)
     (try (have hji10h : ji10 ≤ 4611686018427387903 := by (rw [← hji10]; unfold mx; (repeat' split) <;> omega)))
     (try (have hji10g : ji10 ≤ 64 := by omega))
     (try (have hji10l : 4611686018427387903 ≤ ji10 := by (rw [← hji10]; unfold mx; (repeat' split) <;> omega)))
     (try (have hji10m : 0 ≤ ji10 := by omega))
     have hji10_ : (if 4611686018427387903 < (-4611686018427387904) then (-4611686018427387904) else 4611686018427387903) = ji10 := hji10
     obtain ⟨ji11, hji11⟩ : ∃ j_ : Int, (mn (-4611686018427387903) 4611686018427387904) = j_ := ⟨_, rfl⟩
     replace H : (some (ji10, ji11)) = some (r1, r2) := by first | (rw [hji11] at H; exact H) | (simp only [hji11] at H ⊢; exact H)
     (try (have hji11h : ji11 ≤ -4611686018427387903 := by (rw [← hji11]; unfold mn; (repeat' split) <;> omega)))
     (try (have hji11g : ji11 ≤ 64 := by omega))
     have hji11_ : (if 4611686018427387904 < (-4611686018427387903) then 4611686018427387904 else (-4611686018427387903)) = ji11 := hji11
     simp only [Option.some.injEq, Prod.mk.injEq] at H
     obtain ⟨rfl, rfl⟩ := H
     go_enter Try.func13, Try.ntmps13
     go_wp2_with (first | ((with_reducible refine gate_dst (N := 4) rfl ?_); refine box_event ?hg (N := 4) ?hd (cs := #[.int .i64 0, .int .i64 0]) (t := 23) ?hr ?_; (case hd => rfl); (case hg => rfl); (case hr => first | (go_simp; done) | (go_simp; rfl)); intro gb102 hg w12 hbox hb; have n0_ := bst HB hb; have n1_ := Aside0.mk (hbox); have n2_ := bsz HB hg; have n3_ := bsz HB hg; clear HB; have HB := n0_; have BK102 := n1_; have GW102 := n2_; have GE102 := n3_; clear n0_ n1_ n2_ n3_; clear hb hbox hg; have hcz13_0 := hcz BK102 0; have hcz13_1 := hcz BK102 1; have hfz13_0 := blk_frozen BK102.out 0; have hfz13_1 := blk_frozen BK102.out 1))
     refine bodyPost_ret (results_cell_row rfl _ _ gb102 23 #[.int .i64 ji10, .int .i64 ji11] (0, 0) _ rfl (by refine pkB ?_; refine blk_put (cs := #[.int .i64 ji10, .int .i64 0]) ?_ 1 _ (by first | rfl | (subst_vars; rfl)); refine pkB ?_; refine blk_put (cs := #[.int .i64 0, .int .i64 0]) ?_ 0 _ (by first | rfl | (subst_vars; rfl)); refine pkB ?_; exact BK102.out) Try.underlying23 rfl (by kernel_rfl)) rfl ?_
     exact ⟨by first | rfl | (simp [errW_none, errW_some] <;> rfl) | (simp only [← hji10, ← hji11]; first | rfl | (simp [errW_none, errW_some] <;> rfl)) | (simp [*, errW_none, errW_some] <;> rfl) | kernel_rfl, by repeat (first | (with_reducible first | exact HB.out | apply below_alloc | apply pw_below_drewN | apply below_drew1 | refine below_set ?_ GE102.out) | exact HB.out)⟩
    ·
     rw [if_neg c9] at H
     have c9b0 : decide (a1 ≤ (-4611686018427387904)) = false := decide_eq_false c9
     clear c9
     obtain ⟨ji14, hji14⟩ : ∃ j_ : Int, (mx 4611686018427387903 (-4611686018427387904)) = j_ := ⟨_, rfl⟩
     replace H : (some (ji14, mn a1 4611686018427387904)) = some (r1, r2) := by first | (rw [hji14] at H; exact H) | (simp only [hji14] at H ⊢; exact H)
     (try (have hji14h : ji14 ≤ 4611686018427387903 := by (rw [← hji14]; unfold mx; (repeat' split) <;> omega)))
     (try (have hji14g : ji14 ≤ 64 := by omega))
     (try (have hji14l : 4611686018427387903 ≤ ji14 := by (rw [← hji14]; unfold mx; (repeat' split) <;> omega)))
     (try (have hji14m : 0 ≤ ji14 := by omega))
     have hji14_ : (if 4611686018427387903 < (-4611686018427387904) then (-4611686018427387904) else 4611686018427387903) = ji14 := hji14
     obtain ⟨ji15, hji15⟩ : ∃ j_ : Int, (mn a1 4611686018427387904) = j_ := ⟨_, rfl⟩
     replace H : (some (ji14, ji15)) = some (r1, r2) := by first | (rw [hji15] at H; exact H) | (simp only [hji15] at H ⊢; exact H)
     (try (have hji15h : ji15 ≤ 4611686018427387904 := by (rw [← hji15]; unfold mn; (repeat' split) <;> omega)))
     (try (have hji15g : ji15 ≤ 64 := by omega))
     have hji15_ : (if 4611686018427387904 < a1 then 4611686018427387904 else a1) = ji15 := hji15
     simp only [Option.some.injEq, Prod.mk.injEq] at H
     obtain ⟨rfl, rfl⟩ := H
     go_enter Try.func13, Try.ntmps13
     go_wp2_with (first | ((with_reducible refine gate_dst (N := 4) rfl ?_); refine box_event ?hg (N := 4) ?hd (cs := #[.int .i64 0, .int .i64 0]) (t := 23) ?hr ?_; (case hd => rfl); (case hg => rfl); (case hr => first | (go_simp; done) | (go_simp; rfl)); intro gb102 hg w16 hbox hb; have n0_ := bst HB hb; have n1_ := Aside0.mk (hbox); have n2_ := bsz HB hg; have n3_ := bsz HB hg; clear HB; have HB := n0_; have BK102 := n1_; have GW102 := n2_; have GE102 := n3_; clear n0_ n1_ n2_ n3_; clear hb hbox hg; have hcz17_0 := hcz BK102 0; have hcz17_1 := hcz BK102 1; have hfz17_0 := blk_frozen BK102.out 0; have hfz17_1 := blk_frozen BK102.out 1))
     refine bodyPost_ret (results_cell_row rfl _ _ gb102 23 #[.int .i64 ji14, .int .i64 ji15] (0, 0) _ rfl (by refine pkB ?_; refine blk_put (cs := #[.int .i64 ji14, .int .i64 0]) ?_ 1 _ (by first | rfl | (subst_vars; rfl)); refine pkB ?_; refine blk_put (cs := #[.int .i64 0, .int .i64 0]) ?_ 0 _ (by first | rfl | (subst_vars; rfl)); refine pkB ?_; exact BK102.out) Try.underlying23 rfl (by kernel_rfl)) rfl ?_
     exact ⟨by first | rfl | (simp [errW_none, errW_some] <;> rfl) | (simp only [← hji14, ← hji15]; first | rfl | (simp [errW_none, errW_some] <;> rfl)) | (simp [*, errW_none, errW_some] <;> rfl) | kernel_rfl, by repeat (first | (with_reducible first | exact HB.out | apply below_alloc | apply pw_below_drewN | apply below_drew1 | refine below_set ?_ GE102.out) | exact HB.out)⟩
   ·
    rw [if_neg c8] at H
    have c8b0 : decide (4611686018427387904 ≤ a0) = false := decide_eq_false c8
    clear c8
    by_cases c18 : a1 ≤ (-4611686018427387904)
    ·
     rw [if_pos c18] at H
     have c18b0 : decide (a1 ≤ (-4611686018427387904)) = true := decide_eq_true c18
     clear c18
     obtain ⟨ji19, hji19⟩ : ∃ j_ : Int, (mx a0 (-4611686018427387904)) = j_ := ⟨_, rfl⟩
     replace H : (some (ji19, mn (-4611686018427387903) 4611686018427387904)) = some (r1, r2) := by first | (rw [hji19] at H; exact H) | (simp only [hji19] at H ⊢; exact H)
     have hji19_ : (if a0 < (-4611686018427387904) then (-4611686018427387904) else a0) = ji19 := hji19
     obtain ⟨ji20, hji20⟩ : ∃ j_ : Int, (mn (-4611686018427387903) 4611686018427387904) = j_ := ⟨_, rfl⟩
     replace H : (some (ji19, ji20)) = some (r1, r2) := by first | (rw [hji20] at H; exact H) | (simp only [hji20] at H ⊢; exact H)
     (try (have hji20h : ji20 ≤ -4611686018427387903 := by (rw [← hji20]; unfold mn; (repeat' split) <;> omega)))
     (try (have hji20g : ji20 ≤ 64 := by omega))
     have hji20_ : (if 4611686018427387904 < (-4611686018427387903) then 4611686018427387904 else (-4611686018427387903)) = ji20 := hji20
     simp only [Option.some.injEq, Prod.mk.injEq] at H
     obtain ⟨rfl, rfl⟩ := H
     go_enter Try.func13, Try.ntmps13
     go_wp2_with (first | ((with_reducible refine gate_dst (N := 4) rfl ?_); refine box_event ?hg (N := 4) ?hd (cs := #[.int .i64 0, .int .i64 0]) (t := 23) ?hr ?_; (case hd => rfl); (case hg => rfl); (case hr => first | (go_simp; done) | (go_simp; rfl)); intro gb102 hg w21 hbox hb; have n0_ := bst HB hb; have n1_ := Aside0.mk (hbox); have n2_ := bsz HB hg; have n3_ := bsz HB hg; clear HB; have HB := n0_; have BK102 := n1_; have GW102 := n2_; have GE102 := n3_; clear n0_ n1_ n2_ n3_; clear hb hbox hg; have hcz22_0 := hcz BK102 0; have hcz22_1 := hcz BK102 1; have hfz22_0 := blk_frozen BK102.out 0; have hfz22_1 := blk_frozen BK102.out 1))
     refine bodyPost_ret (results_cell_row rfl _ _ gb102 23 #[.int .i64 ji19, .int .i64 ji20] (0, 0) _ rfl (by refine pkB ?_; refine blk_put (cs := #[.int .i64 ji19, .int .i64 0]) ?_ 1 _ (by first | rfl | (subst_vars; rfl)); refine pkB ?_; refine blk_put (cs := #[.int .i64 0, .int .i64 0]) ?_ 0 _ (by first | rfl | (subst_vars; rfl)); refine pkB ?_; exact BK102.out) Try.underlying23 rfl (by kernel_rfl)) rfl ?_
     exact ⟨by first | rfl | (simp [errW_none, errW_some] <;> rfl) | (simp only [← hji19, ← hji20]; first | rfl | (simp [errW_none, errW_some] <;> rfl)) | (simp [*, errW_none, errW_some] <;> rfl) | kernel_rfl, by repeat (first | (with_reducible first | exact HB.out | apply below_alloc | apply pw_below_drewN | apply below_drew1 | refine below_set ?_ GE102.out) | exact HB.out)⟩
    ·
     rw [if_neg c18] at H
     have c18b0 : decide (a1 ≤ (-4611686018427387904)) = false := decide_eq_false c18
     clear c18
     obtain ⟨ji23, hji23⟩ : ∃ j_ : Int, (mx a0 (-4611686018427387904)) = j_ := ⟨_, rfl⟩
     replace H : (some (ji23, mn a1 4611686018427387904)) = some (r1, r2) := by first | (rw [hji23] at H; exact H) | (simp only [hji23] at H ⊢; exact H)
     have hji23_ : (if a0 < (-4611686018427387904) then (-4611686018427387904) else a0) = ji23 := hji23
     obtain ⟨ji24, hji24⟩ : ∃ j_ : Int, (mn a1 4611686018427387904) = j_ := ⟨_, rfl⟩
     replace H : (some (ji23, ji24)) = some (r1, r2) := by first | (rw [hji24] at H; exact H) | (simp only [hji24] at H ⊢; exact H)
     (try (have hji24h : ji24 ≤ 4611686018427387904 := by (rw [← hji24]; unfold mn; (repeat' split) <;> omega)))
     (try (have hji24g : ji24 ≤ 64 := by omega))
     have hji24_ : (if 4611686018427387904 < a1 then 4611686018427387904 else a1) = ji24 := hji24
     simp only [Option.some.injEq, Prod.mk.injEq] at H
     obtain ⟨rfl, rfl⟩ := H
     go_enter Try.func13, Try.ntmps13
     go_wp2_with (first | ((with_reducible refine gate_dst (N := 4) rfl ?_); refine box_event ?hg (N := 4) ?hd (cs := #[.int .i64 0, .int .i64 0]) (t := 23) ?hr ?_; (case hd => rfl); (case hg => rfl); (case hr => first | (go_simp; done) | (go_simp; rfl)); intro gb102 hg w25 hbox hb; have n0_ := bst HB hb; have n1_ := Aside0.mk (hbox); have n2_ := bsz HB hg; have n3_ := bsz HB hg; clear HB; have HB := n0_; have BK102 := n1_; have GW102 := n2_; have GE102 := n3_; clear n0_ n1_ n2_ n3_; clear hb hbox hg; have hcz26_0 := hcz BK102 0; have hcz26_1 := hcz BK102 1; have hfz26_0 := blk_frozen BK102.out 0; have hfz26_1 := blk_frozen BK102.out 1))
     refine bodyPost_ret (results_cell_row rfl _ _ gb102 23 #[.int .i64 ji23, .int .i64 ji24] (0, 0) _ rfl (by refine pkB ?_; refine blk_put (cs := #[.int .i64 ji23, .int .i64 0]) ?_ 1 _ (by first | rfl | (subst_vars; rfl)); refine pkB ?_; refine blk_put (cs := #[.int .i64 0, .int .i64 0]) ?_ 0 _ (by first | rfl | (subst_vars; rfl)); refine pkB ?_; exact BK102.out) Try.underlying23 rfl (by kernel_rfl)) rfl ?_
     exact ⟨by first | rfl | (simp [errW_none, errW_some] <;> rfl) | (simp only [← hji23, ← hji24]; first | rfl | (simp [errW_none, errW_some] <;> rfl)) | (simp [*, errW_none, errW_some] <;> rfl) | kernel_rfl, by repeat (first | (with_reducible first | exact HB.out | apply below_alloc | apply pw_below_drewN | apply below_drew1 | refine below_set ?_ GE102.out) | exact HB.out)⟩
end Go.Proofs.Ytbbnpipmjadpoaa.P
