/- What the law's proof needs of Px14. -/
import Derived.Test.YtbbnpipmjadpoaaTrHU2
import Derived.Test.YtbbnpipmjadpoaaTrHU
import Derived.Test.YtbbnpipmjadpoaaTrHPx0
import Derived.Test.YtbbnpipmjadpoaaTrHPx2
-- PRINTED by print.py (a twelfth state) out of the translation. Not trusted: Lean checks it.
namespace Go.Proofs.Ytbbnpipmjadpoaa.P
open Go.RowKit Go.Proofs.YtbbnpipmjadpoaaW.PrintWords Go.Proofs.YtbbnpipmjadpoaaW.PrintLast Go.Proofs.YtbbnpipmjadpoaaW.PrintMore Go.Proofs.YtbbnpipmjadpoaaO
attribute [local go_sem] max2_int min2_int max_two min_two max_three min_three max_four min_four   -- for this text's walks alone
set_option linter.unusedVariables false
set_option linter.unusedSimpArgs false
def itv_upTo.j0 : Nat → Int → Bool → Int → Int → Option (Int × Int)
  | 0, _, _, _, _ => none
  | k + 1, x1, x17, x243000, x243001 => if x17 = true then ((itv_Empty.f).bind fun bt244 => (some (bt244.1, bt244.2))) else ((itv_Of.f x243000 x1).bind fun bt246 => (some (bt246.1, bt246.2)))
def itv_upTo.f (k : Nat) (a0_0 : Int) (a0_1 : Int) (a1 : Int) : Option (Int × Int) := if a0_0 > (-4611686018427387904) then (itv_upTo.j0 k (mn a1 a0_1) (decide (a0_0 > (mn a1 a0_1))) a0_0 a0_1) else (itv_upTo.j0 k (mn a1 a0_1) false a0_0 a0_1)
set_option maxHeartbeats 8000000 in
set_option maxRecDepth 100000 in
theorem itv_upTo.calls (k : Nat) (a0_0 : Int) (a0_1 : Int) (a1 : Int) (r1 : Int) (r2 : Int) (w : World) (h : itv_upTo.f k a0_0 a0_1 a1 = some (r1, r2)) :
    Calls Try.prog 65 #[.agg #[.int .i64 a0_0, .int .i64 a0_1], .int .i64 a1] w fun e w' => e = .returned (.agg #[.int .i64 r1, .int .i64 r2]) ∧ Below w.heap.size w w' := by
  have hu23 := Try.underlying23
  have HB := Aside0.mk (Below.refl w.heap.size w)
  have H : (if a0_0 > (-4611686018427387904) then (itv_upTo.j0 k (mn a1 a0_1) (decide (a0_0 > (mn a1 a0_1))) a0_0 a0_1) else (itv_upTo.j0 k (mn a1 a0_1) false a0_0 a0_1)) = some (r1, r2) := h
  clear h
  obtain ⟨ji3, hji3⟩ : ∃ j_ : Int, (mn a1 a0_1) = j_ := ⟨_, rfl⟩
  replace H : (if a0_0 > (-4611686018427387904) then (itv_upTo.j0 k ji3 (decide (a0_0 > (ji3))) a0_0 a0_1) else (itv_upTo.j0 k ji3 false a0_0 a0_1)) = some (r1, r2) := by first | (rw [hji3] at H; exact H) | (simp only [hji3] at H ⊢; exact H)
  have hji3_ : (if a0_1 < a1 then a0_1 else a1) = ji3 := hji3
  have HC4 := Aside0.mk H
  clear H
  go_enter Try.func65, Try.ntmps65
  go_upto_region 2 with (first | ((with_reducible refine gate_dst (N := 2) rfl ?_); refine box_event ?hg (N := 2) ?hd (cs := #[.int .i64 a0_0, .int .i64 a0_1]) (t := 23) ?hr ?_; (case hd => rfl); (case hg => rfl); (case hr => first | (go_simp; done) | (go_simp; rfl)); intro gb242 hg w5 hbox hb; have n0_ := bst HB hb; have n1_ := Aside0.mk (hbox); have n2_ := bsz HB hg; have n3_ := bsz HB hg; clear HB; have HB := n0_; have BK242 := n1_; have GW242 := n2_; have GE242 := n3_; clear n0_ n1_ n2_ n3_; clear hb hbox hg) | ((with_reducible refine gate_dst (N := 4) rfl ?_); refine box_event ?hg (N := 4) ?hd (cs := #[.int .i64 0, .int .i64 0]) (t := 23) ?hr ?_; (case hd => rfl); (case hg => rfl); (case hr => first | (go_simp; done) | (go_simp; rfl)); intro gb243 hg w6 hbox hb; have n0_ := bst HB hb; have n1_ := Aside0.mk (hbox); have n2_ := bsz HB hg; have n3_ := bsz HB hg; have n4_ := bn1 BK242 hg; have n5_ := bn2 BK242 hg; replace BK242 := bbw BK242 hb; clear HB; have HB := n0_; have BK243 := n1_; have GW243 := n2_; have GE243 := n3_; have NB242_243 := n4_; have NB243_242 := n5_; clear n0_ n1_ n2_ n3_ n4_ n5_; clear hb hbox hg; have hnb7 := NB242_243.out; have hnc7 := NB243_242.out; have hcz8_0 := hcz BK242 0; have hcz8_1 := hcz BK242 1; have hfz8_0 := blk_frozen BK242.out 0; have hfz8_1 := blk_frozen BK242.out 1))
  (try simp only [Act.put, List.setIfInBounds_toArray, List.set_cons_zero, List.set_cons_succ])
  go_cut [17] (fun v17 wc => ∃ (kq : Nat) (x17_3 : Bool), v17 = .bool x17_3 ∧ Aside0 (itv_upTo.j0 kq ji3 x17_3 a0_0 a0_1 = some (r1, r2)) ∧ Aside0 (kq ≤ k) ∧ Aside0 (wc.heap[gb242]? = some (.cells #[.int .i64 a0_0, .int .i64 a0_1] 23 (0, 0))) ∧ Aside0 (wc.heap[gb243]? = some (.cells #[.int .i64 0, .int .i64 0] 23 (0, 0))) ∧ Aside0 (Below w.heap.size w wc))
  case first =>
   have H := HC4.out
   clear HC4
   by_cases c9 : a0_0 > (-4611686018427387904)
   ·
    rw [if_pos c9] at H
    have c9b0 : decide ((-4611686018427387904) < a0_0) = true := decide_eq_true c9
    clear c9
    (first | rw [c9b0] | (simp only [i64_w, i32_w]; rw [c9b0]) | skip)
    have H' := Aside0.mk H
    clear H
    have hnb10 := NB242_243.out
    have hnc10 := NB243_242.out
    have hcz11_0 := hcz BK242 0
    have hcz11_1 := hcz BK242 1
    have hfz11_0 := blk_frozen BK242.out 0
    have hfz11_1 := blk_frozen BK242.out 1
    go_wp2
    go_meet
    case rel => exact ⟨_, (decide (a0_0 > (ji3))), (by first | rfl | (simp; done) | (simp only [← hji3] <;> (first | rfl | simp)) | (simp [*]; done)), H', ⟨by first | omega | exact Nat.le_refl _⟩, pkA BK242, pkA BK243, bpk HB⟩
   ·
    rw [if_neg c9] at H
    have c9b0 : decide ((-4611686018427387904) < a0_0) = false := decide_eq_false c9
    clear c9
    (first | rw [c9b0] | (simp only [i64_w, i32_w]; rw [c9b0]) | skip)
    have H' := Aside0.mk H
    clear H
    have hnb12 := NB242_243.out
    have hnc12 := NB243_242.out
    have hcz13_0 := hcz BK242 0
    have hcz13_1 := hcz BK242 1
    have hfz13_0 := blk_frozen BK242.out 0
    have hfz13_1 := blk_frozen BK242.out 1
    go_wp2
    go_meet
    case rel => exact ⟨_, (false), (by first | rfl | (simp; done) | (simp [*]; done)), H', ⟨by first | omega | exact Nat.le_refl _⟩, pkA BK242, pkA BK243, bpk HB⟩
  case rest =>
   clear HC4
   try clear c1
   try clear p2
   try clear c6
   try clear c7
   try clear c9
   try clear c9b0
   try clear c10
   try clear c12
   try clear hcz11_0
   try clear hcz11_1
   try clear hcz13_0
   try clear hcz13_1
   try clear hcz8_0
   try clear hcz8_1
   try clear hfz11_0
   try clear hfz11_1
   try clear hfz13_0
   try clear hfz13_1
   try clear hfz8_0
   try clear hfz8_1
   obtain ⟨kq, x17_3, rfl, HA, HJ3, BK242, BK243, HB⟩ := hcut
   cases kq with
   | zero => exact absurd HA.out (by simp [itv_upTo.j0])
   | succ kj3 =>
    have H := HA.out
    clear HA
    simp only [itv_upTo.j0] at H
    by_cases c14 : x17_3 = true
    ·
     subst c14
     have H1 : ((itv_Empty.f).bind fun bt244 => (some (bt244.1, bt244.2))) = some (r1, r2) := by rw [if_pos rfl] at H; exact H
     clear H
     have H := H1
     clear H1
     replace H := Option.bind_eq_some_iff.mp H
     obtain ⟨⟨t244, t245⟩, A150, H⟩ := H
     replace H : (some (t244, t245)) = some (r1, r2) := H
     have A15 := Aside0.mk A150
     clear A150
     simp only [Option.some.injEq, Prod.mk.injEq] at H
     obtain ⟨rfl, rfl⟩ := H
     go_wp2_with (first | ((with_reducible refine gate_callee (f := 15) rfl ?_); refine goesL_ (some 18) rfl rfl Try.func15 (by kernel_rfl) rfl #[] rfl (by (try simp only [List.map_toArray, List.map_cons, List.map_nil]); first | done | rfl | (simp only [List.length_drop, List.length_take]; rfl)) ?_; (with_reducible refine (itv_Empty.calls  t244 t245 _ A15.out).mono ?_); rintro e w16 ⟨rfl, hb⟩; refine ⟨_, rfl, ?_⟩; have n0_ := bst HB hb; replace BK242 := bbw BK242 hb; replace BK243 := bbw BK243 hb; clear HB; have HB := n0_; clear n0_; (try clear hb); (try clear hb2); (try clear hk); (try clear hi); have hnb17 := NB243_242.out; have hnc17 := NB242_243.out; have hcz18_0 := hcz BK243 0; have hcz18_1 := hcz BK243 1; have hfz18_0 := blk_frozen BK243.out 0; have hfz18_1 := blk_frozen BK243.out 1))
     refine bodyPost_ret (results_cell_row rfl _ _ gb243 23 #[.int .i64 t244, .int .i64 t245] (0, 0) _ rfl (by refine pkB ?_; refine blk_put (cs := #[.int .i64 t244, .int .i64 0]) ?_ 1 _ (by first | rfl | (subst_vars; rfl)); refine pkB ?_; refine blk_put (cs := #[.int .i64 0, .int .i64 0]) ?_ 0 _ (by first | rfl | (subst_vars; rfl)); refine pkB ?_; exact BK243.out) Try.underlying23 rfl (by kernel_rfl)) rfl ?_
     exact ⟨by first | rfl | (simp [errW_none, errW_some] <;> rfl) | (simp only [← hji3]; first | rfl | (simp [errW_none, errW_some] <;> rfl)) | (simp [*, errW_none, errW_some] <;> rfl) | kernel_rfl, by repeat (first | (with_reducible first | exact HB.out | apply below_alloc | apply pw_below_drewN | apply below_drew1 | refine below_set ?_ GE242.out | refine below_set ?_ GE243.out) | exact HB.out)⟩
    ·
     replace c14 := Bool.eq_false_iff.mpr c14
     subst c14
     have H1 : ((itv_Of.f a0_0 ji3).bind fun bt246 => (some (bt246.1, bt246.2))) = some (r1, r2) := by rw [if_neg (show ¬ (false = true) by decide)] at H; exact H
     clear H
     have H := H1
     clear H1
     replace H := Option.bind_eq_some_iff.mp H
     obtain ⟨⟨t246, t247⟩, A190, H⟩ := H
     replace H : (some (t246, t247)) = some (r1, r2) := H
     have A19 := Aside0.mk A190
     clear A190
     simp only [Option.some.injEq, Prod.mk.injEq] at H
     obtain ⟨rfl, rfl⟩ := H
     have hnb20 := NB242_243.out
     have hnc20 := NB243_242.out
     have hcz21_0 := hcz BK242 0
     have hcz21_1 := hcz BK242 1
     have hfz21_0 := blk_frozen BK242.out 0
     have hfz21_1 := blk_frozen BK242.out 1
     go_wp2_with (first | ((with_reducible refine gate_callee (f := 13) rfl ?_); refine goesL_ (some 22) rfl rfl Try.func13 (by kernel_rfl) rfl #[.int .i64 a0_0, .int .i64 ji3] rfl (by (try simp only [List.map_toArray, List.map_cons, List.map_nil]); first | done | (simp only [hji3]; rfl) | rfl | (simp only [List.length_drop, List.length_take]; rfl)) ?_; (with_reducible refine (itv_Of.calls a0_0 ji3 t246 t247 _ A19.out).mono ?_); rintro e w22 ⟨rfl, hb⟩; refine ⟨_, rfl, ?_⟩; have n0_ := bst HB hb; replace BK242 := bbw BK242 hb; replace BK243 := bbw BK243 hb; clear HB; have HB := n0_; clear n0_; (try clear hb); (try clear hb2); (try clear hk); (try clear hi); have hcz23_0 := hcz BK243 0; have hcz23_1 := hcz BK243 1; have hfz23_0 := blk_frozen BK243.out 0; have hfz23_1 := blk_frozen BK243.out 1))
     refine bodyPost_ret (results_cell_row rfl _ _ gb243 23 #[.int .i64 t246, .int .i64 t247] (0, 0) _ rfl (by refine pkB ?_; refine blk_put (cs := #[.int .i64 t246, .int .i64 0]) ?_ 1 _ (by first | rfl | (subst_vars; rfl)); refine pkB ?_; refine blk_put (cs := #[.int .i64 0, .int .i64 0]) ?_ 0 _ (by first | rfl | (subst_vars; rfl)); refine pkB ?_; exact BK243.out) Try.underlying23 rfl (by kernel_rfl)) rfl ?_
     exact ⟨by first | rfl | (simp [errW_none, errW_some] <;> rfl) | (simp only [← hji3]; first | rfl | (simp [errW_none, errW_some] <;> rfl)) | (simp [*, errW_none, errW_some] <;> rfl) | kernel_rfl, by repeat (first | (with_reducible first | exact HB.out | apply below_alloc | apply pw_below_drewN | apply below_drew1 | refine below_set ?_ GE242.out | refine below_set ?_ GE243.out) | exact HB.out)⟩
def itv_from.j0 : Nat → Int → Bool → Int → Int → Option (Int × Int)
  | 0, _, _, _, _ => none
  | k + 1, x1, x17, x249000, x249001 => if x17 = true then ((itv_Empty.f).bind fun bt250 => (some (bt250.1, bt250.2))) else ((itv_Of.f x1 x249001).bind fun bt252 => (some (bt252.1, bt252.2)))
def itv_from.f (k : Nat) (a0_0 : Int) (a0_1 : Int) (a1 : Int) : Option (Int × Int) := if a0_1 < 4611686018427387904 then (itv_from.j0 k (mx a1 a0_0) (decide ((mx a1 a0_0) > a0_1)) a0_0 a0_1) else (itv_from.j0 k (mx a1 a0_0) false a0_0 a0_1)
set_option maxHeartbeats 8000000 in
set_option maxRecDepth 100000 in
theorem itv_from.calls (k : Nat) (a0_0 : Int) (a0_1 : Int) (a1 : Int) (r1 : Int) (r2 : Int) (w : World) (h : itv_from.f k a0_0 a0_1 a1 = some (r1, r2)) :
    Calls Try.prog 66 #[.agg #[.int .i64 a0_0, .int .i64 a0_1], .int .i64 a1] w fun e w' => e = .returned (.agg #[.int .i64 r1, .int .i64 r2]) ∧ Below w.heap.size w w' := by
  have hu23 := Try.underlying23
  have HB := Aside0.mk (Below.refl w.heap.size w)
  have H : (if a0_1 < 4611686018427387904 then (itv_from.j0 k (mx a1 a0_0) (decide ((mx a1 a0_0) > a0_1)) a0_0 a0_1) else (itv_from.j0 k (mx a1 a0_0) false a0_0 a0_1)) = some (r1, r2) := h
  clear h
  obtain ⟨ji3, hji3⟩ : ∃ j_ : Int, (mx a1 a0_0) = j_ := ⟨_, rfl⟩
  replace H : (if a0_1 < 4611686018427387904 then (itv_from.j0 k ji3 (decide ((ji3) > a0_1)) a0_0 a0_1) else (itv_from.j0 k ji3 false a0_0 a0_1)) = some (r1, r2) := by first | (rw [hji3] at H; exact H) | (simp only [hji3] at H ⊢; exact H)
  have hji3_ : (if a1 < a0_0 then a0_0 else a1) = ji3 := hji3
  have HC4 := Aside0.mk H
  clear H
  go_enter Try.func66, Try.ntmps66
  go_upto_region 2 with (first | ((with_reducible refine gate_dst (N := 2) rfl ?_); refine box_event ?hg (N := 2) ?hd (cs := #[.int .i64 a0_0, .int .i64 a0_1]) (t := 23) ?hr ?_; (case hd => rfl); (case hg => rfl); (case hr => first | (go_simp; done) | (go_simp; rfl)); intro gb248 hg w5 hbox hb; have n0_ := bst HB hb; have n1_ := Aside0.mk (hbox); have n2_ := bsz HB hg; have n3_ := bsz HB hg; clear HB; have HB := n0_; have BK248 := n1_; have GW248 := n2_; have GE248 := n3_; clear n0_ n1_ n2_ n3_; clear hb hbox hg) | ((with_reducible refine gate_dst (N := 4) rfl ?_); refine box_event ?hg (N := 4) ?hd (cs := #[.int .i64 0, .int .i64 0]) (t := 23) ?hr ?_; (case hd => rfl); (case hg => rfl); (case hr => first | (go_simp; done) | (go_simp; rfl)); intro gb249 hg w6 hbox hb; have n0_ := bst HB hb; have n1_ := Aside0.mk (hbox); have n2_ := bsz HB hg; have n3_ := bsz HB hg; have n4_ := bn1 BK248 hg; have n5_ := bn2 BK248 hg; replace BK248 := bbw BK248 hb; clear HB; have HB := n0_; have BK249 := n1_; have GW249 := n2_; have GE249 := n3_; have NB248_249 := n4_; have NB249_248 := n5_; clear n0_ n1_ n2_ n3_ n4_ n5_; clear hb hbox hg; have hnb7 := NB248_249.out; have hnc7 := NB249_248.out; have hcz8_0 := hcz BK248 0; have hcz8_1 := hcz BK248 1; have hfz8_0 := blk_frozen BK248.out 0; have hfz8_1 := blk_frozen BK248.out 1))
  (try simp only [Act.put, List.setIfInBounds_toArray, List.set_cons_zero, List.set_cons_succ])
  go_cut [17] (fun v17 wc => ∃ (kq : Nat) (x17_3 : Bool), v17 = .bool x17_3 ∧ Aside0 (itv_from.j0 kq ji3 x17_3 a0_0 a0_1 = some (r1, r2)) ∧ Aside0 (kq ≤ k) ∧ Aside0 (wc.heap[gb248]? = some (.cells #[.int .i64 a0_0, .int .i64 a0_1] 23 (0, 0))) ∧ Aside0 (wc.heap[gb249]? = some (.cells #[.int .i64 0, .int .i64 0] 23 (0, 0))) ∧ Aside0 (Below w.heap.size w wc))
  case first =>
   have H := HC4.out
   clear HC4
   by_cases c9 : a0_1 < 4611686018427387904
   ·
    rw [if_pos c9] at H
    have c9b0 : decide (a0_1 < 4611686018427387904) = true := decide_eq_true c9
    clear c9
    (first | rw [c9b0] | (simp only [i64_w, i32_w]; rw [c9b0]) | skip)
    have H' := Aside0.mk H
    clear H
    have hnb10 := NB248_249.out
    have hnc10 := NB249_248.out
    have hcz11_0 := hcz BK248 0
    have hcz11_1 := hcz BK248 1
    have hfz11_0 := blk_frozen BK248.out 0
    have hfz11_1 := blk_frozen BK248.out 1
    go_wp2
    go_meet
    case rel => exact ⟨_, (decide ((ji3) > a0_1)), (by first | rfl | (simp; done) | (simp only [← hji3] <;> (first | rfl | simp)) | (simp [*]; done)), H', ⟨by first | omega | exact Nat.le_refl _⟩, pkA BK248, pkA BK249, bpk HB⟩
   ·
    rw [if_neg c9] at H
    have c9b0 : decide (a0_1 < 4611686018427387904) = false := decide_eq_false c9
    clear c9
    (first | rw [c9b0] | (simp only [i64_w, i32_w]; rw [c9b0]) | skip)
    have H' := Aside0.mk H
    clear H
    have hnb12 := NB248_249.out
    have hnc12 := NB249_248.out
    have hcz13_0 := hcz BK248 0
    have hcz13_1 := hcz BK248 1
    have hfz13_0 := blk_frozen BK248.out 0
    have hfz13_1 := blk_frozen BK248.out 1
    go_wp2
    go_meet
    case rel => exact ⟨_, (false), (by first | rfl | (simp; done) | (simp [*]; done)), H', ⟨by first | omega | exact Nat.le_refl _⟩, pkA BK248, pkA BK249, bpk HB⟩
  case rest =>
   clear HC4
   try clear c1
   try clear p2
   try clear c6
   try clear c7
   try clear c9
   try clear c9b0
   try clear c10
   try clear c12
   try clear hcz11_0
   try clear hcz11_1
   try clear hcz13_0
   try clear hcz13_1
   try clear hcz8_0
   try clear hcz8_1
   try clear hfz11_0
   try clear hfz11_1
   try clear hfz13_0
   try clear hfz13_1
   try clear hfz8_0
   try clear hfz8_1
   obtain ⟨kq, x17_3, rfl, HA, HJ3, BK248, BK249, HB⟩ := hcut
   cases kq with
   | zero => exact absurd HA.out (by simp [itv_from.j0])
   | succ kj3 =>
    have H := HA.out
    clear HA
    simp only [itv_from.j0] at H
    by_cases c14 : x17_3 = true
    ·
     subst c14
     have H1 : ((itv_Empty.f).bind fun bt250 => (some (bt250.1, bt250.2))) = some (r1, r2) := by rw [if_pos rfl] at H; exact H
     clear H
     have H := H1
     clear H1
     replace H := Option.bind_eq_some_iff.mp H
     obtain ⟨⟨t250, t251⟩, A150, H⟩ := H
     replace H : (some (t250, t251)) = some (r1, r2) := H
     have A15 := Aside0.mk A150
     clear A150
     simp only [Option.some.injEq, Prod.mk.injEq] at H
     obtain ⟨rfl, rfl⟩ := H
     go_wp2_with (first | ((with_reducible refine gate_callee (f := 15) rfl ?_); refine goesL_ (some 18) rfl rfl Try.func15 (by kernel_rfl) rfl #[] rfl (by (try simp only [List.map_toArray, List.map_cons, List.map_nil]); first | done | rfl | (simp only [List.length_drop, List.length_take]; rfl)) ?_; (with_reducible refine (itv_Empty.calls  t250 t251 _ A15.out).mono ?_); rintro e w16 ⟨rfl, hb⟩; refine ⟨_, rfl, ?_⟩; have n0_ := bst HB hb; replace BK248 := bbw BK248 hb; replace BK249 := bbw BK249 hb; clear HB; have HB := n0_; clear n0_; (try clear hb); (try clear hb2); (try clear hk); (try clear hi); have hnb17 := NB249_248.out; have hnc17 := NB248_249.out; have hcz18_0 := hcz BK249 0; have hcz18_1 := hcz BK249 1; have hfz18_0 := blk_frozen BK249.out 0; have hfz18_1 := blk_frozen BK249.out 1))
     refine bodyPost_ret (results_cell_row rfl _ _ gb249 23 #[.int .i64 t250, .int .i64 t251] (0, 0) _ rfl (by refine pkB ?_; refine blk_put (cs := #[.int .i64 t250, .int .i64 0]) ?_ 1 _ (by first | rfl | (subst_vars; rfl)); refine pkB ?_; refine blk_put (cs := #[.int .i64 0, .int .i64 0]) ?_ 0 _ (by first | rfl | (subst_vars; rfl)); refine pkB ?_; exact BK249.out) Try.underlying23 rfl (by kernel_rfl)) rfl ?_
     exact ⟨by first | rfl | (simp [errW_none, errW_some] <;> rfl) | (simp only [← hji3]; first | rfl | (simp [errW_none, errW_some] <;> rfl)) | (simp [*, errW_none, errW_some] <;> rfl) | kernel_rfl, by repeat (first | (with_reducible first | exact HB.out | apply below_alloc | apply pw_below_drewN | apply below_drew1 | refine below_set ?_ GE248.out | refine below_set ?_ GE249.out) | exact HB.out)⟩
    ·
     replace c14 := Bool.eq_false_iff.mpr c14
     subst c14
     have H1 : ((itv_Of.f ji3 a0_1).bind fun bt252 => (some (bt252.1, bt252.2))) = some (r1, r2) := by rw [if_neg (show ¬ (false = true) by decide)] at H; exact H
     clear H
     have H := H1
     clear H1
     replace H := Option.bind_eq_some_iff.mp H
     obtain ⟨⟨t252, t253⟩, A190, H⟩ := H
     replace H : (some (t252, t253)) = some (r1, r2) := H
     have A19 := Aside0.mk A190
     clear A190
     simp only [Option.some.injEq, Prod.mk.injEq] at H
     obtain ⟨rfl, rfl⟩ := H
     have hnb20 := NB248_249.out
     have hnc20 := NB249_248.out
     have hcz21_0 := hcz BK248 0
     have hcz21_1 := hcz BK248 1
     have hfz21_0 := blk_frozen BK248.out 0
     have hfz21_1 := blk_frozen BK248.out 1
     go_wp2_with (first | ((with_reducible refine gate_callee (f := 13) rfl ?_); refine goesL_ (some 22) rfl rfl Try.func13 (by kernel_rfl) rfl #[.int .i64 ji3, .int .i64 a0_1] rfl (by (try simp only [List.map_toArray, List.map_cons, List.map_nil]); first | done | (simp only [hji3]; rfl) | rfl | (simp only [List.length_drop, List.length_take]; rfl)) ?_; (with_reducible refine (itv_Of.calls ji3 a0_1 t252 t253 _ A19.out).mono ?_); rintro e w22 ⟨rfl, hb⟩; refine ⟨_, rfl, ?_⟩; have n0_ := bst HB hb; replace BK248 := bbw BK248 hb; replace BK249 := bbw BK249 hb; clear HB; have HB := n0_; clear n0_; (try clear hb); (try clear hb2); (try clear hk); (try clear hi); have hcz23_0 := hcz BK249 0; have hcz23_1 := hcz BK249 1; have hfz23_0 := blk_frozen BK249.out 0; have hfz23_1 := blk_frozen BK249.out 1))
     refine bodyPost_ret (results_cell_row rfl _ _ gb249 23 #[.int .i64 t252, .int .i64 t253] (0, 0) _ rfl (by refine pkB ?_; refine blk_put (cs := #[.int .i64 t252, .int .i64 0]) ?_ 1 _ (by first | rfl | (subst_vars; rfl)); refine pkB ?_; refine blk_put (cs := #[.int .i64 0, .int .i64 0]) ?_ 0 _ (by first | rfl | (subst_vars; rfl)); refine pkB ?_; exact BK249.out) Try.underlying23 rfl (by kernel_rfl)) rfl ?_
     exact ⟨by first | rfl | (simp [errW_none, errW_some] <;> rfl) | (simp only [← hji3]; first | rfl | (simp [errW_none, errW_some] <;> rfl)) | (simp [*, errW_none, errW_some] <;> rfl) | kernel_rfl, by repeat (first | (with_reducible first | exact HB.out | apply below_alloc | apply pw_below_drewN | apply below_drew1 | refine below_set ?_ GE248.out | refine below_set ?_ GE249.out) | exact HB.out)⟩
def itv_without.f (k : Nat) (a0_0 : Int) (a0_1 : Int) (a1_0 : Int) (a1_1 : Int) : Option (Int × Int) := if a1_0 = a1_1 then (if a1_0 = a0_0 then ((itv_from.f k a0_0 a0_1 (wrap64 (a1_0 + 1))).bind fun bt257 => (some (bt257.1, bt257.2))) else (if a1_0 = a0_1 then ((itv_upTo.f k a0_0 a0_1 (wrap64 (a1_0 - 1))).bind fun bt259 => (some (bt259.1, bt259.2))) else (some (a0_0, a0_1)))) else (some (a0_0, a0_1))
set_option maxHeartbeats 8000000 in
set_option maxRecDepth 100000 in
theorem itv_without.calls (k : Nat) (a0_0 : Int) (a0_1 : Int) (a1_0 : Int) (a1_1 : Int) (r1 : Int) (r2 : Int) (w : World) (h : itv_without.f k a0_0 a0_1 a1_0 a1_1 = some (r1, r2)) :
    Calls Try.prog 64 #[.agg #[.int .i64 a0_0, .int .i64 a0_1], .agg #[.int .i64 a1_0, .int .i64 a1_1]] w fun e w' => e = .returned (.agg #[.int .i64 r1, .int .i64 r2]) ∧ Below w.heap.size w w' := by
  have hu23 := Try.underlying23
  have HB := Aside0.mk (Below.refl w.heap.size w)
  have H : (if a1_0 = a1_1 then (if a1_0 = a0_0 then ((itv_from.f k a0_0 a0_1 (wrap64 (a1_0 + 1))).bind fun bt257 => (some (bt257.1, bt257.2))) else (if a1_0 = a0_1 then ((itv_upTo.f k a0_0 a0_1 (wrap64 (a1_0 - 1))).bind fun bt259 => (some (bt259.1, bt259.2))) else (some (a0_0, a0_1)))) else (some (a0_0, a0_1))) = some (r1, r2) := h
  clear h
  by_cases c3 : a1_0 = a1_1
  ·
   rw [if_pos c3] at H
   have c3b0 : (a1_0 == a1_1) = true := beq_iff_eq.mpr c3
   have c3b1 : (a1_0 != a1_1) = false := bne_eq_false_iff_eq.mpr c3
   clear c3
   by_cases c4 : a1_0 = a0_0
   ·
    rw [if_pos c4] at H
    have c4b0 : (a1_0 == a0_0) = true := beq_iff_eq.mpr c4
    have c4b1 : (a1_0 != a0_0) = false := bne_eq_false_iff_eq.mpr c4
    clear c4
    replace H := Option.bind_eq_some_iff.mp H
    obtain ⟨⟨t257, t258⟩, A50, H⟩ := H
    replace H : (some (t257, t258)) = some (r1, r2) := H
    have A5 := Aside0.mk A50
    clear A50
    simp only [Option.some.injEq, Prod.mk.injEq] at H
    obtain ⟨rfl, rfl⟩ := H
    go_enter Try.func64, Try.ntmps64
    go_wp2_with (first | ((with_reducible refine gate_dst (N := 2) rfl ?_); refine box_event ?hg (N := 2) ?hd (cs := #[.int .i64 a0_0, .int .i64 a0_1]) (t := 23) ?hr ?_; (case hd => rfl); (case hg => rfl); (case hr => first | (go_simp; done) | (go_simp; rfl)); intro gb254 hg w6 hbox hb; have n0_ := bst HB hb; have n1_ := Aside0.mk (hbox); have n2_ := bsz HB hg; have n3_ := bsz HB hg; clear HB; have HB := n0_; have BK254 := n1_; have GW254 := n2_; have GE254 := n3_; clear n0_ n1_ n2_ n3_; clear hb hbox hg) | ((with_reducible refine gate_dst (N := 3) rfl ?_); refine box_event ?hg (N := 3) ?hd (cs := #[.int .i64 a1_0, .int .i64 a1_1]) (t := 23) ?hr ?_; (case hd => rfl); (case hg => rfl); (case hr => first | (go_simp; done) | (go_simp; rfl)); intro gb255 hg w7 hbox hb; have n0_ := bst HB hb; have n1_ := Aside0.mk (hbox); have n2_ := bsz HB hg; have n3_ := bsz HB hg; have n4_ := bn1 BK254 hg; have n5_ := bn2 BK254 hg; replace BK254 := bbw BK254 hb; clear HB; have HB := n0_; have BK255 := n1_; have GW255 := n2_; have GE255 := n3_; have NB254_255 := n4_; have NB255_254 := n5_; clear n0_ n1_ n2_ n3_ n4_ n5_; clear hb hbox hg) | ((with_reducible refine gate_dst (N := 4) rfl ?_); refine box_event ?hg (N := 4) ?hd (cs := #[.int .i64 0, .int .i64 0]) (t := 23) ?hr ?_; (case hd => rfl); (case hg => rfl); (case hr => first | (go_simp; done) | (go_simp; rfl)); intro gb256 hg w8 hbox hb; have n0_ := bst HB hb; have n1_ := Aside0.mk (hbox); have n2_ := bsz HB hg; have n3_ := bsz HB hg; have n4_ := bn1 BK254 hg; have n5_ := bn2 BK254 hg; have n6_ := bn1 BK255 hg; have n7_ := bn2 BK255 hg; replace BK254 := bbw BK254 hb; replace BK255 := bbw BK255 hb; clear HB; have HB := n0_; have BK256 := n1_; have GW256 := n2_; have GE256 := n3_; have NB254_256 := n4_; have NB256_254 := n5_; have NB255_256 := n6_; have NB256_255 := n7_; clear n0_ n1_ n2_ n3_ n4_ n5_ n6_ n7_; clear hb hbox hg; have hnb9 := NB255_254.out; have hnc9 := NB254_255.out; have hnb10 := NB255_256.out; have hnc10 := NB256_255.out; have hcz11_0 := hcz BK255 0; have hcz11_1 := hcz BK255 1; have hfz11_0 := blk_frozen BK255.out 0; have hfz11_1 := blk_frozen BK255.out 1; have hnb12 := NB254_256.out; have hnc12 := NB256_254.out; have hcz13_0 := hcz BK254 0; have hcz13_1 := hcz BK254 1; have hfz13_0 := blk_frozen BK254.out 0; have hfz13_1 := blk_frozen BK254.out 1) | ((with_reducible refine gate_callee (f := 66) rfl ?_); refine goesL_ (some 21) rfl rfl Try.func66 (by kernel_rfl) rfl #[.agg #[.int .i64 a0_0, .int .i64 a0_1], .int .i64 (wrap64 (a1_0 + 1))] rfl (by (try simp only [List.map_toArray, List.map_cons, List.map_nil]); first | done | rfl | (simp only [List.length_drop, List.length_take]; rfl)) ?_; (with_reducible refine (itv_from.calls k a0_0 a0_1 (wrap64 (a1_0 + 1)) t257 t258 _ A5.out).mono ?_); rintro e w14 ⟨rfl, hb⟩; refine ⟨_, rfl, ?_⟩; have n0_ := bst HB hb; replace BK254 := bbw BK254 hb; replace BK255 := bbw BK255 hb; replace BK256 := bbw BK256 hb; clear HB; have HB := n0_; clear n0_; (try clear hb); (try clear hb2); (try clear hk); (try clear hi); have hcz15_0 := hcz BK256 0; have hcz15_1 := hcz BK256 1; have hfz15_0 := blk_frozen BK256.out 0; have hfz15_1 := blk_frozen BK256.out 1))
    refine bodyPost_ret (results_cell_row rfl _ _ gb256 23 #[.int .i64 t257, .int .i64 t258] (0, 0) _ rfl (by refine pkB ?_; refine blk_put (cs := #[.int .i64 t257, .int .i64 0]) ?_ 1 _ (by first | rfl | (subst_vars; rfl)); refine pkB ?_; refine blk_put (cs := #[.int .i64 0, .int .i64 0]) ?_ 0 _ (by first | rfl | (subst_vars; rfl)); refine pkB ?_; exact BK256.out) Try.underlying23 rfl (by kernel_rfl)) rfl ?_
    exact ⟨by first | rfl | (simp [errW_none, errW_some] <;> rfl) | (simp [*, errW_none, errW_some] <;> rfl) | kernel_rfl, by repeat (first | (with_reducible first | exact HB.out | apply below_alloc | apply pw_below_drewN | apply below_drew1 | refine below_set ?_ GE254.out | refine below_set ?_ GE255.out | refine below_set ?_ GE256.out) | exact HB.out)⟩
   ·
    rw [if_neg c4] at H
    have c4b0 : (a1_0 == a0_0) = false := beq_eq_false_iff_ne.mpr c4
    have c4b1 : (a1_0 != a0_0) = true := bne_iff_ne.mpr c4
    by_cases c16 : a1_0 = a0_1
    ·
     rw [if_pos c16] at H
     have c16b0 : (a1_0 == a0_1) = true := beq_iff_eq.mpr c16
     have c16b1 : (a1_0 != a0_1) = false := bne_eq_false_iff_eq.mpr c16
     clear c16
     replace H := Option.bind_eq_some_iff.mp H
     obtain ⟨⟨t259, t260⟩, A170, H⟩ := H
     replace H : (some (t259, t260)) = some (r1, r2) := H
     have A17 := Aside0.mk A170
     clear A170
     simp only [Option.some.injEq, Prod.mk.injEq] at H
     obtain ⟨rfl, rfl⟩ := H
     go_enter Try.func64, Try.ntmps64
     go_wp2_with (first | ((with_reducible refine gate_dst (N := 2) rfl ?_); refine box_event ?hg (N := 2) ?hd (cs := #[.int .i64 a0_0, .int .i64 a0_1]) (t := 23) ?hr ?_; (case hd => rfl); (case hg => rfl); (case hr => first | (go_simp; done) | (go_simp; rfl)); intro gb254 hg w18 hbox hb; have n0_ := bst HB hb; have n1_ := Aside0.mk (hbox); have n2_ := bsz HB hg; have n3_ := bsz HB hg; clear HB; have HB := n0_; have BK254 := n1_; have GW254 := n2_; have GE254 := n3_; clear n0_ n1_ n2_ n3_; clear hb hbox hg) | ((with_reducible refine gate_dst (N := 3) rfl ?_); refine box_event ?hg (N := 3) ?hd (cs := #[.int .i64 a1_0, .int .i64 a1_1]) (t := 23) ?hr ?_; (case hd => rfl); (case hg => rfl); (case hr => first | (go_simp; done) | (go_simp; rfl)); intro gb255 hg w19 hbox hb; have n0_ := bst HB hb; have n1_ := Aside0.mk (hbox); have n2_ := bsz HB hg; have n3_ := bsz HB hg; have n4_ := bn1 BK254 hg; have n5_ := bn2 BK254 hg; replace BK254 := bbw BK254 hb; clear HB; have HB := n0_; have BK255 := n1_; have GW255 := n2_; have GE255 := n3_; have NB254_255 := n4_; have NB255_254 := n5_; clear n0_ n1_ n2_ n3_ n4_ n5_; clear hb hbox hg) | ((with_reducible refine gate_dst (N := 4) rfl ?_); refine box_event ?hg (N := 4) ?hd (cs := #[.int .i64 0, .int .i64 0]) (t := 23) ?hr ?_; (case hd => rfl); (case hg => rfl); (case hr => first | (go_simp; done) | (go_simp; rfl)); intro gb256 hg w20 hbox hb; have n0_ := bst HB hb; have n1_ := Aside0.mk (hbox); have n2_ := bsz HB hg; have n3_ := bsz HB hg; have n4_ := bn1 BK254 hg; have n5_ := bn2 BK254 hg; have n6_ := bn1 BK255 hg; have n7_ := bn2 BK255 hg; replace BK254 := bbw BK254 hb; replace BK255 := bbw BK255 hb; clear HB; have HB := n0_; have BK256 := n1_; have GW256 := n2_; have GE256 := n3_; have NB254_256 := n4_; have NB256_254 := n5_; have NB255_256 := n6_; have NB256_255 := n7_; clear n0_ n1_ n2_ n3_ n4_ n5_ n6_ n7_; clear hb hbox hg; have hnb21 := NB255_254.out; have hnc21 := NB254_255.out; have hnb22 := NB255_256.out; have hnc22 := NB256_255.out; have hcz23_0 := hcz BK255 0; have hcz23_1 := hcz BK255 1; have hfz23_0 := blk_frozen BK255.out 0; have hfz23_1 := blk_frozen BK255.out 1; have hnb24 := NB254_256.out; have hnc24 := NB256_254.out; have hcz25_0 := hcz BK254 0; have hcz25_1 := hcz BK254 1; have hfz25_0 := blk_frozen BK254.out 0; have hfz25_1 := blk_frozen BK254.out 1) | ((with_reducible refine gate_callee (f := 65) rfl ?_); refine goesL_ (some 30) rfl rfl Try.func65 (by kernel_rfl) rfl #[.agg #[.int .i64 a0_0, .int .i64 a0_1], .int .i64 (wrap64 (a1_0 - 1))] rfl (by (try simp only [List.map_toArray, List.map_cons, List.map_nil]); first | done | rfl | (simp only [List.length_drop, List.length_take]; rfl)) ?_; (with_reducible refine (itv_upTo.calls k a0_0 a0_1 (wrap64 (a1_0 - 1)) t259 t260 _ A17.out).mono ?_); rintro e w26 ⟨rfl, hb⟩; refine ⟨_, rfl, ?_⟩; have n0_ := bst HB hb; replace BK254 := bbw BK254 hb; replace BK255 := bbw BK255 hb; replace BK256 := bbw BK256 hb; clear HB; have HB := n0_; clear n0_; (try clear hb); (try clear hb2); (try clear hk); (try clear hi); have hcz27_0 := hcz BK256 0; have hcz27_1 := hcz BK256 1; have hfz27_0 := blk_frozen BK256.out 0; have hfz27_1 := blk_frozen BK256.out 1))
     refine bodyPost_ret (results_cell_row rfl _ _ gb256 23 #[.int .i64 t259, .int .i64 t260] (0, 0) _ rfl (by refine pkB ?_; refine blk_put (cs := #[.int .i64 t259, .int .i64 0]) ?_ 1 _ (by first | rfl | (subst_vars; rfl)); refine pkB ?_; refine blk_put (cs := #[.int .i64 0, .int .i64 0]) ?_ 0 _ (by first | rfl | (subst_vars; rfl)); refine pkB ?_; exact BK256.out) Try.underlying23 rfl (by kernel_rfl)) rfl ?_
     exact ⟨by first | rfl | (simp [errW_none, errW_some] <;> rfl) | (simp [*, errW_none, errW_some] <;> rfl) | kernel_rfl, by repeat (first | (with_reducible first | exact HB.out | apply below_alloc | apply pw_below_drewN | apply below_drew1 | refine below_set ?_ GE254.out | refine below_set ?_ GE255.out | refine below_set ?_ GE256.out) | exact HB.out)⟩
    ·
     rw [if_neg c16] at H
     have c16b0 : (a1_0 == a0_1) = false := beq_eq_false_iff_ne.mpr c16
     have c16b1 : (a1_0 != a0_1) = true := bne_iff_ne.mpr c16
     simp only [Option.some.injEq, Prod.mk.injEq] at H
     obtain ⟨rfl, rfl⟩ := H
     go_enter Try.func64, Try.ntmps64
     go_wp2_with (first | ((with_reducible refine gate_dst (N := 2) rfl ?_); refine box_event ?hg (N := 2) ?hd (cs := #[.int .i64 a0_0, .int .i64 a0_1]) (t := 23) ?hr ?_; (case hd => rfl); (case hg => rfl); (case hr => first | (go_simp; done) | (go_simp; rfl)); intro gb254 hg w28 hbox hb; have n0_ := bst HB hb; have n1_ := Aside0.mk (hbox); have n2_ := bsz HB hg; have n3_ := bsz HB hg; clear HB; have HB := n0_; have BK254 := n1_; have GW254 := n2_; have GE254 := n3_; clear n0_ n1_ n2_ n3_; clear hb hbox hg) | ((with_reducible refine gate_dst (N := 3) rfl ?_); refine box_event ?hg (N := 3) ?hd (cs := #[.int .i64 a1_0, .int .i64 a1_1]) (t := 23) ?hr ?_; (case hd => rfl); (case hg => rfl); (case hr => first | (go_simp; done) | (go_simp; rfl)); intro gb255 hg w29 hbox hb; have n0_ := bst HB hb; have n1_ := Aside0.mk (hbox); have n2_ := bsz HB hg; have n3_ := bsz HB hg; have n4_ := bn1 BK254 hg; have n5_ := bn2 BK254 hg; replace BK254 := bbw BK254 hb; clear HB; have HB := n0_; have BK255 := n1_; have GW255 := n2_; have GE255 := n3_; have NB254_255 := n4_; have NB255_254 := n5_; clear n0_ n1_ n2_ n3_ n4_ n5_; clear hb hbox hg) | ((with_reducible refine gate_dst (N := 4) rfl ?_); refine box_event ?hg (N := 4) ?hd (cs := #[.int .i64 0, .int .i64 0]) (t := 23) ?hr ?_; (case hd => rfl); (case hg => rfl); (case hr => first | (go_simp; done) | (go_simp; rfl)); intro gb256 hg w30 hbox hb; have n0_ := bst HB hb; have n1_ := Aside0.mk (hbox); have n2_ := bsz HB hg; have n3_ := bsz HB hg; have n4_ := bn1 BK254 hg; have n5_ := bn2 BK254 hg; have n6_ := bn1 BK255 hg; have n7_ := bn2 BK255 hg; replace BK254 := bbw BK254 hb; replace BK255 := bbw BK255 hb; clear HB; have HB := n0_; have BK256 := n1_; have GW256 := n2_; have GE256 := n3_; have NB254_256 := n4_; have NB256_254 := n5_; have NB255_256 := n6_; have NB256_255 := n7_; clear n0_ n1_ n2_ n3_ n4_ n5_ n6_ n7_; clear hb hbox hg; have hnb31 := NB255_254.out; have hnc31 := NB254_255.out; have hnb32 := NB255_256.out; have hnc32 := NB256_255.out; have hcz33_0 := hcz BK255 0; have hcz33_1 := hcz BK255 1; have hfz33_0 := blk_frozen BK255.out 0; have hfz33_1 := blk_frozen BK255.out 1; have hnb34 := NB254_256.out; have hnc34 := NB256_254.out; have hcz35_0 := hcz BK254 0; have hcz35_1 := hcz BK254 1; have hfz35_0 := blk_frozen BK254.out 0; have hfz35_1 := blk_frozen BK254.out 1; have hcz36_0 := hcz BK256 0; have hcz36_1 := hcz BK256 1; have hfz36_0 := blk_frozen BK256.out 0; have hfz36_1 := blk_frozen BK256.out 1))
     refine bodyPost_ret (results_cell_row rfl _ _ gb256 23 #[.int .i64 a0_0, .int .i64 a0_1] (0, 0) _ rfl (by refine pkB ?_; refine blk_put (cs := #[.int .i64 a0_0, .int .i64 0]) ?_ 1 _ (by first | rfl | (subst_vars; rfl)); refine pkB ?_; refine blk_put (cs := #[.int .i64 0, .int .i64 0]) ?_ 0 _ (by first | rfl | (subst_vars; rfl)); refine pkB ?_; exact BK256.out) Try.underlying23 rfl (by kernel_rfl)) rfl ?_
     exact ⟨by first | rfl | (simp [errW_none, errW_some] <;> rfl) | (simp [*, errW_none, errW_some] <;> rfl) | kernel_rfl, by repeat (first | (with_reducible first | exact HB.out | apply below_alloc | apply pw_below_drewN | apply below_drew1 | refine below_set ?_ GE254.out | refine below_set ?_ GE255.out | refine below_set ?_ GE256.out) | exact HB.out)⟩
  ·
   rw [if_neg c3] at H
   have c3b0 : (a1_0 == a1_1) = false := beq_eq_false_iff_ne.mpr c3
   have c3b1 : (a1_0 != a1_1) = true := bne_iff_ne.mpr c3
   simp only [Option.some.injEq, Prod.mk.injEq] at H
   obtain ⟨rfl, rfl⟩ := H
   go_enter Try.func64, Try.ntmps64
   go_wp2_with (first | ((with_reducible refine gate_dst (N := 2) rfl ?_); refine box_event ?hg (N := 2) ?hd (cs := #[.int .i64 a0_0, .int .i64 a0_1]) (t := 23) ?hr ?_; (case hd => rfl); (case hg => rfl); (case hr => first | (go_simp; done) | (go_simp; rfl)); intro gb254 hg w37 hbox hb; have n0_ := bst HB hb; have n1_ := Aside0.mk (hbox); have n2_ := bsz HB hg; have n3_ := bsz HB hg; clear HB; have HB := n0_; have BK254 := n1_; have GW254 := n2_; have GE254 := n3_; clear n0_ n1_ n2_ n3_; clear hb hbox hg) | ((with_reducible refine gate_dst (N := 3) rfl ?_); refine box_event ?hg (N := 3) ?hd (cs := #[.int .i64 a1_0, .int .i64 a1_1]) (t := 23) ?hr ?_; (case hd => rfl); (case hg => rfl); (case hr => first | (go_simp; done) | (go_simp; rfl)); intro gb255 hg w38 hbox hb; have n0_ := bst HB hb; have n1_ := Aside0.mk (hbox); have n2_ := bsz HB hg; have n3_ := bsz HB hg; have n4_ := bn1 BK254 hg; have n5_ := bn2 BK254 hg; replace BK254 := bbw BK254 hb; clear HB; have HB := n0_; have BK255 := n1_; have GW255 := n2_; have GE255 := n3_; have NB254_255 := n4_; have NB255_254 := n5_; clear n0_ n1_ n2_ n3_ n4_ n5_; clear hb hbox hg) | ((with_reducible refine gate_dst (N := 4) rfl ?_); refine box_event ?hg (N := 4) ?hd (cs := #[.int .i64 0, .int .i64 0]) (t := 23) ?hr ?_; (case hd => rfl); (case hg => rfl); (case hr => first | (go_simp; done) | (go_simp; rfl)); intro gb256 hg w39 hbox hb; have n0_ := bst HB hb; have n1_ := Aside0.mk (hbox); have n2_ := bsz HB hg; have n3_ := bsz HB hg; have n4_ := bn1 BK254 hg; have n5_ := bn2 BK254 hg; have n6_ := bn1 BK255 hg; have n7_ := bn2 BK255 hg; replace BK254 := bbw BK254 hb; replace BK255 := bbw BK255 hb; clear HB; have HB := n0_; have BK256 := n1_; have GW256 := n2_; have GE256 := n3_; have NB254_256 := n4_; have NB256_254 := n5_; have NB255_256 := n6_; have NB256_255 := n7_; clear n0_ n1_ n2_ n3_ n4_ n5_ n6_ n7_; clear hb hbox hg; have hnb40 := NB255_254.out; have hnc40 := NB254_255.out; have hnb41 := NB255_256.out; have hnc41 := NB256_255.out; have hcz42_0 := hcz BK255 0; have hcz42_1 := hcz BK255 1; have hfz42_0 := blk_frozen BK255.out 0; have hfz42_1 := blk_frozen BK255.out 1; have hnb43 := NB254_256.out; have hnc43 := NB256_254.out; have hcz44_0 := hcz BK254 0; have hcz44_1 := hcz BK254 1; have hfz44_0 := blk_frozen BK254.out 0; have hfz44_1 := blk_frozen BK254.out 1; have hcz45_0 := hcz BK256 0; have hcz45_1 := hcz BK256 1; have hfz45_0 := blk_frozen BK256.out 0; have hfz45_1 := blk_frozen BK256.out 1))
   refine bodyPost_ret (results_cell_row rfl _ _ gb256 23 #[.int .i64 a0_0, .int .i64 a0_1] (0, 0) _ rfl (by refine pkB ?_; refine blk_put (cs := #[.int .i64 a0_0, .int .i64 0]) ?_ 1 _ (by first | rfl | (subst_vars; rfl)); refine pkB ?_; refine blk_put (cs := #[.int .i64 0, .int .i64 0]) ?_ 0 _ (by first | rfl | (subst_vars; rfl)); refine pkB ?_; exact BK256.out) Try.underlying23 rfl (by kernel_rfl)) rfl ?_
   exact ⟨by first | rfl | (simp [errW_none, errW_some] <;> rfl) | (simp [*, errW_none, errW_some] <;> rfl) | kernel_rfl, by repeat (first | (with_reducible first | exact HB.out | apply below_alloc | apply pw_below_drewN | apply below_drew1 | refine below_set ?_ GE254.out | refine below_set ?_ GE255.out | refine below_set ?_ GE256.out) | exact HB.out)⟩
end Go.Proofs.Ytbbnpipmjadpoaa.P
