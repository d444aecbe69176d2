/- What the law's proof needs of Px29. -/
import Derived.Test.YtbbnpipmjadpoaaTrJU2
import Derived.Test.YtbbnpipmjadpoaaTrJU
import Derived.Test.YtbbnpipmjadpoaaTrJPx0
import Derived.Test.YtbbnpipmjadpoaaTrJPx2
import Derived.Test.YtbbnpipmjadpoaaTrJPx3
import Derived.Test.YtbbnpipmjadpoaaTrJPx28
-- PRINTED by print.py (a twelfth state) out of the translation. Not trusted: Lean checks it.
namespace Go.Proofs.Ytbbnpipmjadpoaa.P
open Go.RowKit Go.Proofs.YtbbnpipmjadpoaaW.PrintWords Go.Proofs.YtbbnpipmjadpoaaW.PrintLast Go.Proofs.YtbbnpipmjadpoaaW.PrintMore Go.Proofs.YtbbnpipmjadpoaaO
attribute [local go_sem] max2_int min2_int max_two min_two max_three min_three max_four min_four   -- for this text's walks alone
set_option linter.unusedVariables false
set_option linter.unusedSimpArgs false
def itv_both_itv_Mul_1.j0 : Nat → Bool → Int → Int → Int → Int → Option (Int × Int)
  | 0, _, _, _, _, _ => none
  | k + 1, x16, x593000, x593001, x594000, x594001 => if x16 = true then ((itv_Empty.f).bind fun bt601 => (some (bt601.1, bt601.2))) else ((itv_Mul_1.f k x593000 x593001 x594000 x594001).bind fun bt603 => (some (bt603.1, bt603.2)))
def itv_both_itv_Mul_1.f (k : Nat) (a0_0 : Int) (a0_1 : Int) (a1_0 : Int) (a1_1 : Int)  : Option (Int × Int) := (itv_sound.f a0_0 a0_1).bind fun bt595 => ((itv_sound.f a1_0 a1_1).bind fun bt597 => ((itv_None.f bt595.1 bt595.2).bind fun t599 => (if t599 = true then (itv_both_itv_Mul_1.j0 k true bt595.1 bt595.2 bt597.1 bt597.2) else ((itv_None.f bt597.1 bt597.2).bind fun t600 => (itv_both_itv_Mul_1.j0 k t600 bt595.1 bt595.2 bt597.1 bt597.2)))))
set_option maxHeartbeats 8000000 in
set_option maxRecDepth 100000 in
theorem itv_both_itv_Mul_1.calls (k : Nat) (a0_0 : Int) (a0_1 : Int) (a1_0 : Int) (a1_1 : Int)  (r1 : Int) (r2 : Int) (w : World) (h : itv_both_itv_Mul_1.f k a0_0 a0_1 a1_0 a1_1 = some (r1, r2)) :
    Calls Try.prog 73 #[.agg #[.int .i64 a0_0, .int .i64 a0_1], .agg #[.int .i64 a1_0, .int .i64 a1_1], .func (.func 77) #[] #[]] w fun e w' => e = .returned (.agg #[.int .i64 r1, .int .i64 r2]) ∧ Below w.heap.size w w' := by
  have hu23 := Try.underlying23
  have HB := Aside0.mk (Below.refl w.heap.size w)
  have H : ((itv_sound.f a0_0 a0_1).bind fun bt595 => ((itv_sound.f a1_0 a1_1).bind fun bt597 => ((itv_None.f bt595.1 bt595.2).bind fun t599 => (if t599 = true then (itv_both_itv_Mul_1.j0 k true bt595.1 bt595.2 bt597.1 bt597.2) else ((itv_None.f bt597.1 bt597.2).bind fun t600 => (itv_both_itv_Mul_1.j0 k t600 bt595.1 bt595.2 bt597.1 bt597.2)))))) = some (r1, r2) := h
  clear h
  replace H := Option.bind_eq_some_iff.mp H
  obtain ⟨⟨t595, t596⟩, A40, H⟩ := H
  replace H : ((itv_sound.f a1_0 a1_1).bind fun bt597 => ((itv_None.f t595 t596).bind fun t599 => (if t599 = true then (itv_both_itv_Mul_1.j0 k true t595 t596 bt597.1 bt597.2) else ((itv_None.f bt597.1 bt597.2).bind fun t600 => (itv_both_itv_Mul_1.j0 k t600 t595 t596 bt597.1 bt597.2))))) = some (r1, r2) := H
  have A4 := Aside0.mk A40
  clear A40
  replace H := Option.bind_eq_some_iff.mp H
  obtain ⟨⟨t597, t598⟩, A50, H⟩ := H
  replace H : ((itv_None.f t595 t596).bind fun t599 => (if t599 = true then (itv_both_itv_Mul_1.j0 k true t595 t596 t597 t598) else ((itv_None.f t597 t598).bind fun t600 => (itv_both_itv_Mul_1.j0 k t600 t595 t596 t597 t598)))) = some (r1, r2) := H
  have A5 := Aside0.mk A50
  clear A50
  have HC6 := Aside0.mk H
  clear H
  go_enter Try.func73, Try.ntmps73
  try go_wp2_with (first | ((with_reducible refine gate_dst (N := 3) rfl ?_); refine box_event ?hg (N := 3) ?hd (cs := #[.int .i64 a0_0, .int .i64 a0_1]) (t := 23) ?hr ?_; (case hd => rfl); (case hg => rfl); (case hr => first | (go_simp; done) | (go_simp; rfl)); intro gb592 hg w7 hbox hb; have n0_ := bst HB hb; have n1_ := Aside0.mk (hbox); have n2_ := bsz HB hg; have n3_ := bsz HB hg; clear HB; have HB := n0_; have BK592 := n1_; have GW592 := n2_; have GE592 := n3_; clear n0_ n1_ n2_ n3_; clear hb hbox hg) | ((with_reducible refine gate_dst (N := 4) rfl ?_); refine box_event ?hg (N := 4) ?hd (cs := #[.int .i64 a1_0, .int .i64 a1_1]) (t := 23) ?hr ?_; (case hd => rfl); (case hg => rfl); (case hr => first | (go_simp; done) | (go_simp; rfl)); intro gb593 hg w8 hbox hb; have n0_ := bst HB hb; have n1_ := Aside0.mk (hbox); have n2_ := bsz HB hg; have n3_ := bsz HB hg; have n4_ := bn1 BK592 hg; have n5_ := bn2 BK592 hg; replace BK592 := bbw BK592 hb; clear HB; have HB := n0_; have BK593 := n1_; have GW593 := n2_; have GE593 := n3_; have NB592_593 := n4_; have NB593_592 := n5_; clear n0_ n1_ n2_ n3_ n4_ n5_; clear hb hbox hg) | ((with_reducible refine gate_dst (N := 6) rfl ?_); refine box_event ?hg (N := 6) ?hd (cs := #[.int .i64 0, .int .i64 0]) (t := 23) ?hr ?_; (case hd => rfl); (case hg => rfl); (case hr => first | (go_simp; done) | (go_simp; rfl)); intro gb594 hg w9 hbox hb; have n0_ := bst HB hb; have n1_ := Aside0.mk (hbox); have n2_ := bsz HB hg; have n3_ := bsz HB hg; have n4_ := bn1 BK592 hg; have n5_ := bn2 BK592 hg; have n6_ := bn1 BK593 hg; have n7_ := bn2 BK593 hg; replace BK592 := bbw BK592 hb; replace BK593 := bbw BK593 hb; clear HB; have HB := n0_; have BK594 := n1_; have GW594 := n2_; have GE594 := n3_; have NB592_594 := n4_; have NB594_592 := n5_; have NB593_594 := n6_; have NB594_593 := n7_; clear n0_ n1_ n2_ n3_ n4_ n5_ n6_ n7_; clear hb hbox hg))
  have n0_ := Aside0.mk (blk_drew BK592.out)
  have n1_ := Aside0.mk (blk_drew BK593.out)
  have n2_ := Aside0.mk (blk_drew BK594.out)
  have n3_ := Aside0.mk (below_drew1 HB.out)
  clear BK592
  clear BK593
  clear BK594
  clear HB
  have BK592 := n0_
  have BK593 := n1_
  have BK594 := n2_
  have HB := n3_
  clear n0_ n1_ n2_ n3_
  refine start_ (n := 6) (S := fun w' => w'.cell? ⟨gb592, 0, none⟩ = some (.int .i64 a0_0) ∧ w'.cell? ⟨gb592, 1, none⟩ = some (.int .i64 a0_1) ∧ w'.cell? ⟨gb593, 0, none⟩ = some (.int .i64 a1_0) ∧ w'.cell? ⟨gb593, 1, none⟩ = some (.int .i64 a1_1)) (ds := [4, 5]) #[false, false, false, false, false, false] (by kernel_rfl) rfl rfl ⟨hcz BK592 0, hcz BK592 1, hcz BK593 0, hcz BK593 1⟩ (fun hHeld => ?_)
  generalize w9.drew = w10 at BK592 BK593 BK594 HB hHeld ⊢
  refine take_ (i := 0) (N := some 7) (v := ?_) (a' := ?_) #[true, false, false, false, false, false] rfl rfl (by kernel_rfl) (fun _ _ _ h => h) (Or.inl ⟨by rfl, ?_⟩) hHeld ?_ ?_
  rotate_left
  ·
   rintro w' ⟨s0, s1, s2, s3⟩
   go_simp
   with_reducible rfl
  rotate_left
  ·
   simp only [Act.put, List.setIfInBounds_toArray, List.set_cons_zero, List.set_cons_succ, i64_w, i32_w]
   rfl
  refine take_ (i := 2) (N := some 9) (v := ?_) (a' := ?_) #[true, false, true, false, false, false] rfl rfl (by kernel_rfl) (fun _ _ _ h => h) (Or.inl ⟨by rfl, ?_⟩) hHeld ?_ ?_
  rotate_left
  ·
   rintro w' ⟨s0, s1, s2, s3⟩
   go_simp
   with_reducible rfl
  rotate_left
  ·
   simp only [Act.put, List.setIfInBounds_toArray, List.set_cons_zero, List.set_cons_succ, i64_w, i32_w]
   rfl
  refine one_ (i := 1) (N := some 8) #[true, true, true, false, false, false] rfl rfl (by kernel_rfl) (by decide) (fun K hK => ?_)
  refine goesQ Try.func59 #[.agg #[.int .i64 a0_0, .int .i64 a0_1]] ?_
  with_reducible refine (itv_sound.calls a0_0 a0_1 t595 t596 _ A4.out).mono ?_
  rintro e w11 ⟨rfl, hb⟩
  refine ⟨_, rfl, ?_⟩
  have n0_ := bst HB hb
  replace BK592 := bbw BK592 hb
  replace BK593 := bbw BK593 hb
  replace BK594 := bbw BK594 hb
  clear HB
  have HB := n0_
  clear n0_
  (try clear hb)
  (try clear hb2)
  (try clear hk)
  (try clear hi)
  refine hK.out _ _ ⟨hcz BK592 0, hcz BK592 1, hcz BK593 0, hcz BK593 1⟩ (fun hHeld => ?_)
  clear hK K
  refine normQ (N := 8) ?_
  refine one_ (i := 3) (N := some 10) #[true, true, true, true, false, false] rfl rfl (by kernel_rfl) (by decide) (fun K hK => ?_)
  refine goesQ Try.func59 #[.agg #[.int .i64 a1_0, .int .i64 a1_1]] ?_
  with_reducible refine (itv_sound.calls a1_0 a1_1 t597 t598 _ A5.out).mono ?_
  rintro e w12 ⟨rfl, hb⟩
  refine ⟨_, rfl, ?_⟩
  have n0_ := bst HB hb
  replace BK592 := bbw BK592 hb
  replace BK593 := bbw BK593 hb
  replace BK594 := bbw BK594 hb
  clear HB
  have HB := n0_
  clear n0_
  (try clear hb)
  (try clear hb2)
  (try clear hk)
  (try clear hi)
  refine hK.out _ _ ⟨hcz BK592 0, hcz BK592 1, hcz BK593 0, hcz BK593 1⟩ (fun hHeld => ?_)
  clear hK K
  refine normQ (N := 10) ?_
  refine last_ (i := 4) (N := none) #[true, true, true, true, true, false] rfl rfl (by kernel_rfl) (by decide) (fun K hK => ?_)
  have hs13 : w12.cell? ⟨gb592, 0, none⟩ = some (.int .i64 a0_0) := hcz BK592 0
  have hfs13 := blk_frozen BK592.out 0
  have hns13_1 := NB593_592.out
  have hns13_2 := NB594_592.out
  have hms13_1 := NB592_593.out
  have hms13_2 := NB592_594.out
  have hs14 : w12.cell? ⟨gb592, 1, none⟩ = some (.int .i64 a0_1) := hcz BK592 1
  have hfs14 := blk_frozen BK592.out 1
  have hns14_1 := NB593_592.out
  have hns14_2 := NB594_592.out
  have hms14_1 := NB592_593.out
  have hms14_2 := NB592_594.out
  refine skip_ (w1 := ?_) (by rfl) rfl ?_ ?_
  rotate_left
  ·
   go_simp
   rfl
  refine hK.out _ _ ?_
  clear hK K
  refine last_ (i := 5) (N := none) #[true, true, true, true, true, true] rfl rfl (by kernel_rfl) (by decide) (fun K hK => ?_)
  have hs15 : w12.cell? ⟨gb593, 0, none⟩ = some (.int .i64 a1_0) := hcz BK593 0
  have hfs15 := blk_frozen BK593.out 0
  have hns15_0 := NB592_593.out
  have hns15_2 := NB594_593.out
  have hms15_0 := NB593_592.out
  have hms15_2 := NB593_594.out
  have hs16 : w12.cell? ⟨gb593, 1, none⟩ = some (.int .i64 a1_1) := hcz BK593 1
  have hfs16 := blk_frozen BK593.out 1
  have hns16_0 := NB592_593.out
  have hns16_2 := NB594_593.out
  have hms16_0 := NB593_592.out
  have hms16_2 := NB593_594.out
  refine skip_ (w1 := ?_) (by rfl) rfl ?_ ?_
  rotate_left
  ·
   go_simp
   rfl
  refine hK.out _ _ ?_
  clear hK K
  refine done_ (by kernel_rfl) ?_
  go_upto_region 2 with (fail)
  go_cut [16] (fun v16 wc => ∃ (kq : Nat) (x16_5 : Bool), v16 = .bool x16_5 ∧ Aside0 (itv_both_itv_Mul_1.j0 kq x16_5 t595 t596 t597 t598 = some (r1, r2)) ∧ Aside0 (kq ≤ k) ∧ Aside0 (wc.heap[gb592]? = some (.cells #[.int .i64 t595, .int .i64 t596] 23 (0, 0))) ∧ Aside0 (wc.heap[gb593]? = some (.cells #[.int .i64 t597, .int .i64 t598] 23 (0, 0))) ∧ Aside0 (wc.heap[gb594]? = some (.cells #[.int .i64 0, .int .i64 0] 23 (0, 0))) ∧ Aside0 (Below w.heap.size w wc))
  case first =>
   have H := HC6.out
   clear HC6
   replace H := Option.bind_eq_some_iff.mp H
   obtain ⟨t599, A170, H⟩ := H
   replace H : (if t599 = true then (itv_both_itv_Mul_1.j0 k true t595 t596 t597 t598) else ((itv_None.f t597 t598).bind fun t600 => (itv_both_itv_Mul_1.j0 k t600 t595 t596 t597 t598))) = some (r1, r2) := H
   have A17 := Aside0.mk A170
   clear A170
   by_cases c18 : t599 = true
   ·
    subst c18
    have H1 : (itv_both_itv_Mul_1.j0 k true t595 t596 t597 t598) = some (r1, r2) := by rw [if_pos rfl] at H; exact H
    clear H
    have H := H1
    clear H1
    have H' := Aside0.mk H
    clear H
    have hnb19 := NB592_593.out
    have hnc19 := NB593_592.out
    have hnb20 := NB592_594.out
    have hnc20 := NB594_592.out
    have hcz21_0 := hcz BK592 0
    have hcz21_1 := hcz BK592 1
    have hfz21_0 := blk_frozen BK592.out 0
    have hfz21_1 := blk_frozen BK592.out 1
    go_wp2_with (first | ((with_reducible refine gate_callee (f := 21) rfl ?_); refine goesL_ (some 12) rfl rfl Try.func21 (by kernel_rfl) rfl #[.agg #[.int .i64 t595, .int .i64 t596]] rfl (by (try simp only [List.map_toArray, List.map_cons, List.map_nil]); first | done | rfl | (simp only [List.length_drop, List.length_take]; rfl)) ?_; (with_reducible refine (itv_None.calls t595 t596 true _ A17.out).mono ?_); rintro e w22 ⟨rfl, hb⟩; refine ⟨_, rfl, ?_⟩; have n0_ := Aside0.mk (blk_below (g := gb592) (o := .cells #[.int .i64 t595, .int .i64 t596] 23 (0, 0)) (by refine pkB ?_; refine blk_far ?_ NB592_593.out _; refine pkB ?_; refine blk_far ?_ NB592_593.out _; refine pkB ?_; refine blk_put (cs := #[.int .i64 t595, .int .i64 a0_1]) ?_ 1 _ (by first | rfl | (subst_vars; rfl)); refine pkB ?_; refine blk_put (cs := #[.int .i64 a0_0, .int .i64 a0_1]) ?_ 0 _ (by first | rfl | (subst_vars; rfl)); refine pkB ?_; exact BK592.out) hb); have n1_ := Aside0.mk (blk_below (g := gb593) (o := .cells #[.int .i64 t597, .int .i64 t598] 23 (0, 0)) (by refine pkB ?_; refine blk_put (cs := #[.int .i64 t597, .int .i64 a1_1]) ?_ 1 _ (by first | rfl | (subst_vars; rfl)); refine pkB ?_; refine blk_put (cs := #[.int .i64 a1_0, .int .i64 a1_1]) ?_ 0 _ (by first | rfl | (subst_vars; rfl)); refine pkB ?_; refine blk_far ?_ NB593_592.out _; refine pkB ?_; refine blk_far ?_ NB593_592.out _; refine pkB ?_; exact BK593.out) hb); have n2_ := Aside0.mk (blk_below (g := gb594) (o := .cells #[.int .i64 0, .int .i64 0] 23 (0, 0)) (by refine pkB ?_; refine blk_far ?_ NB594_593.out _; refine pkB ?_; refine blk_far ?_ NB594_593.out _; refine pkB ?_; refine blk_far ?_ NB594_592.out _; refine pkB ?_; refine blk_far ?_ NB594_592.out _; refine pkB ?_; exact BK594.out) hb); have n3_ := bst HB hb; clear BK592; clear BK593; clear BK594; clear HB; have BK592 := n0_; have BK593 := n1_; have BK594 := n2_; have HB := n3_; clear n0_ n1_ n2_ n3_; (try clear hb); (try clear hb2); (try clear hk); (try clear hi)))
    go_meet
    case rel => exact ⟨_, (true), (by first | rfl | (simp; done) | (simp [*]; done)), H', ⟨by first | omega | exact Nat.le_refl _⟩, pkA BK592, pkA BK593, pkA BK594, bpk HB⟩
   ·
    replace c18 := Bool.eq_false_iff.mpr c18
    subst c18
    have H1 : ((itv_None.f t597 t598).bind fun t600 => (itv_both_itv_Mul_1.j0 k t600 t595 t596 t597 t598)) = some (r1, r2) := by rw [if_neg (show ¬ (false = true) by decide)] at H; exact H
    clear H
    have H := H1
    clear H1
    replace H := Option.bind_eq_some_iff.mp H
    obtain ⟨t600, A230, H⟩ := H
    replace H : (itv_both_itv_Mul_1.j0 k t600 t595 t596 t597 t598) = some (r1, r2) := H
    have A23 := Aside0.mk A230
    clear A230
    have H' := Aside0.mk H
    clear H
    have hnb24 := NB592_593.out
    have hnc24 := NB593_592.out
    have hnb25 := NB592_594.out
    have hnc25 := NB594_592.out
    have hcz26_0 := hcz BK592 0
    have hcz26_1 := hcz BK592 1
    have hfz26_0 := blk_frozen BK592.out 0
    have hfz26_1 := blk_frozen BK592.out 1
    go_wp2_with (first | ((with_reducible refine gate_callee (f := 21) rfl ?_); refine goesL_ (some 12) rfl rfl Try.func21 (by kernel_rfl) rfl #[.agg #[.int .i64 t595, .int .i64 t596]] rfl (by (try simp only [List.map_toArray, List.map_cons, List.map_nil]); first | done | rfl | (simp only [List.length_drop, List.length_take]; rfl)) ?_; (with_reducible refine (itv_None.calls t595 t596 false _ A17.out).mono ?_); rintro e w27 ⟨rfl, hb⟩; refine ⟨_, rfl, ?_⟩; have n0_ := Aside0.mk (blk_below (g := gb592) (o := .cells #[.int .i64 t595, .int .i64 t596] 23 (0, 0)) (by refine pkB ?_; refine blk_far ?_ NB592_593.out _; refine pkB ?_; refine blk_far ?_ NB592_593.out _; refine pkB ?_; refine blk_put (cs := #[.int .i64 t595, .int .i64 a0_1]) ?_ 1 _ (by first | rfl | (subst_vars; rfl)); refine pkB ?_; refine blk_put (cs := #[.int .i64 a0_0, .int .i64 a0_1]) ?_ 0 _ (by first | rfl | (subst_vars; rfl)); refine pkB ?_; exact BK592.out) hb); have n1_ := Aside0.mk (blk_below (g := gb593) (o := .cells #[.int .i64 t597, .int .i64 t598] 23 (0, 0)) (by refine pkB ?_; refine blk_put (cs := #[.int .i64 t597, .int .i64 a1_1]) ?_ 1 _ (by first | rfl | (subst_vars; rfl)); refine pkB ?_; refine blk_put (cs := #[.int .i64 a1_0, .int .i64 a1_1]) ?_ 0 _ (by first | rfl | (subst_vars; rfl)); refine pkB ?_; refine blk_far ?_ NB593_592.out _; refine pkB ?_; refine blk_far ?_ NB593_592.out _; refine pkB ?_; exact BK593.out) hb); have n2_ := Aside0.mk (blk_below (g := gb594) (o := .cells #[.int .i64 0, .int .i64 0] 23 (0, 0)) (by refine pkB ?_; refine blk_far ?_ NB594_593.out _; refine pkB ?_; refine blk_far ?_ NB594_593.out _; refine pkB ?_; refine blk_far ?_ NB594_592.out _; refine pkB ?_; refine blk_far ?_ NB594_592.out _; refine pkB ?_; exact BK594.out) hb); have n3_ := bst HB hb; clear BK592; clear BK593; clear BK594; clear HB; have BK592 := n0_; have BK593 := n1_; have BK594 := n2_; have HB := n3_; clear n0_ n1_ n2_ n3_; (try clear hb); (try clear hb2); (try clear hk); (try clear hi); have hnb28 := NB593_594.out; have hnc28 := NB594_593.out; have hcz29_0 := hcz BK593 0; have hcz29_1 := hcz BK593 1; have hfz29_0 := blk_frozen BK593.out 0; have hfz29_1 := blk_frozen BK593.out 1) | (go_at_call 21; (with_reducible refine (itv_None.calls t597 t598 t600 _ A23.out).mono ?_); rintro e w30 ⟨rfl, hb⟩; have n0_ := bst HB hb; replace BK592 := bbw BK592 hb; replace BK593 := bbw BK593 hb; replace BK594 := bbw BK594 hb; clear HB; have HB := n0_; clear n0_; (try clear hb); (try clear hb2); (try clear hk); (try clear hi)))
    go_meet
    case rel => exact ⟨_, (t600), (by first | rfl | (simp; done) | (simp [*]; done)), H', ⟨by first | omega | exact Nat.le_refl _⟩, pkA BK592, pkA BK593, pkA BK594, bpk HB⟩
  case rest =>
   clear HC6
   try clear c1
   try clear c2
   try clear p2
   try clear c5
   try clear c9
   try clear c18
   try clear c19
   try clear c20
   try clear c21
   try clear c24
   try clear c25
   try clear c28
   try clear hcz21_0
   try clear hcz21_1
   try clear hcz26_0
   try clear hcz26_1
   try clear hcz29_0
   try clear hcz29_1
   try clear hfz21_0
   try clear hfz21_1
   try clear hfz26_0
   try clear hfz26_1
   try clear hfz29_0
   try clear hfz29_1
   obtain ⟨kq, x16_5, rfl, HA, HJ5, BK592, BK593, BK594, HB⟩ := hcut
   cases kq with
   | zero => exact absurd HA.out (by simp [itv_both_itv_Mul_1.j0])
   | succ kj5 =>
    have H := HA.out
    clear HA
    simp only [itv_both_itv_Mul_1.j0] at H
    by_cases c31 : x16_5 = true
    ·
     subst c31
     have H1 : ((itv_Empty.f).bind fun bt601 => (some (bt601.1, bt601.2))) = some (r1, r2) := by rw [if_pos rfl] at H; exact H
     clear H
     have H := H1
     clear H1
     replace H := Option.bind_eq_some_iff.mp H
     obtain ⟨⟨t601, t602⟩, A320, H⟩ := H
     replace H : (some (t601, t602)) = some (r1, r2) := H
     have A32 := Aside0.mk A320
     clear A320
     simp only [Option.some.injEq, Prod.mk.injEq] at H
     obtain ⟨rfl, rfl⟩ := H
     go_wp2_with (first | ((with_reducible refine gate_callee (f := 15) rfl ?_); refine goesL_ (some 17) rfl rfl Try.func15 (by kernel_rfl) rfl #[] rfl (by (try simp only [List.map_toArray, List.map_cons, List.map_nil]); first | done | rfl | (simp only [List.length_drop, List.length_take]; rfl)) ?_; (with_reducible refine (itv_Empty.calls  t601 t602 _ A32.out).mono ?_); rintro e w33 ⟨rfl, hb⟩; refine ⟨_, rfl, ?_⟩; have n0_ := bst HB hb; replace BK592 := bbw BK592 hb; replace BK593 := bbw BK593 hb; replace BK594 := bbw BK594 hb; clear HB; have HB := n0_; clear n0_; (try clear hb); (try clear hb2); (try clear hk); (try clear hi); have hnb34 := NB594_592.out; have hnc34 := NB592_594.out; have hnb35 := NB594_593.out; have hnc35 := NB593_594.out; have hcz36_0 := hcz BK594 0; have hcz36_1 := hcz BK594 1; have hfz36_0 := blk_frozen BK594.out 0; have hfz36_1 := blk_frozen BK594.out 1))
     refine bodyPost_ret (results_cell_row rfl _ _ gb594 23 #[.int .i64 t601, .int .i64 t602] (0, 0) _ rfl (by refine pkB ?_; refine blk_put (cs := #[.int .i64 t601, .int .i64 0]) ?_ 1 _ (by first | rfl | (subst_vars; rfl)); refine pkB ?_; refine blk_put (cs := #[.int .i64 0, .int .i64 0]) ?_ 0 _ (by first | rfl | (subst_vars; rfl)); refine pkB ?_; exact BK594.out) Try.underlying23 rfl (by kernel_rfl)) rfl ?_
     exact ⟨by first | rfl | (simp [errW_none, errW_some] <;> rfl) | (simp [*, errW_none, errW_some] <;> rfl) | kernel_rfl, by repeat (first | (with_reducible first | exact HB.out | apply below_alloc | apply pw_below_drewN | apply below_drew1 | refine below_set ?_ GE592.out | refine below_set ?_ GE593.out | refine below_set ?_ GE594.out) | exact HB.out)⟩
    ·
     replace c31 := Bool.eq_false_iff.mpr c31
     subst c31
     have H1 : ((itv_Mul_1.f kj5 t595 t596 t597 t598).bind fun bt603 => (some (bt603.1, bt603.2))) = some (r1, r2) := by rw [if_neg (show ¬ (false = true) by decide)] at H; exact H
     clear H
     have H := H1
     clear H1
     replace H := Option.bind_eq_some_iff.mp H
     obtain ⟨⟨t603, t604⟩, A370, H⟩ := H
     replace H : (some (t603, t604)) = some (r1, r2) := H
     have A37 := Aside0.mk A370
     clear A370
     simp only [Option.some.injEq, Prod.mk.injEq] at H
     obtain ⟨rfl, rfl⟩ := H
     have hnb38 := NB592_593.out
     have hnc38 := NB593_592.out
     have hnb39 := NB592_594.out
     have hnc39 := NB594_592.out
     have hcz40_0 := hcz BK592 0
     have hcz40_1 := hcz BK592 1
     have hfz40_0 := blk_frozen BK592.out 0
     have hfz40_1 := blk_frozen BK592.out 1
     have hnb41 := NB593_594.out
     have hnc41 := NB594_593.out
     have hcz42_0 := hcz BK593 0
     have hcz42_1 := hcz BK593 1
     have hfz42_0 := blk_frozen BK593.out 0
     have hfz42_1 := blk_frozen BK593.out 1
     go_wp2_with (first | (go_at_call 77; (with_reducible refine (itv_Mul_1.calls kj5 t595 t596 t597 t598 t603 t604 _ A37.out).mono ?_); rintro e w43 ⟨rfl, hb⟩; have n0_ := bst HB hb; replace BK592 := bbw BK592 hb; replace BK593 := bbw BK593 hb; replace BK594 := bbw BK594 hb; clear HB; have HB := n0_; clear n0_; (try clear hb); (try clear hb2); (try clear hk); (try clear hi); have hcz44_0 := hcz BK594 0; have hcz44_1 := hcz BK594 1; have hfz44_0 := blk_frozen BK594.out 0; have hfz44_1 := blk_frozen BK594.out 1))
     refine bodyPost_ret (results_cell_row rfl _ _ gb594 23 #[.int .i64 t603, .int .i64 t604] (0, 0) _ rfl (by refine pkB ?_; refine blk_put (cs := #[.int .i64 t603, .int .i64 0]) ?_ 1 _ (by first | rfl | (subst_vars; rfl)); refine pkB ?_; refine blk_put (cs := #[.int .i64 0, .int .i64 0]) ?_ 0 _ (by first | rfl | (subst_vars; rfl)); refine pkB ?_; exact BK594.out) Try.underlying23 rfl (by kernel_rfl)) rfl ?_
     exact ⟨by first | rfl | (simp [errW_none, errW_some] <;> rfl) | (simp [*, errW_none, errW_some] <;> rfl) | kernel_rfl, by repeat (first | (with_reducible first | exact HB.out | apply below_alloc | apply pw_below_drewN | apply below_drew1 | refine below_set ?_ GE592.out | refine below_set ?_ GE593.out | refine below_set ?_ GE594.out) | exact HB.out)⟩
def itv_Mul.f (k : Nat) (a0_0 : Int) (a0_1 : Int) (a1_0 : Int) (a1_1 : Int) : Option (Int × Int) := (itv_both_itv_Mul_1.f k a0_0 a0_1 a1_0 a1_1).bind fun bt608 => (some (bt608.1, bt608.2))
set_option maxHeartbeats 8000000 in
set_option maxRecDepth 100000 in
theorem itv_Mul.calls (k : Nat) (a0_0 : Int) (a0_1 : Int) (a1_0 : Int) (a1_1 : Int) (r1 : Int) (r2 : Int) (w : World) (h : itv_Mul.f k a0_0 a0_1 a1_0 a1_1 = some (r1, r2)) :
    Calls Try.prog 42 #[.agg #[.int .i64 a0_0, .int .i64 a0_1], .agg #[.int .i64 a1_0, .int .i64 a1_1]] w fun e w' => e = .returned (.agg #[.int .i64 r1, .int .i64 r2]) ∧ Below w.heap.size w w' := by
  have hu23 := Try.underlying23
  have HB := Aside0.mk (Below.refl w.heap.size w)
  have H : ((itv_both_itv_Mul_1.f k a0_0 a0_1 a1_0 a1_1).bind fun bt608 => (some (bt608.1, bt608.2))) = some (r1, r2) := h
  clear h
  replace H := Option.bind_eq_some_iff.mp H
  obtain ⟨⟨t608, t609⟩, A30, H⟩ := H
  replace H : (some (t608, t609)) = some (r1, r2) := H
  have A3 := Aside0.mk A30
  clear A30
  simp only [Option.some.injEq, Prod.mk.injEq] at H
  obtain ⟨rfl, rfl⟩ := H
  go_enter Try.func42, Try.ntmps42
  go_wp2_with (first | ((with_reducible refine gate_dst (N := 2) rfl ?_); refine box_event ?hg (N := 2) ?hd (cs := #[.int .i64 a0_0, .int .i64 a0_1]) (t := 23) ?hr ?_; (case hd => rfl); (case hg => rfl); (case hr => first | (go_simp; done) | (go_simp; rfl)); intro gb605 hg w4 hbox hb; have n0_ := bst HB hb; have n1_ := Aside0.mk (hbox); have n2_ := bsz HB hg; have n3_ := bsz HB hg; clear HB; have HB := n0_; have BK605 := n1_; have GW605 := n2_; have GE605 := n3_; clear n0_ n1_ n2_ n3_; clear hb hbox hg) | ((with_reducible refine gate_dst (N := 3) rfl ?_); refine box_event ?hg (N := 3) ?hd (cs := #[.int .i64 a1_0, .int .i64 a1_1]) (t := 23) ?hr ?_; (case hd => rfl); (case hg => rfl); (case hr => first | (go_simp; done) | (go_simp; rfl)); intro gb606 hg w5 hbox hb; have n0_ := bst HB hb; have n1_ := Aside0.mk (hbox); have n2_ := bsz HB hg; have n3_ := bsz HB hg; have n4_ := bn1 BK605 hg; have n5_ := bn2 BK605 hg; replace BK605 := bbw BK605 hb; clear HB; have HB := n0_; have BK606 := n1_; have GW606 := n2_; have GE606 := n3_; have NB605_606 := n4_; have NB606_605 := n5_; clear n0_ n1_ n2_ n3_ n4_ n5_; clear hb hbox hg) | ((with_reducible refine gate_dst (N := 4) rfl ?_); refine box_event ?hg (N := 4) ?hd (cs := #[.int .i64 0, .int .i64 0]) (t := 23) ?hr ?_; (case hd => rfl); (case hg => rfl); (case hr => first | (go_simp; done) | (go_simp; rfl)); intro gb607 hg w6 hbox hb; have n0_ := bst HB hb; have n1_ := Aside0.mk (hbox); have n2_ := bsz HB hg; have n3_ := bsz HB hg; have n4_ := bn1 BK605 hg; have n5_ := bn2 BK605 hg; have n6_ := bn1 BK606 hg; have n7_ := bn2 BK606 hg; replace BK605 := bbw BK605 hb; replace BK606 := bbw BK606 hb; clear HB; have HB := n0_; have BK607 := n1_; have GW607 := n2_; have GE607 := n3_; have NB605_607 := n4_; have NB607_605 := n5_; have NB606_607 := n6_; have NB607_606 := n7_; clear n0_ n1_ n2_ n3_ n4_ n5_ n6_ n7_; clear hb hbox hg; have hnb7 := NB605_606.out; have hnc7 := NB606_605.out; have hnb8 := NB605_607.out; have hnc8 := NB607_605.out; have hcz9_0 := hcz BK605 0; have hcz9_1 := hcz BK605 1; have hfz9_0 := blk_frozen BK605.out 0; have hfz9_1 := blk_frozen BK605.out 1; have hnb10 := NB606_607.out; have hnc10 := NB607_606.out; have hcz11_0 := hcz BK606 0; have hcz11_1 := hcz BK606 1; have hfz11_0 := blk_frozen BK606.out 0; have hfz11_1 := blk_frozen BK606.out 1) | ((with_reducible refine gate_callee (f := 73) rfl ?_); refine goesL_ (some 7) rfl rfl Try.func73 (by kernel_rfl) rfl #[.agg #[.int .i64 a0_0, .int .i64 a0_1], .agg #[.int .i64 a1_0, .int .i64 a1_1], .func (.func 77) #[] #[]] rfl (by (try simp only [List.map_toArray, List.map_cons, List.map_nil]); first | done | rfl | (simp only [List.length_drop, List.length_take]; rfl)) ?_; (with_reducible refine (itv_both_itv_Mul_1.calls k a0_0 a0_1 a1_0 a1_1  t608 t609 _ A3.out).mono ?_); rintro e w12 ⟨rfl, hb⟩; refine ⟨_, rfl, ?_⟩; have n0_ := bst HB hb; replace BK605 := bbw BK605 hb; replace BK606 := bbw BK606 hb; replace BK607 := bbw BK607 hb; clear HB; have HB := n0_; clear n0_; (try clear hb); (try clear hb2); (try clear hk); (try clear hi); have hcz13_0 := hcz BK607 0; have hcz13_1 := hcz BK607 1; have hfz13_0 := blk_frozen BK607.out 0; have hfz13_1 := blk_frozen BK607.out 1))
  refine bodyPost_ret (results_cell_row rfl _ _ gb607 23 #[.int .i64 t608, .int .i64 t609] (0, 0) _ rfl (by refine pkB ?_; refine blk_put (cs := #[.int .i64 t608, .int .i64 0]) ?_ 1 _ (by first | rfl | (subst_vars; rfl)); refine pkB ?_; refine blk_put (cs := #[.int .i64 0, .int .i64 0]) ?_ 0 _ (by first | rfl | (subst_vars; rfl)); refine pkB ?_; exact BK607.out) Try.underlying23 rfl (by kernel_rfl)) rfl ?_
  exact ⟨by first | rfl | (simp [errW_none, errW_some] <;> rfl) | (simp [*, errW_none, errW_some] <;> rfl) | kernel_rfl, by repeat (first | (with_reducible first | exact HB.out | apply below_alloc | apply pw_below_drewN | apply below_drew1 | refine below_set ?_ GE605.out | refine below_set ?_ GE606.out | refine below_set ?_ GE607.out) | exact HB.out)⟩
def itv_Min_1.f (a0_0 : Int) (a0_1 : Int) (a1_0 : Int) (a1_1 : Int) : Option (Int × Int) := (itv_Of.f (mn a0_0 a1_0) (mn a0_1 a1_1)).bind fun bt613 => (some (bt613.1, bt613.2))
set_option maxHeartbeats 8000000 in
set_option maxRecDepth 100000 in
theorem itv_Min_1.calls (a0_0 : Int) (a0_1 : Int) (a1_0 : Int) (a1_1 : Int) (r1 : Int) (r2 : Int) (w : World) (h : itv_Min_1.f a0_0 a0_1 a1_0 a1_1 = some (r1, r2)) :
    Calls Try.prog 80 #[.agg #[.int .i64 a0_0, .int .i64 a0_1], .agg #[.int .i64 a1_0, .int .i64 a1_1]] w fun e w' => e = .returned (.agg #[.int .i64 r1, .int .i64 r2]) ∧ Below w.heap.size w w' := by
  have hu23 := Try.underlying23
  have HB := Aside0.mk (Below.refl w.heap.size w)
  have H : ((itv_Of.f (mn a0_0 a1_0) (mn a0_1 a1_1)).bind fun bt613 => (some (bt613.1, bt613.2))) = some (r1, r2) := h
  clear h
  obtain ⟨ji3, hji3⟩ : ∃ j_ : Int, (mn a0_0 a1_0) = j_ := ⟨_, rfl⟩
  replace H : ((itv_Of.f (ji3) (mn a0_1 a1_1)).bind fun bt613 => (some (bt613.1, bt613.2))) = some (r1, r2) := by first | (rw [hji3] at H; exact H) | (simp only [hji3] at H ⊢; exact H)
  have hji3_ : (if a1_0 < a0_0 then a1_0 else a0_0) = ji3 := hji3
  obtain ⟨ji4, hji4⟩ : ∃ j_ : Int, (mn a0_1 a1_1) = j_ := ⟨_, rfl⟩
  replace H : ((itv_Of.f (ji3) (ji4)).bind fun bt613 => (some (bt613.1, bt613.2))) = some (r1, r2) := by first | (rw [hji4] at H; exact H) | (simp only [hji4] at H ⊢; exact H)
  have hji4_ : (if a1_1 < a0_1 then a1_1 else a0_1) = ji4 := hji4
  replace H := Option.bind_eq_some_iff.mp H
  obtain ⟨⟨t613, t614⟩, A50, H⟩ := H
  replace H : (some (t613, t614)) = some (r1, r2) := H
  have A5 := Aside0.mk A50
  clear A50
  simp only [Option.some.injEq, Prod.mk.injEq] at H
  obtain ⟨rfl, rfl⟩ := H
  go_enter Try.func80, Try.ntmps80
  go_wp2_with (first | ((with_reducible refine gate_dst (N := 2) rfl ?_); refine box_event ?hg (N := 2) ?hd (cs := #[.int .i64 a0_0, .int .i64 a0_1]) (t := 23) ?hr ?_; (case hd => rfl); (case hg => rfl); (case hr => first | (go_simp; done) | (go_simp; rfl)); intro gb610 hg w6 hbox hb; have n0_ := bst HB hb; have n1_ := Aside0.mk (hbox); have n2_ := bsz HB hg; have n3_ := bsz HB hg; clear HB; have HB := n0_; have BK610 := n1_; have GW610 := n2_; have GE610 := n3_; clear n0_ n1_ n2_ n3_; clear hb hbox hg) | ((with_reducible refine gate_dst (N := 3) rfl ?_); refine box_event ?hg (N := 3) ?hd (cs := #[.int .i64 a1_0, .int .i64 a1_1]) (t := 23) ?hr ?_; (case hd => rfl); (case hg => rfl); (case hr => first | (go_simp; done) | (go_simp; rfl)); intro gb611 hg w7 hbox hb; have n0_ := bst HB hb; have n1_ := Aside0.mk (hbox); have n2_ := bsz HB hg; have n3_ := bsz HB hg; have n4_ := bn1 BK610 hg; have n5_ := bn2 BK610 hg; replace BK610 := bbw BK610 hb; clear HB; have HB := n0_; have BK611 := n1_; have GW611 := n2_; have GE611 := n3_; have NB610_611 := n4_; have NB611_610 := n5_; clear n0_ n1_ n2_ n3_ n4_ n5_; clear hb hbox hg) | ((with_reducible refine gate_dst (N := 4) rfl ?_); refine box_event ?hg (N := 4) ?hd (cs := #[.int .i64 0, .int .i64 0]) (t := 23) ?hr ?_; (case hd => rfl); (case hg => rfl); (case hr => first | (go_simp; done) | (go_simp; rfl)); intro gb612 hg w8 hbox hb; have n0_ := bst HB hb; have n1_ := Aside0.mk (hbox); have n2_ := bsz HB hg; have n3_ := bsz HB hg; have n4_ := bn1 BK610 hg; have n5_ := bn2 BK610 hg; have n6_ := bn1 BK611 hg; have n7_ := bn2 BK611 hg; replace BK610 := bbw BK610 hb; replace BK611 := bbw BK611 hb; clear HB; have HB := n0_; have BK612 := n1_; have GW612 := n2_; have GE612 := n3_; have NB610_612 := n4_; have NB612_610 := n5_; have NB611_612 := n6_; have NB612_611 := n7_; clear n0_ n1_ n2_ n3_ n4_ n5_ n6_ n7_; clear hb hbox hg; have hnb9 := NB610_611.out; have hnc9 := NB611_610.out; have hnb10 := NB610_612.out; have hnc10 := NB612_610.out; have hcz11_0 := hcz BK610 0; have hcz11_1 := hcz BK610 1; have hfz11_0 := blk_frozen BK610.out 0; have hfz11_1 := blk_frozen BK610.out 1; have hnb12 := NB611_612.out; have hnc12 := NB612_611.out; have hcz13_0 := hcz BK611 0; have hcz13_1 := hcz BK611 1; have hfz13_0 := blk_frozen BK611.out 0; have hfz13_1 := blk_frozen BK611.out 1) | ((with_reducible refine gate_callee (f := 13) rfl ?_); refine goesL_ (some 15) rfl rfl Try.func13 (by kernel_rfl) rfl #[.int .i64 ji3, .int .i64 ji4] rfl (by (try simp only [List.map_toArray, List.map_cons, List.map_nil]); first | done | (simp only [hji3, hji4]; rfl) | rfl | (simp only [List.length_drop, List.length_take]; rfl)) ?_; (with_reducible refine (itv_Of.calls ji3 ji4 t613 t614 _ A5.out).mono ?_); rintro e w14 ⟨rfl, hb⟩; refine ⟨_, rfl, ?_⟩; have n0_ := bst HB hb; replace BK610 := bbw BK610 hb; replace BK611 := bbw BK611 hb; replace BK612 := bbw BK612 hb; clear HB; have HB := n0_; clear n0_; (try clear hb); (try clear hb2); (try clear hk); (try clear hi); have hcz15_0 := hcz BK612 0; have hcz15_1 := hcz BK612 1; have hfz15_0 := blk_frozen BK612.out 0; have hfz15_1 := blk_frozen BK612.out 1))
  refine bodyPost_ret (results_cell_row rfl _ _ gb612 23 #[.int .i64 t613, .int .i64 t614] (0, 0) _ rfl (by refine pkB ?_; refine blk_put (cs := #[.int .i64 t613, .int .i64 0]) ?_ 1 _ (by first | rfl | (subst_vars; rfl)); refine pkB ?_; refine blk_put (cs := #[.int .i64 0, .int .i64 0]) ?_ 0 _ (by first | rfl | (subst_vars; rfl)); refine pkB ?_; exact BK612.out) Try.underlying23 rfl (by kernel_rfl)) rfl ?_
  exact ⟨by first | rfl | (simp [errW_none, errW_some] <;> rfl) | (simp only [← hji3, ← hji4]; first | rfl | (simp [errW_none, errW_some] <;> rfl)) | (simp [*, errW_none, errW_some] <;> rfl) | kernel_rfl, by repeat (first | (with_reducible first | exact HB.out | apply below_alloc | apply pw_below_drewN | apply below_drew1 | refine below_set ?_ GE610.out | refine below_set ?_ GE611.out | refine below_set ?_ GE612.out) | exact HB.out)⟩
end Go.Proofs.Ytbbnpipmjadpoaa.P
