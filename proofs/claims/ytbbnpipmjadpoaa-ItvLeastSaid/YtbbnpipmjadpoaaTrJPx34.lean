/- What the law's proof needs of Px34. -/
import Derived.Test.YtbbnpipmjadpoaaTrJU2
import Derived.Test.YtbbnpipmjadpoaaTrJU
import Derived.Test.YtbbnpipmjadpoaaTrJPx0
import Derived.Test.YtbbnpipmjadpoaaTrJPx2
import Derived.Test.YtbbnpipmjadpoaaTrJPx3
import Derived.Test.YtbbnpipmjadpoaaTrJPx33
-- PRINTED by print.py (a twelfth state) out of the translation. Not trusted: Lean checks it.
namespace Go.Proofs.Ytbbnpipmjadpoaa.P
open Go.RowKit Go.Proofs.YtbbnpipmjadpoaaW.PrintWords Go.Proofs.YtbbnpipmjadpoaaW.PrintLast Go.Proofs.YtbbnpipmjadpoaaW.PrintMore Go.Proofs.YtbbnpipmjadpoaaO
attribute [local go_sem] max2_int min2_int max_two min_two max_three min_three max_four min_four   -- for this text's walks alone
set_option linter.unusedVariables false
set_option linter.unusedSimpArgs false
def itv_both_itv_Div_1.j0 : Nat → Bool → Int → Int → Int → Int → Option (Int × Int)
  | 0, _, _, _, _, _ => none
  | k + 1, x16, x711000, x711001, x712000, x712001 => if x16 = true then ((itv_Empty.f).bind fun bt719 => (some (bt719.1, bt719.2))) else ((itv_Div_1.f k x711000 x711001 x712000 x712001).bind fun bt721 => (some (bt721.1, bt721.2)))
def itv_both_itv_Div_1.f (k : Nat) (a0_0 : Int) (a0_1 : Int) (a1_0 : Int) (a1_1 : Int)  : Option (Int × Int) := (itv_sound.f a0_0 a0_1).bind fun bt713 => ((itv_sound.f a1_0 a1_1).bind fun bt715 => ((itv_None.f bt713.1 bt713.2).bind fun t717 => (if t717 = true then (itv_both_itv_Div_1.j0 k true bt713.1 bt713.2 bt715.1 bt715.2) else ((itv_None.f bt715.1 bt715.2).bind fun t718 => (itv_both_itv_Div_1.j0 k t718 bt713.1 bt713.2 bt715.1 bt715.2)))))
set_option maxHeartbeats 8000000 in
set_option maxRecDepth 100000 in
theorem itv_both_itv_Div_1.calls (k : Nat) (a0_0 : Int) (a0_1 : Int) (a1_0 : Int) (a1_1 : Int)  (r1 : Int) (r2 : Int) (w : World) (h : itv_both_itv_Div_1.f k a0_0 a0_1 a1_0 a1_1 = some (r1, r2)) :
    Calls Try.prog 73 #[.agg #[.int .i64 a0_0, .int .i64 a0_1], .agg #[.int .i64 a1_0, .int .i64 a1_1], .func (.func 82) #[] #[]] w fun e w' => e = .returned (.agg #[.int .i64 r1, .int .i64 r2]) ∧ Below w.heap.size w w' := by
  have hu23 := Try.underlying23
  have HB := Aside0.mk (Below.refl w.heap.size w)
  have H : ((itv_sound.f a0_0 a0_1).bind fun bt713 => ((itv_sound.f a1_0 a1_1).bind fun bt715 => ((itv_None.f bt713.1 bt713.2).bind fun t717 => (if t717 = true then (itv_both_itv_Div_1.j0 k true bt713.1 bt713.2 bt715.1 bt715.2) else ((itv_None.f bt715.1 bt715.2).bind fun t718 => (itv_both_itv_Div_1.j0 k t718 bt713.1 bt713.2 bt715.1 bt715.2)))))) = some (r1, r2) := h
  clear h
  replace H := Option.bind_eq_some_iff.mp H
  obtain ⟨⟨t713, t714⟩, A40, H⟩ := H
  replace H : ((itv_sound.f a1_0 a1_1).bind fun bt715 => ((itv_None.f t713 t714).bind fun t717 => (if t717 = true then (itv_both_itv_Div_1.j0 k true t713 t714 bt715.1 bt715.2) else ((itv_None.f bt715.1 bt715.2).bind fun t718 => (itv_both_itv_Div_1.j0 k t718 t713 t714 bt715.1 bt715.2))))) = some (r1, r2) := H
  have A4 := Aside0.mk A40
  clear A40
  replace H := Option.bind_eq_some_iff.mp H
  obtain ⟨⟨t715, t716⟩, A50, H⟩ := H
  replace H : ((itv_None.f t713 t714).bind fun t717 => (if t717 = true then (itv_both_itv_Div_1.j0 k true t713 t714 t715 t716) else ((itv_None.f t715 t716).bind fun t718 => (itv_both_itv_Div_1.j0 k t718 t713 t714 t715 t716)))) = some (r1, r2) := H
  have A5 := Aside0.mk A50
  clear A50
  have HC6 := Aside0.mk H
  clear H
  go_enter Try.func73, Try.ntmps73
  try go_wp2_with (first | ((with_reducible refine gate_dst (N := 3) rfl ?_); refine box_event ?hg (N := 3) ?hd (cs := #[.int .i64 a0_0, .int .i64 a0_1]) (t := 23) ?hr ?_; (case hd => rfl); (case hg => rfl); (case hr => first | (go_simp; done) | (go_simp; rfl)); intro gb710 hg w7 hbox hb; have n0_ := bst HB hb; have n1_ := Aside0.mk (hbox); have n2_ := bsz HB hg; have n3_ := bsz HB hg; clear HB; have HB := n0_; have BK710 := n1_; have GW710 := n2_; have GE710 := n3_; clear n0_ n1_ n2_ n3_; clear hb hbox hg) | ((with_reducible refine gate_dst (N := 4) rfl ?_); refine box_event ?hg (N := 4) ?hd (cs := #[.int .i64 a1_0, .int .i64 a1_1]) (t := 23) ?hr ?_; (case hd => rfl); (case hg => rfl); (case hr => first | (go_simp; done) | (go_simp; rfl)); intro gb711 hg w8 hbox hb; have n0_ := bst HB hb; have n1_ := Aside0.mk (hbox); have n2_ := bsz HB hg; have n3_ := bsz HB hg; have n4_ := bn1 BK710 hg; have n5_ := bn2 BK710 hg; replace BK710 := bbw BK710 hb; clear HB; have HB := n0_; have BK711 := n1_; have GW711 := n2_; have GE711 := n3_; have NB710_711 := n4_; have NB711_710 := n5_; clear n0_ n1_ n2_ n3_ n4_ n5_; clear hb hbox hg) | ((with_reducible refine gate_dst (N := 6) rfl ?_); refine box_event ?hg (N := 6) ?hd (cs := #[.int .i64 0, .int .i64 0]) (t := 23) ?hr ?_; (case hd => rfl); (case hg => rfl); (case hr => first | (go_simp; done) | (go_simp; rfl)); intro gb712 hg w9 hbox hb; have n0_ := bst HB hb; have n1_ := Aside0.mk (hbox); have n2_ := bsz HB hg; have n3_ := bsz HB hg; have n4_ := bn1 BK710 hg; have n5_ := bn2 BK710 hg; have n6_ := bn1 BK711 hg; have n7_ := bn2 BK711 hg; replace BK710 := bbw BK710 hb; replace BK711 := bbw BK711 hb; clear HB; have HB := n0_; have BK712 := n1_; have GW712 := n2_; have GE712 := n3_; have NB710_712 := n4_; have NB712_710 := n5_; have NB711_712 := n6_; have NB712_711 := n7_; clear n0_ n1_ n2_ n3_ n4_ n5_ n6_ n7_; clear hb hbox hg))
  have n0_ := Aside0.mk (blk_drew BK710.out)
  have n1_ := Aside0.mk (blk_drew BK711.out)
  have n2_ := Aside0.mk (blk_drew BK712.out)
  have n3_ := Aside0.mk (below_drew1 HB.out)
  clear BK710
  clear BK711
  clear BK712
  clear HB
  have BK710 := n0_
  have BK711 := n1_
  have BK712 := n2_
  have HB := n3_
  clear n0_ n1_ n2_ n3_
  refine start_ (n := 6) (S := fun w' => w'.cell? ⟨gb710, 0, none⟩ = some (.int .i64 a0_0) ∧ w'.cell? ⟨gb710, 1, none⟩ = some (.int .i64 a0_1) ∧ w'.cell? ⟨gb711, 0, none⟩ = some (.int .i64 a1_0) ∧ w'.cell? ⟨gb711, 1, none⟩ = some (.int .i64 a1_1)) (ds := [4, 5]) #[false, false, false, false, false, false] (by kernel_rfl) rfl rfl ⟨hcz BK710 0, hcz BK710 1, hcz BK711 0, hcz BK711 1⟩ (fun hHeld => ?_)
  generalize w9.drew = w10 at BK710 BK711 BK712 HB hHeld ⊢
  refine take_ (i := 0) (N := some 7) (v := ?_) (a' := ?_) #[true, false, false, false, false, false] rfl rfl (by kernel_rfl) (fun _ _ _ h => h) (Or.inl ⟨by rfl, ?_⟩) hHeld ?_ ?_
  rotate_left
  ·
   rintro w' ⟨s0, s1, s2, s3⟩
   go_simp
   with_reducible rfl
  rotate_left
  ·
   simp only [Act.put, List.setIfInBounds_toArray, List.set_cons_zero, List.set_cons_succ, i64_w, i32_w]
   rfl
  refine take_ (i := 2) (N := some 9) (v := ?_) (a' := ?_) #[true, false, true, false, false, false] rfl rfl (by kernel_rfl) (fun _ _ _ h => h) (Or.inl ⟨by rfl, ?_⟩) hHeld ?_ ?_
  rotate_left
  ·
   rintro w' ⟨s0, s1, s2, s3⟩
   go_simp
   with_reducible rfl
  rotate_left
  ·
   simp only [Act.put, List.setIfInBounds_toArray, List.set_cons_zero, List.set_cons_succ, i64_w, i32_w]
   rfl
  refine one_ (i := 1) (N := some 8) #[true, true, true, false, false, false] rfl rfl (by kernel_rfl) (by decide) (fun K hK => ?_)
  refine goesQ Try.func59 #[.agg #[.int .i64 a0_0, .int .i64 a0_1]] ?_
  with_reducible refine (itv_sound.calls a0_0 a0_1 t713 t714 _ A4.out).mono ?_
  rintro e w11 ⟨rfl, hb⟩
  refine ⟨_, rfl, ?_⟩
  have n0_ := bst HB hb
  replace BK710 := bbw BK710 hb
  replace BK711 := bbw BK711 hb
  replace BK712 := bbw BK712 hb
  clear HB
  have HB := n0_
  clear n0_
  (try clear hb)
  (try clear hb2)
  (try clear hk)
  (try clear hi)
  refine hK.out _ _ ⟨hcz BK710 0, hcz BK710 1, hcz BK711 0, hcz BK711 1⟩ (fun hHeld => ?_)
  clear hK K
  refine normQ (N := 8) ?_
  refine one_ (i := 3) (N := some 10) #[true, true, true, true, false, false] rfl rfl (by kernel_rfl) (by decide) (fun K hK => ?_)
  refine goesQ Try.func59 #[.agg #[.int .i64 a1_0, .int .i64 a1_1]] ?_
  with_reducible refine (itv_sound.calls a1_0 a1_1 t715 t716 _ A5.out).mono ?_
  rintro e w12 ⟨rfl, hb⟩
  refine ⟨_, rfl, ?_⟩
  have n0_ := bst HB hb
  replace BK710 := bbw BK710 hb
  replace BK711 := bbw BK711 hb
  replace BK712 := bbw BK712 hb
  clear HB
  have HB := n0_
  clear n0_
  (try clear hb)
  (try clear hb2)
  (try clear hk)
  (try clear hi)
  refine hK.out _ _ ⟨hcz BK710 0, hcz BK710 1, hcz BK711 0, hcz BK711 1⟩ (fun hHeld => ?_)
  clear hK K
  refine normQ (N := 10) ?_
  refine last_ (i := 4) (N := none) #[true, true, true, true, true, false] rfl rfl (by kernel_rfl) (by decide) (fun K hK => ?_)
  have hs13 : w12.cell? ⟨gb710, 0, none⟩ = some (.int .i64 a0_0) := hcz BK710 0
  have hfs13 := blk_frozen BK710.out 0
  have hns13_1 := NB711_710.out
  have hns13_2 := NB712_710.out
  have hms13_1 := NB710_711.out
  have hms13_2 := NB710_712.out
  have hs14 : w12.cell? ⟨gb710, 1, none⟩ = some (.int .i64 a0_1) := hcz BK710 1
  have hfs14 := blk_frozen BK710.out 1
  have hns14_1 := NB711_710.out
  have hns14_2 := NB712_710.out
  have hms14_1 := NB710_711.out
  have hms14_2 := NB710_712.out
  refine skip_ (w1 := ?_) (by rfl) rfl ?_ ?_
  rotate_left
  ·
   go_simp
   rfl
  refine hK.out _ _ ?_
  clear hK K
  refine last_ (i := 5) (N := none) #[true, true, true, true, true, true] rfl rfl (by kernel_rfl) (by decide) (fun K hK => ?_)
  have hs15 : w12.cell? ⟨gb711, 0, none⟩ = some (.int .i64 a1_0) := hcz BK711 0
  have hfs15 := blk_frozen BK711.out 0
  have hns15_0 := NB710_711.out
  have hns15_2 := NB712_711.out
  have hms15_0 := NB711_710.out
  have hms15_2 := NB711_712.out
  have hs16 : w12.cell? ⟨gb711, 1, none⟩ = some (.int .i64 a1_1) := hcz BK711 1
  have hfs16 := blk_frozen BK711.out 1
  have hns16_0 := NB710_711.out
  have hns16_2 := NB712_711.out
  have hms16_0 := NB711_710.out
  have hms16_2 := NB711_712.out
  refine skip_ (w1 := ?_) (by rfl) rfl ?_ ?_
  rotate_left
  ·
   go_simp
   rfl
  refine hK.out _ _ ?_
  clear hK K
  refine done_ (by kernel_rfl) ?_
  go_upto_region 2 with (fail)
  go_cut [16] (fun v16 wc => ∃ (kq : Nat) (x16_5 : Bool), v16 = .bool x16_5 ∧ Aside0 (itv_both_itv_Div_1.j0 kq x16_5 t713 t714 t715 t716 = some (r1, r2)) ∧ Aside0 (kq ≤ k) ∧ Aside0 (wc.heap[gb710]? = some (.cells #[.int .i64 t713, .int .i64 t714] 23 (0, 0))) ∧ Aside0 (wc.heap[gb711]? = some (.cells #[.int .i64 t715, .int .i64 t716] 23 (0, 0))) ∧ Aside0 (wc.heap[gb712]? = some (.cells #[.int .i64 0, .int .i64 0] 23 (0, 0))) ∧ Aside0 (Below w.heap.size w wc))
  case first =>
   have H := HC6.out
   clear HC6
   replace H := Option.bind_eq_some_iff.mp H
   obtain ⟨t717, A170, H⟩ := H
   replace H : (if t717 = true then (itv_both_itv_Div_1.j0 k true t713 t714 t715 t716) else ((itv_None.f t715 t716).bind fun t718 => (itv_both_itv_Div_1.j0 k t718 t713 t714 t715 t716))) = some (r1, r2) := H
   have A17 := Aside0.mk A170
   clear A170
   by_cases c18 : t717 = true
   ·
    subst c18
    have H1 : (itv_both_itv_Div_1.j0 k true t713 t714 t715 t716) = some (r1, r2) := by rw [if_pos rfl] at H; exact H
    clear H
    have H := H1
    clear H1
    have H' := Aside0.mk H
    clear H
    have hnb19 := NB710_711.out
    have hnc19 := NB711_710.out
    have hnb20 := NB710_712.out
    have hnc20 := NB712_710.out
    have hcz21_0 := hcz BK710 0
    have hcz21_1 := hcz BK710 1
    have hfz21_0 := blk_frozen BK710.out 0
    have hfz21_1 := blk_frozen BK710.out 1
    go_wp2_with (first | ((with_reducible refine gate_callee (f := 21) rfl ?_); refine goesL_ (some 12) rfl rfl Try.func21 (by kernel_rfl) rfl #[.agg #[.int .i64 t713, .int .i64 t714]] rfl (by (try simp only [List.map_toArray, List.map_cons, List.map_nil]); first | done | rfl | (simp only [List.length_drop, List.length_take]; rfl)) ?_; (with_reducible refine (itv_None.calls t713 t714 true _ A17.out).mono ?_); rintro e w22 ⟨rfl, hb⟩; refine ⟨_, rfl, ?_⟩; have n0_ := Aside0.mk (blk_below (g := gb710) (o := .cells #[.int .i64 t713, .int .i64 t714] 23 (0, 0)) (by refine pkB ?_; refine blk_far ?_ NB710_711.out _; refine pkB ?_; refine blk_far ?_ NB710_711.out _; refine pkB ?_; refine blk_put (cs := #[.int .i64 t713, .int .i64 a0_1]) ?_ 1 _ (by first | rfl | (subst_vars; rfl)); refine pkB ?_; refine blk_put (cs := #[.int .i64 a0_0, .int .i64 a0_1]) ?_ 0 _ (by first | rfl | (subst_vars; rfl)); refine pkB ?_; exact BK710.out) hb); have n1_ := Aside0.mk (blk_below (g := gb711) (o := .cells #[.int .i64 t715, .int .i64 t716] 23 (0, 0)) (by refine pkB ?_; refine blk_put (cs := #[.int .i64 t715, .int .i64 a1_1]) ?_ 1 _ (by first | rfl | (subst_vars; rfl)); refine pkB ?_; refine blk_put (cs := #[.int .i64 a1_0, .int .i64 a1_1]) ?_ 0 _ (by first | rfl | (subst_vars; rfl)); refine pkB ?_; refine blk_far ?_ NB711_710.out _; refine pkB ?_; refine blk_far ?_ NB711_710.out _; refine pkB ?_; exact BK711.out) hb); have n2_ := Aside0.mk (blk_below (g := gb712) (o := .cells #[.int .i64 0, .int .i64 0] 23 (0, 0)) (by refine pkB ?_; refine blk_far ?_ NB712_711.out _; refine pkB ?_; refine blk_far ?_ NB712_711.out _; refine pkB ?_; refine blk_far ?_ NB712_710.out _; refine pkB ?_; refine blk_far ?_ NB712_710.out _; refine pkB ?_; exact BK712.out) hb); have n3_ := bst HB hb; clear BK710; clear BK711; clear BK712; clear HB; have BK710 := n0_; have BK711 := n1_; have BK712 := n2_; have HB := n3_; clear n0_ n1_ n2_ n3_; (try clear hb); (try clear hb2); (try clear hk); (try clear hi)))
    go_meet
    case rel => exact ⟨_, (true), (by first | rfl | (simp; done) | (simp [*]; done)), H', ⟨by first | omega | exact Nat.le_refl _⟩, pkA BK710, pkA BK711, pkA BK712, bpk HB⟩
   ·
    replace c18 := Bool.eq_false_iff.mpr c18
    subst c18
    have H1 : ((itv_None.f t715 t716).bind fun t718 => (itv_both_itv_Div_1.j0 k t718 t713 t714 t715 t716)) = some (r1, r2) := by rw [if_neg (show ¬ (false = true) by decide)] at H; exact H
    clear H
    have H := H1
    clear H1
    replace H := Option.bind_eq_some_iff.mp H
    obtain ⟨t718, A230, H⟩ := H
    replace H : (itv_both_itv_Div_1.j0 k t718 t713 t714 t715 t716) = some (r1, r2) := H
    have A23 := Aside0.mk A230
    clear A230
    have H' := Aside0.mk H
    clear H
    have hnb24 := NB710_711.out
    have hnc24 := NB711_710.out
    have hnb25 := NB710_712.out
    have hnc25 := NB712_710.out
    have hcz26_0 := hcz BK710 0
    have hcz26_1 := hcz BK710 1
    have hfz26_0 := blk_frozen BK710.out 0
    have hfz26_1 := blk_frozen BK710.out 1
    go_wp2_with (first | ((with_reducible refine gate_callee (f := 21) rfl ?_); refine goesL_ (some 12) rfl rfl Try.func21 (by kernel_rfl) rfl #[.agg #[.int .i64 t713, .int .i64 t714]] rfl (by (try simp only [List.map_toArray, List.map_cons, List.map_nil]); first | done | rfl | (simp only [List.length_drop, List.length_take]; rfl)) ?_; (with_reducible refine (itv_None.calls t713 t714 false _ A17.out).mono ?_); rintro e w27 ⟨rfl, hb⟩; refine ⟨_, rfl, ?_⟩; have n0_ := Aside0.mk (blk_below (g := gb710) (o := .cells #[.int .i64 t713, .int .i64 t714] 23 (0, 0)) (by refine pkB ?_; refine blk_far ?_ NB710_711.out _; refine pkB ?_; refine blk_far ?_ NB710_711.out _; refine pkB ?_; refine blk_put (cs := #[.int .i64 t713, .int .i64 a0_1]) ?_ 1 _ (by first | rfl | (subst_vars; rfl)); refine pkB ?_; refine blk_put (cs := #[.int .i64 a0_0, .int .i64 a0_1]) ?_ 0 _ (by first | rfl | (subst_vars; rfl)); refine pkB ?_; exact BK710.out) hb); have n1_ := Aside0.mk (blk_below (g := gb711) (o := .cells #[.int .i64 t715, .int .i64 t716] 23 (0, 0)) (by refine pkB ?_; refine blk_put (cs := #[.int .i64 t715, .int .i64 a1_1]) ?_ 1 _ (by first | rfl | (subst_vars; rfl)); refine pkB ?_; refine blk_put (cs := #[.int .i64 a1_0, .int .i64 a1_1]) ?_ 0 _ (by first | rfl | (subst_vars; rfl)); refine pkB ?_; refine blk_far ?_ NB711_710.out _; refine pkB ?_; refine blk_far ?_ NB711_710.out _; refine pkB ?_; exact BK711.out) hb); have n2_ := Aside0.mk (blk_below (g := gb712) (o := .cells #[.int .i64 0, .int .i64 0] 23 (0, 0)) (by refine pkB ?_; refine blk_far ?_ NB712_711.out _; refine pkB ?_; refine blk_far ?_ NB712_711.out _; refine pkB ?_; refine blk_far ?_ NB712_710.out _; refine pkB ?_; refine blk_far ?_ NB712_710.out _; refine pkB ?_; exact BK712.out) hb); have n3_ := bst HB hb; clear BK710; clear BK711; clear BK712; clear HB; have BK710 := n0_; have BK711 := n1_; have BK712 := n2_; have HB := n3_; clear n0_ n1_ n2_ n3_; (try clear hb); (try clear hb2); (try clear hk); (try clear hi); have hnb28 := NB711_712.out; have hnc28 := NB712_711.out; have hcz29_0 := hcz BK711 0; have hcz29_1 := hcz BK711 1; have hfz29_0 := blk_frozen BK711.out 0; have hfz29_1 := blk_frozen BK711.out 1) | (go_at_call 21; (with_reducible refine (itv_None.calls t715 t716 t718 _ A23.out).mono ?_); rintro e w30 ⟨rfl, hb⟩; have n0_ := bst HB hb; replace BK710 := bbw BK710 hb; replace BK711 := bbw BK711 hb; replace BK712 := bbw BK712 hb; clear HB; have HB := n0_; clear n0_; (try clear hb); (try clear hb2); (try clear hk); (try clear hi)))
    go_meet
    case rel => exact ⟨_, (t718), (by first | rfl | (simp; done) | (simp [*]; done)), H', ⟨by first | omega | exact Nat.le_refl _⟩, pkA BK710, pkA BK711, pkA BK712, bpk HB⟩
  case rest =>
   clear HC6
   try clear c1
   try clear c2
   try clear p2
   try clear c5
   try clear c9
   try clear c18
   try clear c19
   try clear c20
   try clear c21
   try clear c24
   try clear c25
   try clear c28
   try clear hcz21_0
   try clear hcz21_1
   try clear hcz26_0
   try clear hcz26_1
   try clear hcz29_0
   try clear hcz29_1
   try clear hfz21_0
   try clear hfz21_1
   try clear hfz26_0
   try clear hfz26_1
   try clear hfz29_0
   try clear hfz29_1
   obtain ⟨kq, x16_5, rfl, HA, HJ5, BK710, BK711, BK712, HB⟩ := hcut
   cases kq with
   | zero => exact absurd HA.out (by simp [itv_both_itv_Div_1.j0])
   | succ kj5 =>
    have H := HA.out
    clear HA
    simp only [itv_both_itv_Div_1.j0] at H
    by_cases c31 : x16_5 = true
    ·
     subst c31
     have H1 : ((itv_Empty.f).bind fun bt719 => (some (bt719.1, bt719.2))) = some (r1, r2) := by rw [if_pos rfl] at H; exact H
     clear H
     have H := H1
     clear H1
     replace H := Option.bind_eq_some_iff.mp H
     obtain ⟨⟨t719, t720⟩, A320, H⟩ := H
     replace H : (some (t719, t720)) = some (r1, r2) := H
     have A32 := Aside0.mk A320
     clear A320
     simp only [Option.some.injEq, Prod.mk.injEq] at H
     obtain ⟨rfl, rfl⟩ := H
     go_wp2_with (first | ((with_reducible refine gate_callee (f := 15) rfl ?_); refine goesL_ (some 17) rfl rfl Try.func15 (by kernel_rfl) rfl #[] rfl (by (try simp only [List.map_toArray, List.map_cons, List.map_nil]); first | done | rfl | (simp only [List.length_drop, List.length_take]; rfl)) ?_; (with_reducible refine (itv_Empty.calls  t719 t720 _ A32.out).mono ?_); rintro e w33 ⟨rfl, hb⟩; refine ⟨_, rfl, ?_⟩; have n0_ := bst HB hb; replace BK710 := bbw BK710 hb; replace BK711 := bbw BK711 hb; replace BK712 := bbw BK712 hb; clear HB; have HB := n0_; clear n0_; (try clear hb); (try clear hb2); (try clear hk); (try clear hi); have hnb34 := NB712_710.out; have hnc34 := NB710_712.out; have hnb35 := NB712_711.out; have hnc35 := NB711_712.out; have hcz36_0 := hcz BK712 0; have hcz36_1 := hcz BK712 1; have hfz36_0 := blk_frozen BK712.out 0; have hfz36_1 := blk_frozen BK712.out 1))
     refine bodyPost_ret (results_cell_row rfl _ _ gb712 23 #[.int .i64 t719, .int .i64 t720] (0, 0) _ rfl (by refine pkB ?_; refine blk_put (cs := #[.int .i64 t719, .int .i64 0]) ?_ 1 _ (by first | rfl | (subst_vars; rfl)); refine pkB ?_; refine blk_put (cs := #[.int .i64 0, .int .i64 0]) ?_ 0 _ (by first | rfl | (subst_vars; rfl)); refine pkB ?_; exact BK712.out) Try.underlying23 rfl (by kernel_rfl)) rfl ?_
     exact ⟨by first | rfl | (simp [errW_none, errW_some] <;> rfl) | (simp [*, errW_none, errW_some] <;> rfl) | kernel_rfl, by repeat (first | (with_reducible first | exact HB.out | apply below_alloc | apply pw_below_drewN | apply below_drew1 | refine below_set ?_ GE710.out | refine below_set ?_ GE711.out | refine below_set ?_ GE712.out) | exact HB.out)⟩
    ·
     replace c31 := Bool.eq_false_iff.mpr c31
     subst c31
     have H1 : ((itv_Div_1.f kj5 t713 t714 t715 t716).bind fun bt721 => (some (bt721.1, bt721.2))) = some (r1, r2) := by rw [if_neg (show ¬ (false = true) by decide)] at H; exact H
     clear H
     have H := H1
     clear H1
     replace H := Option.bind_eq_some_iff.mp H
     obtain ⟨⟨t721, t722⟩, A370, H⟩ := H
     replace H : (some (t721, t722)) = some (r1, r2) := H
     have A37 := Aside0.mk A370
     clear A370
     simp only [Option.some.injEq, Prod.mk.injEq] at H
     obtain ⟨rfl, rfl⟩ := H
     have hnb38 := NB710_711.out
     have hnc38 := NB711_710.out
     have hnb39 := NB710_712.out
     have hnc39 := NB712_710.out
     have hcz40_0 := hcz BK710 0
     have hcz40_1 := hcz BK710 1
     have hfz40_0 := blk_frozen BK710.out 0
     have hfz40_1 := blk_frozen BK710.out 1
     have hnb41 := NB711_712.out
     have hnc41 := NB712_711.out
     have hcz42_0 := hcz BK711 0
     have hcz42_1 := hcz BK711 1
     have hfz42_0 := blk_frozen BK711.out 0
     have hfz42_1 := blk_frozen BK711.out 1
     go_wp2_with (first | (go_at_call 82; (with_reducible refine (itv_Div_1.calls kj5 t713 t714 t715 t716 t721 t722 _ A37.out).mono ?_); rintro e w43 ⟨rfl, hb⟩; have n0_ := bst HB hb; replace BK710 := bbw BK710 hb; replace BK711 := bbw BK711 hb; replace BK712 := bbw BK712 hb; clear HB; have HB := n0_; clear n0_; (try clear hb); (try clear hb2); (try clear hk); (try clear hi); have hcz44_0 := hcz BK712 0; have hcz44_1 := hcz BK712 1; have hfz44_0 := blk_frozen BK712.out 0; have hfz44_1 := blk_frozen BK712.out 1))
     refine bodyPost_ret (results_cell_row rfl _ _ gb712 23 #[.int .i64 t721, .int .i64 t722] (0, 0) _ rfl (by refine pkB ?_; refine blk_put (cs := #[.int .i64 t721, .int .i64 0]) ?_ 1 _ (by first | rfl | (subst_vars; rfl)); refine pkB ?_; refine blk_put (cs := #[.int .i64 0, .int .i64 0]) ?_ 0 _ (by first | rfl | (subst_vars; rfl)); refine pkB ?_; exact BK712.out) Try.underlying23 rfl (by kernel_rfl)) rfl ?_
     exact ⟨by first | rfl | (simp [errW_none, errW_some] <;> rfl) | (simp [*, errW_none, errW_some] <;> rfl) | kernel_rfl, by repeat (first | (with_reducible first | exact HB.out | apply below_alloc | apply pw_below_drewN | apply below_drew1 | refine below_set ?_ GE710.out | refine below_set ?_ GE711.out | refine below_set ?_ GE712.out) | exact HB.out)⟩
def itv_Div.f (k : Nat) (a0_0 : Int) (a0_1 : Int) (a1_0 : Int) (a1_1 : Int) : Option (Int × Int) := (itv_both_itv_Div_1.f k a0_0 a0_1 a1_0 a1_1).bind fun bt726 => (some (bt726.1, bt726.2))
set_option maxHeartbeats 8000000 in
set_option maxRecDepth 100000 in
theorem itv_Div.calls (k : Nat) (a0_0 : Int) (a0_1 : Int) (a1_0 : Int) (a1_1 : Int) (r1 : Int) (r2 : Int) (w : World) (h : itv_Div.f k a0_0 a0_1 a1_0 a1_1 = some (r1, r2)) :
    Calls Try.prog 45 #[.agg #[.int .i64 a0_0, .int .i64 a0_1], .agg #[.int .i64 a1_0, .int .i64 a1_1]] w fun e w' => e = .returned (.agg #[.int .i64 r1, .int .i64 r2]) ∧ Below w.heap.size w w' := by
  have hu23 := Try.underlying23
  have HB := Aside0.mk (Below.refl w.heap.size w)
  have H : ((itv_both_itv_Div_1.f k a0_0 a0_1 a1_0 a1_1).bind fun bt726 => (some (bt726.1, bt726.2))) = some (r1, r2) := h
  clear h
  replace H := Option.bind_eq_some_iff.mp H
  obtain ⟨⟨t726, t727⟩, A30, H⟩ := H
  replace H : (some (t726, t727)) = some (r1, r2) := H
  have A3 := Aside0.mk A30
  clear A30
  simp only [Option.some.injEq, Prod.mk.injEq] at H
  obtain ⟨rfl, rfl⟩ := H
  go_enter Try.func45, Try.ntmps45
  go_wp2_with (first | ((with_reducible refine gate_dst (N := 2) rfl ?_); refine box_event ?hg (N := 2) ?hd (cs := #[.int .i64 a0_0, .int .i64 a0_1]) (t := 23) ?hr ?_; (case hd => rfl); (case hg => rfl); (case hr => first | (go_simp; done) | (go_simp; rfl)); intro gb723 hg w4 hbox hb; have n0_ := bst HB hb; have n1_ := Aside0.mk (hbox); have n2_ := bsz HB hg; have n3_ := bsz HB hg; clear HB; have HB := n0_; have BK723 := n1_; have GW723 := n2_; have GE723 := n3_; clear n0_ n1_ n2_ n3_; clear hb hbox hg) | ((with_reducible refine gate_dst (N := 3) rfl ?_); refine box_event ?hg (N := 3) ?hd (cs := #[.int .i64 a1_0, .int .i64 a1_1]) (t := 23) ?hr ?_; (case hd => rfl); (case hg => rfl); (case hr => first | (go_simp; done) | (go_simp; rfl)); intro gb724 hg w5 hbox hb; have n0_ := bst HB hb; have n1_ := Aside0.mk (hbox); have n2_ := bsz HB hg; have n3_ := bsz HB hg; have n4_ := bn1 BK723 hg; have n5_ := bn2 BK723 hg; replace BK723 := bbw BK723 hb; clear HB; have HB := n0_; have BK724 := n1_; have GW724 := n2_; have GE724 := n3_; have NB723_724 := n4_; have NB724_723 := n5_; clear n0_ n1_ n2_ n3_ n4_ n5_; clear hb hbox hg) | ((with_reducible refine gate_dst (N := 4) rfl ?_); refine box_event ?hg (N := 4) ?hd (cs := #[.int .i64 0, .int .i64 0]) (t := 23) ?hr ?_; (case hd => rfl); (case hg => rfl); (case hr => first | (go_simp; done) | (go_simp; rfl)); intro gb725 hg w6 hbox hb; have n0_ := bst HB hb; have n1_ := Aside0.mk (hbox); have n2_ := bsz HB hg; have n3_ := bsz HB hg; have n4_ := bn1 BK723 hg; have n5_ := bn2 BK723 hg; have n6_ := bn1 BK724 hg; have n7_ := bn2 BK724 hg; replace BK723 := bbw BK723 hb; replace BK724 := bbw BK724 hb; clear HB; have HB := n0_; have BK725 := n1_; have GW725 := n2_; have GE725 := n3_; have NB723_725 := n4_; have NB725_723 := n5_; have NB724_725 := n6_; have NB725_724 := n7_; clear n0_ n1_ n2_ n3_ n4_ n5_ n6_ n7_; clear hb hbox hg; have hnb7 := NB723_724.out; have hnc7 := NB724_723.out; have hnb8 := NB723_725.out; have hnc8 := NB725_723.out; have hcz9_0 := hcz BK723 0; have hcz9_1 := hcz BK723 1; have hfz9_0 := blk_frozen BK723.out 0; have hfz9_1 := blk_frozen BK723.out 1; have hnb10 := NB724_725.out; have hnc10 := NB725_724.out; have hcz11_0 := hcz BK724 0; have hcz11_1 := hcz BK724 1; have hfz11_0 := blk_frozen BK724.out 0; have hfz11_1 := blk_frozen BK724.out 1) | ((with_reducible refine gate_callee (f := 73) rfl ?_); refine goesL_ (some 7) rfl rfl Try.func73 (by kernel_rfl) rfl #[.agg #[.int .i64 a0_0, .int .i64 a0_1], .agg #[.int .i64 a1_0, .int .i64 a1_1], .func (.func 82) #[] #[]] rfl (by (try simp only [List.map_toArray, List.map_cons, List.map_nil]); first | done | rfl | (simp only [List.length_drop, List.length_take]; rfl)) ?_; (with_reducible refine (itv_both_itv_Div_1.calls k a0_0 a0_1 a1_0 a1_1  t726 t727 _ A3.out).mono ?_); rintro e w12 ⟨rfl, hb⟩; refine ⟨_, rfl, ?_⟩; have n0_ := bst HB hb; replace BK723 := bbw BK723 hb; replace BK724 := bbw BK724 hb; replace BK725 := bbw BK725 hb; clear HB; have HB := n0_; clear n0_; (try clear hb); (try clear hb2); (try clear hk); (try clear hi); have hcz13_0 := hcz BK725 0; have hcz13_1 := hcz BK725 1; have hfz13_0 := blk_frozen BK725.out 0; have hfz13_1 := blk_frozen BK725.out 1))
  refine bodyPost_ret (results_cell_row rfl _ _ gb725 23 #[.int .i64 t726, .int .i64 t727] (0, 0) _ rfl (by refine pkB ?_; refine blk_put (cs := #[.int .i64 t726, .int .i64 0]) ?_ 1 _ (by first | rfl | (subst_vars; rfl)); refine pkB ?_; refine blk_put (cs := #[.int .i64 0, .int .i64 0]) ?_ 0 _ (by first | rfl | (subst_vars; rfl)); refine pkB ?_; exact BK725.out) Try.underlying23 rfl (by kernel_rfl)) rfl ?_
  exact ⟨by first | rfl | (simp [errW_none, errW_some] <;> rfl) | (simp [*, errW_none, errW_some] <;> rfl) | kernel_rfl, by repeat (first | (with_reducible first | exact HB.out | apply below_alloc | apply pw_below_drewN | apply below_drew1 | refine below_set ?_ GE723.out | refine below_set ?_ GE724.out | refine below_set ?_ GE725.out) | exact HB.out)⟩
end Go.Proofs.Ytbbnpipmjadpoaa.P
