/- What the law's proof needs of Px18. -/
import Derived.Test.YtbbnpipmjadpoaaTrJU2
import Derived.Test.YtbbnpipmjadpoaaTrJU
import Derived.Test.YtbbnpipmjadpoaaTrJPx0
import Derived.Test.YtbbnpipmjadpoaaTrJPx1
import Derived.Test.YtbbnpipmjadpoaaTrJPx2
import Derived.Test.YtbbnpipmjadpoaaTrJPx3
import Derived.Test.YtbbnpipmjadpoaaTrJPx8
import Derived.Test.YtbbnpipmjadpoaaTrJPx10
import Derived.Test.YtbbnpipmjadpoaaTrJPx17
-- PRINTED by print.py (a twelfth state) out of the translation. Not trusted: Lean checks it.
namespace Go.Proofs.Ytbbnpipmjadpoaa.P
open Go.RowKit Go.Proofs.YtbbnpipmjadpoaaW.PrintWords Go.Proofs.YtbbnpipmjadpoaaW.PrintLast Go.Proofs.YtbbnpipmjadpoaaW.PrintMore Go.Proofs.YtbbnpipmjadpoaaO
attribute [local go_sem] max2_int min2_int max_two min_two max_three min_three max_four min_four   -- for this text's walks alone
set_option linter.unusedVariables false
set_option linter.unusedSimpArgs false
attribute [local go_sem high] eqA23
def itv_both_itv_Add_1.j0 : Nat → Bool → Int → Int → Int → Int → Option (Int × Int)
  | 0, _, _, _, _, _ => none
  | k + 1, x16, x364000, x364001, x365000, x365001 => if x16 = true then ((itv_Empty.f).bind fun bt372 => (some (bt372.1, bt372.2))) else ((itv_Add_1.f x364000 x364001 x365000 x365001).bind fun bt374 => (some (bt374.1, bt374.2)))
def itv_both_itv_Add_1.f (k : Nat) (a0_0 : Int) (a0_1 : Int) (a1_0 : Int) (a1_1 : Int)  : Option (Int × Int) := (itv_sound.f a0_0 a0_1).bind fun bt366 => ((itv_sound.f a1_0 a1_1).bind fun bt368 => ((itv_None.f bt366.1 bt366.2).bind fun t370 => (if t370 = true then (itv_both_itv_Add_1.j0 k true bt366.1 bt366.2 bt368.1 bt368.2) else ((itv_None.f bt368.1 bt368.2).bind fun t371 => (itv_both_itv_Add_1.j0 k t371 bt366.1 bt366.2 bt368.1 bt368.2)))))
set_option maxHeartbeats 8000000 in
set_option maxRecDepth 100000 in
theorem itv_both_itv_Add_1.calls (k : Nat) (a0_0 : Int) (a0_1 : Int) (a1_0 : Int) (a1_1 : Int)  (r1 : Int) (r2 : Int) (w : World) (h : itv_both_itv_Add_1.f k a0_0 a0_1 a1_0 a1_1 = some (r1, r2)) :
    Calls Try.prog 73 #[.agg #[.int .i64 a0_0, .int .i64 a0_1], .agg #[.int .i64 a1_0, .int .i64 a1_1], .func (.func 74) #[] #[]] w fun e w' => e = .returned (.agg #[.int .i64 r1, .int .i64 r2]) ∧ Below w.heap.size w w' := by
  have hu23 := Try.underlying23
  have HB := Aside0.mk (Below.refl w.heap.size w)
  have H : ((itv_sound.f a0_0 a0_1).bind fun bt366 => ((itv_sound.f a1_0 a1_1).bind fun bt368 => ((itv_None.f bt366.1 bt366.2).bind fun t370 => (if t370 = true then (itv_both_itv_Add_1.j0 k true bt366.1 bt366.2 bt368.1 bt368.2) else ((itv_None.f bt368.1 bt368.2).bind fun t371 => (itv_both_itv_Add_1.j0 k t371 bt366.1 bt366.2 bt368.1 bt368.2)))))) = some (r1, r2) := h
  clear h
  replace H := Option.bind_eq_some_iff.mp H
  obtain ⟨⟨t366, t367⟩, A40, H⟩ := H
  replace H : ((itv_sound.f a1_0 a1_1).bind fun bt368 => ((itv_None.f t366 t367).bind fun t370 => (if t370 = true then (itv_both_itv_Add_1.j0 k true t366 t367 bt368.1 bt368.2) else ((itv_None.f bt368.1 bt368.2).bind fun t371 => (itv_both_itv_Add_1.j0 k t371 t366 t367 bt368.1 bt368.2))))) = some (r1, r2) := H
  have A4 := Aside0.mk A40
  clear A40
  replace H := Option.bind_eq_some_iff.mp H
  obtain ⟨⟨t368, t369⟩, A50, H⟩ := H
  replace H : ((itv_None.f t366 t367).bind fun t370 => (if t370 = true then (itv_both_itv_Add_1.j0 k true t366 t367 t368 t369) else ((itv_None.f t368 t369).bind fun t371 => (itv_both_itv_Add_1.j0 k t371 t366 t367 t368 t369)))) = some (r1, r2) := H
  have A5 := Aside0.mk A50
  clear A50
  have HC6 := Aside0.mk H
  clear H
  go_enter Try.func73, Try.ntmps73
  try go_wp2_with (first | ((with_reducible refine gate_dst (N := 3) rfl ?_); refine box_event ?hg (N := 3) ?hd (cs := #[.int .i64 a0_0, .int .i64 a0_1]) (t := 23) ?hr ?_; (case hd => rfl); (case hg => rfl); (case hr => first | (go_simp; done) | (go_simp; rfl)); intro gb363 hg w7 hbox hb; have n0_ := bst HB hb; have n1_ := Aside0.mk (hbox); have n2_ := bsz HB hg; have n3_ := bsz HB hg; clear HB; have HB := n0_; have BK363 := n1_; have GW363 := n2_; have GE363 := n3_; clear n0_ n1_ n2_ n3_; clear hb hbox hg) | ((with_reducible refine gate_dst (N := 4) rfl ?_); refine box_event ?hg (N := 4) ?hd (cs := #[.int .i64 a1_0, .int .i64 a1_1]) (t := 23) ?hr ?_; (case hd => rfl); (case hg => rfl); (case hr => first | (go_simp; done) | (go_simp; rfl)); intro gb364 hg w8 hbox hb; have n0_ := bst HB hb; have n1_ := Aside0.mk (hbox); have n2_ := bsz HB hg; have n3_ := bsz HB hg; have n4_ := bn1 BK363 hg; have n5_ := bn2 BK363 hg; replace BK363 := bbw BK363 hb; clear HB; have HB := n0_; have BK364 := n1_; have GW364 := n2_; have GE364 := n3_; have NB363_364 := n4_; have NB364_363 := n5_; clear n0_ n1_ n2_ n3_ n4_ n5_; clear hb hbox hg) | ((with_reducible refine gate_dst (N := 6) rfl ?_); refine box_event ?hg (N := 6) ?hd (cs := #[.int .i64 0, .int .i64 0]) (t := 23) ?hr ?_; (case hd => rfl); (case hg => rfl); (case hr => first | (go_simp; done) | (go_simp; rfl)); intro gb365 hg w9 hbox hb; have n0_ := bst HB hb; have n1_ := Aside0.mk (hbox); have n2_ := bsz HB hg; have n3_ := bsz HB hg; have n4_ := bn1 BK363 hg; have n5_ := bn2 BK363 hg; have n6_ := bn1 BK364 hg; have n7_ := bn2 BK364 hg; replace BK363 := bbw BK363 hb; replace BK364 := bbw BK364 hb; clear HB; have HB := n0_; have BK365 := n1_; have GW365 := n2_; have GE365 := n3_; have NB363_365 := n4_; have NB365_363 := n5_; have NB364_365 := n6_; have NB365_364 := n7_; clear n0_ n1_ n2_ n3_ n4_ n5_ n6_ n7_; clear hb hbox hg))
  have n0_ := Aside0.mk (blk_drew BK363.out)
  have n1_ := Aside0.mk (blk_drew BK364.out)
  have n2_ := Aside0.mk (blk_drew BK365.out)
  have n3_ := Aside0.mk (below_drew1 HB.out)
  clear BK363
  clear BK364
  clear BK365
  clear HB
  have BK363 := n0_
  have BK364 := n1_
  have BK365 := n2_
  have HB := n3_
  clear n0_ n1_ n2_ n3_
  refine start_ (n := 6) (S := fun w' => w'.cell? ⟨gb363, 0, none⟩ = some (.int .i64 a0_0) ∧ w'.cell? ⟨gb363, 1, none⟩ = some (.int .i64 a0_1) ∧ w'.cell? ⟨gb364, 0, none⟩ = some (.int .i64 a1_0) ∧ w'.cell? ⟨gb364, 1, none⟩ = some (.int .i64 a1_1)) (ds := [4, 5]) #[false, false, false, false, false, false] (by kernel_rfl) rfl rfl ⟨hcz BK363 0, hcz BK363 1, hcz BK364 0, hcz BK364 1⟩ (fun hHeld => ?_)
  generalize w9.drew = w10 at BK363 BK364 BK365 HB hHeld ⊢
  refine take_ (i := 0) (N := some 7) (v := ?_) (a' := ?_) #[true, false, false, false, false, false] rfl rfl (by kernel_rfl) (fun _ _ _ h => h) (Or.inl ⟨by rfl, ?_⟩) hHeld ?_ ?_
  rotate_left
  ·
   rintro w' ⟨s0, s1, s2, s3⟩
   go_simp
   with_reducible rfl
  rotate_left
  ·
   simp only [Act.put, List.setIfInBounds_toArray, List.set_cons_zero, List.set_cons_succ, i64_w, i32_w]
   rfl
  refine take_ (i := 2) (N := some 9) (v := ?_) (a' := ?_) #[true, false, true, false, false, false] rfl rfl (by kernel_rfl) (fun _ _ _ h => h) (Or.inl ⟨by rfl, ?_⟩) hHeld ?_ ?_
  rotate_left
  ·
   rintro w' ⟨s0, s1, s2, s3⟩
   go_simp
   with_reducible rfl
  rotate_left
  ·
   simp only [Act.put, List.setIfInBounds_toArray, List.set_cons_zero, List.set_cons_succ, i64_w, i32_w]
   rfl
  refine one_ (i := 1) (N := some 8) #[true, true, true, false, false, false] rfl rfl (by kernel_rfl) (by decide) (fun K hK => ?_)
  refine goesQ Try.func59 #[.agg #[.int .i64 a0_0, .int .i64 a0_1]] ?_
  with_reducible refine (itv_sound.calls a0_0 a0_1 t366 t367 _ A4.out).mono ?_
  rintro e w11 ⟨rfl, hb⟩
  refine ⟨_, rfl, ?_⟩
  have n0_ := bst HB hb
  replace BK363 := bbw BK363 hb
  replace BK364 := bbw BK364 hb
  replace BK365 := bbw BK365 hb
  clear HB
  have HB := n0_
  clear n0_
  (try clear hb)
  (try clear hb2)
  (try clear hk)
  (try clear hi)
  refine hK.out _ _ ⟨hcz BK363 0, hcz BK363 1, hcz BK364 0, hcz BK364 1⟩ (fun hHeld => ?_)
  clear hK K
  refine normQ (N := 8) ?_
  refine one_ (i := 3) (N := some 10) #[true, true, true, true, false, false] rfl rfl (by kernel_rfl) (by decide) (fun K hK => ?_)
  refine goesQ Try.func59 #[.agg #[.int .i64 a1_0, .int .i64 a1_1]] ?_
  with_reducible refine (itv_sound.calls a1_0 a1_1 t368 t369 _ A5.out).mono ?_
  rintro e w12 ⟨rfl, hb⟩
  refine ⟨_, rfl, ?_⟩
  have n0_ := bst HB hb
  replace BK363 := bbw BK363 hb
  replace BK364 := bbw BK364 hb
  replace BK365 := bbw BK365 hb
  clear HB
  have HB := n0_
  clear n0_
  (try clear hb)
  (try clear hb2)
  (try clear hk)
  (try clear hi)
  refine hK.out _ _ ⟨hcz BK363 0, hcz BK363 1, hcz BK364 0, hcz BK364 1⟩ (fun hHeld => ?_)
  clear hK K
  refine normQ (N := 10) ?_
  refine last_ (i := 4) (N := none) #[true, true, true, true, true, false] rfl rfl (by kernel_rfl) (by decide) (fun K hK => ?_)
  have hs13 : w12.cell? ⟨gb363, 0, none⟩ = some (.int .i64 a0_0) := hcz BK363 0
  have hfs13 := blk_frozen BK363.out 0
  have hns13_1 := NB364_363.out
  have hns13_2 := NB365_363.out
  have hms13_1 := NB363_364.out
  have hms13_2 := NB363_365.out
  have hs14 : w12.cell? ⟨gb363, 1, none⟩ = some (.int .i64 a0_1) := hcz BK363 1
  have hfs14 := blk_frozen BK363.out 1
  have hns14_1 := NB364_363.out
  have hns14_2 := NB365_363.out
  have hms14_1 := NB363_364.out
  have hms14_2 := NB363_365.out
  refine skip_ (w1 := ?_) (by rfl) rfl ?_ ?_
  rotate_left
  ·
   go_simp
   rfl
  refine hK.out _ _ ?_
  clear hK K
  refine last_ (i := 5) (N := none) #[true, true, true, true, true, true] rfl rfl (by kernel_rfl) (by decide) (fun K hK => ?_)
  have hs15 : w12.cell? ⟨gb364, 0, none⟩ = some (.int .i64 a1_0) := hcz BK364 0
  have hfs15 := blk_frozen BK364.out 0
  have hns15_0 := NB363_364.out
  have hns15_2 := NB365_364.out
  have hms15_0 := NB364_363.out
  have hms15_2 := NB364_365.out
  have hs16 : w12.cell? ⟨gb364, 1, none⟩ = some (.int .i64 a1_1) := hcz BK364 1
  have hfs16 := blk_frozen BK364.out 1
  have hns16_0 := NB363_364.out
  have hns16_2 := NB365_364.out
  have hms16_0 := NB364_363.out
  have hms16_2 := NB364_365.out
  refine skip_ (w1 := ?_) (by rfl) rfl ?_ ?_
  rotate_left
  ·
   go_simp
   rfl
  refine hK.out _ _ ?_
  clear hK K
  refine done_ (by kernel_rfl) ?_
  go_upto_region 2 with (fail)
  go_cut [16] (fun v16 wc => ∃ (kq : Nat) (x16_5 : Bool), v16 = .bool x16_5 ∧ Aside0 (itv_both_itv_Add_1.j0 kq x16_5 t366 t367 t368 t369 = some (r1, r2)) ∧ Aside0 (kq ≤ k) ∧ Aside0 (wc.heap[gb363]? = some (.cells #[.int .i64 t366, .int .i64 t367] 23 (0, 0))) ∧ Aside0 (wc.heap[gb364]? = some (.cells #[.int .i64 t368, .int .i64 t369] 23 (0, 0))) ∧ Aside0 (wc.heap[gb365]? = some (.cells #[.int .i64 0, .int .i64 0] 23 (0, 0))) ∧ Aside0 (Below w.heap.size w wc))
  case first =>
   have H := HC6.out
   clear HC6
   replace H := Option.bind_eq_some_iff.mp H
   obtain ⟨t370, A170, H⟩ := H
   replace H : (if t370 = true then (itv_both_itv_Add_1.j0 k true t366 t367 t368 t369) else ((itv_None.f t368 t369).bind fun t371 => (itv_both_itv_Add_1.j0 k t371 t366 t367 t368 t369))) = some (r1, r2) := H
   have A17 := Aside0.mk A170
   clear A170
   by_cases c18 : t370 = true
   ·
    subst c18
    have H1 : (itv_both_itv_Add_1.j0 k true t366 t367 t368 t369) = some (r1, r2) := by rw [if_pos rfl] at H; exact H
    clear H
    have H := H1
    clear H1
    have H' := Aside0.mk H
    clear H
    have hnb19 := NB363_364.out
    have hnc19 := NB364_363.out
    have hnb20 := NB363_365.out
    have hnc20 := NB365_363.out
    have hcz21_0 := hcz BK363 0
    have hcz21_1 := hcz BK363 1
    have hfz21_0 := blk_frozen BK363.out 0
    have hfz21_1 := blk_frozen BK363.out 1
    go_wp2_with (first | ((with_reducible refine gate_callee (f := 21) rfl ?_); refine goesL_ (some 12) rfl rfl Try.func21 (by kernel_rfl) rfl #[.agg #[.int .i64 t366, .int .i64 t367]] rfl (by (try simp only [List.map_toArray, List.map_cons, List.map_nil]); first | done | rfl | (simp only [List.length_drop, List.length_take]; rfl)) ?_; (with_reducible refine (itv_None.calls t366 t367 true _ A17.out).mono ?_); rintro e w22 ⟨rfl, hb⟩; refine ⟨_, rfl, ?_⟩; have n0_ := Aside0.mk (blk_below (g := gb363) (o := .cells #[.int .i64 t366, .int .i64 t367] 23 (0, 0)) (by refine pkB ?_; refine blk_far ?_ NB363_364.out _; refine pkB ?_; refine blk_far ?_ NB363_364.out _; refine pkB ?_; refine blk_put (cs := #[.int .i64 t366, .int .i64 a0_1]) ?_ 1 _ (by first | rfl | (subst_vars; rfl)); refine pkB ?_; refine blk_put (cs := #[.int .i64 a0_0, .int .i64 a0_1]) ?_ 0 _ (by first | rfl | (subst_vars; rfl)); refine pkB ?_; exact BK363.out) hb); have n1_ := Aside0.mk (blk_below (g := gb364) (o := .cells #[.int .i64 t368, .int .i64 t369] 23 (0, 0)) (by refine pkB ?_; refine blk_put (cs := #[.int .i64 t368, .int .i64 a1_1]) ?_ 1 _ (by first | rfl | (subst_vars; rfl)); refine pkB ?_; refine blk_put (cs := #[.int .i64 a1_0, .int .i64 a1_1]) ?_ 0 _ (by first | rfl | (subst_vars; rfl)); refine pkB ?_; refine blk_far ?_ NB364_363.out _; refine pkB ?_; refine blk_far ?_ NB364_363.out _; refine pkB ?_; exact BK364.out) hb); have n2_ := Aside0.mk (blk_below (g := gb365) (o := .cells #[.int .i64 0, .int .i64 0] 23 (0, 0)) (by refine pkB ?_; refine blk_far ?_ NB365_364.out _; refine pkB ?_; refine blk_far ?_ NB365_364.out _; refine pkB ?_; refine blk_far ?_ NB365_363.out _; refine pkB ?_; refine blk_far ?_ NB365_363.out _; refine pkB ?_; exact BK365.out) hb); have n3_ := bst HB hb; clear BK363; clear BK364; clear BK365; clear HB; have BK363 := n0_; have BK364 := n1_; have BK365 := n2_; have HB := n3_; clear n0_ n1_ n2_ n3_; (try clear hb); (try clear hb2); (try clear hk); (try clear hi)))
    go_meet
    case rel => exact ⟨_, (true), (by first | rfl | (simp; done) | (simp [*]; done)), H', ⟨by first | omega | exact Nat.le_refl _⟩, pkA BK363, pkA BK364, pkA BK365, bpk HB⟩
   ·
    replace c18 := Bool.eq_false_iff.mpr c18
    subst c18
    have H1 : ((itv_None.f t368 t369).bind fun t371 => (itv_both_itv_Add_1.j0 k t371 t366 t367 t368 t369)) = some (r1, r2) := by rw [if_neg (show ¬ (false = true) by decide)] at H; exact H
    clear H
    have H := H1
    clear H1
    replace H := Option.bind_eq_some_iff.mp H
    obtain ⟨t371, A230, H⟩ := H
    replace H : (itv_both_itv_Add_1.j0 k t371 t366 t367 t368 t369) = some (r1, r2) := H
    have A23 := Aside0.mk A230
    clear A230
    have H' := Aside0.mk H
    clear H
    have hnb24 := NB363_364.out
    have hnc24 := NB364_363.out
    have hnb25 := NB363_365.out
    have hnc25 := NB365_363.out
    have hcz26_0 := hcz BK363 0
    have hcz26_1 := hcz BK363 1
    have hfz26_0 := blk_frozen BK363.out 0
    have hfz26_1 := blk_frozen BK363.out 1
    go_wp2_with (first | ((with_reducible refine gate_callee (f := 21) rfl ?_); refine goesL_ (some 12) rfl rfl Try.func21 (by kernel_rfl) rfl #[.agg #[.int .i64 t366, .int .i64 t367]] rfl (by (try simp only [List.map_toArray, List.map_cons, List.map_nil]); first | done | rfl | (simp only [List.length_drop, List.length_take]; rfl)) ?_; (with_reducible refine (itv_None.calls t366 t367 false _ A17.out).mono ?_); rintro e w27 ⟨rfl, hb⟩; refine ⟨_, rfl, ?_⟩; have n0_ := Aside0.mk (blk_below (g := gb363) (o := .cells #[.int .i64 t366, .int .i64 t367] 23 (0, 0)) (by refine pkB ?_; refine blk_far ?_ NB363_364.out _; refine pkB ?_; refine blk_far ?_ NB363_364.out _; refine pkB ?_; refine blk_put (cs := #[.int .i64 t366, .int .i64 a0_1]) ?_ 1 _ (by first | rfl | (subst_vars; rfl)); refine pkB ?_; refine blk_put (cs := #[.int .i64 a0_0, .int .i64 a0_1]) ?_ 0 _ (by first | rfl | (subst_vars; rfl)); refine pkB ?_; exact BK363.out) hb); have n1_ := Aside0.mk (blk_below (g := gb364) (o := .cells #[.int .i64 t368, .int .i64 t369] 23 (0, 0)) (by refine pkB ?_; refine blk_put (cs := #[.int .i64 t368, .int .i64 a1_1]) ?_ 1 _ (by first | rfl | (subst_vars; rfl)); refine pkB ?_; refine blk_put (cs := #[.int .i64 a1_0, .int .i64 a1_1]) ?_ 0 _ (by first | rfl | (subst_vars; rfl)); refine pkB ?_; refine blk_far ?_ NB364_363.out _; refine pkB ?_; refine blk_far ?_ NB364_363.out _; refine pkB ?_; exact BK364.out) hb); have n2_ := Aside0.mk (blk_below (g := gb365) (o := .cells #[.int .i64 0, .int .i64 0] 23 (0, 0)) (by refine pkB ?_; refine blk_far ?_ NB365_364.out _; refine pkB ?_; refine blk_far ?_ NB365_364.out _; refine pkB ?_; refine blk_far ?_ NB365_363.out _; refine pkB ?_; refine blk_far ?_ NB365_363.out _; refine pkB ?_; exact BK365.out) hb); have n3_ := bst HB hb; clear BK363; clear BK364; clear BK365; clear HB; have BK363 := n0_; have BK364 := n1_; have BK365 := n2_; have HB := n3_; clear n0_ n1_ n2_ n3_; (try clear hb); (try clear hb2); (try clear hk); (try clear hi); have hnb28 := NB364_365.out; have hnc28 := NB365_364.out; have hcz29_0 := hcz BK364 0; have hcz29_1 := hcz BK364 1; have hfz29_0 := blk_frozen BK364.out 0; have hfz29_1 := blk_frozen BK364.out 1) | (go_at_call 21; (with_reducible refine (itv_None.calls t368 t369 t371 _ A23.out).mono ?_); rintro e w30 ⟨rfl, hb⟩; have n0_ := bst HB hb; replace BK363 := bbw BK363 hb; replace BK364 := bbw BK364 hb; replace BK365 := bbw BK365 hb; clear HB; have HB := n0_; clear n0_; (try clear hb); (try clear hb2); (try clear hk); (try clear hi)))
    go_meet
    case rel => exact ⟨_, (t371), (by first | rfl | (simp; done) | (simp [*]; done)), H', ⟨by first | omega | exact Nat.le_refl _⟩, pkA BK363, pkA BK364, pkA BK365, bpk HB⟩
  case rest =>
   clear HC6
   try clear c1
   try clear c2
   try clear p2
   try clear c5
   try clear c9
   try clear c18
   try clear c19
   try clear c20
   try clear c21
   try clear c24
   try clear c25
   try clear c28
   try clear hcz21_0
   try clear hcz21_1
   try clear hcz26_0
   try clear hcz26_1
   try clear hcz29_0
   try clear hcz29_1
   try clear hfz21_0
   try clear hfz21_1
   try clear hfz26_0
   try clear hfz26_1
   try clear hfz29_0
   try clear hfz29_1
   obtain ⟨kq, x16_5, rfl, HA, HJ5, BK363, BK364, BK365, HB⟩ := hcut
   cases kq with
   | zero => exact absurd HA.out (by simp [itv_both_itv_Add_1.j0])
   | succ kj5 =>
    have H := HA.out
    clear HA
    simp only [itv_both_itv_Add_1.j0] at H
    by_cases c31 : x16_5 = true
    ·
     subst c31
     have H1 : ((itv_Empty.f).bind fun bt372 => (some (bt372.1, bt372.2))) = some (r1, r2) := by rw [if_pos rfl] at H; exact H
     clear H
     have H := H1
     clear H1
     replace H := Option.bind_eq_some_iff.mp H
     obtain ⟨⟨t372, t373⟩, A320, H⟩ := H
     replace H : (some (t372, t373)) = some (r1, r2) := H
     have A32 := Aside0.mk A320
     clear A320
     simp only [Option.some.injEq, Prod.mk.injEq] at H
     obtain ⟨rfl, rfl⟩ := H
     go_wp2_with (first | ((with_reducible refine gate_callee (f := 15) rfl ?_); refine goesL_ (some 17) rfl rfl Try.func15 (by kernel_rfl) rfl #[] rfl (by (try simp only [List.map_toArray, List.map_cons, List.map_nil]); first | done | rfl | (simp only [List.length_drop, List.length_take]; rfl)) ?_; (with_reducible refine (itv_Empty.calls  t372 t373 _ A32.out).mono ?_); rintro e w33 ⟨rfl, hb⟩; refine ⟨_, rfl, ?_⟩; have n0_ := bst HB hb; replace BK363 := bbw BK363 hb; replace BK364 := bbw BK364 hb; replace BK365 := bbw BK365 hb; clear HB; have HB := n0_; clear n0_; (try clear hb); (try clear hb2); (try clear hk); (try clear hi); have hnb34 := NB365_363.out; have hnc34 := NB363_365.out; have hnb35 := NB365_364.out; have hnc35 := NB364_365.out; have hcz36_0 := hcz BK365 0; have hcz36_1 := hcz BK365 1; have hfz36_0 := blk_frozen BK365.out 0; have hfz36_1 := blk_frozen BK365.out 1))
     refine bodyPost_ret (results_cell_row rfl _ _ gb365 23 #[.int .i64 t372, .int .i64 t373] (0, 0) _ rfl (by refine pkB ?_; refine blk_put (cs := #[.int .i64 t372, .int .i64 0]) ?_ 1 _ (by first | rfl | (subst_vars; rfl)); refine pkB ?_; refine blk_put (cs := #[.int .i64 0, .int .i64 0]) ?_ 0 _ (by first | rfl | (subst_vars; rfl)); refine pkB ?_; exact BK365.out) Try.underlying23 rfl (by kernel_rfl)) rfl ?_
     exact ⟨by first | rfl | (simp [errW_none, errW_some] <;> rfl) | (simp [*, errW_none, errW_some] <;> rfl) | kernel_rfl, by repeat (first | (with_reducible first | exact HB.out | apply below_alloc | apply pw_below_drewN | apply below_drew1 | refine below_set ?_ GE363.out | refine below_set ?_ GE364.out | refine below_set ?_ GE365.out) | exact HB.out)⟩
    ·
     replace c31 := Bool.eq_false_iff.mpr c31
     subst c31
     have H1 : ((itv_Add_1.f t366 t367 t368 t369).bind fun bt374 => (some (bt374.1, bt374.2))) = some (r1, r2) := by rw [if_neg (show ¬ (false = true) by decide)] at H; exact H
     clear H
     have H := H1
     clear H1
     replace H := Option.bind_eq_some_iff.mp H
     obtain ⟨⟨t374, t375⟩, A370, H⟩ := H
     replace H : (some (t374, t375)) = some (r1, r2) := H
     have A37 := Aside0.mk A370
     clear A370
     simp only [Option.some.injEq, Prod.mk.injEq] at H
     obtain ⟨rfl, rfl⟩ := H
     have hnb38 := NB363_364.out
     have hnc38 := NB364_363.out
     have hnb39 := NB363_365.out
     have hnc39 := NB365_363.out
     have hcz40_0 := hcz BK363 0
     have hcz40_1 := hcz BK363 1
     have hfz40_0 := blk_frozen BK363.out 0
     have hfz40_1 := blk_frozen BK363.out 1
     have hnb41 := NB364_365.out
     have hnc41 := NB365_364.out
     have hcz42_0 := hcz BK364 0
     have hcz42_1 := hcz BK364 1
     have hfz42_0 := blk_frozen BK364.out 0
     have hfz42_1 := blk_frozen BK364.out 1
     go_wp2_with (first | (go_at_call 74; (with_reducible refine (itv_Add_1.calls t366 t367 t368 t369 t374 t375 _ A37.out).mono ?_); rintro e w43 ⟨rfl, hb⟩; have n0_ := bst HB hb; replace BK363 := bbw BK363 hb; replace BK364 := bbw BK364 hb; replace BK365 := bbw BK365 hb; clear HB; have HB := n0_; clear n0_; (try clear hb); (try clear hb2); (try clear hk); (try clear hi); have hcz44_0 := hcz BK365 0; have hcz44_1 := hcz BK365 1; have hfz44_0 := blk_frozen BK365.out 0; have hfz44_1 := blk_frozen BK365.out 1))
     refine bodyPost_ret (results_cell_row rfl _ _ gb365 23 #[.int .i64 t374, .int .i64 t375] (0, 0) _ rfl (by refine pkB ?_; refine blk_put (cs := #[.int .i64 t374, .int .i64 0]) ?_ 1 _ (by first | rfl | (subst_vars; rfl)); refine pkB ?_; refine blk_put (cs := #[.int .i64 0, .int .i64 0]) ?_ 0 _ (by first | rfl | (subst_vars; rfl)); refine pkB ?_; exact BK365.out) Try.underlying23 rfl (by kernel_rfl)) rfl ?_
     exact ⟨by first | rfl | (simp [errW_none, errW_some] <;> rfl) | (simp [*, errW_none, errW_some] <;> rfl) | kernel_rfl, by repeat (first | (with_reducible first | exact HB.out | apply below_alloc | apply pw_below_drewN | apply below_drew1 | refine below_set ?_ GE363.out | refine below_set ?_ GE364.out | refine below_set ?_ GE365.out) | exact HB.out)⟩
def itv_Add.f (k : Nat) (a0_0 : Int) (a0_1 : Int) (a1_0 : Int) (a1_1 : Int) : Option (Int × Int) := (itv_both_itv_Add_1.f k a0_0 a0_1 a1_0 a1_1).bind fun bt379 => (some (bt379.1, bt379.2))
set_option maxHeartbeats 8000000 in
set_option maxRecDepth 100000 in
theorem itv_Add.calls (k : Nat) (a0_0 : Int) (a0_1 : Int) (a1_0 : Int) (a1_1 : Int) (r1 : Int) (r2 : Int) (w : World) (h : itv_Add.f k a0_0 a0_1 a1_0 a1_1 = some (r1, r2)) :
    Calls Try.prog 40 #[.agg #[.int .i64 a0_0, .int .i64 a0_1], .agg #[.int .i64 a1_0, .int .i64 a1_1]] w fun e w' => e = .returned (.agg #[.int .i64 r1, .int .i64 r2]) ∧ Below w.heap.size w w' := by
  have hu23 := Try.underlying23
  have HB := Aside0.mk (Below.refl w.heap.size w)
  have H : ((itv_both_itv_Add_1.f k a0_0 a0_1 a1_0 a1_1).bind fun bt379 => (some (bt379.1, bt379.2))) = some (r1, r2) := h
  clear h
  replace H := Option.bind_eq_some_iff.mp H
  obtain ⟨⟨t379, t380⟩, A30, H⟩ := H
  replace H : (some (t379, t380)) = some (r1, r2) := H
  have A3 := Aside0.mk A30
  clear A30
  simp only [Option.some.injEq, Prod.mk.injEq] at H
  obtain ⟨rfl, rfl⟩ := H
  go_enter Try.func40, Try.ntmps40
  go_wp2_with (first | ((with_reducible refine gate_dst (N := 2) rfl ?_); refine box_event ?hg (N := 2) ?hd (cs := #[.int .i64 a0_0, .int .i64 a0_1]) (t := 23) ?hr ?_; (case hd => rfl); (case hg => rfl); (case hr => first | (go_simp; done) | (go_simp; rfl)); intro gb376 hg w4 hbox hb; have n0_ := bst HB hb; have n1_ := Aside0.mk (hbox); have n2_ := bsz HB hg; have n3_ := bsz HB hg; clear HB; have HB := n0_; have BK376 := n1_; have GW376 := n2_; have GE376 := n3_; clear n0_ n1_ n2_ n3_; clear hb hbox hg) | ((with_reducible refine gate_dst (N := 3) rfl ?_); refine box_event ?hg (N := 3) ?hd (cs := #[.int .i64 a1_0, .int .i64 a1_1]) (t := 23) ?hr ?_; (case hd => rfl); (case hg => rfl); (case hr => first | (go_simp; done) | (go_simp; rfl)); intro gb377 hg w5 hbox hb; have n0_ := bst HB hb; have n1_ := Aside0.mk (hbox); have n2_ := bsz HB hg; have n3_ := bsz HB hg; have n4_ := bn1 BK376 hg; have n5_ := bn2 BK376 hg; replace BK376 := bbw BK376 hb; clear HB; have HB := n0_; have BK377 := n1_; have GW377 := n2_; have GE377 := n3_; have NB376_377 := n4_; have NB377_376 := n5_; clear n0_ n1_ n2_ n3_ n4_ n5_; clear hb hbox hg) | ((with_reducible refine gate_dst (N := 4) rfl ?_); refine box_event ?hg (N := 4) ?hd (cs := #[.int .i64 0, .int .i64 0]) (t := 23) ?hr ?_; (case hd => rfl); (case hg => rfl); (case hr => first | (go_simp; done) | (go_simp; rfl)); intro gb378 hg w6 hbox hb; have n0_ := bst HB hb; have n1_ := Aside0.mk (hbox); have n2_ := bsz HB hg; have n3_ := bsz HB hg; have n4_ := bn1 BK376 hg; have n5_ := bn2 BK376 hg; have n6_ := bn1 BK377 hg; have n7_ := bn2 BK377 hg; replace BK376 := bbw BK376 hb; replace BK377 := bbw BK377 hb; clear HB; have HB := n0_; have BK378 := n1_; have GW378 := n2_; have GE378 := n3_; have NB376_378 := n4_; have NB378_376 := n5_; have NB377_378 := n6_; have NB378_377 := n7_; clear n0_ n1_ n2_ n3_ n4_ n5_ n6_ n7_; clear hb hbox hg; have hnb7 := NB376_377.out; have hnc7 := NB377_376.out; have hnb8 := NB376_378.out; have hnc8 := NB378_376.out; have hcz9_0 := hcz BK376 0; have hcz9_1 := hcz BK376 1; have hfz9_0 := blk_frozen BK376.out 0; have hfz9_1 := blk_frozen BK376.out 1; have hnb10 := NB377_378.out; have hnc10 := NB378_377.out; have hcz11_0 := hcz BK377 0; have hcz11_1 := hcz BK377 1; have hfz11_0 := blk_frozen BK377.out 0; have hfz11_1 := blk_frozen BK377.out 1) | ((with_reducible refine gate_callee (f := 73) rfl ?_); refine goesL_ (some 7) rfl rfl Try.func73 (by kernel_rfl) rfl #[.agg #[.int .i64 a0_0, .int .i64 a0_1], .agg #[.int .i64 a1_0, .int .i64 a1_1], .func (.func 74) #[] #[]] rfl (by (try simp only [List.map_toArray, List.map_cons, List.map_nil]); first | done | rfl | (simp only [List.length_drop, List.length_take]; rfl)) ?_; (with_reducible refine (itv_both_itv_Add_1.calls k a0_0 a0_1 a1_0 a1_1  t379 t380 _ A3.out).mono ?_); rintro e w12 ⟨rfl, hb⟩; refine ⟨_, rfl, ?_⟩; have n0_ := bst HB hb; replace BK376 := bbw BK376 hb; replace BK377 := bbw BK377 hb; replace BK378 := bbw BK378 hb; clear HB; have HB := n0_; clear n0_; (try clear hb); (try clear hb2); (try clear hk); (try clear hi); have hcz13_0 := hcz BK378 0; have hcz13_1 := hcz BK378 1; have hfz13_0 := blk_frozen BK378.out 0; have hfz13_1 := blk_frozen BK378.out 1))
  refine bodyPost_ret (results_cell_row rfl _ _ gb378 23 #[.int .i64 t379, .int .i64 t380] (0, 0) _ rfl (by refine pkB ?_; refine blk_put (cs := #[.int .i64 t379, .int .i64 0]) ?_ 1 _ (by first | rfl | (subst_vars; rfl)); refine pkB ?_; refine blk_put (cs := #[.int .i64 0, .int .i64 0]) ?_ 0 _ (by first | rfl | (subst_vars; rfl)); refine pkB ?_; exact BK378.out) Try.underlying23 rfl (by kernel_rfl)) rfl ?_
  exact ⟨by first | rfl | (simp [errW_none, errW_some] <;> rfl) | (simp [*, errW_none, errW_some] <;> rfl) | kernel_rfl, by repeat (first | (with_reducible first | exact HB.out | apply below_alloc | apply pw_below_drewN | apply below_drew1 | refine below_set ?_ GE376.out | refine below_set ?_ GE377.out | refine below_set ?_ GE378.out) | exact HB.out)⟩
end Go.Proofs.Ytbbnpipmjadpoaa.P
