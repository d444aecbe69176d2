/- What the law's proof needs of Px10. -/
import Derived.Test.YtbbnpipmjadpoaaTrJU2
import Derived.Test.YtbbnpipmjadpoaaTrJU
import Derived.Test.YtbbnpipmjadpoaaTrJPx0
import Derived.Test.YtbbnpipmjadpoaaTrJPx2
import Derived.Test.YtbbnpipmjadpoaaTrJPx3
-- PRINTED by print.py (a twelfth state) out of the translation. Not trusted: Lean checks it.
namespace Go.Proofs.Ytbbnpipmjadpoaa.P
open Go.RowKit Go.Proofs.YtbbnpipmjadpoaaW.PrintWords Go.Proofs.YtbbnpipmjadpoaaW.PrintLast Go.Proofs.YtbbnpipmjadpoaaW.PrintMore Go.Proofs.YtbbnpipmjadpoaaO
attribute [local go_sem] max2_int min2_int max_two min_two max_three min_three max_four min_four   -- for this text's walks alone
set_option linter.unusedVariables false
set_option linter.unusedSimpArgs false
def itv_Meet.j0 : Nat → Bool → Int → Int → Int → Int → Option (Int × Int)
  | 0, _, _, _, _, _ => none
  | k + 1, x14, x198000, x198001, x199000, x199001 => if x14 = true then ((itv_Empty.f).bind fun bt206 => (some (bt206.1, bt206.2))) else ((itv_Of.f (mx x198000 x199000) (mn x198001 x199001)).bind fun bt208 => (some (bt208.1, bt208.2)))
def itv_Meet.f (k : Nat) (a0_0 : Int) (a0_1 : Int) (a1_0 : Int) (a1_1 : Int) : Option (Int × Int) := (itv_sound.f a0_0 a0_1).bind fun bt200 => ((itv_sound.f a1_0 a1_1).bind fun bt202 => ((itv_None.f bt200.1 bt200.2).bind fun t204 => (if t204 = true then (itv_Meet.j0 k true bt200.1 bt200.2 bt202.1 bt202.2) else ((itv_None.f bt202.1 bt202.2).bind fun t205 => (itv_Meet.j0 k t205 bt200.1 bt200.2 bt202.1 bt202.2)))))
set_option maxHeartbeats 8000000 in
set_option maxRecDepth 100000 in
theorem itv_Meet.calls (k : Nat) (a0_0 : Int) (a0_1 : Int) (a1_0 : Int) (a1_1 : Int) (r1 : Int) (r2 : Int) (w : World) (h : itv_Meet.f k a0_0 a0_1 a1_0 a1_1 = some (r1, r2)) :
    Calls Try.prog 28 #[.agg #[.int .i64 a0_0, .int .i64 a0_1], .agg #[.int .i64 a1_0, .int .i64 a1_1]] w fun e w' => e = .returned (.agg #[.int .i64 r1, .int .i64 r2]) ∧ Below w.heap.size w w' := by
  have hu23 := Try.underlying23
  have HB := Aside0.mk (Below.refl w.heap.size w)
  have H : ((itv_sound.f a0_0 a0_1).bind fun bt200 => ((itv_sound.f a1_0 a1_1).bind fun bt202 => ((itv_None.f bt200.1 bt200.2).bind fun t204 => (if t204 = true then (itv_Meet.j0 k true bt200.1 bt200.2 bt202.1 bt202.2) else ((itv_None.f bt202.1 bt202.2).bind fun t205 => (itv_Meet.j0 k t205 bt200.1 bt200.2 bt202.1 bt202.2)))))) = some (r1, r2) := h
  clear h
  replace H := Option.bind_eq_some_iff.mp H
  obtain ⟨⟨t200, t201⟩, A30, H⟩ := H
  replace H : ((itv_sound.f a1_0 a1_1).bind fun bt202 => ((itv_None.f t200 t201).bind fun t204 => (if t204 = true then (itv_Meet.j0 k true t200 t201 bt202.1 bt202.2) else ((itv_None.f bt202.1 bt202.2).bind fun t205 => (itv_Meet.j0 k t205 t200 t201 bt202.1 bt202.2))))) = some (r1, r2) := H
  have A3 := Aside0.mk A30
  clear A30
  replace H := Option.bind_eq_some_iff.mp H
  obtain ⟨⟨t202, t203⟩, A40, H⟩ := H
  replace H : ((itv_None.f t200 t201).bind fun t204 => (if t204 = true then (itv_Meet.j0 k true t200 t201 t202 t203) else ((itv_None.f t202 t203).bind fun t205 => (itv_Meet.j0 k t205 t200 t201 t202 t203)))) = some (r1, r2) := H
  have A4 := Aside0.mk A40
  clear A40
  have HC5 := Aside0.mk H
  clear H
  go_enter Try.func28, Try.ntmps28
  try go_wp2_with (first | ((with_reducible refine gate_dst (N := 2) rfl ?_); refine box_event ?hg (N := 2) ?hd (cs := #[.int .i64 a0_0, .int .i64 a0_1]) (t := 23) ?hr ?_; (case hd => rfl); (case hg => rfl); (case hr => first | (go_simp; done) | (go_simp; rfl)); intro gb197 hg w6 hbox hb; have n0_ := bst HB hb; have n1_ := Aside0.mk (hbox); have n2_ := bsz HB hg; have n3_ := bsz HB hg; clear HB; have HB := n0_; have BK197 := n1_; have GW197 := n2_; have GE197 := n3_; clear n0_ n1_ n2_ n3_; clear hb hbox hg) | ((with_reducible refine gate_dst (N := 3) rfl ?_); refine box_event ?hg (N := 3) ?hd (cs := #[.int .i64 a1_0, .int .i64 a1_1]) (t := 23) ?hr ?_; (case hd => rfl); (case hg => rfl); (case hr => first | (go_simp; done) | (go_simp; rfl)); intro gb198 hg w7 hbox hb; have n0_ := bst HB hb; have n1_ := Aside0.mk (hbox); have n2_ := bsz HB hg; have n3_ := bsz HB hg; have n4_ := bn1 BK197 hg; have n5_ := bn2 BK197 hg; replace BK197 := bbw BK197 hb; clear HB; have HB := n0_; have BK198 := n1_; have GW198 := n2_; have GE198 := n3_; have NB197_198 := n4_; have NB198_197 := n5_; clear n0_ n1_ n2_ n3_ n4_ n5_; clear hb hbox hg) | ((with_reducible refine gate_dst (N := 4) rfl ?_); refine box_event ?hg (N := 4) ?hd (cs := #[.int .i64 0, .int .i64 0]) (t := 23) ?hr ?_; (case hd => rfl); (case hg => rfl); (case hr => first | (go_simp; done) | (go_simp; rfl)); intro gb199 hg w8 hbox hb; have n0_ := bst HB hb; have n1_ := Aside0.mk (hbox); have n2_ := bsz HB hg; have n3_ := bsz HB hg; have n4_ := bn1 BK197 hg; have n5_ := bn2 BK197 hg; have n6_ := bn1 BK198 hg; have n7_ := bn2 BK198 hg; replace BK197 := bbw BK197 hb; replace BK198 := bbw BK198 hb; clear HB; have HB := n0_; have BK199 := n1_; have GW199 := n2_; have GE199 := n3_; have NB197_199 := n4_; have NB199_197 := n5_; have NB198_199 := n6_; have NB199_198 := n7_; clear n0_ n1_ n2_ n3_ n4_ n5_ n6_ n7_; clear hb hbox hg))
  have n0_ := Aside0.mk (blk_drew BK197.out)
  have n1_ := Aside0.mk (blk_drew BK198.out)
  have n2_ := Aside0.mk (blk_drew BK199.out)
  have n3_ := Aside0.mk (below_drew1 HB.out)
  clear BK197
  clear BK198
  clear BK199
  clear HB
  have BK197 := n0_
  have BK198 := n1_
  have BK199 := n2_
  have HB := n3_
  clear n0_ n1_ n2_ n3_
  refine start_ (n := 6) (S := fun w' => w'.cell? ⟨gb197, 0, none⟩ = some (.int .i64 a0_0) ∧ w'.cell? ⟨gb197, 1, none⟩ = some (.int .i64 a0_1) ∧ w'.cell? ⟨gb198, 0, none⟩ = some (.int .i64 a1_0) ∧ w'.cell? ⟨gb198, 1, none⟩ = some (.int .i64 a1_1)) (ds := [4, 5]) #[false, false, false, false, false, false] (by kernel_rfl) rfl rfl ⟨hcz BK197 0, hcz BK197 1, hcz BK198 0, hcz BK198 1⟩ (fun hHeld => ?_)
  generalize w8.drew = w9 at BK197 BK198 BK199 HB hHeld ⊢
  refine take_ (i := 0) (N := some 5) (v := ?_) (a' := ?_) #[true, false, false, false, false, false] rfl rfl (by kernel_rfl) (fun _ _ _ h => h) (Or.inl ⟨by rfl, ?_⟩) hHeld ?_ ?_
  rotate_left
  ·
   rintro w' ⟨s0, s1, s2, s3⟩
   go_simp
   with_reducible rfl
  rotate_left
  ·
   simp only [Act.put, List.setIfInBounds_toArray, List.set_cons_zero, List.set_cons_succ, i64_w, i32_w]
   rfl
  refine take_ (i := 2) (N := some 7) (v := ?_) (a' := ?_) #[true, false, true, false, false, false] rfl rfl (by kernel_rfl) (fun _ _ _ h => h) (Or.inl ⟨by rfl, ?_⟩) hHeld ?_ ?_
  rotate_left
  ·
   rintro w' ⟨s0, s1, s2, s3⟩
   go_simp
   with_reducible rfl
  rotate_left
  ·
   simp only [Act.put, List.setIfInBounds_toArray, List.set_cons_zero, List.set_cons_succ, i64_w, i32_w]
   rfl
  refine one_ (i := 1) (N := some 6) #[true, true, true, false, false, false] rfl rfl (by kernel_rfl) (by decide) (fun K hK => ?_)
  refine goesQ Try.func59 #[.agg #[.int .i64 a0_0, .int .i64 a0_1]] ?_
  with_reducible refine (itv_sound.calls a0_0 a0_1 t200 t201 _ A3.out).mono ?_
  rintro e w10 ⟨rfl, hb⟩
  refine ⟨_, rfl, ?_⟩
  have n0_ := bst HB hb
  replace BK197 := bbw BK197 hb
  replace BK198 := bbw BK198 hb
  replace BK199 := bbw BK199 hb
  clear HB
  have HB := n0_
  clear n0_
  (try clear hb)
  (try clear hb2)
  (try clear hk)
  (try clear hi)
  refine hK.out _ _ ⟨hcz BK197 0, hcz BK197 1, hcz BK198 0, hcz BK198 1⟩ (fun hHeld => ?_)
  clear hK K
  refine normQ (N := 6) ?_
  refine one_ (i := 3) (N := some 8) #[true, true, true, true, false, false] rfl rfl (by kernel_rfl) (by decide) (fun K hK => ?_)
  refine goesQ Try.func59 #[.agg #[.int .i64 a1_0, .int .i64 a1_1]] ?_
  with_reducible refine (itv_sound.calls a1_0 a1_1 t202 t203 _ A4.out).mono ?_
  rintro e w11 ⟨rfl, hb⟩
  refine ⟨_, rfl, ?_⟩
  have n0_ := bst HB hb
  replace BK197 := bbw BK197 hb
  replace BK198 := bbw BK198 hb
  replace BK199 := bbw BK199 hb
  clear HB
  have HB := n0_
  clear n0_
  (try clear hb)
  (try clear hb2)
  (try clear hk)
  (try clear hi)
  refine hK.out _ _ ⟨hcz BK197 0, hcz BK197 1, hcz BK198 0, hcz BK198 1⟩ (fun hHeld => ?_)
  clear hK K
  refine normQ (N := 8) ?_
  refine last_ (i := 4) (N := none) #[true, true, true, true, true, false] rfl rfl (by kernel_rfl) (by decide) (fun K hK => ?_)
  have hs12 : w11.cell? ⟨gb197, 0, none⟩ = some (.int .i64 a0_0) := hcz BK197 0
  have hfs12 := blk_frozen BK197.out 0
  have hns12_1 := NB198_197.out
  have hns12_2 := NB199_197.out
  have hms12_1 := NB197_198.out
  have hms12_2 := NB197_199.out
  have hs13 : w11.cell? ⟨gb197, 1, none⟩ = some (.int .i64 a0_1) := hcz BK197 1
  have hfs13 := blk_frozen BK197.out 1
  have hns13_1 := NB198_197.out
  have hns13_2 := NB199_197.out
  have hms13_1 := NB197_198.out
  have hms13_2 := NB197_199.out
  refine skip_ (w1 := ?_) (by rfl) rfl ?_ ?_
  rotate_left
  ·
   go_simp
   rfl
  refine hK.out _ _ ?_
  clear hK K
  refine last_ (i := 5) (N := none) #[true, true, true, true, true, true] rfl rfl (by kernel_rfl) (by decide) (fun K hK => ?_)
  have hs14 : w11.cell? ⟨gb198, 0, none⟩ = some (.int .i64 a1_0) := hcz BK198 0
  have hfs14 := blk_frozen BK198.out 0
  have hns14_0 := NB197_198.out
  have hns14_2 := NB199_198.out
  have hms14_0 := NB198_197.out
  have hms14_2 := NB198_199.out
  have hs15 : w11.cell? ⟨gb198, 1, none⟩ = some (.int .i64 a1_1) := hcz BK198 1
  have hfs15 := blk_frozen BK198.out 1
  have hns15_0 := NB197_198.out
  have hns15_2 := NB199_198.out
  have hms15_0 := NB198_197.out
  have hms15_2 := NB198_199.out
  refine skip_ (w1 := ?_) (by rfl) rfl ?_ ?_
  rotate_left
  ·
   go_simp
   rfl
  refine hK.out _ _ ?_
  clear hK K
  refine done_ (by kernel_rfl) ?_
  go_upto_region 2 with (fail)
  go_cut [14] (fun v14 wc => ∃ (kq : Nat) (x14_4 : Bool), v14 = .bool x14_4 ∧ Aside0 (itv_Meet.j0 kq x14_4 t200 t201 t202 t203 = some (r1, r2)) ∧ Aside0 (kq ≤ k) ∧ Aside0 (wc.heap[gb197]? = some (.cells #[.int .i64 t200, .int .i64 t201] 23 (0, 0))) ∧ Aside0 (wc.heap[gb198]? = some (.cells #[.int .i64 t202, .int .i64 t203] 23 (0, 0))) ∧ Aside0 (wc.heap[gb199]? = some (.cells #[.int .i64 0, .int .i64 0] 23 (0, 0))) ∧ Aside0 (Below w.heap.size w wc))
  case first =>
   have H := HC5.out
   clear HC5
   replace H := Option.bind_eq_some_iff.mp H
   obtain ⟨t204, A160, H⟩ := H
   replace H : (if t204 = true then (itv_Meet.j0 k true t200 t201 t202 t203) else ((itv_None.f t202 t203).bind fun t205 => (itv_Meet.j0 k t205 t200 t201 t202 t203))) = some (r1, r2) := H
   have A16 := Aside0.mk A160
   clear A160
   by_cases c17 : t204 = true
   ·
    subst c17
    have H1 : (itv_Meet.j0 k true t200 t201 t202 t203) = some (r1, r2) := by rw [if_pos rfl] at H; exact H
    clear H
    have H := H1
    clear H1
    have H' := Aside0.mk H
    clear H
    have hnb18 := NB197_198.out
    have hnc18 := NB198_197.out
    have hnb19 := NB197_199.out
    have hnc19 := NB199_197.out
    have hcz20_0 := hcz BK197 0
    have hcz20_1 := hcz BK197 1
    have hfz20_0 := blk_frozen BK197.out 0
    have hfz20_1 := blk_frozen BK197.out 1
    go_wp2_with (first | ((with_reducible refine gate_callee (f := 21) rfl ?_); refine goesL_ (some 10) rfl rfl Try.func21 (by kernel_rfl) rfl #[.agg #[.int .i64 t200, .int .i64 t201]] rfl (by (try simp only [List.map_toArray, List.map_cons, List.map_nil]); first | done | rfl | (simp only [List.length_drop, List.length_take]; rfl)) ?_; (with_reducible refine (itv_None.calls t200 t201 true _ A16.out).mono ?_); rintro e w21 ⟨rfl, hb⟩; refine ⟨_, rfl, ?_⟩; have n0_ := Aside0.mk (blk_below (g := gb197) (o := .cells #[.int .i64 t200, .int .i64 t201] 23 (0, 0)) (by refine pkB ?_; refine blk_far ?_ NB197_198.out _; refine pkB ?_; refine blk_far ?_ NB197_198.out _; refine pkB ?_; refine blk_put (cs := #[.int .i64 t200, .int .i64 a0_1]) ?_ 1 _ (by first | rfl | (subst_vars; rfl)); refine pkB ?_; refine blk_put (cs := #[.int .i64 a0_0, .int .i64 a0_1]) ?_ 0 _ (by first | rfl | (subst_vars; rfl)); refine pkB ?_; exact BK197.out) hb); have n1_ := Aside0.mk (blk_below (g := gb198) (o := .cells #[.int .i64 t202, .int .i64 t203] 23 (0, 0)) (by refine pkB ?_; refine blk_put (cs := #[.int .i64 t202, .int .i64 a1_1]) ?_ 1 _ (by first | rfl | (subst_vars; rfl)); refine pkB ?_; refine blk_put (cs := #[.int .i64 a1_0, .int .i64 a1_1]) ?_ 0 _ (by first | rfl | (subst_vars; rfl)); refine pkB ?_; refine blk_far ?_ NB198_197.out _; refine pkB ?_; refine blk_far ?_ NB198_197.out _; refine pkB ?_; exact BK198.out) hb); have n2_ := Aside0.mk (blk_below (g := gb199) (o := .cells #[.int .i64 0, .int .i64 0] 23 (0, 0)) (by refine pkB ?_; refine blk_far ?_ NB199_198.out _; refine pkB ?_; refine blk_far ?_ NB199_198.out _; refine pkB ?_; refine blk_far ?_ NB199_197.out _; refine pkB ?_; refine blk_far ?_ NB199_197.out _; refine pkB ?_; exact BK199.out) hb); have n3_ := bst HB hb; clear BK197; clear BK198; clear BK199; clear HB; have BK197 := n0_; have BK198 := n1_; have BK199 := n2_; have HB := n3_; clear n0_ n1_ n2_ n3_; (try clear hb); (try clear hb2); (try clear hk); (try clear hi)))
    go_meet
    case rel => exact ⟨_, (true), (by first | rfl | (simp; done) | (simp [*]; done)), H', ⟨by first | omega | exact Nat.le_refl _⟩, pkA BK197, pkA BK198, pkA BK199, bpk HB⟩
   ·
    replace c17 := Bool.eq_false_iff.mpr c17
    subst c17
    have H1 : ((itv_None.f t202 t203).bind fun t205 => (itv_Meet.j0 k t205 t200 t201 t202 t203)) = some (r1, r2) := by rw [if_neg (show ¬ (false = true) by decide)] at H; exact H
    clear H
    have H := H1
    clear H1
    replace H := Option.bind_eq_some_iff.mp H
    obtain ⟨t205, A220, H⟩ := H
    replace H : (itv_Meet.j0 k t205 t200 t201 t202 t203) = some (r1, r2) := H
    have A22 := Aside0.mk A220
    clear A220
    have H' := Aside0.mk H
    clear H
    have hnb23 := NB197_198.out
    have hnc23 := NB198_197.out
    have hnb24 := NB197_199.out
    have hnc24 := NB199_197.out
    have hcz25_0 := hcz BK197 0
    have hcz25_1 := hcz BK197 1
    have hfz25_0 := blk_frozen BK197.out 0
    have hfz25_1 := blk_frozen BK197.out 1
    go_wp2_with (first | ((with_reducible refine gate_callee (f := 21) rfl ?_); refine goesL_ (some 10) rfl rfl Try.func21 (by kernel_rfl) rfl #[.agg #[.int .i64 t200, .int .i64 t201]] rfl (by (try simp only [List.map_toArray, List.map_cons, List.map_nil]); first | done | rfl | (simp only [List.length_drop, List.length_take]; rfl)) ?_; (with_reducible refine (itv_None.calls t200 t201 false _ A16.out).mono ?_); rintro e w26 ⟨rfl, hb⟩; refine ⟨_, rfl, ?_⟩; have n0_ := Aside0.mk (blk_below (g := gb197) (o := .cells #[.int .i64 t200, .int .i64 t201] 23 (0, 0)) (by refine pkB ?_; refine blk_far ?_ NB197_198.out _; refine pkB ?_; refine blk_far ?_ NB197_198.out _; refine pkB ?_; refine blk_put (cs := #[.int .i64 t200, .int .i64 a0_1]) ?_ 1 _ (by first | rfl | (subst_vars; rfl)); refine pkB ?_; refine blk_put (cs := #[.int .i64 a0_0, .int .i64 a0_1]) ?_ 0 _ (by first | rfl | (subst_vars; rfl)); refine pkB ?_; exact BK197.out) hb); have n1_ := Aside0.mk (blk_below (g := gb198) (o := .cells #[.int .i64 t202, .int .i64 t203] 23 (0, 0)) (by refine pkB ?_; refine blk_put (cs := #[.int .i64 t202, .int .i64 a1_1]) ?_ 1 _ (by first | rfl | (subst_vars; rfl)); refine pkB ?_; refine blk_put (cs := #[.int .i64 a1_0, .int .i64 a1_1]) ?_ 0 _ (by first | rfl | (subst_vars; rfl)); refine pkB ?_; refine blk_far ?_ NB198_197.out _; refine pkB ?_; refine blk_far ?_ NB198_197.out _; refine pkB ?_; exact BK198.out) hb); have n2_ := Aside0.mk (blk_below (g := gb199) (o := .cells #[.int .i64 0, .int .i64 0] 23 (0, 0)) (by refine pkB ?_; refine blk_far ?_ NB199_198.out _; refine pkB ?_; refine blk_far ?_ NB199_198.out _; refine pkB ?_; refine blk_far ?_ NB199_197.out _; refine pkB ?_; refine blk_far ?_ NB199_197.out _; refine pkB ?_; exact BK199.out) hb); have n3_ := bst HB hb; clear BK197; clear BK198; clear BK199; clear HB; have BK197 := n0_; have BK198 := n1_; have BK199 := n2_; have HB := n3_; clear n0_ n1_ n2_ n3_; (try clear hb); (try clear hb2); (try clear hk); (try clear hi); have hnb27 := NB198_199.out; have hnc27 := NB199_198.out; have hcz28_0 := hcz BK198 0; have hcz28_1 := hcz BK198 1; have hfz28_0 := blk_frozen BK198.out 0; have hfz28_1 := blk_frozen BK198.out 1) | (go_at_call 21; (with_reducible refine (itv_None.calls t202 t203 t205 _ A22.out).mono ?_); rintro e w29 ⟨rfl, hb⟩; have n0_ := bst HB hb; replace BK197 := bbw BK197 hb; replace BK198 := bbw BK198 hb; replace BK199 := bbw BK199 hb; clear HB; have HB := n0_; clear n0_; (try clear hb); (try clear hb2); (try clear hk); (try clear hi)))
    go_meet
    case rel => exact ⟨_, (t205), (by first | rfl | (simp; done) | (simp [*]; done)), H', ⟨by first | omega | exact Nat.le_refl _⟩, pkA BK197, pkA BK198, pkA BK199, bpk HB⟩
  case rest =>
   clear HC5
   try clear c1
   try clear c2
   try clear p2
   try clear c5
   try clear c17
   try clear c18
   try clear c19
   try clear c21
   try clear c23
   try clear c24
   try clear c27
   try clear c28
   try clear hcz20_0
   try clear hcz20_1
   try clear hcz25_0
   try clear hcz25_1
   try clear hcz28_0
   try clear hcz28_1
   try clear hfz20_0
   try clear hfz20_1
   try clear hfz25_0
   try clear hfz25_1
   try clear hfz28_0
   try clear hfz28_1
   obtain ⟨kq, x14_4, rfl, HA, HJ4, BK197, BK198, BK199, HB⟩ := hcut
   cases kq with
   | zero => exact absurd HA.out (by simp [itv_Meet.j0])
   | succ kj4 =>
    have H := HA.out
    clear HA
    simp only [itv_Meet.j0] at H
    by_cases c30 : x14_4 = true
    ·
     subst c30
     have H1 : ((itv_Empty.f).bind fun bt206 => (some (bt206.1, bt206.2))) = some (r1, r2) := by rw [if_pos rfl] at H; exact H
     clear H
     have H := H1
     clear H1
     replace H := Option.bind_eq_some_iff.mp H
     obtain ⟨⟨t206, t207⟩, A310, H⟩ := H
     replace H : (some (t206, t207)) = some (r1, r2) := H
     have A31 := Aside0.mk A310
     clear A310
     simp only [Option.some.injEq, Prod.mk.injEq] at H
     obtain ⟨rfl, rfl⟩ := H
     go_wp2_with (first | ((with_reducible refine gate_callee (f := 15) rfl ?_); refine goesL_ (some 15) rfl rfl Try.func15 (by kernel_rfl) rfl #[] rfl (by (try simp only [List.map_toArray, List.map_cons, List.map_nil]); first | done | rfl | (simp only [List.length_drop, List.length_take]; rfl)) ?_; (with_reducible refine (itv_Empty.calls  t206 t207 _ A31.out).mono ?_); rintro e w32 ⟨rfl, hb⟩; refine ⟨_, rfl, ?_⟩; have n0_ := bst HB hb; replace BK197 := bbw BK197 hb; replace BK198 := bbw BK198 hb; replace BK199 := bbw BK199 hb; clear HB; have HB := n0_; clear n0_; (try clear hb); (try clear hb2); (try clear hk); (try clear hi); have hnb33 := NB199_197.out; have hnc33 := NB197_199.out; have hnb34 := NB199_198.out; have hnc34 := NB198_199.out; have hcz35_0 := hcz BK199 0; have hcz35_1 := hcz BK199 1; have hfz35_0 := blk_frozen BK199.out 0; have hfz35_1 := blk_frozen BK199.out 1))
     refine bodyPost_ret (results_cell_row rfl _ _ gb199 23 #[.int .i64 t206, .int .i64 t207] (0, 0) _ rfl (by refine pkB ?_; refine blk_put (cs := #[.int .i64 t206, .int .i64 0]) ?_ 1 _ (by first | rfl | (subst_vars; rfl)); refine pkB ?_; refine blk_put (cs := #[.int .i64 0, .int .i64 0]) ?_ 0 _ (by first | rfl | (subst_vars; rfl)); refine pkB ?_; exact BK199.out) Try.underlying23 rfl (by kernel_rfl)) rfl ?_
     exact ⟨by first | rfl | (simp [errW_none, errW_some] <;> rfl) | (simp [*, errW_none, errW_some] <;> rfl) | kernel_rfl, by repeat (first | (with_reducible first | exact HB.out | apply below_alloc | apply pw_below_drewN | apply below_drew1 | refine below_set ?_ GE197.out | refine below_set ?_ GE198.out | refine below_set ?_ GE199.out) | exact HB.out)⟩
    ·
     replace c30 := Bool.eq_false_iff.mpr c30
     subst c30
     have H1 : ((itv_Of.f (mx t200 t202) (mn t201 t203)).bind fun bt208 => (some (bt208.1, bt208.2))) = some (r1, r2) := by rw [if_neg (show ¬ (false = true) by decide)] at H; exact H
     clear H
     have H := H1
     clear H1
     obtain ⟨ji36, hji36⟩ : ∃ j_ : Int, (mx t200 t202) = j_ := ⟨_, rfl⟩
     replace H : ((itv_Of.f (ji36) (mn t201 t203)).bind fun bt208 => (some (bt208.1, bt208.2))) = some (r1, r2) := by first | (rw [hji36] at H; exact H) | (simp only [hji36] at H ⊢; exact H)
     have hji36_ : (if t200 < t202 then t202 else t200) = ji36 := hji36
     obtain ⟨ji37, hji37⟩ : ∃ j_ : Int, (mn t201 t203) = j_ := ⟨_, rfl⟩
     replace H : ((itv_Of.f (ji36) (ji37)).bind fun bt208 => (some (bt208.1, bt208.2))) = some (r1, r2) := by first | (rw [hji37] at H; exact H) | (simp only [hji37] at H ⊢; exact H)
     have hji37_ : (if t203 < t201 then t203 else t201) = ji37 := hji37
     replace H := Option.bind_eq_some_iff.mp H
     obtain ⟨⟨t208, t209⟩, A380, H⟩ := H
     replace H : (some (t208, t209)) = some (r1, r2) := H
     have A38 := Aside0.mk A380
     clear A380
     simp only [Option.some.injEq, Prod.mk.injEq] at H
     obtain ⟨rfl, rfl⟩ := H
     have hnb39 := NB197_198.out
     have hnc39 := NB198_197.out
     have hnb40 := NB197_199.out
     have hnc40 := NB199_197.out
     have hcz41_0 := hcz BK197 0
     have hcz41_1 := hcz BK197 1
     have hfz41_0 := blk_frozen BK197.out 0
     have hfz41_1 := blk_frozen BK197.out 1
     have hnb42 := NB198_199.out
     have hnc42 := NB199_198.out
     have hcz43_0 := hcz BK198 0
     have hcz43_1 := hcz BK198 1
     have hfz43_0 := blk_frozen BK198.out 0
     have hfz43_1 := blk_frozen BK198.out 1
     go_wp2_with (first | ((with_reducible refine gate_callee (f := 13) rfl ?_); refine goesL_ (some 26) rfl rfl Try.func13 (by kernel_rfl) rfl #[.int .i64 ji36, .int .i64 ji37] rfl (by (try simp only [List.map_toArray, List.map_cons, List.map_nil]); first | done | (simp only [hji36, hji37]; rfl) | rfl | (simp only [List.length_drop, List.length_take]; rfl)) ?_; (with_reducible refine (itv_Of.calls ji36 ji37 t208 t209 _ A38.out).mono ?_); rintro e w44 ⟨rfl, hb⟩; refine ⟨_, rfl, ?_⟩; have n0_ := bst HB hb; replace BK197 := bbw BK197 hb; replace BK198 := bbw BK198 hb; replace BK199 := bbw BK199 hb; clear HB; have HB := n0_; clear n0_; (try clear hb); (try clear hb2); (try clear hk); (try clear hi); have hcz45_0 := hcz BK199 0; have hcz45_1 := hcz BK199 1; have hfz45_0 := blk_frozen BK199.out 0; have hfz45_1 := blk_frozen BK199.out 1))
     refine bodyPost_ret (results_cell_row rfl _ _ gb199 23 #[.int .i64 t208, .int .i64 t209] (0, 0) _ rfl (by refine pkB ?_; refine blk_put (cs := #[.int .i64 t208, .int .i64 0]) ?_ 1 _ (by first | rfl | (subst_vars; rfl)); refine pkB ?_; refine blk_put (cs := #[.int .i64 0, .int .i64 0]) ?_ 0 _ (by first | rfl | (subst_vars; rfl)); refine pkB ?_; exact BK199.out) Try.underlying23 rfl (by kernel_rfl)) rfl ?_
     exact ⟨by first | rfl | (simp [errW_none, errW_some] <;> rfl) | (simp only [← hji36, ← hji37]; first | rfl | (simp [errW_none, errW_some] <;> rfl)) | (simp [*, errW_none, errW_some] <;> rfl) | kernel_rfl, by repeat (first | (with_reducible first | exact HB.out | apply below_alloc | apply pw_below_drewN | apply below_drew1 | refine below_set ?_ GE197.out | refine below_set ?_ GE198.out | refine below_set ?_ GE199.out) | exact HB.out)⟩
end Go.Proofs.Ytbbnpipmjadpoaa.P
