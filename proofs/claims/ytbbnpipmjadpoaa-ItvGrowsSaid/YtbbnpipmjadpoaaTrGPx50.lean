/- What the law's proof needs of Px50. -/
import Derived.Test.YtbbnpipmjadpoaaTrGU3
import Derived.Test.YtbbnpipmjadpoaaTrGU
import Derived.Test.YtbbnpipmjadpoaaTrGPx0
import Derived.Test.YtbbnpipmjadpoaaTrGPx2
import Derived.Test.YtbbnpipmjadpoaaTrGPx3
import Derived.Test.YtbbnpipmjadpoaaTrGPx49
-- PRINTED by print.py (a twelfth state) out of the translation. Not trusted: Lean checks it.
namespace Go.Proofs.Ytbbnpipmjadpoaa.P
open Go.RowKit Go.Proofs.YtbbnpipmjadpoaaW.PrintWords Go.Proofs.YtbbnpipmjadpoaaW.PrintLast Go.Proofs.YtbbnpipmjadpoaaW.PrintMore Go.Proofs.YtbbnpipmjadpoaaO
attribute [local go_sem] max2_int min2_int max_two min_two max_three min_three max_four min_four   -- for this text's walks alone
set_option linter.unusedVariables false
set_option linter.unusedSimpArgs false
def itv_both_itv_Mod_1.j0 : Nat → Bool → Int → Int → Int → Int → Option (Int × Int)
  | 0, _, _, _, _, _ => none
  | k + 1, x16, x1094000, x1094001, x1095000, x1095001 => if x16 = true then ((itv_Empty.f).bind fun bt1102 => (some (bt1102.1, bt1102.2))) else ((itv_Mod_1.f k x1094000 x1094001 x1095000 x1095001).bind fun bt1104 => (some (bt1104.1, bt1104.2)))
def itv_both_itv_Mod_1.f (k : Nat) (a0_0 : Int) (a0_1 : Int) (a1_0 : Int) (a1_1 : Int)  : Option (Int × Int) := (itv_sound.f a0_0 a0_1).bind fun bt1096 => ((itv_sound.f a1_0 a1_1).bind fun bt1098 => ((itv_None.f bt1096.1 bt1096.2).bind fun t1100 => (if t1100 = true then (itv_both_itv_Mod_1.j0 k true bt1096.1 bt1096.2 bt1098.1 bt1098.2) else ((itv_None.f bt1098.1 bt1098.2).bind fun t1101 => (itv_both_itv_Mod_1.j0 k t1101 bt1096.1 bt1096.2 bt1098.1 bt1098.2)))))
set_option maxHeartbeats 8000000 in
set_option maxRecDepth 100000 in
theorem itv_both_itv_Mod_1.calls (k : Nat) (a0_0 : Int) (a0_1 : Int) (a1_0 : Int) (a1_1 : Int)  (r1 : Int) (r2 : Int) (w : World) (h : itv_both_itv_Mod_1.f k a0_0 a0_1 a1_0 a1_1 = some (r1, r2)) :
    Calls Try.prog 73 #[.agg #[.int .i64 a0_0, .int .i64 a0_1], .agg #[.int .i64 a1_0, .int .i64 a1_1], .func (.func 91) #[] #[]] w fun e w' => e = .returned (.agg #[.int .i64 r1, .int .i64 r2]) ∧ Below w.heap.size w w' := by
  have hu23 := Try.underlying23
  have HB := Aside0.mk (Below.refl w.heap.size w)
  have H : ((itv_sound.f a0_0 a0_1).bind fun bt1096 => ((itv_sound.f a1_0 a1_1).bind fun bt1098 => ((itv_None.f bt1096.1 bt1096.2).bind fun t1100 => (if t1100 = true then (itv_both_itv_Mod_1.j0 k true bt1096.1 bt1096.2 bt1098.1 bt1098.2) else ((itv_None.f bt1098.1 bt1098.2).bind fun t1101 => (itv_both_itv_Mod_1.j0 k t1101 bt1096.1 bt1096.2 bt1098.1 bt1098.2)))))) = some (r1, r2) := h
  clear h
  replace H := bnH H
  obtain ⟨⟨t1096, t1097⟩, A40, H⟩ := H
  replace H : ((itv_sound.f a1_0 a1_1).bind fun bt1098 => ((itv_None.f t1096 t1097).bind fun t1100 => (if t1100 = true then (itv_both_itv_Mod_1.j0 k true t1096 t1097 bt1098.1 bt1098.2) else ((itv_None.f bt1098.1 bt1098.2).bind fun t1101 => (itv_both_itv_Mod_1.j0 k t1101 t1096 t1097 bt1098.1 bt1098.2))))) = some (r1, r2) := H
  have A4 := Aside0.mk A40
  clear A40
  replace H := bnH H
  obtain ⟨⟨t1098, t1099⟩, A50, H⟩ := H
  replace H : ((itv_None.f t1096 t1097).bind fun t1100 => (if t1100 = true then (itv_both_itv_Mod_1.j0 k true t1096 t1097 t1098 t1099) else ((itv_None.f t1098 t1099).bind fun t1101 => (itv_both_itv_Mod_1.j0 k t1101 t1096 t1097 t1098 t1099)))) = some (r1, r2) := H
  have A5 := Aside0.mk A50
  clear A50
  have HC6 := Aside0.mk H
  clear H
  go_enter Try.func73, Try.ntmps73
  try go_wp2_with (first | ((with_reducible refine gate_dst (N := 3) rfl ?_); refine box_event ?hg (N := 3) ?hd (cs := #[.int .i64 a0_0, .int .i64 a0_1]) (t := 23) ?hr ?_; (case hd => rfl); (case hg => rfl); (case hr => first | (go_simp; done) | (go_simp; rfl)); intro gb1093 hg w7 hbox hb; have n0_ := bst HB hb; have n1_ := Aside0.mk (hbox); have n2_ := bsz HB hg; have n3_ := bsz HB hg; clear HB; have HB := n0_; have BK1093 := n1_; have GW1093 := n2_; have GE1093 := n3_; clear n0_ n1_ n2_ n3_; clear hb hbox hg) | ((with_reducible refine gate_dst (N := 4) rfl ?_); refine box_event ?hg (N := 4) ?hd (cs := #[.int .i64 a1_0, .int .i64 a1_1]) (t := 23) ?hr ?_; (case hd => rfl); (case hg => rfl); (case hr => first | (go_simp; done) | (go_simp; rfl)); intro gb1094 hg w8 hbox hb; have n0_ := bst HB hb; have n1_ := Aside0.mk (hbox); have n2_ := bsz HB hg; have n3_ := bsz HB hg; have n4_ := bn1 BK1093 hg; have n5_ := bn2 BK1093 hg; replace BK1093 := bbw BK1093 hb; clear HB; have HB := n0_; have BK1094 := n1_; have GW1094 := n2_; have GE1094 := n3_; have NB1093_1094 := n4_; have NB1094_1093 := n5_; clear n0_ n1_ n2_ n3_ n4_ n5_; clear hb hbox hg) | ((with_reducible refine gate_dst (N := 6) rfl ?_); refine box_event ?hg (N := 6) ?hd (cs := #[.int .i64 0, .int .i64 0]) (t := 23) ?hr ?_; (case hd => rfl); (case hg => rfl); (case hr => first | (go_simp; done) | (go_simp; rfl)); intro gb1095 hg w9 hbox hb; have n0_ := bst HB hb; have n1_ := Aside0.mk (hbox); have n2_ := bsz HB hg; have n3_ := bsz HB hg; have n4_ := bn1 BK1093 hg; have n5_ := bn2 BK1093 hg; have n6_ := bn1 BK1094 hg; have n7_ := bn2 BK1094 hg; replace BK1093 := bbw BK1093 hb; replace BK1094 := bbw BK1094 hb; clear HB; have HB := n0_; have BK1095 := n1_; have GW1095 := n2_; have GE1095 := n3_; have NB1093_1095 := n4_; have NB1095_1093 := n5_; have NB1094_1095 := n6_; have NB1095_1094 := n7_; clear n0_ n1_ n2_ n3_ n4_ n5_ n6_ n7_; clear hb hbox hg))
  have n0_ := Aside0.mk (blk_drew BK1093.out)
  have n1_ := Aside0.mk (blk_drew BK1094.out)
  have n2_ := Aside0.mk (blk_drew BK1095.out)
  have n3_ := Aside0.mk (below_drew1 HB.out)
  clear BK1093
  clear BK1094
  clear BK1095
  clear HB
  have BK1093 := n0_
  have BK1094 := n1_
  have BK1095 := n2_
  have HB := n3_
  clear n0_ n1_ n2_ n3_
  refine start_ (n := 6) (S := fun w' => w'.cell? ⟨gb1093, 0, none⟩ = some (.int .i64 a0_0) ∧ w'.cell? ⟨gb1093, 1, none⟩ = some (.int .i64 a0_1) ∧ w'.cell? ⟨gb1094, 0, none⟩ = some (.int .i64 a1_0) ∧ w'.cell? ⟨gb1094, 1, none⟩ = some (.int .i64 a1_1)) (ds := [4, 5]) #[false, false, false, false, false, false] (by kernel_rfl) rfl rfl ⟨hcz BK1093 0, hcz BK1093 1, hcz BK1094 0, hcz BK1094 1⟩ (fun hHeld => ?_)
  generalize w9.drew = w10 at BK1093 BK1094 BK1095 HB hHeld ⊢
  refine take_ (i := 0) (N := some 7) (v := ?_) (a' := ?_) #[true, false, false, false, false, false] rfl rfl (by kernel_rfl) (fun _ _ _ h => h) (Or.inl ⟨by rfl, ?_⟩) hHeld ?_ ?_
  rotate_left
  ·
   rintro w' ⟨s0, s1, s2, s3⟩
   go_simp
   with_reducible rfl
  rotate_left
  ·
   simp only [Act.put, List.setIfInBounds_toArray, List.set_cons_zero, List.set_cons_succ, i64_w, i32_w]
   rfl
  refine take_ (i := 2) (N := some 9) (v := ?_) (a' := ?_) #[true, false, true, false, false, false] rfl rfl (by kernel_rfl) (fun _ _ _ h => h) (Or.inl ⟨by rfl, ?_⟩) hHeld ?_ ?_
  rotate_left
  ·
   rintro w' ⟨s0, s1, s2, s3⟩
   go_simp
   with_reducible rfl
  rotate_left
  ·
   simp only [Act.put, List.setIfInBounds_toArray, List.set_cons_zero, List.set_cons_succ, i64_w, i32_w]
   rfl
  refine one_ (i := 1) (N := some 8) #[true, true, true, false, false, false] rfl rfl (by kernel_rfl) (by decide) (fun K hK => ?_)
  refine goesQ Try.func59 #[.agg #[.int .i64 a0_0, .int .i64 a0_1]] ?_
  with_reducible refine (itv_sound.calls a0_0 a0_1 t1096 t1097 _ A4.out).mono ?_
  rintro e w11 ⟨rfl, hb⟩
  refine ⟨_, rfl, ?_⟩
  have n0_ := bst HB hb
  replace BK1093 := bbw BK1093 hb
  replace BK1094 := bbw BK1094 hb
  replace BK1095 := bbw BK1095 hb
  clear HB
  have HB := n0_
  clear n0_
  (try clear hb)
  refine hK.out _ _ ⟨hcz BK1093 0, hcz BK1093 1, hcz BK1094 0, hcz BK1094 1⟩ (fun hHeld => ?_)
  clear hK K
  refine normQ (N := 8) ?_
  refine one_ (i := 3) (N := some 10) #[true, true, true, true, false, false] rfl rfl (by kernel_rfl) (by decide) (fun K hK => ?_)
  refine goesQ Try.func59 #[.agg #[.int .i64 a1_0, .int .i64 a1_1]] ?_
  with_reducible refine (itv_sound.calls a1_0 a1_1 t1098 t1099 _ A5.out).mono ?_
  rintro e w12 ⟨rfl, hb⟩
  refine ⟨_, rfl, ?_⟩
  have n0_ := bst HB hb
  replace BK1093 := bbw BK1093 hb
  replace BK1094 := bbw BK1094 hb
  replace BK1095 := bbw BK1095 hb
  clear HB
  have HB := n0_
  clear n0_
  (try clear hb)
  refine hK.out _ _ ⟨hcz BK1093 0, hcz BK1093 1, hcz BK1094 0, hcz BK1094 1⟩ (fun hHeld => ?_)
  clear hK K
  refine normQ (N := 10) ?_
  refine last_ (i := 4) (N := none) #[true, true, true, true, true, false] rfl rfl (by kernel_rfl) (by decide) (fun K hK => ?_)
  have hs13 : w12.cell? ⟨gb1093, 0, none⟩ = some (.int .i64 a0_0) := hcz BK1093 0
  have hfs13 := bfz BK1093 0
  have hns13_1 := NB1094_1093.out
  have hns13_2 := NB1095_1093.out
  have hms13_1 := NB1093_1094.out
  have hms13_2 := NB1093_1095.out
  have hs14 : w12.cell? ⟨gb1093, 1, none⟩ = some (.int .i64 a0_1) := hcz BK1093 1
  have hfs14 := bfz BK1093 1
  have hns14_1 := NB1094_1093.out
  have hns14_2 := NB1095_1093.out
  have hms14_1 := NB1093_1094.out
  have hms14_2 := NB1093_1095.out
  refine skip_ (w1 := ?_) (by rfl) rfl ?_ ?_
  rotate_left
  ·
   go_simp
   rfl
  refine hK.out _ _ ?_
  clear hK K
  refine last_ (i := 5) (N := none) #[true, true, true, true, true, true] rfl rfl (by kernel_rfl) (by decide) (fun K hK => ?_)
  have hs15 : w12.cell? ⟨gb1094, 0, none⟩ = some (.int .i64 a1_0) := hcz BK1094 0
  have hfs15 := bfz BK1094 0
  have hns15_0 := NB1093_1094.out
  have hns15_2 := NB1095_1094.out
  have hms15_0 := NB1094_1093.out
  have hms15_2 := NB1094_1095.out
  have hs16 : w12.cell? ⟨gb1094, 1, none⟩ = some (.int .i64 a1_1) := hcz BK1094 1
  have hfs16 := bfz BK1094 1
  have hns16_0 := NB1093_1094.out
  have hns16_2 := NB1095_1094.out
  have hms16_0 := NB1094_1093.out
  have hms16_2 := NB1094_1095.out
  refine skip_ (w1 := ?_) (by rfl) rfl ?_ ?_
  rotate_left
  ·
   go_simp
   rfl
  refine hK.out _ _ ?_
  clear hK K
  refine done_ (by kernel_rfl) ?_
  go_upto_region 2 with (fail)
  go_cut [16] (fun v16 wc => ∃ (kq : Nat) (x16_5 : Bool), v16 = .bool x16_5 ∧ Aside0 (itv_both_itv_Mod_1.j0 kq x16_5 t1096 t1097 t1098 t1099 = some (r1, r2)) ∧ Aside0 (kq ≤ k) ∧ Aside0 (wc.heap[gb1093]? = some (.cells #[.int .i64 t1096, .int .i64 t1097] 23 (0, 0))) ∧ Aside0 (wc.heap[gb1094]? = some (.cells #[.int .i64 t1098, .int .i64 t1099] 23 (0, 0))) ∧ Aside0 (wc.heap[gb1095]? = some (.cells #[.int .i64 0, .int .i64 0] 23 (0, 0))) ∧ Aside0 (Below w.heap.size w wc))
  case first =>
   have H := HC6.out
   clear HC6
   replace H := bnH H
   obtain ⟨t1100, A170, H⟩ := H
   replace H : (if t1100 = true then (itv_both_itv_Mod_1.j0 k true t1096 t1097 t1098 t1099) else ((itv_None.f t1098 t1099).bind fun t1101 => (itv_both_itv_Mod_1.j0 k t1101 t1096 t1097 t1098 t1099))) = some (r1, r2) := H
   have A17 := Aside0.mk A170
   clear A170
   by_cases c18 : t1100 = true
   ·
    subst c18
    have H1 : (itv_both_itv_Mod_1.j0 k true t1096 t1097 t1098 t1099) = some (r1, r2) := by rw [if_pos rfl] at H; exact H
    clear H
    have H := H1
    clear H1
    have H' := Aside0.mk H
    clear H
    have hnb19 := nn NB1093_1094 NB1094_1093
    have hnb20 := nn NB1093_1095 NB1095_1093
    have hcz21_0 := hcz BK1093 0
    have hcz21_1 := hcz BK1093 1
    have hfz21_0 := bfz BK1093 0
    have hfz21_1 := bfz BK1093 1
    go_wp2_with (first | ((with_reducible refine gate_callee (f := 21) rfl ?_); refine goesL_ (some 12) rfl rfl Try.func21 (by kernel_rfl) rfl #[.agg #[.int .i64 t1096, .int .i64 t1097]] rfl (by (try simp only [List.map_toArray, List.map_cons, List.map_nil]); first | done | rfl | (simp only [List.length_drop, List.length_take]; rfl)) ?_; (with_reducible refine (itv_None.calls t1096 t1097 true _ A17.out).mono ?_); rintro e w22 ⟨rfl, hb⟩; refine ⟨_, rfl, ?_⟩; have n0_ := Aside0.mk (blk_below (g := gb1093) (o := .cells #[.int .i64 t1096, .int .i64 t1097] 23 (0, 0)) (by refine pkB ?_; refine blk_far ?_ NB1093_1094.out _; refine pkB ?_; refine blk_far ?_ NB1093_1094.out _; refine pkB ?_; refine bput (cs := #[.int .i64 t1096, .int .i64 a0_1]) 1 ?_; refine bput (cs := #[.int .i64 a0_0, .int .i64 a0_1]) 0 ?_; exact BK1093.out) hb); have n1_ := Aside0.mk (blk_below (g := gb1094) (o := .cells #[.int .i64 t1098, .int .i64 t1099] 23 (0, 0)) (by refine pkB ?_; refine bput (cs := #[.int .i64 t1098, .int .i64 a1_1]) 1 ?_; refine bput (cs := #[.int .i64 a1_0, .int .i64 a1_1]) 0 ?_; refine blk_far ?_ NB1094_1093.out _; refine pkB ?_; refine blk_far ?_ NB1094_1093.out _; refine pkB ?_; exact BK1094.out) hb); have n2_ := bbF BK1095 hb; have n3_ := bst HB hb; clear BK1093; clear BK1094; clear BK1095; clear HB; have BK1093 := n0_; have BK1094 := n1_; have BK1095 := n2_; have HB := n3_; clear n0_ n1_ n2_ n3_; (try clear hb)))
    go_meet
    case rel => exact ⟨_, (true), (by first | rfl | (simp; done) | (simp [*]; done)), H', ⟨by first | omega | exact Nat.le_refl _⟩, pkA BK1093, pkA BK1094, pkA BK1095, bpk HB⟩
   ·
    replace c18 := Bool.eq_false_iff.mpr c18
    subst c18
    have H1 : ((itv_None.f t1098 t1099).bind fun t1101 => (itv_both_itv_Mod_1.j0 k t1101 t1096 t1097 t1098 t1099)) = some (r1, r2) := by rw [if_neg (show ¬ (false = true) by decide)] at H; exact H
    clear H
    have H := H1
    clear H1
    replace H := bnH H
    obtain ⟨t1101, A230, H⟩ := H
    replace H : (itv_both_itv_Mod_1.j0 k t1101 t1096 t1097 t1098 t1099) = some (r1, r2) := H
    have A23 := Aside0.mk A230
    clear A230
    have H' := Aside0.mk H
    clear H
    have hnb24 := nn NB1093_1094 NB1094_1093
    have hnb25 := nn NB1093_1095 NB1095_1093
    have hcz26_0 := hcz BK1093 0
    have hcz26_1 := hcz BK1093 1
    have hfz26_0 := bfz BK1093 0
    have hfz26_1 := bfz BK1093 1
    go_wp2_with (first | ((with_reducible refine gate_callee (f := 21) rfl ?_); refine goesL_ (some 12) rfl rfl Try.func21 (by kernel_rfl) rfl #[.agg #[.int .i64 t1096, .int .i64 t1097]] rfl (by (try simp only [List.map_toArray, List.map_cons, List.map_nil]); first | done | rfl | (simp only [List.length_drop, List.length_take]; rfl)) ?_; (with_reducible refine (itv_None.calls t1096 t1097 false _ A17.out).mono ?_); rintro e w27 ⟨rfl, hb⟩; refine ⟨_, rfl, ?_⟩; have n0_ := Aside0.mk (blk_below (g := gb1093) (o := .cells #[.int .i64 t1096, .int .i64 t1097] 23 (0, 0)) (by refine pkB ?_; refine blk_far ?_ NB1093_1094.out _; refine pkB ?_; refine blk_far ?_ NB1093_1094.out _; refine pkB ?_; refine bput (cs := #[.int .i64 t1096, .int .i64 a0_1]) 1 ?_; refine bput (cs := #[.int .i64 a0_0, .int .i64 a0_1]) 0 ?_; exact BK1093.out) hb); have n1_ := Aside0.mk (blk_below (g := gb1094) (o := .cells #[.int .i64 t1098, .int .i64 t1099] 23 (0, 0)) (by refine pkB ?_; refine bput (cs := #[.int .i64 t1098, .int .i64 a1_1]) 1 ?_; refine bput (cs := #[.int .i64 a1_0, .int .i64 a1_1]) 0 ?_; refine blk_far ?_ NB1094_1093.out _; refine pkB ?_; refine blk_far ?_ NB1094_1093.out _; refine pkB ?_; exact BK1094.out) hb); have n2_ := bbF BK1095 hb; have n3_ := bst HB hb; clear BK1093; clear BK1094; clear BK1095; clear HB; have BK1093 := n0_; have BK1094 := n1_; have BK1095 := n2_; have HB := n3_; clear n0_ n1_ n2_ n3_; (try clear hb); have hnb28 := nn NB1094_1095 NB1095_1094; have hcz29_0 := hcz BK1094 0; have hcz29_1 := hcz BK1094 1; have hfz29_0 := bfz BK1094 0; have hfz29_1 := bfz BK1094 1) | (go_at_call 21; (with_reducible refine (itv_None.calls t1098 t1099 t1101 _ A23.out).mono ?_); rintro e w30 ⟨rfl, hb⟩; have n0_ := bst HB hb; replace BK1093 := bbw BK1093 hb; replace BK1094 := bbw BK1094 hb; replace BK1095 := bbw BK1095 hb; clear HB; have HB := n0_; clear n0_; (try clear hb)))
    go_meet
    case rel => exact ⟨_, (t1101), (by first | rfl | (simp; done) | (simp [*]; done)), H', ⟨by first | omega | exact Nat.le_refl _⟩, pkA BK1093, pkA BK1094, pkA BK1095, bpk HB⟩
  case rest =>
   clear HC6
   try clear c1
   try clear c2
   try clear p2
   try clear c5
   try clear c9
   try clear c18
   try clear c19
   try clear c20
   try clear c21
   try clear c24
   try clear c25
   try clear c28
   try clear hcz21_0
   try clear hcz21_1
   try clear hcz26_0
   try clear hcz26_1
   try clear hcz29_0
   try clear hcz29_1
   try clear hfz21_0
   try clear hfz21_1
   try clear hfz26_0
   try clear hfz26_1
   try clear hfz29_0
   try clear hfz29_1
   obtain ⟨kq, x16_5, rfl, HA, HJ5, BK1093, BK1094, BK1095, HB⟩ := hcut
   cases kq with
   | zero => exact absurd HA.out (by simp [itv_both_itv_Mod_1.j0])
   | succ kj5 =>
    have H := HA.out
    clear HA
    simp only [itv_both_itv_Mod_1.j0] at H
    by_cases c31 : x16_5 = true
    ·
     subst c31
     have H1 : ((itv_Empty.f).bind fun bt1102 => (some (bt1102.1, bt1102.2))) = some (r1, r2) := by rw [if_pos rfl] at H; exact H
     clear H
     have H := H1
     clear H1
     replace H := bnH H
     obtain ⟨⟨t1102, t1103⟩, A320, H⟩ := H
     replace H : (some (t1102, t1103)) = some (r1, r2) := H
     have A32 := Aside0.mk A320
     clear A320
     simp only [Option.some.injEq, Prod.mk.injEq] at H
     obtain ⟨rfl, rfl⟩ := H
     go_wp2_with (first | ((with_reducible refine gate_callee (f := 15) rfl ?_); refine goesL_ (some 17) rfl rfl Try.func15 (by kernel_rfl) rfl #[] rfl (by (try simp only [List.map_toArray, List.map_cons, List.map_nil]); first | done | rfl | (simp only [List.length_drop, List.length_take]; rfl)) ?_; (with_reducible refine (itv_Empty.calls  t1102 t1103 _ A32.out).mono ?_); rintro e w33 ⟨rfl, hb⟩; refine ⟨_, rfl, ?_⟩; have n0_ := bst HB hb; replace BK1093 := bbw BK1093 hb; replace BK1094 := bbw BK1094 hb; replace BK1095 := bbw BK1095 hb; clear HB; have HB := n0_; clear n0_; (try clear hb); have hnb34 := nn NB1095_1093 NB1093_1095; have hnb35 := nn NB1095_1094 NB1094_1095; have hcz36_0 := hcz BK1095 0; have hcz36_1 := hcz BK1095 1; have hfz36_0 := bfz BK1095 0; have hfz36_1 := bfz BK1095 1))
     refine bodyPost_ret (results_cell_row rfl _ _ gb1095 23 #[.int .i64 t1102, .int .i64 t1103] (0, 0) _ rfl (by refine pkB ?_; refine bput (cs := #[.int .i64 t1102, .int .i64 0]) 1 ?_; refine bput (cs := #[.int .i64 0, .int .i64 0]) 0 ?_; exact BK1095.out) Try.underlying23 rfl (by kernel_rfl)) rfl ?_
     exact ⟨by first | rfl | (simp [errW_none, errW_some] <;> rfl) | (simp [*, errW_none, errW_some] <;> rfl) | kernel_rfl, (bpk HB).out⟩
    ·
     replace c31 := Bool.eq_false_iff.mpr c31
     subst c31
     have H1 : ((itv_Mod_1.f kj5 t1096 t1097 t1098 t1099).bind fun bt1104 => (some (bt1104.1, bt1104.2))) = some (r1, r2) := by rw [if_neg (show ¬ (false = true) by decide)] at H; exact H
     clear H
     have H := H1
     clear H1
     replace H := bnH H
     obtain ⟨⟨t1104, t1105⟩, A370, H⟩ := H
     replace H : (some (t1104, t1105)) = some (r1, r2) := H
     have A37 := Aside0.mk A370
     clear A370
     simp only [Option.some.injEq, Prod.mk.injEq] at H
     obtain ⟨rfl, rfl⟩ := H
     have hnb38 := nn NB1093_1094 NB1094_1093
     have hnb39 := nn NB1093_1095 NB1095_1093
     have hcz40_0 := hcz BK1093 0
     have hcz40_1 := hcz BK1093 1
     have hfz40_0 := bfz BK1093 0
     have hfz40_1 := bfz BK1093 1
     have hnb41 := nn NB1094_1095 NB1095_1094
     have hcz42_0 := hcz BK1094 0
     have hcz42_1 := hcz BK1094 1
     have hfz42_0 := bfz BK1094 0
     have hfz42_1 := bfz BK1094 1
     go_wp2_with (first | (go_at_call 91; (with_reducible refine (itv_Mod_1.calls kj5 t1096 t1097 t1098 t1099 t1104 t1105 _ A37.out).mono ?_); rintro e w43 ⟨rfl, hb⟩; have n0_ := bst HB hb; replace BK1093 := bbw BK1093 hb; replace BK1094 := bbw BK1094 hb; replace BK1095 := bbw BK1095 hb; clear HB; have HB := n0_; clear n0_; (try clear hb); have hcz44_0 := hcz BK1095 0; have hcz44_1 := hcz BK1095 1; have hfz44_0 := bfz BK1095 0; have hfz44_1 := bfz BK1095 1))
     refine bodyPost_ret (results_cell_row rfl _ _ gb1095 23 #[.int .i64 t1104, .int .i64 t1105] (0, 0) _ rfl (by refine pkB ?_; refine bput (cs := #[.int .i64 t1104, .int .i64 0]) 1 ?_; refine bput (cs := #[.int .i64 0, .int .i64 0]) 0 ?_; exact BK1095.out) Try.underlying23 rfl (by kernel_rfl)) rfl ?_
     exact ⟨by first | rfl | (simp [errW_none, errW_some] <;> rfl) | (simp [*, errW_none, errW_some] <;> rfl) | kernel_rfl, (bpk HB).out⟩
def itv_Mod.f (k : Nat) (a0_0 : Int) (a0_1 : Int) (a1_0 : Int) (a1_1 : Int) : Option (Int × Int) := (itv_both_itv_Mod_1.f k a0_0 a0_1 a1_0 a1_1).bind fun bt1109 => (some (bt1109.1, bt1109.2))
set_option maxHeartbeats 8000000 in
set_option maxRecDepth 100000 in
theorem itv_Mod.calls (k : Nat) (a0_0 : Int) (a0_1 : Int) (a1_0 : Int) (a1_1 : Int) (r1 : Int) (r2 : Int) (w : World) (h : itv_Mod.f k a0_0 a0_1 a1_0 a1_1 = some (r1, r2)) :
    Calls Try.prog 56 #[.agg #[.int .i64 a0_0, .int .i64 a0_1], .agg #[.int .i64 a1_0, .int .i64 a1_1]] w fun e w' => e = .returned (.agg #[.int .i64 r1, .int .i64 r2]) ∧ Below w.heap.size w w' := by
  have hu23 := Try.underlying23
  have HB := Aside0.mk (Below.refl w.heap.size w)
  have H : ((itv_both_itv_Mod_1.f k a0_0 a0_1 a1_0 a1_1).bind fun bt1109 => (some (bt1109.1, bt1109.2))) = some (r1, r2) := h
  clear h
  replace H := bnH H
  obtain ⟨⟨t1109, t1110⟩, A30, H⟩ := H
  replace H : (some (t1109, t1110)) = some (r1, r2) := H
  have A3 := Aside0.mk A30
  clear A30
  simp only [Option.some.injEq, Prod.mk.injEq] at H
  obtain ⟨rfl, rfl⟩ := H
  go_enter Try.func56, Try.ntmps56
  go_wp2_with (first | ((with_reducible refine gate_dst (N := 2) rfl ?_); refine box_event ?hg (N := 2) ?hd (cs := #[.int .i64 a0_0, .int .i64 a0_1]) (t := 23) ?hr ?_; (case hd => rfl); (case hg => rfl); (case hr => first | (go_simp; done) | (go_simp; rfl)); intro gb1106 hg w4 hbox hb; have n0_ := bst HB hb; have n1_ := Aside0.mk (hbox); have n2_ := bsz HB hg; have n3_ := bsz HB hg; clear HB; have HB := n0_; have BK1106 := n1_; have GW1106 := n2_; have GE1106 := n3_; clear n0_ n1_ n2_ n3_; clear hb hbox hg) | ((with_reducible refine gate_dst (N := 3) rfl ?_); refine box_event ?hg (N := 3) ?hd (cs := #[.int .i64 a1_0, .int .i64 a1_1]) (t := 23) ?hr ?_; (case hd => rfl); (case hg => rfl); (case hr => first | (go_simp; done) | (go_simp; rfl)); intro gb1107 hg w5 hbox hb; have n0_ := bst HB hb; have n1_ := Aside0.mk (hbox); have n2_ := bsz HB hg; have n3_ := bsz HB hg; have n4_ := bn1 BK1106 hg; have n5_ := bn2 BK1106 hg; replace BK1106 := bbw BK1106 hb; clear HB; have HB := n0_; have BK1107 := n1_; have GW1107 := n2_; have GE1107 := n3_; have NB1106_1107 := n4_; have NB1107_1106 := n5_; clear n0_ n1_ n2_ n3_ n4_ n5_; clear hb hbox hg) | ((with_reducible refine gate_dst (N := 4) rfl ?_); refine box_event ?hg (N := 4) ?hd (cs := #[.int .i64 0, .int .i64 0]) (t := 23) ?hr ?_; (case hd => rfl); (case hg => rfl); (case hr => first | (go_simp; done) | (go_simp; rfl)); intro gb1108 hg w6 hbox hb; have n0_ := bst HB hb; have n1_ := Aside0.mk (hbox); have n2_ := bsz HB hg; have n3_ := bsz HB hg; have n4_ := bn1 BK1106 hg; have n5_ := bn2 BK1106 hg; have n6_ := bn1 BK1107 hg; have n7_ := bn2 BK1107 hg; replace BK1106 := bbw BK1106 hb; replace BK1107 := bbw BK1107 hb; clear HB; have HB := n0_; have BK1108 := n1_; have GW1108 := n2_; have GE1108 := n3_; have NB1106_1108 := n4_; have NB1108_1106 := n5_; have NB1107_1108 := n6_; have NB1108_1107 := n7_; clear n0_ n1_ n2_ n3_ n4_ n5_ n6_ n7_; clear hb hbox hg; have hnb7 := nn NB1106_1107 NB1107_1106; have hnb8 := nn NB1106_1108 NB1108_1106; have hcz9_0 := hcz BK1106 0; have hcz9_1 := hcz BK1106 1; have hfz9_0 := bfz BK1106 0; have hfz9_1 := bfz BK1106 1; have hnb10 := nn NB1107_1108 NB1108_1107; have hcz11_0 := hcz BK1107 0; have hcz11_1 := hcz BK1107 1; have hfz11_0 := bfz BK1107 0; have hfz11_1 := bfz BK1107 1) | ((with_reducible refine gate_callee (f := 73) rfl ?_); refine goesL_ (some 7) rfl rfl Try.func73 (by kernel_rfl) rfl #[.agg #[.int .i64 a0_0, .int .i64 a0_1], .agg #[.int .i64 a1_0, .int .i64 a1_1], .func (.func 91) #[] #[]] rfl (by (try simp only [List.map_toArray, List.map_cons, List.map_nil]); first | done | rfl | (simp only [List.length_drop, List.length_take]; rfl)) ?_; (with_reducible refine (itv_both_itv_Mod_1.calls k a0_0 a0_1 a1_0 a1_1  t1109 t1110 _ A3.out).mono ?_); rintro e w12 ⟨rfl, hb⟩; refine ⟨_, rfl, ?_⟩; have n0_ := bst HB hb; replace BK1106 := bbw BK1106 hb; replace BK1107 := bbw BK1107 hb; replace BK1108 := bbw BK1108 hb; clear HB; have HB := n0_; clear n0_; (try clear hb); have hcz13_0 := hcz BK1108 0; have hcz13_1 := hcz BK1108 1; have hfz13_0 := bfz BK1108 0; have hfz13_1 := bfz BK1108 1))
  refine bodyPost_ret (results_cell_row rfl _ _ gb1108 23 #[.int .i64 t1109, .int .i64 t1110] (0, 0) _ rfl (by refine pkB ?_; refine bput (cs := #[.int .i64 t1109, .int .i64 0]) 1 ?_; refine bput (cs := #[.int .i64 0, .int .i64 0]) 0 ?_; exact BK1108.out) Try.underlying23 rfl (by kernel_rfl)) rfl ?_
  exact ⟨by first | rfl | (simp [errW_none, errW_some] <;> rfl) | (simp [*, errW_none, errW_some] <;> rfl) | kernel_rfl, (bpk HB).out⟩
end Go.Proofs.Ytbbnpipmjadpoaa.P
