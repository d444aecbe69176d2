/- What the law's proof needs of Px60. -/
import Derived.Test.YtbbnpipmjadpoaaTrHU2
import Derived.Test.YtbbnpipmjadpoaaTrHU
import Derived.Test.YtbbnpipmjadpoaaTrHPx0
import Derived.Test.YtbbnpipmjadpoaaTrHPx1
import Derived.Test.YtbbnpipmjadpoaaTrHPx13
import Derived.Test.YtbbnpipmjadpoaaTrHPx15
import Derived.Test.YtbbnpipmjadpoaaTrHPx16
import Derived.Test.YtbbnpipmjadpoaaTrHPx17
-- PRINTED by print.py (a twelfth state) out of the translation. Not trusted: Lean checks it.
namespace Go.Proofs.Ytbbnpipmjadpoaa.P
open Go.RowKit Go.Proofs.YtbbnpipmjadpoaaW.PrintWords Go.Proofs.YtbbnpipmjadpoaaW.PrintLast Go.Proofs.YtbbnpipmjadpoaaW.PrintMore Go.Proofs.YtbbnpipmjadpoaaO
attribute [local go_sem] max2_int min2_int max_two min_two max_three min_three max_four min_four   -- for this text's walks alone
set_option linter.unusedVariables false
set_option linter.unusedSimpArgs false
attribute [local go_sem high] eqA23
mutual
def gimballaw02_ItvTruth.l0 : Nat → Int → Bool → Int → Int → Int → Int → Int → Bool → Int → Int → Bool → Int → Int → Option (Bool)
  | 0, _, _, _, _, _, _, _, _, _, _, _, _, _ => none
  | k + 1, x7, x10, x11, x319000, x319001, x320000, x320001, x325000, x325001, x325002, x326000, x326001, x326002 => if x11 ≤ x319001 then (gimballaw02_ItvTruth.l1 k x7 x10 x11 x320000 x319000 x319001 x320000 x320001 x325000 x325001 x325002 x326000 x326001 x326002) else ((itv_Test.f k x7 x319000 x319001 x320000 x320001).bind fun bt333 => ((itv_Holds.f k x7 x319000 x319001 x320000 x320001).bind fun bt339 => ((gimballaw02_whole_itv.f x325000 x325001 x325002).bind fun bt341 => (if (bt333.1 == bt341.1 && (bt333.2.1 == bt341.2.1)) = true then ((gimballaw02_whole_itv.f x326000 x326001 x326002).bind fun bt346 => (if (bt333.2.2.1 == bt346.1 && (bt333.2.2.2 == bt346.2.1)) = true then (if (bt339.1 == bt341.2.2.1) = true then (some (bt339.2 == x10)) else (some false)) else (some false))) else (some false)))))
def gimballaw02_ItvTruth.l1 : Nat → Int → Bool → Int → Int → Int → Int → Int → Int → Bool → Int → Int → Bool → Int → Int → Option (Bool)
  | 0, _, _, _, _, _, _, _, _, _, _, _, _, _, _ => none
  | k + 1, x7, x10, x11, x12, x319000, x319001, x320000, x320001, x325000, x325001, x325002, x326000, x326001, x326002 => if x12 ≤ x320001 then ((gimballaw02_holds.f x7 x11 x12).bind fun t326 => (if t326 = true then ((gimballaw02_whole_put.f k x325000 x325001 x325002 x11).bind fun bt327 => ((gimballaw02_whole_put.f k x326000 x326001 x326002 x12).bind fun bt330 => (gimballaw02_ItvTruth.l1 k x7 x10 x11 (wrap64 (x12 + 1)) x319000 x319001 x320000 x320001 bt327.1 bt327.2.1 bt327.2.2 bt330.1 bt330.2.1 bt330.2.2))) else (gimballaw02_ItvTruth.l1 k x7 true x11 (wrap64 (x12 + 1)) x319000 x319001 x320000 x320001 x325000 x325001 x325002 x326000 x326001 x326002))) else (gimballaw02_ItvTruth.l0 k x7 x10 (wrap64 (x11 + 1)) x319000 x319001 x320000 x320001 x325000 x325001 x325002 x326000 x326001 x326002)
end
def gimballaw02_ItvTruth.f (k : Nat) (a0 : Int) (a1_0 : Int) (a1_1 : Int) (a2_0 : Int) (a2_1 : Int) : Option (Bool) := (gimballaw02_small.f a1_0 a1_1).bind fun bt320 => ((gimballaw02_small.f a2_0 a2_1).bind fun bt322 => (gimballaw02_ItvTruth.l0 k (wrap64 (14 + (wrap64 (Int.tmod (IntKind.u64.wrap (a0)) 6)))) false bt320.1 bt320.1 bt320.2 bt322.1 bt322.2 false 0 0 false 0 0))
def gimballaw02_ItvTruth.T18 : Bool × List (List Nat × List Nat) := (true, [([], []), ([], []), ([0, 1], [0, 1]), ([2, 1], [2]), ([3], [3]), ([3, 3], [3]), ([4, 5, 3], [3, 4, 5]), ([3, 6], [3, 6]), ([7, 5], [7]), ([8], [8]), ([8], [8]), ([10, 8], [8, 10]), ([9, 11, 8], [8, 9, 11]), ([8, 12], [8, 12]), ([13, 8], [13]), ([14], [14]), ([14], [14]), ([15, 16, 14], [14, 15, 16]), ([14, 17], [14, 17]), ([18, 14, 0, 1, 2, 3, 4, 5, 6, 7, 8, 9, 10, 11, 12, 13, 14, 15, 16, 17, 18], [18])])
def gimballaw02_ItvTruth.B18 : List Nat := [0, 0, 3, 7, 15, 15, 63, 127, 255, 511, 511, 1535, 4095, 8191, 16383, 32767, 32767, 131071, 262143, 524287]
theorem gimballaw02_ItvTruth.tab18 : rtab .any (opsOf Try.f5 18) = gimballaw02_ItvTruth.T18 := by kernel_rfl
theorem gimballaw02_ItvTruth.bits18 : waitsOk gimballaw02_ItvTruth.T18.2 gimballaw02_ItvTruth.B18 = true := by kernel_rfl
set_option maxHeartbeats 8000000 in
set_option maxRecDepth 100000 in
theorem gimballaw02_ItvTruth.calls (k : Nat) (a0 : Int) (a1_0 : Int) (a1_1 : Int) (a2_0 : Int) (a2_1 : Int) (w : World) (h : gimballaw02_ItvTruth.f k a0 a1_0 a1_1 a2_0 a2_1 = some true) :
    Calls Try.prog 5 #[.int .i64 a0, .agg #[.int .i64 a1_0, .int .i64 a1_1], .agg #[.int .i64 a2_0, .int .i64 a2_1]] w fun e w' => e = .returned (.bool true) ∧ Below w.heap.size w w' := by
  have hu23 := Try.underlying23
  have hu35 := Try.underlying35
  have HB := Aside0.mk (Below.refl w.heap.size w)
  have H : ((gimballaw02_small.f a1_0 a1_1).bind fun bt320 => ((gimballaw02_small.f a2_0 a2_1).bind fun bt322 => (gimballaw02_ItvTruth.l0 k (wrap64 (14 + (wrap64 (Int.tmod (IntKind.u64.wrap (a0)) 6)))) false bt320.1 bt320.1 bt320.2 bt322.1 bt322.2 false 0 0 false 0 0))) = some true := h
  clear h
  replace H := Option.bind_eq_some_iff.mp H
  obtain ⟨⟨t320, t321⟩, A40, H⟩ := H
  replace H : ((gimballaw02_small.f a2_0 a2_1).bind fun bt322 => (gimballaw02_ItvTruth.l0 k (wrap64 (14 + (wrap64 (Int.tmod (IntKind.u64.wrap (a0)) 6)))) false t320 t320 t321 bt322.1 bt322.2 false 0 0 false 0 0)) = some true := H
  have A4 := Aside0.mk A40
  clear A40
  replace H := Option.bind_eq_some_iff.mp H
  obtain ⟨⟨t322, t323⟩, A50, H⟩ := H
  replace H : (gimballaw02_ItvTruth.l0 k (wrap64 (14 + (wrap64 (Int.tmod (IntKind.u64.wrap (a0)) 6)))) false t320 t320 t321 t322 t323 false 0 0 false 0 0) = some true := H
  have A5 := Aside0.mk A50
  clear A50
  have H' := Aside0.mk H
  clear H
  go_enter Try.func5, Try.ntmps5
  go_wp2_with (first | ((with_reducible refine gate_dst (N := 4) rfl ?_); refine box_event ?hg (N := 4) ?hd (cs := #[.int .i64 a1_0, .int .i64 a1_1]) (t := 23) ?hr ?_; (case hd => rfl); (case hg => rfl); (case hr => first | (go_simp; done) | (go_simp; rfl)); intro gb318 hg w6 hbox hb; have n0_ := bst HB hb; have n1_ := Aside0.mk (hbox); have n2_ := bsz HB hg; have n3_ := bsz HB hg; clear HB; have HB := n0_; have BK318 := n1_; have GW318 := n2_; have GE318 := n3_; clear n0_ n1_ n2_ n3_; clear hb hbox hg) | ((with_reducible refine gate_dst (N := 5) rfl ?_); refine box_event ?hg (N := 5) ?hd (cs := #[.int .i64 a2_0, .int .i64 a2_1]) (t := 23) ?hr ?_; (case hd => rfl); (case hg => rfl); (case hr => first | (go_simp; done) | (go_simp; rfl)); intro gb319 hg w7 hbox hb; have n0_ := bst HB hb; have n1_ := Aside0.mk (hbox); have n2_ := bsz HB hg; have n3_ := bsz HB hg; have n4_ := bn1 BK318 hg; have n5_ := bn2 BK318 hg; replace BK318 := bbw BK318 hb; clear HB; have HB := n0_; have BK319 := n1_; have GW319 := n2_; have GE319 := n3_; have NB318_319 := n4_; have NB319_318 := n5_; clear n0_ n1_ n2_ n3_ n4_ n5_; clear hb hbox hg; have hnb8 := NB318_319.out; have hnc8 := NB319_318.out; have hcz9_0 := hcz BK318 0; have hcz9_1 := hcz BK318 1; have hfz9_0 := blk_frozen BK318.out 0; have hfz9_1 := blk_frozen BK318.out 1) | ((with_reducible refine gate_callee (f := 30) rfl ?_); refine goesL_ (some 23) rfl rfl Try.func30 (by kernel_rfl) rfl #[.agg #[.int .i64 a1_0, .int .i64 a1_1]] rfl (by (try simp only [List.map_toArray, List.map_cons, List.map_nil]); first | done | rfl | (simp only [List.length_drop, List.length_take]; rfl)) ?_; (with_reducible refine (gimballaw02_small.calls a1_0 a1_1 t320 t321 _ A4.out).mono ?_); rintro e w10 ⟨rfl, hb⟩; refine ⟨_, rfl, ?_⟩; have n0_ := bst HB hb; replace BK318 := bbw BK318 hb; replace BK319 := bbw BK319 hb; clear HB; have HB := n0_; clear n0_; (try clear hb); (try clear hb2); (try clear hk); (try clear hi); have hcz11_0 := hcz BK318 0; have hcz11_1 := hcz BK318 1; have hfz11_0 := blk_frozen BK318.out 0; have hfz11_1 := blk_frozen BK318.out 1; have hcz12_0 := hcz BK319 0; have hcz12_1 := hcz BK319 1; have hfz12_0 := blk_frozen BK319.out 0; have hfz12_1 := blk_frozen BK319.out 1) | ((with_reducible refine gate_callee (f := 30) rfl ?_); refine goesL_ (some 25) rfl rfl Try.func30 (by kernel_rfl) rfl #[.agg #[.int .i64 a2_0, .int .i64 a2_1]] rfl (by (try simp only [List.map_toArray, List.map_cons, List.map_nil]); first | done | rfl | (simp only [List.length_drop, List.length_take]; rfl)) ?_; (with_reducible refine (gimballaw02_small.calls a2_0 a2_1 t322 t323 _ A5.out).mono ?_); rintro e w13 ⟨rfl, hb⟩; refine ⟨_, rfl, ?_⟩; have n0_ := Aside0.mk (blk_below (g := gb318) (o := .cells #[.int .i64 t320, .int .i64 t321] 23 (0, 0)) (by refine pkB ?_; refine blk_put (cs := #[.int .i64 t320, .int .i64 a1_1]) ?_ 1 _ (by first | rfl | (subst_vars; rfl)); refine pkB ?_; refine blk_put (cs := #[.int .i64 a1_0, .int .i64 a1_1]) ?_ 0 _ (by first | rfl | (subst_vars; rfl)); refine pkB ?_; exact BK318.out) hb); have n1_ := Aside0.mk (blk_below (g := gb319) (o := .cells #[.int .i64 a2_0, .int .i64 a2_1] 23 (0, 0)) (by refine pkB ?_; refine blk_far ?_ NB319_318.out _; refine pkB ?_; refine blk_far ?_ NB319_318.out _; refine pkB ?_; exact BK319.out) hb); have n2_ := bst HB hb; clear BK318; clear BK319; clear HB; have BK318 := n0_; have BK319 := n1_; have HB := n2_; clear n0_ n1_ n2_; (try clear hb); (try clear hb2); (try clear hk); (try clear hi); have hcz14_0 := hcz BK319 0; have hcz14_1 := hcz BK319 1; have hfz14_0 := blk_frozen BK319.out 0; have hfz14_1 := blk_frozen BK319.out 1) | ((with_reducible refine gate_dst (N := 8) rfl ?_); refine box_event ?hg (N := 8) ?hd (cs := #[.bool false, .int .i64 0, .int .i64 0]) (t := 35) ?hr ?_; (case hd => rfl); (case hg => rfl); (case hr => first | (go_simp; done) | (go_simp; rfl)); intro gb324 hg w15 hbox hb; have n0_ := Aside0.mk (blk_below (g := gb318) (o := .cells #[.int .i64 t320, .int .i64 t321] 23 (0, 0)) (by refine pkB ?_; refine blk_far ?_ NB318_319.out _; refine pkB ?_; refine blk_far ?_ NB318_319.out _; refine pkB ?_; exact BK318.out) hb); have n1_ := Aside0.mk (blk_below (g := gb319) (o := .cells #[.int .i64 t322, .int .i64 t323] 23 (0, 0)) (by refine pkB ?_; refine blk_put (cs := #[.int .i64 t322, .int .i64 a2_1]) ?_ 1 _ (by first | rfl | (subst_vars; rfl)); refine pkB ?_; refine blk_put (cs := #[.int .i64 a2_0, .int .i64 a2_1]) ?_ 0 _ (by first | rfl | (subst_vars; rfl)); refine pkB ?_; exact BK319.out) hb); have n2_ := bst HB hb; have n3_ := Aside0.mk (hbox); have n4_ := bsz HB hg; have n5_ := bsz HB hg; have n6_ := Aside0.mk ((by rw [hg]; exact Nat.ne_of_lt (blk_lt (g := gb318) (o := .cells #[.int .i64 t320, .int .i64 t321] 23 (0, 0)) (by refine pkB ?_; refine blk_far ?_ NB318_319.out _; refine pkB ?_; refine blk_far ?_ NB318_319.out _; refine pkB ?_; exact BK318.out)) : gb318 ≠ gb324)); have n7_ := Aside0.mk ((by rw [hg]; exact Nat.ne_of_gt (blk_lt (g := gb318) (o := .cells #[.int .i64 t320, .int .i64 t321] 23 (0, 0)) (by refine pkB ?_; refine blk_far ?_ NB318_319.out _; refine pkB ?_; refine blk_far ?_ NB318_319.out _; refine pkB ?_; exact BK318.out)) : gb324 ≠ gb318)); have n8_ := Aside0.mk ((by rw [hg]; exact Nat.ne_of_lt (blk_lt (g := gb319) (o := .cells #[.int .i64 t322, .int .i64 t323] 23 (0, 0)) (by refine pkB ?_; refine blk_put (cs := #[.int .i64 t322, .int .i64 a2_1]) ?_ 1 _ (by first | rfl | (subst_vars; rfl)); refine pkB ?_; refine blk_put (cs := #[.int .i64 a2_0, .int .i64 a2_1]) ?_ 0 _ (by first | rfl | (subst_vars; rfl)); refine pkB ?_; exact BK319.out)) : gb319 ≠ gb324)); have n9_ := Aside0.mk ((by rw [hg]; exact Nat.ne_of_gt (blk_lt (g := gb319) (o := .cells #[.int .i64 t322, .int .i64 t323] 23 (0, 0)) (by refine pkB ?_; refine blk_put (cs := #[.int .i64 t322, .int .i64 a2_1]) ?_ 1 _ (by first | rfl | (subst_vars; rfl)); refine pkB ?_; refine blk_put (cs := #[.int .i64 a2_0, .int .i64 a2_1]) ?_ 0 _ (by first | rfl | (subst_vars; rfl)); refine pkB ?_; exact BK319.out)) : gb324 ≠ gb319)); clear BK318; clear BK319; clear HB; have BK318 := n0_; have BK319 := n1_; have HB := n2_; have BK324 := n3_; have GW324 := n4_; have GE324 := n5_; have NB318_324 := n6_; have NB324_318 := n7_; have NB319_324 := n8_; have NB324_319 := n9_; clear n0_ n1_ n2_ n3_ n4_ n5_ n6_ n7_ n8_ n9_; clear hb hbox hg) | ((with_reducible refine gate_dst (N := 9) rfl ?_); refine box_event ?hg (N := 9) ?hd (cs := #[.bool false, .int .i64 0, .int .i64 0]) (t := 35) ?hr ?_; (case hd => rfl); (case hg => rfl); (case hr => first | (go_simp; done) | (go_simp; rfl)); intro gb325 hg w16 hbox hb; have n0_ := bst HB hb; have n1_ := Aside0.mk (hbox); have n2_ := bsz HB hg; have n3_ := bsz HB hg; have n4_ := bn1 BK318 hg; have n5_ := bn2 BK318 hg; have n6_ := bn1 BK319 hg; have n7_ := bn2 BK319 hg; have n8_ := bn1 BK324 hg; have n9_ := bn2 BK324 hg; replace BK318 := bbw BK318 hb; replace BK319 := bbw BK319 hb; replace BK324 := bbw BK324 hb; clear HB; have HB := n0_; have BK325 := n1_; have GW325 := n2_; have GE325 := n3_; have NB318_325 := n4_; have NB325_318 := n5_; have NB319_325 := n6_; have NB325_319 := n7_; have NB324_325 := n8_; have NB325_324 := n9_; clear n0_ n1_ n2_ n3_ n4_ n5_ n6_ n7_ n8_ n9_; clear hb hbox hg; have hnb17 := NB318_324.out; have hnc17 := NB324_318.out; have hnb18 := NB318_325.out; have hnc18 := NB325_318.out; have hcz19_0 := hcz BK318 0; have hcz19_1 := hcz BK318 1; have hfz19_0 := blk_frozen BK318.out 0; have hfz19_1 := blk_frozen BK318.out 1))
  go_loopg [10, 11] k (fun kq v10 v11 w' => ∃ (x10_1 : Bool) (x11_1 : Int) (x325000_1 : Bool) (x325001_1 : Int) (x325002_1 : Int) (x326000_1 : Bool) (x326001_1 : Int) (x326002_1 : Int), v10 = .bool x10_1 ∧ v11 = .int .i64 x11_1 ∧ Aside0 (gimballaw02_ItvTruth.l0 kq (wrap64 (14 + (wrap64 (Int.tmod (IntKind.u64.wrap (a0)) 6)))) x10_1 x11_1 t320 t321 t322 t323 x325000_1 x325001_1 x325002_1 x326000_1 x326001_1 x326002_1 = some true) ∧ Aside0 (kq ≤ k) ∧ Aside0 (w'.heap[gb318]? = some (.cells #[.int .i64 t320, .int .i64 t321] 23 (0, 0))) ∧ Aside0 (w'.heap[gb319]? = some (.cells #[.int .i64 t322, .int .i64 t323] 23 (0, 0))) ∧ Aside0 (w'.heap[gb324]? = some (.cells #[.bool x325000_1, .int .i64 x325001_1, .int .i64 x325002_1] 35 (0, 0))) ∧ Aside0 (w'.heap[gb325]? = some (.cells #[.bool x326000_1, .int .i64 x326001_1, .int .i64 x326002_1] 35 (0, 0))) ∧ Aside0 (Below w.heap.size w w'))
  case atStart => exact ⟨(false), (t320), (false), (0), (0), (false), (0), (0), (by first | rfl | (simp; done) | (simp [*]; done)), (by first | rfl | (simp; done) | (simp [*]; done)), H', ⟨Nat.le_refl _⟩, pkA BK318, pkA BK319, pkA BK324, pkA BK325, bpk HB⟩
  case round =>
   clear H'
   try clear c1
   try clear p2
   try clear c3
   try clear c5
   try clear p6
   try clear c8
   try clear c17
   try clear c18
   try clear hcz11_0
   try clear hcz11_1
   try clear hcz12_0
   try clear hcz12_1
   try clear hcz14_0
   try clear hcz14_1
   try clear hcz19_0
   try clear hcz19_1
   try clear hcz9_0
   try clear hcz9_1
   try clear hfz11_0
   try clear hfz11_1
   try clear hfz12_0
   try clear hfz12_1
   try clear hfz14_0
   try clear hfz14_1
   try clear hfz19_0
   try clear hfz19_1
   try clear hfz9_0
   try clear hfz9_1
   obtain ⟨x10_1, x11_1, x325000_1, x325001_1, x325002_1, x326000_1, x326001_1, x326002_1, rfl, rfl, HA, HK1, BK318, BK319, BK324, BK325, HB⟩ := hrel
   cases gk with
   | zero => exact absurd HA.out (by simp [gimballaw02_ItvTruth.l0])
   | succ k1 =>
    have H := HA.out
    clear HA
    simp only [gimballaw02_ItvTruth.l0] at H
    by_cases c20 : x11_1 ≤ t321
    ·
     rw [if_pos c20] at H
     have c20b0 : decide (x11_1 ≤ t321) = true := decide_eq_true c20
     clear c20
     have H' := Aside0.mk H
     clear H
     have hnb21 := NB318_319.out
     have hnc21 := NB319_318.out
     have hnb22 := NB318_324.out
     have hnc22 := NB324_318.out
     have hnb23 := NB318_325.out
     have hnc23 := NB325_318.out
     have hcz24_0 := hcz BK318 0
     have hcz24_1 := hcz BK318 1
     have hfz24_0 := blk_frozen BK318.out 0
     have hfz24_1 := blk_frozen BK318.out 1
     have hnb25 := NB319_324.out
     have hnc25 := NB324_319.out
     have hnb26 := NB319_325.out
     have hnc26 := NB325_319.out
     have hcz27_0 := hcz BK319 0
     have hcz27_1 := hcz BK319 1
     have hfz27_0 := blk_frozen BK319.out 0
     have hfz27_1 := blk_frozen BK319.out 1
     go_wp2
     go_loopg [10, 12] k1 (fun kq v10 v12 w' => ∃ (x10_2 : Bool) (x12_2 : Int) (x325000_2 : Bool) (x325001_2 : Int) (x325002_2 : Int) (x326000_2 : Bool) (x326001_2 : Int) (x326002_2 : Int), v10 = .bool x10_2 ∧ v12 = .int .i64 x12_2 ∧ Aside0 (gimballaw02_ItvTruth.l1 kq (wrap64 (14 + (wrap64 (Int.tmod (IntKind.u64.wrap (a0)) 6)))) x10_2 x11_1 x12_2 t320 t321 t322 t323 x325000_2 x325001_2 x325002_2 x326000_2 x326001_2 x326002_2 = some true) ∧ Aside0 (kq ≤ k1) ∧ Aside0 (w'.heap[gb318]? = some (.cells #[.int .i64 t320, .int .i64 t321] 23 (0, 0))) ∧ Aside0 (w'.heap[gb319]? = some (.cells #[.int .i64 t322, .int .i64 t323] 23 (0, 0))) ∧ Aside0 (w'.heap[gb324]? = some (.cells #[.bool x325000_2, .int .i64 x325001_2, .int .i64 x325002_2] 35 (0, 0))) ∧ Aside0 (w'.heap[gb325]? = some (.cells #[.bool x326000_2, .int .i64 x326001_2, .int .i64 x326002_2] 35 (0, 0))) ∧ Aside0 (Below w.heap.size w w'))
     case atStart => exact ⟨(x10_1), (t322), (x325000_1), (x325001_1), (x325002_1), (x326000_1), (x326001_1), (x326002_1), (by first | rfl | (simp; done) | (simp [*]; done)), (by first | rfl | (simp; done) | (simp [*]; done)), H', ⟨Nat.le_refl _⟩, pkA BK318, pkA BK319, pkA BK324, pkA BK325, bpk HB⟩
     case round =>
      clear H'
      try clear c1
      try clear c2
      try clear p2
      try clear c3
      try clear c5
      try clear p6
      try clear c8
      try clear c17
      try clear c18
      try clear c20
      try clear c20b0
      try clear c21
      try clear c22
      try clear c23
      try clear c25
      try clear c26
      try clear hcz11_0
      try clear hcz11_1
      try clear hcz12_0
      try clear hcz12_1
      try clear hcz14_0
      try clear hcz14_1
      try clear hcz19_0
      try clear hcz19_1
      try clear hcz24_0
      try clear hcz24_1
      try clear hcz27_0
      try clear hcz27_1
      try clear hcz9_0
      try clear hcz9_1
      try clear hfz11_0
      try clear hfz11_1
      try clear hfz12_0
      try clear hfz12_1
      try clear hfz14_0
      try clear hfz14_1
      try clear hfz19_0
      try clear hfz19_1
      try clear hfz24_0
      try clear hfz24_1
      try clear hfz27_0
      try clear hfz27_1
      try clear hfz9_0
      try clear hfz9_1
      try clear p2
      try clear p6
      obtain ⟨x10_2, x12_2, x325000_2, x325001_2, x325002_2, x326000_2, x326001_2, x326002_2, rfl, rfl, HA, HK2, BK318, BK319, BK324, BK325, HB⟩ := hrel
      cases gk with
      | zero => exact absurd HA.out (by simp [gimballaw02_ItvTruth.l1])
      | succ k2 =>
       have H := HA.out
       clear HA
       simp only [gimballaw02_ItvTruth.l1] at H
       by_cases c28 : x12_2 ≤ t323
       ·
        rw [if_pos c28] at H
        have c28b0 : decide (x12_2 ≤ t323) = true := decide_eq_true c28
        clear c28
        replace H := Option.bind_eq_some_iff.mp H
        obtain ⟨t326, A290, H⟩ := H
        replace H : (if t326 = true then ((gimballaw02_whole_put.f k2 x325000_2 x325001_2 x325002_2 x11_1).bind fun bt327 => ((gimballaw02_whole_put.f k2 x326000_2 x326001_2 x326002_2 x12_2).bind fun bt330 => (gimballaw02_ItvTruth.l1 k2 (wrap64 (14 + (wrap64 (Int.tmod (IntKind.u64.wrap (a0)) 6)))) x10_2 x11_1 (wrap64 (x12_2 + 1)) t320 t321 t322 t323 bt327.1 bt327.2.1 bt327.2.2 bt330.1 bt330.2.1 bt330.2.2))) else (gimballaw02_ItvTruth.l1 k2 (wrap64 (14 + (wrap64 (Int.tmod (IntKind.u64.wrap (a0)) 6)))) true x11_1 (wrap64 (x12_2 + 1)) t320 t321 t322 t323 x325000_2 x325001_2 x325002_2 x326000_2 x326001_2 x326002_2)) = some true := H
        have A29 := Aside0.mk A290
        clear A290
        by_cases c30 : t326 = true
        ·
         subst c30
         have H1 : ((gimballaw02_whole_put.f k2 x325000_2 x325001_2 x325002_2 x11_1).bind fun bt327 => ((gimballaw02_whole_put.f k2 x326000_2 x326001_2 x326002_2 x12_2).bind fun bt330 => (gimballaw02_ItvTruth.l1 k2 (wrap64 (14 + (wrap64 (Int.tmod (IntKind.u64.wrap (a0)) 6)))) x10_2 x11_1 (wrap64 (x12_2 + 1)) t320 t321 t322 t323 bt327.1 bt327.2.1 bt327.2.2 bt330.1 bt330.2.1 bt330.2.2))) = some true := by rw [if_pos rfl] at H; exact H
         clear H
         have H := H1
         clear H1
         replace H := Option.bind_eq_some_iff.mp H
         obtain ⟨⟨t327, t328, t329⟩, A310, H⟩ := H
         replace H : ((gimballaw02_whole_put.f k2 x326000_2 x326001_2 x326002_2 x12_2).bind fun bt330 => (gimballaw02_ItvTruth.l1 k2 (wrap64 (14 + (wrap64 (Int.tmod (IntKind.u64.wrap (a0)) 6)))) x10_2 x11_1 (wrap64 (x12_2 + 1)) t320 t321 t322 t323 t327 t328 t329 bt330.1 bt330.2.1 bt330.2.2)) = some true := H
         have A31 := Aside0.mk A310
         clear A310
         replace H := Option.bind_eq_some_iff.mp H
         obtain ⟨⟨t330, t331, t332⟩, A320, H⟩ := H
         replace H : (gimballaw02_ItvTruth.l1 k2 (wrap64 (14 + (wrap64 (Int.tmod (IntKind.u64.wrap (a0)) 6)))) x10_2 x11_1 (wrap64 (x12_2 + 1)) t320 t321 t322 t323 t327 t328 t329 t330 t331 t332) = some true := H
         have A32 := Aside0.mk A320
         clear A320
         have H' := Aside0.mk H
         clear H
         have hnb33 := NB319_318.out
         have hnc33 := NB318_319.out
         have hnb34 := NB319_324.out
         have hnc34 := NB324_319.out
         have hnb35 := NB319_325.out
         have hnc35 := NB325_319.out
         have hcz36_0 := hcz BK319 0
         have hcz36_1 := hcz BK319 1
         have hfz36_0 := blk_frozen BK319.out 0
         have hfz36_1 := blk_frozen BK319.out 1
         go_wp2_with (first | ((with_reducible refine gate_callee (f := 31) rfl ?_); refine goesL_ (some 45) rfl rfl Try.func31 (by kernel_rfl) rfl #[.int .i64 (wrap64 (14 + (wrap64 (Int.tmod (IntKind.u64.wrap (a0)) 6)))), .int .i64 x11_1, .int .i64 x12_2] rfl (by (try simp only [List.map_toArray, List.map_cons, List.map_nil]); first | done | rfl | (simp only [List.length_drop, List.length_take]; rfl)) ?_; (with_reducible refine (gimballaw02_holds.calls (wrap64 (14 + (wrap64 (Int.tmod (IntKind.u64.wrap (a0)) 6)))) x11_1 x12_2 true _ A29.out).mono ?_); rintro e w' ⟨rfl, ⟨nd, rfl⟩⟩; refine ⟨_, rfl, ?_⟩) | ((with_reducible refine gate_callee (f := 32) rfl ?_); refine goesL_ (some 47) rfl rfl Try.func32 (by kernel_rfl) rfl #[.pointer (some ⟨gb324, 0, none⟩), .int .i64 x11_1] rfl (by (try simp only [List.map_toArray, List.map_cons, List.map_nil]); first | done | rfl | (simp only [List.length_drop, List.length_take]; rfl)) ?_; (with_reducible refine (gimballaw02_whole_put.calls k2 gb324 x325000_2 x325001_2 x325002_2 x11_1 t327 t328 t329 w _ ?side1 ?side2 A31.out).mono ?_); (case side1 => exact And.intro (pk BK324.out) GE324.out); (case side2 => repeat (first | (with_reducible first | exact HB.out | apply below_alloc | apply pw_below_drewN | apply below_drew1 | refine below_set ?_ (IsS35.ge HI324.out) | refine below_set ?_ GE318.out | refine below_set ?_ GE319.out | refine below_set ?_ GE325.out) | exact HB.out)); rintro e w37 ⟨rfl, hi, hb, hk⟩; refine ⟨_, rfl, ?_⟩; have n0_ := Aside0.mk (KeepBut.blk hk (g' := gb318) (o := .cells #[.int .i64 t320, .int .i64 t321] 23 (0, 0)) (pk BK318.out) NB318_324.out (by simp)); have n1_ := Aside0.mk (KeepBut.blk hk (g' := gb319) (o := .cells #[.int .i64 t322, .int .i64 t323] 23 (0, 0)) (pk BK319.out) NB319_324.out (by simp)); have n2_ := Aside0.mk (KeepBut.blk hk (g' := gb325) (o := .cells #[.bool x326000_2, .int .i64 x326001_2, .int .i64 x326002_2] 35 (0, 0)) (pk BK325.out) NB325_324.out (by simp)); have n3_ := Aside0.mk (hb); have n4_ := Aside0.mk ((hi).1); clear BK318; clear BK319; clear BK325; clear HB; clear BK324; have BK318 := n0_; have BK319 := n1_; have BK325 := n2_; have HB := n3_; have BK324 := n4_; clear n0_ n1_ n2_ n3_ n4_; (try clear hb); (try clear hb2); (try clear hk); (try clear hi)) | ((with_reducible refine gate_callee (f := 32) rfl ?_); refine goesL_ (some 49) rfl rfl Try.func32 (by kernel_rfl) rfl #[.pointer (some ⟨gb325, 0, none⟩), .int .i64 x12_2] rfl (by (try simp only [List.map_toArray, List.map_cons, List.map_nil]); first | done | rfl | (simp only [List.length_drop, List.length_take]; rfl)) ?_; (with_reducible refine (gimballaw02_whole_put.calls k2 gb325 x326000_2 x326001_2 x326002_2 x12_2 t330 t331 t332 w _ ?side1 ?side2 A32.out).mono ?_); (case side1 => exact And.intro (pk BK325.out) GE325.out); (case side2 => repeat (first | (with_reducible first | exact HB.out | apply below_alloc | apply pw_below_drewN | apply below_drew1 | refine below_set ?_ (IsS35.ge HI325.out) | refine below_set ?_ GE318.out | refine below_set ?_ GE319.out | refine below_set ?_ GE324.out) | exact HB.out)); rintro e w38 ⟨rfl, hi, hb, hk⟩; refine ⟨_, rfl, ?_⟩; have n0_ := Aside0.mk (KeepBut.blk hk (g' := gb318) (o := .cells #[.int .i64 t320, .int .i64 t321] 23 (0, 0)) (pk BK318.out) NB318_325.out (by simp)); have n1_ := Aside0.mk (KeepBut.blk hk (g' := gb319) (o := .cells #[.int .i64 t322, .int .i64 t323] 23 (0, 0)) (pk BK319.out) NB319_325.out (by simp)); have n2_ := Aside0.mk (KeepBut.blk hk (g' := gb324) (o := .cells #[.bool t327, .int .i64 t328, .int .i64 t329] 35 (0, 0)) (pk BK324.out) NB324_325.out (by simp)); have n3_ := Aside0.mk (hb); have n4_ := Aside0.mk ((hi).1); clear BK318; clear BK319; clear BK324; clear HB; clear BK325; have BK318 := n0_; have BK319 := n1_; have BK324 := n2_; have HB := n3_; have BK325 := n4_; clear n0_ n1_ n2_ n3_ n4_; (try clear hb); (try clear hb2); (try clear hk); (try clear hi)))
         go_roundg k2
         case measure => have := HK1.out; have := HK2.out; omega
         case rel => exact ⟨(x10_2), (wrap64 (x12_2 + 1)), (t327), (t328), (t329), (t330), (t331), (t332), (by first | rfl | (simp; done) | (simp [*]; done)), (by first | rfl | (simp; done) | (simp [*]; done)), H', ⟨by have := HK1.out; have := HK2.out; omega⟩, pkA BK318, pkA BK319, pkA BK324, pkA BK325, bpk HB⟩
        ·
         replace c30 := Bool.eq_false_iff.mpr c30
         subst c30
         have H1 : (gimballaw02_ItvTruth.l1 k2 (wrap64 (14 + (wrap64 (Int.tmod (IntKind.u64.wrap (a0)) 6)))) true x11_1 (wrap64 (x12_2 + 1)) t320 t321 t322 t323 x325000_2 x325001_2 x325002_2 x326000_2 x326001_2 x326002_2) = some true := by rw [if_neg (show ¬ (false = true) by decide)] at H; exact H
         clear H
         have H := H1
         clear H1
         have H' := Aside0.mk H
         clear H
         have hnb39 := NB319_318.out
         have hnc39 := NB318_319.out
         have hnb40 := NB319_324.out
         have hnc40 := NB324_319.out
         have hnb41 := NB319_325.out
         have hnc41 := NB325_319.out
         have hcz42_0 := hcz BK319 0
         have hcz42_1 := hcz BK319 1
         have hfz42_0 := blk_frozen BK319.out 0
         have hfz42_1 := blk_frozen BK319.out 1
         go_wp2_with (first | ((with_reducible refine gate_callee (f := 31) rfl ?_); refine goesL_ (some 45) rfl rfl Try.func31 (by kernel_rfl) rfl #[.int .i64 (wrap64 (14 + (wrap64 (Int.tmod (IntKind.u64.wrap (a0)) 6)))), .int .i64 x11_1, .int .i64 x12_2] rfl (by (try simp only [List.map_toArray, List.map_cons, List.map_nil]); first | done | rfl | (simp only [List.length_drop, List.length_take]; rfl)) ?_; (with_reducible refine (gimballaw02_holds.calls (wrap64 (14 + (wrap64 (Int.tmod (IntKind.u64.wrap (a0)) 6)))) x11_1 x12_2 false _ A29.out).mono ?_); rintro e w' ⟨rfl, ⟨nd, rfl⟩⟩; refine ⟨_, rfl, ?_⟩))
         go_roundg k2
         case measure => have := HK1.out; have := HK2.out; omega
         case rel => exact ⟨(true), (wrap64 (x12_2 + 1)), (x325000_2), (x325001_2), (x325002_2), (x326000_2), (x326001_2), (x326002_2), (by first | rfl | (simp; done) | (simp [*]; done)), (by first | rfl | (simp; done) | (simp [*]; done)), H', ⟨by have := HK1.out; have := HK2.out; omega⟩, pkA BK318, pkA BK319, pkA BK324, pkA BK325, bpk HB⟩
       ·
        rw [if_neg c28] at H
        have c28b0 : decide (x12_2 ≤ t323) = false := decide_eq_false c28
        clear c28
        have H' := Aside0.mk H
        clear H
        have hnb43 := NB319_318.out
        have hnc43 := NB318_319.out
        have hnb44 := NB319_324.out
        have hnc44 := NB324_319.out
        have hnb45 := NB319_325.out
        have hnc45 := NB325_319.out
        have hcz46_0 := hcz BK319 0
        have hcz46_1 := hcz BK319 1
        have hfz46_0 := blk_frozen BK319.out 0
        have hfz46_1 := blk_frozen BK319.out 1
        go_wp2
        go_roundg k2
        case measure => have := HK1.out; have := HK2.out; omega
        case rel => exact ⟨(x10_2), (wrap64 (x11_1 + 1)), (x325000_2), (x325001_2), (x325002_2), (x326000_2), (x326001_2), (x326002_2), (by first | rfl | (simp; done) | (simp [*]; done)), (by first | rfl | (simp; done) | (simp [*]; done)), H', ⟨by have := HK1.out; have := HK2.out; omega⟩, pkA BK318, pkA BK319, pkA BK324, pkA BK325, bpk HB⟩
    ·
     rw [if_neg c20] at H
     have c20b0 : decide (x11_1 ≤ t321) = false := decide_eq_false c20
     clear c20
     replace H := Option.bind_eq_some_iff.mp H
     obtain ⟨⟨t333, t334, t335, t336⟩, A470, H⟩ := H
     replace H : ((itv_Holds.f k1 (wrap64 (14 + (wrap64 (Int.tmod (IntKind.u64.wrap (a0)) 6)))) t320 t321 t322 t323).bind fun bt339 => ((gimballaw02_whole_itv.f x325000_1 x325001_1 x325002_1).bind fun bt341 => (if (t333 == bt341.1 && (t334 == bt341.2.1)) = true then ((gimballaw02_whole_itv.f x326000_1 x326001_1 x326002_1).bind fun bt346 => (if (t335 == bt346.1 && (t336 == bt346.2.1)) = true then (if (bt339.1 == bt341.2.2.1) = true then (some (bt339.2 == x10_1)) else (some false)) else (some false))) else (some false)))) = some true := H
     have A47 := Aside0.mk A470
     clear A470
     replace H := Option.bind_eq_some_iff.mp H
     obtain ⟨⟨t339, t340⟩, A480, H⟩ := H
     replace H : ((gimballaw02_whole_itv.f x325000_1 x325001_1 x325002_1).bind fun bt341 => (if (t333 == bt341.1 && (t334 == bt341.2.1)) = true then ((gimballaw02_whole_itv.f x326000_1 x326001_1 x326002_1).bind fun bt346 => (if (t335 == bt346.1 && (t336 == bt346.2.1)) = true then (if (t339 == bt341.2.2.1) = true then (some (t340 == x10_1)) else (some false)) else (some false))) else (some false))) = some true := H
     have A48 := Aside0.mk A480
     clear A480
     replace H := Option.bind_eq_some_iff.mp H
     obtain ⟨⟨t341, t342, t343, t344, t345⟩, A490, H⟩ := H
     obtain ⟨e0_, e1_, e2_⟩ : x325000_1 = t343 ∧ x325001_1 = t344 ∧ x325002_1 = t345 := by (have h_ := A490; unfold gimballaw02_whole_itv.f at h_; split at h_ <;> (simp only [Option.some.injEq, Prod.mk.injEq] at h_; exact ⟨h_.2.2.1, h_.2.2.2.1, h_.2.2.2.2⟩))
     subst e0_; subst e1_; subst e2_
     replace H : (if (t333 == t341 && (t334 == t342)) = true then ((gimballaw02_whole_itv.f x326000_1 x326001_1 x326002_1).bind fun bt346 => (if (t335 == bt346.1 && (t336 == bt346.2.1)) = true then (if (t339 == x325000_1) = true then (some (t340 == x10_1)) else (some false)) else (some false))) else (some false)) = some true := H
     have A49 := Aside0.mk A490
     clear A490
     by_cases c50 : (t333 == t341 && (t334 == t342)) = true
     ·
      rw [if_pos c50] at H
      have c50b0 : (t333 == t341 && (t334 == t342)) = true := c50
      (try (have c50b1 : decide (t333 = t341 && (t334 == t342)) = true := by simpa using c50))
      (try (have c50b2 : (t333 == t341 && (t334 == t342)) = true := by simpa using c50))
      clear c50
      replace H := Option.bind_eq_some_iff.mp H
      obtain ⟨⟨t346, t347, t348, t349, t350⟩, A510, H⟩ := H
      obtain ⟨e0_, e1_, e2_⟩ : x326000_1 = t348 ∧ x326001_1 = t349 ∧ x326002_1 = t350 := by (have h_ := A510; unfold gimballaw02_whole_itv.f at h_; split at h_ <;> (simp only [Option.some.injEq, Prod.mk.injEq] at h_; exact ⟨h_.2.2.1, h_.2.2.2.1, h_.2.2.2.2⟩))
      subst e0_; subst e1_; subst e2_
      replace H : (if (t335 == t346 && (t336 == t347)) = true then (if (t339 == x325000_1) = true then (some (t340 == x10_1)) else (some false)) else (some false)) = some true := H
      have A51 := Aside0.mk A510
      clear A510
      by_cases c52 : (t335 == t346 && (t336 == t347)) = true
      ·
       rw [if_pos c52] at H
       have c52b0 : (t335 == t346 && (t336 == t347)) = true := c52
       (try (have c52b1 : decide (t335 = t346 && (t336 == t347)) = true := by simpa using c52))
       (try (have c52b2 : (t335 == t346 && (t336 == t347)) = true := by simpa using c52))
       clear c52
       by_cases c53 : (t339 == x325000_1) = true
       ·
        rw [if_pos c53] at H
        have c53b0 : (t339 == x325000_1) = true := c53
        (try (have c53b1 : decide (t339 = x325000_1) = true := by simpa using c53))
        (try (have c53b2 : (t339 == x325000_1) = true := by simpa using c53))
        clear c53
        have hret_ := Option.some.inj H
        clear H
        have hnb54 := NB318_319.out
        have hnc54 := NB319_318.out
        have hnb55 := NB318_324.out
        have hnc55 := NB324_318.out
        have hnb56 := NB318_325.out
        have hnc56 := NB325_318.out
        have hcz57_0 := hcz BK318 0
        have hcz57_1 := hcz BK318 1
        have hfz57_0 := blk_frozen BK318.out 0
        have hfz57_1 := blk_frozen BK318.out 1
        have hnb58 := NB319_324.out
        have hnc58 := NB324_319.out
        have hnb59 := NB319_325.out
        have hnc59 := NB325_319.out
        have hcz60_0 := hcz BK319 0
        have hcz60_1 := hcz BK319 1
        have hfz60_0 := blk_frozen BK319.out 0
        have hfz60_1 := blk_frozen BK319.out 1
        try go_wp2_with (first | ((with_reducible refine gate_callee (f := 33) rfl ?_); refine goesL_ (some 54) rfl rfl Try.func33 (by kernel_rfl) rfl #[.int .i64 (wrap64 (14 + (wrap64 (Int.tmod (IntKind.u64.wrap (a0)) 6)))), .agg #[.int .i64 t320, .int .i64 t321], .agg #[.int .i64 t322, .int .i64 t323]] rfl (by (try simp only [List.map_toArray, List.map_cons, List.map_nil]); first | done | rfl | (simp only [List.length_drop, List.length_take]; rfl)) ?_; (with_reducible refine (itv_Test.calls k1 (wrap64 (14 + (wrap64 (Int.tmod (IntKind.u64.wrap (a0)) 6)))) t320 t321 t322 t323 t333 t334 t335 t336 _ A47.out).mono ?_); rintro e w61 ⟨rfl, hb⟩; refine ⟨_, rfl, ?_⟩; have n0_ := bst HB hb; replace BK318 := bbw BK318 hb; replace BK319 := bbw BK319 hb; replace BK324 := bbw BK324 hb; replace BK325 := bbw BK325 hb; clear HB; have HB := n0_; clear n0_; (try clear hb); (try clear hb2); (try clear hk); (try clear hi)) | ((with_reducible refine gate_dst (N := 13) rfl ?_); refine box_event ?hg (N := 13) ?hd (cs := #[.int .i64 0, .int .i64 0]) (t := 23) ?hr ?_; (case hd => rfl); (case hg => rfl); (case hr => first | (go_simp; done) | (go_simp; rfl)); intro gb337 hg w62 hbox hb; have n0_ := bst HB hb; have n1_ := Aside0.mk (hbox); have n2_ := bsz HB hg; have n3_ := bsz HB hg; have n4_ := bn1 BK318 hg; have n5_ := bn2 BK318 hg; have n6_ := bn1 BK319 hg; have n7_ := bn2 BK319 hg; have n8_ := bn1 BK324 hg; have n9_ := bn2 BK324 hg; have n10_ := bn1 BK325 hg; have n11_ := bn2 BK325 hg; replace BK318 := bbw BK318 hb; replace BK319 := bbw BK319 hb; replace BK324 := bbw BK324 hb; replace BK325 := bbw BK325 hb; clear HB; have HB := n0_; have BK337 := n1_; have GW337 := n2_; have GE337 := n3_; have NB318_337 := n4_; have NB337_318 := n5_; have NB319_337 := n6_; have NB337_319 := n7_; have NB324_337 := n8_; have NB337_324 := n9_; have NB325_337 := n10_; have NB337_325 := n11_; clear n0_ n1_ n2_ n3_ n4_ n5_ n6_ n7_ n8_ n9_ n10_ n11_; clear hb hbox hg) | ((with_reducible refine gate_dst (N := 14) rfl ?_); refine box_event ?hg (N := 14) ?hd (cs := #[.int .i64 0, .int .i64 0]) (t := 23) ?hr ?_; (case hd => rfl); (case hg => rfl); (case hr => first | (go_simp; done) | (go_simp; rfl)); intro gb338 hg w63 hbox hb; have n0_ := bst HB hb; have n1_ := Aside0.mk (hbox); have n2_ := bsz HB hg; have n3_ := bsz HB hg; have n4_ := bn1 BK318 hg; have n5_ := bn2 BK318 hg; have n6_ := bn1 BK319 hg; have n7_ := bn2 BK319 hg; have n8_ := bn1 BK324 hg; have n9_ := bn2 BK324 hg; have n10_ := bn1 BK325 hg; have n11_ := bn2 BK325 hg; have n12_ := bn1 BK337 hg; have n13_ := bn2 BK337 hg; replace BK318 := bbw BK318 hb; replace BK319 := bbw BK319 hb; replace BK324 := bbw BK324 hb; replace BK325 := bbw BK325 hb; replace BK337 := bbw BK337 hb; clear HB; have HB := n0_; have BK338 := n1_; have GW338 := n2_; have GE338 := n3_; have NB318_338 := n4_; have NB338_318 := n5_; have NB319_338 := n6_; have NB338_319 := n7_; have NB324_338 := n8_; have NB338_324 := n9_; have NB325_338 := n10_; have NB338_325 := n11_; have NB337_338 := n12_; have NB338_337 := n13_; clear n0_ n1_ n2_ n3_ n4_ n5_ n6_ n7_ n8_ n9_ n10_ n11_ n12_ n13_; clear hb hbox hg; have hnb64 := NB337_318.out; have hnc64 := NB318_337.out; have hnb65 := NB337_319.out; have hnc65 := NB319_337.out; have hnb66 := NB337_324.out; have hnc66 := NB324_337.out; have hnb67 := NB337_325.out; have hnc67 := NB325_337.out; have hnb68 := NB337_338.out; have hnc68 := NB338_337.out; have hcz69_0 := hcz BK337 0; have hcz69_1 := hcz BK337 1; have hfz69_0 := blk_frozen BK337.out 0; have hfz69_1 := blk_frozen BK337.out 1; have hnb70 := NB338_318.out; have hnc70 := NB318_338.out; have hnb71 := NB338_319.out; have hnc71 := NB319_338.out; have hnb72 := NB338_324.out; have hnc72 := NB324_338.out; have hnb73 := NB338_325.out; have hnc73 := NB325_338.out; have hcz74_0 := hcz BK338 0; have hcz74_1 := hcz BK338 1; have hfz74_0 := blk_frozen BK338.out 0; have hfz74_1 := blk_frozen BK338.out 1; have hcz75_0 := hcz BK318 0; have hcz75_1 := hcz BK318 1; have hfz75_0 := blk_frozen BK318.out 0; have hfz75_1 := blk_frozen BK318.out 1; have hcz76_0 := hcz BK319 0; have hcz76_1 := hcz BK319 1; have hfz76_0 := blk_frozen BK319.out 0; have hfz76_1 := blk_frozen BK319.out 1) | ((with_reducible refine gate_callee (f := 34) rfl ?_); refine goesL_ (some 61) rfl rfl Try.func34 (by kernel_rfl) rfl #[.int .i64 (wrap64 (14 + (wrap64 (Int.tmod (IntKind.u64.wrap (a0)) 6)))), .agg #[.int .i64 t320, .int .i64 t321], .agg #[.int .i64 t322, .int .i64 t323]] rfl (by (try simp only [List.map_toArray, List.map_cons, List.map_nil]); first | done | rfl | (simp only [List.length_drop, List.length_take]; rfl)) ?_; (with_reducible refine (itv_Holds.calls k1 (wrap64 (14 + (wrap64 (Int.tmod (IntKind.u64.wrap (a0)) 6)))) t320 t321 t322 t323 t339 t340 _ A48.out).mono ?_); rintro e w77 ⟨rfl, hb⟩; refine ⟨_, rfl, ?_⟩; have n0_ := Aside0.mk (blk_below (g := gb318) (o := .cells #[.int .i64 t320, .int .i64 t321] 23 (0, 0)) (by refine pkB ?_; refine blk_far ?_ NB318_338.out _; refine pkB ?_; refine blk_far ?_ NB318_338.out _; refine pkB ?_; refine blk_far ?_ NB318_337.out _; refine pkB ?_; refine blk_far ?_ NB318_337.out _; refine pkB ?_; exact BK318.out) hb); have n1_ := Aside0.mk (blk_below (g := gb319) (o := .cells #[.int .i64 t322, .int .i64 t323] 23 (0, 0)) (by refine pkB ?_; refine blk_far ?_ NB319_338.out _; refine pkB ?_; refine blk_far ?_ NB319_338.out _; refine pkB ?_; refine blk_far ?_ NB319_337.out _; refine pkB ?_; refine blk_far ?_ NB319_337.out _; refine pkB ?_; exact BK319.out) hb); have n2_ := Aside0.mk (blk_below (g := gb324) (o := .cells #[.bool x325000_1, .int .i64 x325001_1, .int .i64 x325002_1] 35 (0, 0)) (by refine pkB ?_; refine blk_far ?_ NB324_338.out _; refine pkB ?_; refine blk_far ?_ NB324_338.out _; refine pkB ?_; refine blk_far ?_ NB324_337.out _; refine pkB ?_; refine blk_far ?_ NB324_337.out _; refine pkB ?_; exact BK324.out) hb); have n3_ := Aside0.mk (blk_below (g := gb325) (o := .cells #[.bool x326000_1, .int .i64 x326001_1, .int .i64 x326002_1] 35 (0, 0)) (by refine pkB ?_; refine blk_far ?_ NB325_338.out _; refine pkB ?_; refine blk_far ?_ NB325_338.out _; refine pkB ?_; refine blk_far ?_ NB325_337.out _; refine pkB ?_; refine blk_far ?_ NB325_337.out _; refine pkB ?_; exact BK325.out) hb); have n4_ := Aside0.mk (blk_below (g := gb337) (o := .cells #[.int .i64 t333, .int .i64 t334] 23 (0, 0)) (by refine pkB ?_; refine blk_far ?_ NB337_338.out _; refine pkB ?_; refine blk_far ?_ NB337_338.out _; refine pkB ?_; refine blk_put (cs := #[.int .i64 t333, .int .i64 0]) ?_ 1 _ (by first | rfl | (subst_vars; rfl)); refine pkB ?_; refine blk_put (cs := #[.int .i64 0, .int .i64 0]) ?_ 0 _ (by first | rfl | (subst_vars; rfl)); refine pkB ?_; exact BK337.out) hb); have n5_ := Aside0.mk (blk_below (g := gb338) (o := .cells #[.int .i64 t335, .int .i64 t336] 23 (0, 0)) (by refine pkB ?_; refine blk_put (cs := #[.int .i64 t335, .int .i64 0]) ?_ 1 _ (by first | rfl | (subst_vars; rfl)); refine pkB ?_; refine blk_put (cs := #[.int .i64 0, .int .i64 0]) ?_ 0 _ (by first | rfl | (subst_vars; rfl)); refine pkB ?_; refine blk_far ?_ NB338_337.out _; refine pkB ?_; refine blk_far ?_ NB338_337.out _; refine pkB ?_; exact BK338.out) hb); have n6_ := bst HB hb; clear BK318; clear BK319; clear BK324; clear BK325; clear BK337; clear BK338; clear HB; have BK318 := n0_; have BK319 := n1_; have BK324 := n2_; have BK325 := n3_; have BK337 := n4_; have BK338 := n5_; have HB := n6_; clear n0_ n1_ n2_ n3_ n4_ n5_ n6_; (try clear hb); (try clear hb2); (try clear hk); (try clear hi)))
        have n0_ := Aside0.mk (blk_drew BK318.out)
        have n1_ := Aside0.mk (blk_drew BK319.out)
        have n2_ := Aside0.mk (blk_drew BK324.out)
        have n3_ := Aside0.mk (blk_drew BK325.out)
        have n4_ := Aside0.mk (blk_drew BK337.out)
        have n5_ := Aside0.mk (blk_drew BK338.out)
        have n6_ := Aside0.mk (below_drew1 HB.out)
        clear BK318
        clear BK319
        clear BK324
        clear BK325
        clear BK337
        clear BK338
        clear HB
        have BK318 := n0_
        have BK319 := n1_
        have BK324 := n2_
        have BK325 := n3_
        have BK337 := n4_
        have BK338 := n5_
        have HB := n6_
        clear n0_ n1_ n2_ n3_ n4_ n5_ n6_
        refine start_ (n := 20) (S := fun w' => w'.cell? ⟨gb337, 0, none⟩ = some (.int .i64 t333) ∧ w'.cell? ⟨gb337, 1, none⟩ = some (.int .i64 t334) ∧ w'.cell? ⟨gb338, 0, none⟩ = some (.int .i64 t335) ∧ w'.cell? ⟨gb338, 1, none⟩ = some (.int .i64 t336) ∧ w'.cell? ⟨gb324, 0, none⟩ = some (.bool x325000_1) ∧ w'.cell? ⟨gb324, 1, none⟩ = some (.int .i64 x325001_1) ∧ w'.cell? ⟨gb324, 2, none⟩ = some (.int .i64 x325002_1)) (ds := []) #[false, false, false, false, false, false, false, false, false, false, false, false, false, false, false, false, false, false, false, false] (by kernel_rfl) rfl rfl ⟨hcz BK337 0, hcz BK337 1, hcz BK338 0, hcz BK338 1, hcz BK324 0, hcz BK324 1, hcz BK324 2⟩ (fun hHeld => ?_); refine with_tabW gimballaw02_ItvTruth.tab18 gimballaw02_ItvTruth.bits18 (fun HT_ HW_ => ?_)
        generalize w77.drew = w78 at BK318 BK319 BK324 BK325 BK337 BK338 HB hHeld ⊢
        refine takeQ 0 64 HT_.out HW_.out hHeld ?_
        refine oneQ 1 65 HT_.out (fun K hK => ?_)
        refine goesQ Try.func35 #[.pointer (some ⟨gb324, 0, none⟩)] ?_
        with_reducible refine (gimballaw02_whole_itv.calls gb324 x325000_1 x325001_1 x325002_1 t341 t342 x325000_1 x325001_1 x325002_1 w _ ?side1 ?side2 A49.out).mono ?_
        (case side1 => exact And.intro (pk BK324.out) GE324.out)
        (case side2 => repeat (first | (with_reducible first | exact HB.out | apply below_alloc | apply pw_below_drewN | apply below_drew1 | refine below_set ?_ (IsS35.ge HI324.out) | refine below_set ?_ GE318.out | refine below_set ?_ GE319.out | refine below_set ?_ GE325.out | refine below_set ?_ GE337.out | refine below_set ?_ GE338.out) | exact HB.out))
        rintro e w79 ⟨rfl, hi, hb, hk⟩
        refine ⟨_, rfl, ?_⟩
        have n0_ := Aside0.mk (KeepBut.blk hk (g' := gb318) (o := .cells #[.int .i64 t320, .int .i64 t321] 23 (0, 0)) (pk BK318.out) NB318_324.out (by simp))
        have n1_ := Aside0.mk (KeepBut.blk hk (g' := gb319) (o := .cells #[.int .i64 t322, .int .i64 t323] 23 (0, 0)) (pk BK319.out) NB319_324.out (by simp))
        have n2_ := Aside0.mk (KeepBut.blk hk (g' := gb325) (o := .cells #[.bool x326000_1, .int .i64 x326001_1, .int .i64 x326002_1] 35 (0, 0)) (pk BK325.out) NB325_324.out (by simp))
        have n3_ := Aside0.mk (KeepBut.blk hk (g' := gb337) (o := .cells #[.int .i64 t333, .int .i64 t334] 23 (0, 0)) (pk BK337.out) NB337_324.out (by simp))
        have n4_ := Aside0.mk (KeepBut.blk hk (g' := gb338) (o := .cells #[.int .i64 t335, .int .i64 t336] 23 (0, 0)) (pk BK338.out) NB338_324.out (by simp))
        have n5_ := Aside0.mk (hb)
        have n6_ := Aside0.mk ((hi).1)
        clear BK318
        clear BK319
        clear BK325
        clear BK337
        clear BK338
        clear HB
        clear BK324
        have BK318 := n0_
        have BK319 := n1_
        have BK325 := n2_
        have BK337 := n3_
        have BK338 := n4_
        have HB := n5_
        have BK324 := n6_
        clear n0_ n1_ n2_ n3_ n4_ n5_ n6_
        (try clear hb)
        (try clear hb2)
        (try clear hk)
        (try clear hi)
        refine hK.out _ _ ⟨hcz BK337 0, hcz BK337 1, hcz BK338 0, hcz BK338 1, hcz BK324 0, hcz BK324 1, hcz BK324 2⟩ (fun hHeld => ?_)
        clear hK K
        refine normQ (N := 65) ?_
        refine pureQ 2 66 HT_.out ?_
        refine pureQ 3 67 HT_.out ?_
        refine takeQ 4 68 HT_.out HW_.out hHeld ?_
        refine oneQ 5 69 HT_.out (fun K hK => ?_)
        refine goesQ Try.func35 #[.pointer (some ⟨gb325, 0, none⟩)] ?_
        with_reducible refine (gimballaw02_whole_itv.calls gb325 x326000_1 x326001_1 x326002_1 t346 t347 x326000_1 x326001_1 x326002_1 w _ ?side1 ?side2 A51.out).mono ?_
        (case side1 => exact And.intro (pk BK325.out) GE325.out)
        (case side2 => repeat (first | (with_reducible first | exact HB.out | apply below_alloc | apply pw_below_drewN | apply below_drew1 | refine below_set ?_ (IsS35.ge HI325.out) | refine below_set ?_ GE318.out | refine below_set ?_ GE319.out | refine below_set ?_ GE324.out | refine below_set ?_ GE337.out | refine below_set ?_ GE338.out) | exact HB.out))
        rintro e w80 ⟨rfl, hi, hb, hk⟩
        refine ⟨_, rfl, ?_⟩
        have n0_ := Aside0.mk (KeepBut.blk hk (g' := gb318) (o := .cells #[.int .i64 t320, .int .i64 t321] 23 (0, 0)) (pk BK318.out) NB318_325.out (by simp))
        have n1_ := Aside0.mk (KeepBut.blk hk (g' := gb319) (o := .cells #[.int .i64 t322, .int .i64 t323] 23 (0, 0)) (pk BK319.out) NB319_325.out (by simp))
        have n2_ := Aside0.mk (KeepBut.blk hk (g' := gb324) (o := .cells #[.bool x325000_1, .int .i64 x325001_1, .int .i64 x325002_1] 35 (0, 0)) (pk BK324.out) NB324_325.out (by simp))
        have n3_ := Aside0.mk (KeepBut.blk hk (g' := gb337) (o := .cells #[.int .i64 t333, .int .i64 t334] 23 (0, 0)) (pk BK337.out) NB337_325.out (by simp))
        have n4_ := Aside0.mk (KeepBut.blk hk (g' := gb338) (o := .cells #[.int .i64 t335, .int .i64 t336] 23 (0, 0)) (pk BK338.out) NB338_325.out (by simp))
        have n5_ := Aside0.mk (hb)
        have n6_ := Aside0.mk ((hi).1)
        clear BK318
        clear BK319
        clear BK324
        clear BK337
        clear BK338
        clear HB
        clear BK325
        have BK318 := n0_
        have BK319 := n1_
        have BK324 := n2_
        have BK337 := n3_
        have BK338 := n4_
        have HB := n5_
        have BK325 := n6_
        clear n0_ n1_ n2_ n3_ n4_ n5_ n6_
        (try clear hb)
        (try clear hb2)
        (try clear hk)
        (try clear hi)
        refine hK.out _ _ ⟨hcz BK337 0, hcz BK337 1, hcz BK338 0, hcz BK338 1, hcz BK324 0, hcz BK324 1, hcz BK324 2⟩ (fun hHeld => ?_)
        clear hK K
        refine normQ (N := 69) ?_
        refine pureQ 6 70 HT_.out ?_
        refine pureQ 7 71 HT_.out ?_
        refine pureQ 8 72 HT_.out ?_
        refine pureQ 9 73 HT_.out ?_
        refine pureQ 10 74 HT_.out ?_
        refine takeQ 11 75 HT_.out HW_.out hHeld ?_
        refine pureQ 12 76 HT_.out ?_
        refine pureQ 13 77 HT_.out ?_
        refine pureQ 14 78 HT_.out ?_
        refine pureQ 15 79 HT_.out ?_
        refine pureQ 16 80 HT_.out ?_
        refine pureQ 17 81 HT_.out ?_
        refine pureQ 18 82 HT_.out ?_
        refine pureQ 19 6 HT_.out ?_
        refine done_ (done_of HT_.out (by kernel_rfl)) ?_
        try go_wp2
        go_ret
        exact ⟨by first | rfl | (simp [errW_none, errW_some] <;> rfl) | (simp [*, errW_none, errW_some] <;> rfl) | kernel_rfl, by repeat (first | (with_reducible first | exact HB.out | apply below_alloc | apply pw_below_drewN | apply below_drew1 | refine below_set ?_ GE318.out | refine below_set ?_ GE319.out | refine below_set ?_ GE324.out | refine below_set ?_ GE325.out | refine below_set ?_ GE337.out | refine below_set ?_ GE338.out) | exact HB.out)⟩
       ·
        rw [if_neg c53] at H
        have c53b0 : (t339 == x325000_1) = false := by simpa using c53
        (try (have c53b1 : decide (t339 = x325000_1) = false := by simpa using c53))
        (try (have c53b2 : (t339 == x325000_1) = false := by simpa using c53))
        (try (have c53b3 : ¬ (t339 = x325000_1) := by simpa using c53))
        clear c53
        exact absurd H (by simp)
      ·
       rw [if_neg c52] at H
       have c52b0 : (t335 == t346 && (t336 == t347)) = false := by simpa using c52
       (try (have c52b1 : decide (t335 = t346 && (t336 == t347)) = false := by simpa using c52))
       (try (have c52b2 : (t335 == t346 && (t336 == t347)) = false := by simpa using c52))
       (try (have c52b3 : ¬ (t335 = t346 && (t336 == t347)) := by simpa using c52))
       clear c52
       exact absurd H (by simp)
     ·
      rw [if_neg c50] at H
      have c50b0 : (t333 == t341 && (t334 == t342)) = false := by simpa using c50
      (try (have c50b1 : decide (t333 = t341 && (t334 == t342)) = false := by simpa using c50))
      (try (have c50b2 : (t333 == t341 && (t334 == t342)) = false := by simpa using c50))
      (try (have c50b3 : ¬ (t333 = t341 && (t334 == t342)) := by simpa using c50))
      clear c50
      exact absurd H (by simp)
/-- THE ONE PURE STATEMENT of gimballaw02_ItvTruth: yours. -/
def gimballaw02_ItvTruth.Pure : Prop := ∀ (a0 : Int) (a1_0 : Int) (a1_1 : Int) (a2_0 : Int) (a2_1 : Int), (Lit.int .i64 a0).wf = true → (Lit.int .i64 a1_0).wf = true → (Lit.int .i64 a1_1).wf = true → (Lit.int .i64 a2_0).wf = true → (Lit.int .i64 a2_1).wf = true → ∃ k, gimballaw02_ItvTruth.f k a0 a1_0 a1_1 a2_0 a2_1 = some true
theorem gimballaw02_ItvTruth.walk (P : gimballaw02_ItvTruth.Pure) (a0 : Int) (a1_0 : Int) (a1_1 : Int) (a2_0 : Int) (a2_1 : Int) (w : World) (w0 : (Lit.int .i64 a0).wf = true) (w1_0 : (Lit.int .i64 a1_0).wf = true) (w1_1 : (Lit.int .i64 a1_1).wf = true) (w2_0 : (Lit.int .i64 a2_0).wf = true) (w2_1 : (Lit.int .i64 a2_1).wf = true) :
    Calls Try.prog 5 #[.int .i64 a0, .agg #[.int .i64 a1_0, .int .i64 a1_1], .agg #[.int .i64 a2_0, .int .i64 a2_1]] w fun e w' => e = .returned (.bool true) ∧ Below w.heap.size w w' := by
  obtain ⟨k, h⟩ := P a0 a1_0 a1_1 a2_0 a2_1 w0 w1_0 w1_1 w2_0 w2_1
  refine (gimballaw02_ItvTruth.calls k a0 a1_0 a1_1 a2_0 a2_1  w h).mono ?_
  rintro e w' ⟨rfl, hd⟩
  exact ⟨rfl, hd⟩
end Go.Proofs.Ytbbnpipmjadpoaa.P
