/- What the law's proof needs of Px61. -/
import Derived.Test.YtbbnpipmjadpoaaTrJU2
import Derived.Test.YtbbnpipmjadpoaaTrJU
import Derived.Test.YtbbnpipmjadpoaaTrJPx0
import Derived.Test.YtbbnpipmjadpoaaTrJPx1
import Derived.Test.YtbbnpipmjadpoaaTrJPx8
import Derived.Test.YtbbnpipmjadpoaaTrJPx10
import Derived.Test.YtbbnpipmjadpoaaTrJPx13
import Derived.Test.YtbbnpipmjadpoaaTrJPx17
import Derived.Test.YtbbnpipmjadpoaaTrJPx18
import Derived.Test.YtbbnpipmjadpoaaTrJPx25
import Derived.Test.YtbbnpipmjadpoaaTrJPx26
import Derived.Test.YtbbnpipmjadpoaaTrJPx29
import Derived.Test.YtbbnpipmjadpoaaTrJPx30
import Derived.Test.YtbbnpipmjadpoaaTrJPx31
import Derived.Test.YtbbnpipmjadpoaaTrJPx34
import Derived.Test.YtbbnpipmjadpoaaTrJPx35
-- PRINTED by print.py (a twelfth state) out of the translation. Not trusted: Lean checks it.
namespace Go.Proofs.Ytbbnpipmjadpoaa.P
open Go.RowKit Go.Proofs.YtbbnpipmjadpoaaW.PrintWords Go.Proofs.YtbbnpipmjadpoaaW.PrintLast Go.Proofs.YtbbnpipmjadpoaaW.PrintMore Go.Proofs.YtbbnpipmjadpoaaO
attribute [local go_sem] max2_int min2_int max_two min_two max_three min_three max_four min_four   -- for this text's walks alone
set_option linter.unusedVariables false
set_option linter.unusedSimpArgs false
attribute [local go_sem high] eqA23
mutual
def gimballaw02_ItvLeast.l0 : Nat → Int → Int → Int → Int → Int → Bool → Int → Int → Bool → Int → Int → Bool → Int → Int → Bool → Int → Int → Bool → Int → Int → Bool → Int → Int → Bool → Int → Int → Bool → Int → Int → Bool → Int → Int → Bool → Int → Int → Option (Bool)
  | 0, _, _, _, _, _, _, _, _, _, _, _, _, _, _, _, _, _, _, _, _, _, _, _, _, _, _, _, _, _, _, _, _, _, _, _ => none
  | k + 1, x15, x739000, x739001, x740000, x740001, x745000, x745001, x745002, x746000, x746001, x746002, x747000, x747001, x747002, x748000, x748001, x748002, x749000, x749001, x749002, x750000, x750001, x750002, x751000, x751001, x751002, x752000, x752001, x752002, x753000, x753001, x753002, x754000, x754001, x754002 => if x15 ≤ x739001 then ((gimballaw02_whole_put.f k x753000 x753001 x753002 (wrap64 (-x15))).bind fun bt754 => ((gimballaw02_size.f x15).bind fun t757 => ((gimballaw02_whole_put.f k x754000 x754001 x754002 t757).bind fun bt758 => ((gimballaw02_whole_put.f k x752000 x752001 x752002 x15).bind fun bt761 => (gimballaw02_ItvLeast.l1 k x15 x740000 x739000 x739001 x740000 x740001 x745000 x745001 x745002 x746000 x746001 x746002 x747000 x747001 x747002 x748000 x748001 x748002 x749000 x749001 x749002 x750000 x750001 x750002 x751000 x751001 x751002 bt761.1 bt761.2.1 bt761.2.2 bt754.1 bt754.2.1 bt754.2.2 bt758.1 bt758.2.1 bt758.2.2))))) else (gimballaw02_ItvLeast.l2 k x740000 x739000 x739001 x740000 x740001 x745000 x745001 x745002 x746000 x746001 x746002 x747000 x747001 x747002 x748000 x748001 x748002 x749000 x749001 x749002 x750000 x750001 x750002 x751000 x751001 x751002 x752000 x752001 x752002 x753000 x753001 x753002 x754000 x754001 x754002)
def gimballaw02_ItvLeast.l1 : Nat → Int → Int → Int → Int → Int → Int → Bool → Int → Int → Bool → Int → Int → Bool → Int → Int → Bool → Int → Int → Bool → Int → Int → Bool → Int → Int → Bool → Int → Int → Bool → Int → Int → Bool → Int → Int → Bool → Int → Int → Option (Bool)
  | 0, _, _, _, _, _, _, _, _, _, _, _, _, _, _, _, _, _, _, _, _, _, _, _, _, _, _, _, _, _, _, _, _, _, _, _, _ => none
  | k + 1, x15, x16, x739000, x739001, x740000, x740001, x745000, x745001, x745002, x746000, x746001, x746002, x747000, x747001, x747002, x748000, x748001, x748002, x749000, x749001, x749002, x750000, x750001, x750002, x751000, x751001, x751002, x752000, x752001, x752002, x753000, x753001, x753002, x754000, x754001, x754002 => if x16 ≤ x740001 then ((gimballaw02_whole_put.f k x745000 x745001 x745002 (wrap64 (x15 + x16))).bind fun bt764 => ((gimballaw02_whole_put.f k x746000 x746001 x746002 (wrap64 (x15 - x16))).bind fun bt767 => ((gimballaw02_whole_put.f k x747000 x747001 x747002 (wrap64 (x15 * x16))).bind fun bt770 => (if x15 < x16 then ((gimballaw02_whole_put.f k x748000 x748001 x748002 x15).bind fun bt773 => ((gimballaw02_whole_put.f k x749000 x749001 x749002 x16).bind fun bt776 => (gimballaw02_ItvLeast.j2 k x15 x16 x739000 x739001 x740000 x740001 bt764.1 bt764.2.1 bt764.2.2 bt767.1 bt767.2.1 bt767.2.2 bt770.1 bt770.2.1 bt770.2.2 bt773.1 bt773.2.1 bt773.2.2 bt776.1 bt776.2.1 bt776.2.2 x750000 x750001 x750002 x751000 x751001 x751002 x752000 x752001 x752002 x753000 x753001 x753002 x754000 x754001 x754002))) else ((gimballaw02_whole_put.f k x748000 x748001 x748002 x16).bind fun bt779 => ((gimballaw02_whole_put.f k x749000 x749001 x749002 x15).bind fun bt782 => (gimballaw02_ItvLeast.j2 k x15 x16 x739000 x739001 x740000 x740001 bt764.1 bt764.2.1 bt764.2.2 bt767.1 bt767.2.1 bt767.2.2 bt770.1 bt770.2.1 bt770.2.2 bt779.1 bt779.2.1 bt779.2.2 bt782.1 bt782.2.1 bt782.2.2 x750000 x750001 x750002 x751000 x751001 x751002 x752000 x752001 x752002 x753000 x753001 x753002 x754000 x754001 x754002))))))) else (gimballaw02_ItvLeast.l0 k (wrap64 (x15 + 1)) x739000 x739001 x740000 x740001 x745000 x745001 x745002 x746000 x746001 x746002 x747000 x747001 x747002 x748000 x748001 x748002 x749000 x749001 x749002 x750000 x750001 x750002 x751000 x751001 x751002 x752000 x752001 x752002 x753000 x753001 x753002 x754000 x754001 x754002)
def gimballaw02_ItvLeast.j2 : Nat → Int → Int → Int → Int → Int → Int → Bool → Int → Int → Bool → Int → Int → Bool → Int → Int → Bool → Int → Int → Bool → Int → Int → Bool → Int → Int → Bool → Int → Int → Bool → Int → Int → Bool → Int → Int → Bool → Int → Int → Option (Bool)
  | 0, _, _, _, _, _, _, _, _, _, _, _, _, _, _, _, _, _, _, _, _, _, _, _, _, _, _, _, _, _, _, _, _, _, _, _, _ => none
  | k + 1, x15, x16, x739000, x739001, x740000, x740001, x745000, x745001, x745002, x746000, x746001, x746002, x747000, x747001, x747002, x748000, x748001, x748002, x749000, x749001, x749002, x750000, x750001, x750002, x751000, x751001, x751002, x752000, x752001, x752002, x753000, x753001, x753002, x754000, x754001, x754002 => if x15 = x16 then ((gimballaw02_whole_put.f k x751000 x751001 x751002 x15).bind fun bt785 => (if x16 = 0 then (gimballaw02_ItvLeast.l1 k x15 (wrap64 (x16 + 1)) x739000 x739001 x740000 x740001 x745000 x745001 x745002 x746000 x746001 x746002 x747000 x747001 x747002 x748000 x748001 x748002 x749000 x749001 x749002 x750000 x750001 x750002 bt785.1 bt785.2.1 bt785.2.2 x752000 x752001 x752002 x753000 x753001 x753002 x754000 x754001 x754002) else ((gimballaw02_whole_put.f k x750000 x750001 x750002 (wrap64 (Int.tdiv x15 x16))).bind fun bt788 => (gimballaw02_ItvLeast.l1 k x15 (wrap64 (x16 + 1)) x739000 x739001 x740000 x740001 x745000 x745001 x745002 x746000 x746001 x746002 x747000 x747001 x747002 x748000 x748001 x748002 x749000 x749001 x749002 bt788.1 bt788.2.1 bt788.2.2 bt785.1 bt785.2.1 bt785.2.2 x752000 x752001 x752002 x753000 x753001 x753002 x754000 x754001 x754002)))) else (if x16 = 0 then (gimballaw02_ItvLeast.l1 k x15 (wrap64 (x16 + 1)) x739000 x739001 x740000 x740001 x745000 x745001 x745002 x746000 x746001 x746002 x747000 x747001 x747002 x748000 x748001 x748002 x749000 x749001 x749002 x750000 x750001 x750002 x751000 x751001 x751002 x752000 x752001 x752002 x753000 x753001 x753002 x754000 x754001 x754002) else ((gimballaw02_whole_put.f k x750000 x750001 x750002 (wrap64 (Int.tdiv x15 x16))).bind fun bt791 => (gimballaw02_ItvLeast.l1 k x15 (wrap64 (x16 + 1)) x739000 x739001 x740000 x740001 x745000 x745001 x745002 x746000 x746001 x746002 x747000 x747001 x747002 x748000 x748001 x748002 x749000 x749001 x749002 bt791.1 bt791.2.1 bt791.2.2 x751000 x751001 x751002 x752000 x752001 x752002 x753000 x753001 x753002 x754000 x754001 x754002)))
def gimballaw02_ItvLeast.l2 : Nat → Int → Int → Int → Int → Int → Bool → Int → Int → Bool → Int → Int → Bool → Int → Int → Bool → Int → Int → Bool → Int → Int → Bool → Int → Int → Bool → Int → Int → Bool → Int → Int → Bool → Int → Int → Bool → Int → Int → Option (Bool)
  | 0, _, _, _, _, _, _, _, _, _, _, _, _, _, _, _, _, _, _, _, _, _, _, _, _, _, _, _, _, _, _, _, _, _, _, _ => none
  | k + 1, x17, x739000, x739001, x740000, x740001, x745000, x745001, x745002, x746000, x746001, x746002, x747000, x747001, x747002, x748000, x748001, x748002, x749000, x749001, x749002, x750000, x750001, x750002, x751000, x751001, x751002, x752000, x752001, x752002, x753000, x753001, x753002, x754000, x754001, x754002 => if x17 ≤ x740001 then ((gimballaw02_whole_put.f k x752000 x752001 x752002 x17).bind fun bt794 => (gimballaw02_ItvLeast.l2 k (wrap64 (x17 + 1)) x739000 x739001 x740000 x740001 x745000 x745001 x745002 x746000 x746001 x746002 x747000 x747001 x747002 x748000 x748001 x748002 x749000 x749001 x749002 x750000 x750001 x750002 x751000 x751001 x751002 bt794.1 bt794.2.1 bt794.2.2 x753000 x753001 x753002 x754000 x754001 x754002)) else ((itv_Add.f k x739000 x739001 x740000 x740001).bind fun bt797 => ((gimballaw02_whole_itv.f x745000 x745001 x745002).bind fun bt799 => (if (bt797.1 == bt799.1 && (bt797.2 == bt799.2.1)) = true then ((itv_Sub.f k x739000 x739001 x740000 x740001).bind fun bt804 => ((gimballaw02_whole_itv.f x746000 x746001 x746002).bind fun bt806 => (if (bt804.1 == bt806.1 && (bt804.2 == bt806.2.1)) = true then ((itv_Mul.f k x739000 x739001 x740000 x740001).bind fun bt811 => ((gimballaw02_whole_itv.f x747000 x747001 x747002).bind fun bt813 => (if (bt811.1 == bt813.1 && (bt811.2 == bt813.2.1)) = true then ((itv_Min.f k x739000 x739001 x740000 x740001).bind fun bt818 => ((gimballaw02_whole_itv.f x748000 x748001 x748002).bind fun bt820 => (if (bt818.1 == bt820.1 && (bt818.2 == bt820.2.1)) = true then ((itv_Max.f k x739000 x739001 x740000 x740001).bind fun bt825 => ((gimballaw02_whole_itv.f x749000 x749001 x749002).bind fun bt827 => (if (bt825.1 == bt827.1 && (bt825.2 == bt827.2.1)) = true then ((itv_Div.f k x739000 x739001 x740000 x740001).bind fun bt832 => ((gimballaw02_whole_itv.f x750000 x750001 x750002).bind fun bt834 => (if (bt832.1 == bt834.1 && (bt832.2 == bt834.2.1)) = true then ((itv_Neg.f x739000 x739001).bind fun bt839 => ((gimballaw02_whole_itv.f x753000 x753001 x753002).bind fun bt841 => (if (bt839.1 == bt841.1 && (bt839.2 == bt841.2.1)) = true then ((itv_Abs.f k x739000 x739001).bind fun bt846 => ((gimballaw02_whole_itv.f x754000 x754001 x754002).bind fun bt848 => (if (bt846.1 == bt848.1 && (bt846.2 == bt848.2.1)) = true then ((itv_Meet.f k x739000 x739001 x740000 x740001).bind fun bt853 => ((gimballaw02_whole_itv.f x751000 x751001 x751002).bind fun bt855 => (if (bt853.1 == bt855.1 && (bt853.2 == bt855.2.1)) = true then ((itv_Join.f x739000 x739001 x740000 x740001).bind fun bt860 => ((gimballaw02_whole_itv.f x752000 x752001 x752002).bind fun bt862 => (some (bt860.1 == bt862.1 && (bt860.2 == bt862.2.1))))) else (some false)))) else (some false)))) else (some false)))) else (some false)))) else (some false)))) else (some false)))) else (some false)))) else (some false)))) else (some false))))
end
def gimballaw02_ItvLeast.f (k : Nat) (a0_0 : Int) (a0_1 : Int) (a1_0 : Int) (a1_1 : Int) : Option (Bool) := (gimballaw02_small.f a0_0 a0_1).bind fun bt740 => ((gimballaw02_small.f a1_0 a1_1).bind fun bt742 => (gimballaw02_ItvLeast.l0 k bt740.1 bt740.1 bt740.2 bt742.1 bt742.2 false 0 0 false 0 0 false 0 0 false 0 0 false 0 0 false 0 0 false 0 0 false 0 0 false 0 0 false 0 0))
set_option maxHeartbeats 8000000 in
set_option maxRecDepth 100000 in
theorem gimballaw02_ItvLeast.calls (k : Nat) (a0_0 : Int) (a0_1 : Int) (a1_0 : Int) (a1_1 : Int) (w : World) (h : gimballaw02_ItvLeast.f k a0_0 a0_1 a1_0 a1_1 = some true) :
    Calls Try.prog 8 #[.agg #[.int .i64 a0_0, .int .i64 a0_1], .agg #[.int .i64 a1_0, .int .i64 a1_1]] w fun e w' => e = .returned (.bool true) ∧ Below w.heap.size w w' := by
  have hu23 := Try.underlying23
  have hu35 := Try.underlying35
  have HB := Aside0.mk (Below.refl w.heap.size w)
  have H : ((gimballaw02_small.f a0_0 a0_1).bind fun bt740 => ((gimballaw02_small.f a1_0 a1_1).bind fun bt742 => (gimballaw02_ItvLeast.l0 k bt740.1 bt740.1 bt740.2 bt742.1 bt742.2 false 0 0 false 0 0 false 0 0 false 0 0 false 0 0 false 0 0 false 0 0 false 0 0 false 0 0 false 0 0))) = some true := h
  clear h
  replace H := Option.bind_eq_some_iff.mp H
  obtain ⟨⟨t740, t741⟩, A30, H⟩ := H
  replace H : ((gimballaw02_small.f a1_0 a1_1).bind fun bt742 => (gimballaw02_ItvLeast.l0 k t740 t740 t741 bt742.1 bt742.2 false 0 0 false 0 0 false 0 0 false 0 0 false 0 0 false 0 0 false 0 0 false 0 0 false 0 0 false 0 0)) = some true := H
  have A3 := Aside0.mk A30
  clear A30
  replace H := Option.bind_eq_some_iff.mp H
  obtain ⟨⟨t742, t743⟩, A40, H⟩ := H
  replace H : (gimballaw02_ItvLeast.l0 k t740 t740 t741 t742 t743 false 0 0 false 0 0 false 0 0 false 0 0 false 0 0 false 0 0 false 0 0 false 0 0 false 0 0 false 0 0) = some true := H
  have A4 := Aside0.mk A40
  clear A40
  have H' := Aside0.mk H
  clear H
  go_enter Try.func8, Try.ntmps8
  go_wp2_with (first | ((with_reducible refine gate_dst (N := 2) rfl ?_); refine box_event ?hg (N := 2) ?hd (cs := #[.int .i64 a0_0, .int .i64 a0_1]) (t := 23) ?hr ?_; (case hd => rfl); (case hg => rfl); (case hr => first | (go_simp; done) | (go_simp; rfl)); intro gb738 hg w5 hbox hb; have n0_ := bst HB hb; have n1_ := Aside0.mk (hbox); have n2_ := bsz HB hg; have n3_ := bsz HB hg; clear HB; have HB := n0_; have BK738 := n1_; have GW738 := n2_; have GE738 := n3_; clear n0_ n1_ n2_ n3_; clear hb hbox hg) | ((with_reducible refine gate_dst (N := 3) rfl ?_); refine box_event ?hg (N := 3) ?hd (cs := #[.int .i64 a1_0, .int .i64 a1_1]) (t := 23) ?hr ?_; (case hd => rfl); (case hg => rfl); (case hr => first | (go_simp; done) | (go_simp; rfl)); intro gb739 hg w6 hbox hb; have n0_ := bst HB hb; have n1_ := Aside0.mk (hbox); have n2_ := bsz HB hg; have n3_ := bsz HB hg; have n4_ := bn1 BK738 hg; have n5_ := bn2 BK738 hg; replace BK738 := bbw BK738 hb; clear HB; have HB := n0_; have BK739 := n1_; have GW739 := n2_; have GE739 := n3_; have NB738_739 := n4_; have NB739_738 := n5_; clear n0_ n1_ n2_ n3_ n4_ n5_; clear hb hbox hg; have hnb7 := NB738_739.out; have hnc7 := NB739_738.out; have hcz8_0 := hcz BK738 0; have hcz8_1 := hcz BK738 1; have hfz8_0 := blk_frozen BK738.out 0; have hfz8_1 := blk_frozen BK738.out 1) | (go_at_call 30; (with_reducible refine (gimballaw02_small.calls a0_0 a0_1 t740 t741 _ A3.out).mono ?_); rintro e w9 ⟨rfl, hb⟩; have n0_ := bst HB hb; replace BK738 := bbw BK738 hb; replace BK739 := bbw BK739 hb; clear HB; have HB := n0_; clear n0_; (try clear hb); (try clear hb2); (try clear hk); (try clear hi); have hcz10_0 := hcz BK738 0; have hcz10_1 := hcz BK738 1; have hfz10_0 := blk_frozen BK738.out 0; have hfz10_1 := blk_frozen BK738.out 1; have hcz11_0 := hcz BK739 0; have hcz11_1 := hcz BK739 1; have hfz11_0 := blk_frozen BK739.out 0; have hfz11_1 := blk_frozen BK739.out 1) | (go_at_call 30; (with_reducible refine (gimballaw02_small.calls a1_0 a1_1 t742 t743 _ A4.out).mono ?_); rintro e w12 ⟨rfl, hb⟩; have n0_ := Aside0.mk (blk_below (g := gb738) (o := .cells #[.int .i64 t740, .int .i64 t741] 23 (0, 0)) (by refine pkB ?_; refine blk_put (cs := #[.int .i64 t740, .int .i64 a0_1]) ?_ 1 _ (by first | rfl | (subst_vars; rfl)); refine pkB ?_; refine blk_put (cs := #[.int .i64 a0_0, .int .i64 a0_1]) ?_ 0 _ (by first | rfl | (subst_vars; rfl)); refine pkB ?_; exact BK738.out) hb); have n1_ := Aside0.mk (blk_below (g := gb739) (o := .cells #[.int .i64 a1_0, .int .i64 a1_1] 23 (0, 0)) (by refine pkB ?_; refine blk_far ?_ NB739_738.out _; refine pkB ?_; refine blk_far ?_ NB739_738.out _; refine pkB ?_; exact BK739.out) hb); have n2_ := bst HB hb; clear BK738; clear BK739; clear HB; have BK738 := n0_; have BK739 := n1_; have HB := n2_; clear n0_ n1_ n2_; (try clear hb); (try clear hb2); (try clear hk); (try clear hi); have hcz13_0 := hcz BK739 0; have hcz13_1 := hcz BK739 1; have hfz13_0 := blk_frozen BK739.out 0; have hfz13_1 := blk_frozen BK739.out 1) | ((with_reducible refine gate_dst (N := 5) rfl ?_); refine box_event ?hg (N := 5) ?hd (cs := #[.bool false, .int .i64 0, .int .i64 0]) (t := 35) ?hr ?_; (case hd => rfl); (case hg => rfl); (case hr => first | (go_simp; done) | (go_simp; rfl)); intro gb744 hg w14 hbox hb; have n0_ := Aside0.mk (blk_below (g := gb738) (o := .cells #[.int .i64 t740, .int .i64 t741] 23 (0, 0)) (by refine pkB ?_; refine blk_far ?_ NB738_739.out _; refine pkB ?_; refine blk_far ?_ NB738_739.out _; refine pkB ?_; exact BK738.out) hb); have n1_ := Aside0.mk (blk_below (g := gb739) (o := .cells #[.int .i64 t742, .int .i64 t743] 23 (0, 0)) (by refine pkB ?_; refine blk_put (cs := #[.int .i64 t742, .int .i64 a1_1]) ?_ 1 _ (by first | rfl | (subst_vars; rfl)); refine pkB ?_; refine blk_put (cs := #[.int .i64 a1_0, .int .i64 a1_1]) ?_ 0 _ (by first | rfl | (subst_vars; rfl)); refine pkB ?_; exact BK739.out) hb); have n2_ := bst HB hb; have n3_ := Aside0.mk (hbox); have n4_ := bsz HB hg; have n5_ := bsz HB hg; have n6_ := Aside0.mk ((by rw [hg]; exact Nat.ne_of_lt (blk_lt (g := gb738) (o := .cells #[.int .i64 t740, .int .i64 t741] 23 (0, 0)) (by refine pkB ?_; refine blk_far ?_ NB738_739.out _; refine pkB ?_; refine blk_far ?_ NB738_739.out _; refine pkB ?_; exact BK738.out)) : gb738 ≠ gb744)); have n7_ := Aside0.mk ((by rw [hg]; exact Nat.ne_of_gt (blk_lt (g := gb738) (o := .cells #[.int .i64 t740, .int .i64 t741] 23 (0, 0)) (by refine pkB ?_; refine blk_far ?_ NB738_739.out _; refine pkB ?_; refine blk_far ?_ NB738_739.out _; refine pkB ?_; exact BK738.out)) : gb744 ≠ gb738)); have n8_ := Aside0.mk ((by rw [hg]; exact Nat.ne_of_lt (blk_lt (g := gb739) (o := .cells #[.int .i64 t742, .int .i64 t743] 23 (0, 0)) (by refine pkB ?_; refine blk_put (cs := #[.int .i64 t742, .int .i64 a1_1]) ?_ 1 _ (by first | rfl | (subst_vars; rfl)); refine pkB ?_; refine blk_put (cs := #[.int .i64 a1_0, .int .i64 a1_1]) ?_ 0 _ (by first | rfl | (subst_vars; rfl)); refine pkB ?_; exact BK739.out)) : gb739 ≠ gb744)); have n9_ := Aside0.mk ((by rw [hg]; exact Nat.ne_of_gt (blk_lt (g := gb739) (o := .cells #[.int .i64 t742, .int .i64 t743] 23 (0, 0)) (by refine pkB ?_; refine blk_put (cs := #[.int .i64 t742, .int .i64 a1_1]) ?_ 1 _ (by first | rfl | (subst_vars; rfl)); refine pkB ?_; refine blk_put (cs := #[.int .i64 a1_0, .int .i64 a1_1]) ?_ 0 _ (by first | rfl | (subst_vars; rfl)); refine pkB ?_; exact BK739.out)) : gb744 ≠ gb739)); clear BK738; clear BK739; clear HB; have BK738 := n0_; have BK739 := n1_; have HB := n2_; have BK744 := n3_; have GW744 := n4_; have GE744 := n5_; have NB738_744 := n6_; have NB744_738 := n7_; have NB739_744 := n8_; have NB744_739 := n9_; clear n0_ n1_ n2_ n3_ n4_ n5_ n6_ n7_ n8_ n9_; clear hb hbox hg) | ((with_reducible refine gate_dst (N := 6) rfl ?_); refine box_event ?hg (N := 6) ?hd (cs := #[.bool false, .int .i64 0, .int .i64 0]) (t := 35) ?hr ?_; (case hd => rfl); (case hg => rfl); (case hr => first | (go_simp; done) | (go_simp; rfl)); intro gb745 hg w15 hbox hb; have n0_ := bst HB hb; have n1_ := Aside0.mk (hbox); have n2_ := bsz HB hg; have n3_ := bsz HB hg; have n4_ := bn1 BK738 hg; have n5_ := bn2 BK738 hg; have n6_ := bn1 BK739 hg; have n7_ := bn2 BK739 hg; have n8_ := bn1 BK744 hg; have n9_ := bn2 BK744 hg; replace BK738 := bbw BK738 hb; replace BK739 := bbw BK739 hb; replace BK744 := bbw BK744 hb; clear HB; have HB := n0_; have BK745 := n1_; have GW745 := n2_; have GE745 := n3_; have NB738_745 := n4_; have NB745_738 := n5_; have NB739_745 := n6_; have NB745_739 := n7_; have NB744_745 := n8_; have NB745_744 := n9_; clear n0_ n1_ n2_ n3_ n4_ n5_ n6_ n7_ n8_ n9_; clear hb hbox hg) | ((with_reducible refine gate_dst (N := 7) rfl ?_); refine box_event ?hg (N := 7) ?hd (cs := #[.bool false, .int .i64 0, .int .i64 0]) (t := 35) ?hr ?_; (case hd => rfl); (case hg => rfl); (case hr => first | (go_simp; done) | (go_simp; rfl)); intro gb746 hg w16 hbox hb; have n0_ := bst HB hb; have n1_ := Aside0.mk (hbox); have n2_ := bsz HB hg; have n3_ := bsz HB hg; have n4_ := bn1 BK738 hg; have n5_ := bn2 BK738 hg; have n6_ := bn1 BK739 hg; have n7_ := bn2 BK739 hg; have n8_ := bn1 BK744 hg; have n9_ := bn2 BK744 hg; have n10_ := bn1 BK745 hg; have n11_ := bn2 BK745 hg; replace BK738 := bbw BK738 hb; replace BK739 := bbw BK739 hb; replace BK744 := bbw BK744 hb; replace BK745 := bbw BK745 hb; clear HB; have HB := n0_; have BK746 := n1_; have GW746 := n2_; have GE746 := n3_; have NB738_746 := n4_; have NB746_738 := n5_; have NB739_746 := n6_; have NB746_739 := n7_; have NB744_746 := n8_; have NB746_744 := n9_; have NB745_746 := n10_; have NB746_745 := n11_; clear n0_ n1_ n2_ n3_ n4_ n5_ n6_ n7_ n8_ n9_ n10_ n11_; clear hb hbox hg) | ((with_reducible refine gate_dst (N := 8) rfl ?_); refine box_event ?hg (N := 8) ?hd (cs := #[.bool false, .int .i64 0, .int .i64 0]) (t := 35) ?hr ?_; (case hd => rfl); (case hg => rfl); (case hr => first | (go_simp; done) | (go_simp; rfl)); intro gb747 hg w17 hbox hb; have n0_ := bst HB hb; have n1_ := Aside0.mk (hbox); have n2_ := bsz HB hg; have n3_ := bsz HB hg; have n4_ := bn1 BK738 hg; have n5_ := bn2 BK738 hg; have n6_ := bn1 BK739 hg; have n7_ := bn2 BK739 hg; have n8_ := bn1 BK744 hg; have n9_ := bn2 BK744 hg; have n10_ := bn1 BK745 hg; have n11_ := bn2 BK745 hg; have n12_ := bn1 BK746 hg; have n13_ := bn2 BK746 hg; replace BK738 := bbw BK738 hb; replace BK739 := bbw BK739 hb; replace BK744 := bbw BK744 hb; replace BK745 := bbw BK745 hb; replace BK746 := bbw BK746 hb; clear HB; have HB := n0_; have BK747 := n1_; have GW747 := n2_; have GE747 := n3_; have NB738_747 := n4_; have NB747_738 := n5_; have NB739_747 := n6_; have NB747_739 := n7_; have NB744_747 := n8_; have NB747_744 := n9_; have NB745_747 := n10_; have NB747_745 := n11_; have NB746_747 := n12_; have NB747_746 := n13_; clear n0_ n1_ n2_ n3_ n4_ n5_ n6_ n7_ n8_ n9_ n10_ n11_ n12_ n13_; clear hb hbox hg) | ((with_reducible refine gate_dst (N := 9) rfl ?_); refine box_event ?hg (N := 9) ?hd (cs := #[.bool false, .int .i64 0, .int .i64 0]) (t := 35) ?hr ?_; (case hd => rfl); (case hg => rfl); (case hr => first | (go_simp; done) | (go_simp; rfl)); intro gb748 hg w18 hbox hb; have n0_ := bst HB hb; have n1_ := Aside0.mk (hbox); have n2_ := bsz HB hg; have n3_ := bsz HB hg; have n4_ := bn1 BK738 hg; have n5_ := bn2 BK738 hg; have n6_ := bn1 BK739 hg; have n7_ := bn2 BK739 hg; have n8_ := bn1 BK744 hg; have n9_ := bn2 BK744 hg; have n10_ := bn1 BK745 hg; have n11_ := bn2 BK745 hg; have n12_ := bn1 BK746 hg; have n13_ := bn2 BK746 hg; have n14_ := bn1 BK747 hg; have n15_ := bn2 BK747 hg; replace BK738 := bbw BK738 hb; replace BK739 := bbw BK739 hb; replace BK744 := bbw BK744 hb; replace BK745 := bbw BK745 hb; replace BK746 := bbw BK746 hb; replace BK747 := bbw BK747 hb; clear HB; have HB := n0_; have BK748 := n1_; have GW748 := n2_; have GE748 := n3_; have NB738_748 := n4_; have NB748_738 := n5_; have NB739_748 := n6_; have NB748_739 := n7_; have NB744_748 := n8_; have NB748_744 := n9_; have NB745_748 := n10_; have NB748_745 := n11_; have NB746_748 := n12_; have NB748_746 := n13_; have NB747_748 := n14_; have NB748_747 := n15_; clear n0_ n1_ n2_ n3_ n4_ n5_ n6_ n7_ n8_ n9_ n10_ n11_ n12_ n13_ n14_ n15_; clear hb hbox hg) | ((with_reducible refine gate_dst (N := 10) rfl ?_); refine box_event ?hg (N := 10) ?hd (cs := #[.bool false, .int .i64 0, .int .i64 0]) (t := 35) ?hr ?_; (case hd => rfl); (case hg => rfl); (case hr => first | (go_simp; done) | (go_simp; rfl)); intro gb749 hg w19 hbox hb; have n0_ := bst HB hb; have n1_ := Aside0.mk (hbox); have n2_ := bsz HB hg; have n3_ := bsz HB hg; have n4_ := bn1 BK738 hg; have n5_ := bn2 BK738 hg; have n6_ := bn1 BK739 hg; have n7_ := bn2 BK739 hg; have n8_ := bn1 BK744 hg; have n9_ := bn2 BK744 hg; have n10_ := bn1 BK745 hg; have n11_ := bn2 BK745 hg; have n12_ := bn1 BK746 hg; have n13_ := bn2 BK746 hg; have n14_ := bn1 BK747 hg; have n15_ := bn2 BK747 hg; have n16_ := bn1 BK748 hg; have n17_ := bn2 BK748 hg; replace BK738 := bbw BK738 hb; replace BK739 := bbw BK739 hb; replace BK744 := bbw BK744 hb; replace BK745 := bbw BK745 hb; replace BK746 := bbw BK746 hb; replace BK747 := bbw BK747 hb; replace BK748 := bbw BK748 hb; clear HB; have HB := n0_; have BK749 := n1_; have GW749 := n2_; have GE749 := n3_; have NB738_749 := n4_; have NB749_738 := n5_; have NB739_749 := n6_; have NB749_739 := n7_; have NB744_749 := n8_; have NB749_744 := n9_; have NB745_749 := n10_; have NB749_745 := n11_; have NB746_749 := n12_; have NB749_746 := n13_; have NB747_749 := n14_; have NB749_747 := n15_; have NB748_749 := n16_; have NB749_748 := n17_; clear n0_ n1_ n2_ n3_ n4_ n5_ n6_ n7_ n8_ n9_ n10_ n11_ n12_ n13_ n14_ n15_ n16_ n17_; clear hb hbox hg) | ((with_reducible refine gate_dst (N := 11) rfl ?_); refine box_event ?hg (N := 11) ?hd (cs := #[.bool false, .int .i64 0, .int .i64 0]) (t := 35) ?hr ?_; (case hd => rfl); (case hg => rfl); (case hr => first | (go_simp; done) | (go_simp; rfl)); intro gb750 hg w20 hbox hb; have n0_ := bst HB hb; have n1_ := Aside0.mk (hbox); have n2_ := bsz HB hg; have n3_ := bsz HB hg; have n4_ := bn1 BK738 hg; have n5_ := bn2 BK738 hg; have n6_ := bn1 BK739 hg; have n7_ := bn2 BK739 hg; have n8_ := bn1 BK744 hg; have n9_ := bn2 BK744 hg; have n10_ := bn1 BK745 hg; have n11_ := bn2 BK745 hg; have n12_ := bn1 BK746 hg; have n13_ := bn2 BK746 hg; have n14_ := bn1 BK747 hg; have n15_ := bn2 BK747 hg; have n16_ := bn1 BK748 hg; have n17_ := bn2 BK748 hg; have n18_ := bn1 BK749 hg; have n19_ := bn2 BK749 hg; replace BK738 := bbw BK738 hb; replace BK739 := bbw BK739 hb; replace BK744 := bbw BK744 hb; replace BK745 := bbw BK745 hb; replace BK746 := bbw BK746 hb; replace BK747 := bbw BK747 hb; replace BK748 := bbw BK748 hb; replace BK749 := bbw BK749 hb; clear HB; have HB := n0_; have BK750 := n1_; have GW750 := n2_; have GE750 := n3_; have NB738_750 := n4_; have NB750_738 := n5_; have NB739_750 := n6_; have NB750_739 := n7_; have NB744_750 := n8_; have NB750_744 := n9_; have NB745_750 := n10_; have NB750_745 := n11_; have NB746_750 := n12_; have NB750_746 := n13_; have NB747_750 := n14_; have NB750_747 := n15_; have NB748_750 := n16_; have NB750_748 := n17_; have NB749_750 := n18_; have NB750_749 := n19_; clear n0_ n1_ n2_ n3_ n4_ n5_ n6_ n7_ n8_ n9_ n10_ n11_ n12_ n13_ n14_ n15_ n16_ n17_ n18_ n19_; clear hb hbox hg) | ((with_reducible refine gate_dst (N := 12) rfl ?_); refine box_event ?hg (N := 12) ?hd (cs := #[.bool false, .int .i64 0, .int .i64 0]) (t := 35) ?hr ?_; (case hd => rfl); (case hg => rfl); (case hr => first | (go_simp; done) | (go_simp; rfl)); intro gb751 hg w21 hbox hb; have n0_ := bst HB hb; have n1_ := Aside0.mk (hbox); have n2_ := bsz HB hg; have n3_ := bsz HB hg; have n4_ := bn1 BK738 hg; have n5_ := bn2 BK738 hg; have n6_ := bn1 BK739 hg; have n7_ := bn2 BK739 hg; have n8_ := bn1 BK744 hg; have n9_ := bn2 BK744 hg; have n10_ := bn1 BK745 hg; have n11_ := bn2 BK745 hg; have n12_ := bn1 BK746 hg; have n13_ := bn2 BK746 hg; have n14_ := bn1 BK747 hg; have n15_ := bn2 BK747 hg; have n16_ := bn1 BK748 hg; have n17_ := bn2 BK748 hg; have n18_ := bn1 BK749 hg; have n19_ := bn2 BK749 hg; have n20_ := bn1 BK750 hg; have n21_ := bn2 BK750 hg; replace BK738 := bbw BK738 hb; replace BK739 := bbw BK739 hb; replace BK744 := bbw BK744 hb; replace BK745 := bbw BK745 hb; replace BK746 := bbw BK746 hb; replace BK747 := bbw BK747 hb; replace BK748 := bbw BK748 hb; replace BK749 := bbw BK749 hb; replace BK750 := bbw BK750 hb; clear HB; have HB := n0_; have BK751 := n1_; have GW751 := n2_; have GE751 := n3_; have NB738_751 := n4_; have NB751_738 := n5_; have NB739_751 := n6_; have NB751_739 := n7_; have NB744_751 := n8_; have NB751_744 := n9_; have NB745_751 := n10_; have NB751_745 := n11_; have NB746_751 := n12_; have NB751_746 := n13_; have NB747_751 := n14_; have NB751_747 := n15_; have NB748_751 := n16_; have NB751_748 := n17_; have NB749_751 := n18_; have NB751_749 := n19_; have NB750_751 := n20_; have NB751_750 := n21_; clear n0_ n1_ n2_ n3_ n4_ n5_ n6_ n7_ n8_ n9_ n10_ n11_ n12_ n13_ n14_ n15_ n16_ n17_ n18_ n19_ n20_ n21_; clear hb hbox hg) | ((with_reducible refine gate_dst (N := 13) rfl ?_); refine box_event ?hg (N := 13) ?hd (cs := #[.bool false, .int .i64 0, .int .i64 0]) (t := 35) ?hr ?_; (case hd => rfl); (case hg => rfl); (case hr => first | (go_simp; done) | (go_simp; rfl)); intro gb752 hg w22 hbox hb; have n0_ := bst HB hb; have n1_ := Aside0.mk (hbox); have n2_ := bsz HB hg; have n3_ := bsz HB hg; have n4_ := bn1 BK738 hg; have n5_ := bn2 BK738 hg; have n6_ := bn1 BK739 hg; have n7_ := bn2 BK739 hg; have n8_ := bn1 BK744 hg; have n9_ := bn2 BK744 hg; have n10_ := bn1 BK745 hg; have n11_ := bn2 BK745 hg; have n12_ := bn1 BK746 hg; have n13_ := bn2 BK746 hg; have n14_ := bn1 BK747 hg; have n15_ := bn2 BK747 hg; have n16_ := bn1 BK748 hg; have n17_ := bn2 BK748 hg; have n18_ := bn1 BK749 hg; have n19_ := bn2 BK749 hg; have n20_ := bn1 BK750 hg; have n21_ := bn2 BK750 hg; have n22_ := bn1 BK751 hg; have n23_ := bn2 BK751 hg; replace BK738 := bbw BK738 hb; replace BK739 := bbw BK739 hb; replace BK744 := bbw BK744 hb; replace BK745 := bbw BK745 hb; replace BK746 := bbw BK746 hb; replace BK747 := bbw BK747 hb; replace BK748 := bbw BK748 hb; replace BK749 := bbw BK749 hb; replace BK750 := bbw BK750 hb; replace BK751 := bbw BK751 hb; clear HB; have HB := n0_; have BK752 := n1_; have GW752 := n2_; have GE752 := n3_; have NB738_752 := n4_; have NB752_738 := n5_; have NB739_752 := n6_; have NB752_739 := n7_; have NB744_752 := n8_; have NB752_744 := n9_; have NB745_752 := n10_; have NB752_745 := n11_; have NB746_752 := n12_; have NB752_746 := n13_; have NB747_752 := n14_; have NB752_747 := n15_; have NB748_752 := n16_; have NB752_748 := n17_; have NB749_752 := n18_; have NB752_749 := n19_; have NB750_752 := n20_; have NB752_750 := n21_; have NB751_752 := n22_; have NB752_751 := n23_; clear n0_ n1_ n2_ n3_ n4_ n5_ n6_ n7_ n8_ n9_ n10_ n11_ n12_ n13_ n14_ n15_ n16_ n17_ n18_ n19_ n20_ n21_ n22_ n23_; clear hb hbox hg) | ((with_reducible refine gate_dst (N := 14) rfl ?_); refine box_event ?hg (N := 14) ?hd (cs := #[.bool false, .int .i64 0, .int .i64 0]) (t := 35) ?hr ?_; (case hd => rfl); (case hg => rfl); (case hr => first | (go_simp; done) | (go_simp; rfl)); intro gb753 hg w23 hbox hb; have n0_ := bst HB hb; have n1_ := Aside0.mk (hbox); have n2_ := bsz HB hg; have n3_ := bsz HB hg; have n4_ := bn1 BK738 hg; have n5_ := bn2 BK738 hg; have n6_ := bn1 BK739 hg; have n7_ := bn2 BK739 hg; have n8_ := bn1 BK744 hg; have n9_ := bn2 BK744 hg; have n10_ := bn1 BK745 hg; have n11_ := bn2 BK745 hg; have n12_ := bn1 BK746 hg; have n13_ := bn2 BK746 hg; have n14_ := bn1 BK747 hg; have n15_ := bn2 BK747 hg; have n16_ := bn1 BK748 hg; have n17_ := bn2 BK748 hg; have n18_ := bn1 BK749 hg; have n19_ := bn2 BK749 hg; have n20_ := bn1 BK750 hg; have n21_ := bn2 BK750 hg; have n22_ := bn1 BK751 hg; have n23_ := bn2 BK751 hg; have n24_ := bn1 BK752 hg; have n25_ := bn2 BK752 hg; replace BK738 := bbw BK738 hb; replace BK739 := bbw BK739 hb; replace BK744 := bbw BK744 hb; replace BK745 := bbw BK745 hb; replace BK746 := bbw BK746 hb; replace BK747 := bbw BK747 hb; replace BK748 := bbw BK748 hb; replace BK749 := bbw BK749 hb; replace BK750 := bbw BK750 hb; replace BK751 := bbw BK751 hb; replace BK752 := bbw BK752 hb; clear HB; have HB := n0_; have BK753 := n1_; have GW753 := n2_; have GE753 := n3_; have NB738_753 := n4_; have NB753_738 := n5_; have NB739_753 := n6_; have NB753_739 := n7_; have NB744_753 := n8_; have NB753_744 := n9_; have NB745_753 := n10_; have NB753_745 := n11_; have NB746_753 := n12_; have NB753_746 := n13_; have NB747_753 := n14_; have NB753_747 := n15_; have NB748_753 := n16_; have NB753_748 := n17_; have NB749_753 := n18_; have NB753_749 := n19_; have NB750_753 := n20_; have NB753_750 := n21_; have NB751_753 := n22_; have NB753_751 := n23_; have NB752_753 := n24_; have NB753_752 := n25_; clear n0_ n1_ n2_ n3_ n4_ n5_ n6_ n7_ n8_ n9_ n10_ n11_ n12_ n13_ n14_ n15_ n16_ n17_ n18_ n19_ n20_ n21_ n22_ n23_ n24_ n25_; clear hb hbox hg; have hnb24 := NB738_744.out; have hnc24 := NB744_738.out; have hnb25 := NB738_745.out; have hnc25 := NB745_738.out; have hnb26 := NB738_746.out; have hnc26 := NB746_738.out; have hnb27 := NB738_747.out; have hnc27 := NB747_738.out; have hnb28 := NB738_748.out; have hnc28 := NB748_738.out; have hnb29 := NB738_749.out; have hnc29 := NB749_738.out; have hnb30 := NB738_750.out; have hnc30 := NB750_738.out; have hnb31 := NB738_751.out; have hnc31 := NB751_738.out; have hnb32 := NB738_752.out; have hnc32 := NB752_738.out; have hnb33 := NB738_753.out; have hnc33 := NB753_738.out; have hcz34_0 := hcz BK738 0; have hcz34_1 := hcz BK738 1; have hfz34_0 := blk_frozen BK738.out 0; have hfz34_1 := blk_frozen BK738.out 1))
  go_loopg [15] k (fun kq v15 w' => ∃ (x15_1 : Int) (x745000_1 : Bool) (x745001_1 : Int) (x745002_1 : Int) (x746000_1 : Bool) (x746001_1 : Int) (x746002_1 : Int) (x747000_1 : Bool) (x747001_1 : Int) (x747002_1 : Int) (x748000_1 : Bool) (x748001_1 : Int) (x748002_1 : Int) (x749000_1 : Bool) (x749001_1 : Int) (x749002_1 : Int) (x750000_1 : Bool) (x750001_1 : Int) (x750002_1 : Int) (x751000_1 : Bool) (x751001_1 : Int) (x751002_1 : Int) (x752000_1 : Bool) (x752001_1 : Int) (x752002_1 : Int) (x753000_1 : Bool) (x753001_1 : Int) (x753002_1 : Int) (x754000_1 : Bool) (x754001_1 : Int) (x754002_1 : Int), v15 = .int .i64 x15_1 ∧ Aside0 (gimballaw02_ItvLeast.l0 kq x15_1 t740 t741 t742 t743 x745000_1 x745001_1 x745002_1 x746000_1 x746001_1 x746002_1 x747000_1 x747001_1 x747002_1 x748000_1 x748001_1 x748002_1 x749000_1 x749001_1 x749002_1 x750000_1 x750001_1 x750002_1 x751000_1 x751001_1 x751002_1 x752000_1 x752001_1 x752002_1 x753000_1 x753001_1 x753002_1 x754000_1 x754001_1 x754002_1 = some true) ∧ Aside0 (kq ≤ k) ∧ Aside0 (w'.heap[gb738]? = some (.cells #[.int .i64 t740, .int .i64 t741] 23 (0, 0))) ∧ Aside0 (w'.heap[gb739]? = some (.cells #[.int .i64 t742, .int .i64 t743] 23 (0, 0))) ∧ Aside0 (w'.heap[gb744]? = some (.cells #[.bool x745000_1, .int .i64 x745001_1, .int .i64 x745002_1] 35 (0, 0))) ∧ Aside0 (w'.heap[gb745]? = some (.cells #[.bool x746000_1, .int .i64 x746001_1, .int .i64 x746002_1] 35 (0, 0))) ∧ Aside0 (w'.heap[gb746]? = some (.cells #[.bool x747000_1, .int .i64 x747001_1, .int .i64 x747002_1] 35 (0, 0))) ∧ Aside0 (w'.heap[gb747]? = some (.cells #[.bool x748000_1, .int .i64 x748001_1, .int .i64 x748002_1] 35 (0, 0))) ∧ Aside0 (w'.heap[gb748]? = some (.cells #[.bool x749000_1, .int .i64 x749001_1, .int .i64 x749002_1] 35 (0, 0))) ∧ Aside0 (w'.heap[gb749]? = some (.cells #[.bool x750000_1, .int .i64 x750001_1, .int .i64 x750002_1] 35 (0, 0))) ∧ Aside0 (w'.heap[gb750]? = some (.cells #[.bool x751000_1, .int .i64 x751001_1, .int .i64 x751002_1] 35 (0, 0))) ∧ Aside0 (w'.heap[gb751]? = some (.cells #[.bool x752000_1, .int .i64 x752001_1, .int .i64 x752002_1] 35 (0, 0))) ∧ Aside0 (w'.heap[gb752]? = some (.cells #[.bool x753000_1, .int .i64 x753001_1, .int .i64 x753002_1] 35 (0, 0))) ∧ Aside0 (w'.heap[gb753]? = some (.cells #[.bool x754000_1, .int .i64 x754001_1, .int .i64 x754002_1] 35 (0, 0))) ∧ Aside0 (Below w.heap.size w w'))
  case atStart => exact ⟨(t740), (false), (0), (0), (false), (0), (0), (false), (0), (0), (false), (0), (0), (false), (0), (0), (false), (0), (0), (false), (0), (0), (false), (0), (0), (false), (0), (0), (false), (0), (0), (by first | rfl | (simp; done) | (simp [*]; done)), H', ⟨Nat.le_refl _⟩, pkA BK738, pkA BK739, pkA BK744, pkA BK745, pkA BK746, pkA BK747, pkA BK748, pkA BK749, pkA BK750, pkA BK751, pkA BK752, pkA BK753, bpk HB⟩
  case round =>
   clear H'
   try clear c2
   try clear p2
   try clear c3
   try clear c7
   try clear c8
   try clear c24
   try clear c25
   try clear c26
   try clear c27
   try clear c28
   try clear c29
   try clear c30
   try clear c31
   try clear c32
   try clear c33
   try clear hcz10_0
   try clear hcz10_1
   try clear hcz11_0
   try clear hcz11_1
   try clear hcz13_0
   try clear hcz13_1
   try clear hcz34_0
   try clear hcz34_1
   try clear hcz8_0
   try clear hcz8_1
   try clear hfz10_0
   try clear hfz10_1
   try clear hfz11_0
   try clear hfz11_1
   try clear hfz13_0
   try clear hfz13_1
   try clear hfz34_0
   try clear hfz34_1
   try clear hfz8_0
   try clear hfz8_1
   obtain ⟨x15_1, x745000_1, x745001_1, x745002_1, x746000_1, x746001_1, x746002_1, x747000_1, x747001_1, x747002_1, x748000_1, x748001_1, x748002_1, x749000_1, x749001_1, x749002_1, x750000_1, x750001_1, x750002_1, x751000_1, x751001_1, x751002_1, x752000_1, x752001_1, x752002_1, x753000_1, x753001_1, x753002_1, x754000_1, x754001_1, x754002_1, rfl, HA, HK1, BK738, BK739, BK744, BK745, BK746, BK747, BK748, BK749, BK750, BK751, BK752, BK753, HB⟩ := hrel
   cases gk with
   | zero => exact absurd HA.out (by simp [gimballaw02_ItvLeast.l0])
   | succ k1 =>
    have H := HA.out
    clear HA
    simp only [gimballaw02_ItvLeast.l0] at H
    by_cases c35 : x15_1 ≤ t741
    ·
     rw [if_pos c35] at H
     have c35b0 : decide (x15_1 ≤ t741) = true := decide_eq_true c35
     clear c35
     replace H := Option.bind_eq_some_iff.mp H
     obtain ⟨⟨t754, t755, t756⟩, A360, H⟩ := H
     replace H : ((gimballaw02_size.f x15_1).bind fun t757 => ((gimballaw02_whole_put.f k1 x754000_1 x754001_1 x754002_1 t757).bind fun bt758 => ((gimballaw02_whole_put.f k1 x752000_1 x752001_1 x752002_1 x15_1).bind fun bt761 => (gimballaw02_ItvLeast.l1 k1 x15_1 t742 t740 t741 t742 t743 x745000_1 x745001_1 x745002_1 x746000_1 x746001_1 x746002_1 x747000_1 x747001_1 x747002_1 x748000_1 x748001_1 x748002_1 x749000_1 x749001_1 x749002_1 x750000_1 x750001_1 x750002_1 x751000_1 x751001_1 x751002_1 bt761.1 bt761.2.1 bt761.2.2 t754 t755 t756 bt758.1 bt758.2.1 bt758.2.2)))) = some true := H
     have A36 := Aside0.mk A360
     clear A360
     replace H := Option.bind_eq_some_iff.mp H
     obtain ⟨t757, A370, H⟩ := H
     replace H : ((gimballaw02_whole_put.f k1 x754000_1 x754001_1 x754002_1 t757).bind fun bt758 => ((gimballaw02_whole_put.f k1 x752000_1 x752001_1 x752002_1 x15_1).bind fun bt761 => (gimballaw02_ItvLeast.l1 k1 x15_1 t742 t740 t741 t742 t743 x745000_1 x745001_1 x745002_1 x746000_1 x746001_1 x746002_1 x747000_1 x747001_1 x747002_1 x748000_1 x748001_1 x748002_1 x749000_1 x749001_1 x749002_1 x750000_1 x750001_1 x750002_1 x751000_1 x751001_1 x751002_1 bt761.1 bt761.2.1 bt761.2.2 t754 t755 t756 bt758.1 bt758.2.1 bt758.2.2))) = some true := H
     have A37 := Aside0.mk A370
     clear A370
     replace H := Option.bind_eq_some_iff.mp H
     obtain ⟨⟨t758, t759, t760⟩, A380, H⟩ := H
     replace H : ((gimballaw02_whole_put.f k1 x752000_1 x752001_1 x752002_1 x15_1).bind fun bt761 => (gimballaw02_ItvLeast.l1 k1 x15_1 t742 t740 t741 t742 t743 x745000_1 x745001_1 x745002_1 x746000_1 x746001_1 x746002_1 x747000_1 x747001_1 x747002_1 x748000_1 x748001_1 x748002_1 x749000_1 x749001_1 x749002_1 x750000_1 x750001_1 x750002_1 x751000_1 x751001_1 x751002_1 bt761.1 bt761.2.1 bt761.2.2 t754 t755 t756 t758 t759 t760)) = some true := H
     have A38 := Aside0.mk A380
     clear A380
     replace H := Option.bind_eq_some_iff.mp H
     obtain ⟨⟨t761, t762, t763⟩, A390, H⟩ := H
     replace H : (gimballaw02_ItvLeast.l1 k1 x15_1 t742 t740 t741 t742 t743 x745000_1 x745001_1 x745002_1 x746000_1 x746001_1 x746002_1 x747000_1 x747001_1 x747002_1 x748000_1 x748001_1 x748002_1 x749000_1 x749001_1 x749002_1 x750000_1 x750001_1 x750002_1 x751000_1 x751001_1 x751002_1 t761 t762 t763 t754 t755 t756 t758 t759 t760) = some true := H
     have A39 := Aside0.mk A390
     clear A390
     have H' := Aside0.mk H
     clear H
     have hnb40 := NB738_739.out
     have hnc40 := NB739_738.out
     have hnb41 := NB738_744.out
     have hnc41 := NB744_738.out
     have hnb42 := NB738_745.out
     have hnc42 := NB745_738.out
     have hnb43 := NB738_746.out
     have hnc43 := NB746_738.out
     have hnb44 := NB738_747.out
     have hnc44 := NB747_738.out
     have hnb45 := NB738_748.out
     have hnc45 := NB748_738.out
     have hnb46 := NB738_749.out
     have hnc46 := NB749_738.out
     have hnb47 := NB738_750.out
     have hnc47 := NB750_738.out
     have hnb48 := NB738_751.out
     have hnc48 := NB751_738.out
     have hnb49 := NB738_752.out
     have hnc49 := NB752_738.out
     have hnb50 := NB738_753.out
     have hnc50 := NB753_738.out
     have hcz51_0 := hcz BK738 0
     have hcz51_1 := hcz BK738 1
     have hfz51_0 := blk_frozen BK738.out 0
     have hfz51_1 := blk_frozen BK738.out 1
     go_wp2_with (first | (go_at_call 32; (with_reducible refine (gimballaw02_whole_put.calls k1 gb752 x753000_1 x753001_1 x753002_1 (wrap64 (-x15_1)) t754 t755 t756 w _ ?side1 ?side2 A36.out).mono ?_); (case side1 => exact And.intro (pk BK752.out) GE752.out); (case side2 => repeat (first | (with_reducible first | exact HB.out | apply below_alloc | apply pw_below_drewN | apply below_drew1 | refine below_set ?_ (IsS35.ge HI752.out) | refine below_set ?_ GE738.out | refine below_set ?_ GE739.out | refine below_set ?_ GE744.out | refine below_set ?_ GE745.out | refine below_set ?_ GE746.out | refine below_set ?_ GE747.out | refine below_set ?_ GE748.out | refine below_set ?_ GE749.out | refine below_set ?_ GE750.out | refine below_set ?_ GE751.out | refine below_set ?_ GE753.out) | exact HB.out)); rintro e w52 ⟨rfl, hi, hb, hk⟩; have n0_ := Aside0.mk (KeepBut.blk hk (g' := gb738) (o := .cells #[.int .i64 t740, .int .i64 t741] 23 (0, 0)) (pk BK738.out) NB738_752.out (by simp)); have n1_ := Aside0.mk (KeepBut.blk hk (g' := gb739) (o := .cells #[.int .i64 t742, .int .i64 t743] 23 (0, 0)) (pk BK739.out) NB739_752.out (by simp)); have n2_ := Aside0.mk (KeepBut.blk hk (g' := gb744) (o := .cells #[.bool x745000_1, .int .i64 x745001_1, .int .i64 x745002_1] 35 (0, 0)) (pk BK744.out) NB744_752.out (by simp)); have n3_ := Aside0.mk (KeepBut.blk hk (g' := gb745) (o := .cells #[.bool x746000_1, .int .i64 x746001_1, .int .i64 x746002_1] 35 (0, 0)) (pk BK745.out) NB745_752.out (by simp)); have n4_ := Aside0.mk (KeepBut.blk hk (g' := gb746) (o := .cells #[.bool x747000_1, .int .i64 x747001_1, .int .i64 x747002_1] 35 (0, 0)) (pk BK746.out) NB746_752.out (by simp)); have n5_ := Aside0.mk (KeepBut.blk hk (g' := gb747) (o := .cells #[.bool x748000_1, .int .i64 x748001_1, .int .i64 x748002_1] 35 (0, 0)) (pk BK747.out) NB747_752.out (by simp)); have n6_ := Aside0.mk (KeepBut.blk hk (g' := gb748) (o := .cells #[.bool x749000_1, .int .i64 x749001_1, .int .i64 x749002_1] 35 (0, 0)) (pk BK748.out) NB748_752.out (by simp)); have n7_ := Aside0.mk (KeepBut.blk hk (g' := gb749) (o := .cells #[.bool x750000_1, .int .i64 x750001_1, .int .i64 x750002_1] 35 (0, 0)) (pk BK749.out) NB749_752.out (by simp)); have n8_ := Aside0.mk (KeepBut.blk hk (g' := gb750) (o := .cells #[.bool x751000_1, .int .i64 x751001_1, .int .i64 x751002_1] 35 (0, 0)) (pk BK750.out) NB750_752.out (by simp)); have n9_ := Aside0.mk (KeepBut.blk hk (g' := gb751) (o := .cells #[.bool x752000_1, .int .i64 x752001_1, .int .i64 x752002_1] 35 (0, 0)) (pk BK751.out) NB751_752.out (by simp)); have n10_ := Aside0.mk (KeepBut.blk hk (g' := gb753) (o := .cells #[.bool x754000_1, .int .i64 x754001_1, .int .i64 x754002_1] 35 (0, 0)) (pk BK753.out) NB753_752.out (by simp)); have n11_ := Aside0.mk (hb); have n12_ := Aside0.mk ((hi).1); clear BK738; clear BK739; clear BK744; clear BK745; clear BK746; clear BK747; clear BK748; clear BK749; clear BK750; clear BK751; clear BK753; clear HB; clear BK752; have BK738 := n0_; have BK739 := n1_; have BK744 := n2_; have BK745 := n3_; have BK746 := n4_; have BK747 := n5_; have BK748 := n6_; have BK749 := n7_; have BK750 := n8_; have BK751 := n9_; have BK753 := n10_; have HB := n11_; have BK752 := n12_; clear n0_ n1_ n2_ n3_ n4_ n5_ n6_ n7_ n8_ n9_ n10_ n11_ n12_; (try clear hb); (try clear hb2); (try clear hk); (try clear hi)) | (go_at_call 39; (with_reducible refine (gimballaw02_size.calls x15_1 t757 _ A37.out).mono ?_); rintro e w' ⟨rfl, ⟨nd, rfl⟩⟩) | (go_at_call 32; (with_reducible refine (gimballaw02_whole_put.calls k1 gb753 x754000_1 x754001_1 x754002_1 t757 t758 t759 t760 w _ ?side1 ?side2 A38.out).mono ?_); (case side1 => exact And.intro (pk BK753.out) GE753.out); (case side2 => repeat (first | (with_reducible first | exact HB.out | apply below_alloc | apply pw_below_drewN | apply below_drew1 | refine below_set ?_ (IsS35.ge HI753.out) | refine below_set ?_ GE738.out | refine below_set ?_ GE739.out | refine below_set ?_ GE744.out | refine below_set ?_ GE745.out | refine below_set ?_ GE746.out | refine below_set ?_ GE747.out | refine below_set ?_ GE748.out | refine below_set ?_ GE749.out | refine below_set ?_ GE750.out | refine below_set ?_ GE751.out | refine below_set ?_ GE752.out) | exact HB.out)); rintro e w53 ⟨rfl, hi, hb, hk⟩; have n0_ := Aside0.mk (KeepBut.blk hk (g' := gb738) (o := .cells #[.int .i64 t740, .int .i64 t741] 23 (0, 0)) (pk BK738.out) NB738_753.out (by simp)); have n1_ := Aside0.mk (KeepBut.blk hk (g' := gb739) (o := .cells #[.int .i64 t742, .int .i64 t743] 23 (0, 0)) (pk BK739.out) NB739_753.out (by simp)); have n2_ := Aside0.mk (KeepBut.blk hk (g' := gb744) (o := .cells #[.bool x745000_1, .int .i64 x745001_1, .int .i64 x745002_1] 35 (0, 0)) (pk BK744.out) NB744_753.out (by simp)); have n3_ := Aside0.mk (KeepBut.blk hk (g' := gb745) (o := .cells #[.bool x746000_1, .int .i64 x746001_1, .int .i64 x746002_1] 35 (0, 0)) (pk BK745.out) NB745_753.out (by simp)); have n4_ := Aside0.mk (KeepBut.blk hk (g' := gb746) (o := .cells #[.bool x747000_1, .int .i64 x747001_1, .int .i64 x747002_1] 35 (0, 0)) (pk BK746.out) NB746_753.out (by simp)); have n5_ := Aside0.mk (KeepBut.blk hk (g' := gb747) (o := .cells #[.bool x748000_1, .int .i64 x748001_1, .int .i64 x748002_1] 35 (0, 0)) (pk BK747.out) NB747_753.out (by simp)); have n6_ := Aside0.mk (KeepBut.blk hk (g' := gb748) (o := .cells #[.bool x749000_1, .int .i64 x749001_1, .int .i64 x749002_1] 35 (0, 0)) (pk BK748.out) NB748_753.out (by simp)); have n7_ := Aside0.mk (KeepBut.blk hk (g' := gb749) (o := .cells #[.bool x750000_1, .int .i64 x750001_1, .int .i64 x750002_1] 35 (0, 0)) (pk BK749.out) NB749_753.out (by simp)); have n8_ := Aside0.mk (KeepBut.blk hk (g' := gb750) (o := .cells #[.bool x751000_1, .int .i64 x751001_1, .int .i64 x751002_1] 35 (0, 0)) (pk BK750.out) NB750_753.out (by simp)); have n9_ := Aside0.mk (KeepBut.blk hk (g' := gb751) (o := .cells #[.bool x752000_1, .int .i64 x752001_1, .int .i64 x752002_1] 35 (0, 0)) (pk BK751.out) NB751_753.out (by simp)); have n10_ := Aside0.mk (KeepBut.blk hk (g' := gb752) (o := .cells #[.bool t754, .int .i64 t755, .int .i64 t756] 35 (0, 0)) (pk BK752.out) NB752_753.out (by simp)); have n11_ := Aside0.mk (hb); have n12_ := Aside0.mk ((hi).1); clear BK738; clear BK739; clear BK744; clear BK745; clear BK746; clear BK747; clear BK748; clear BK749; clear BK750; clear BK751; clear BK752; clear HB; clear BK753; have BK738 := n0_; have BK739 := n1_; have BK744 := n2_; have BK745 := n3_; have BK746 := n4_; have BK747 := n5_; have BK748 := n6_; have BK749 := n7_; have BK750 := n8_; have BK751 := n9_; have BK752 := n10_; have HB := n11_; have BK753 := n12_; clear n0_ n1_ n2_ n3_ n4_ n5_ n6_ n7_ n8_ n9_ n10_ n11_ n12_; (try clear hb); (try clear hb2); (try clear hk); (try clear hi)) | (go_at_call 32; (with_reducible refine (gimballaw02_whole_put.calls k1 gb751 x752000_1 x752001_1 x752002_1 x15_1 t761 t762 t763 w _ ?side1 ?side2 A39.out).mono ?_); (case side1 => exact And.intro (pk BK751.out) GE751.out); (case side2 => repeat (first | (with_reducible first | exact HB.out | apply below_alloc | apply pw_below_drewN | apply below_drew1 | refine below_set ?_ (IsS35.ge HI751.out) | refine below_set ?_ GE738.out | refine below_set ?_ GE739.out | refine below_set ?_ GE744.out | refine below_set ?_ GE745.out | refine below_set ?_ GE746.out | refine below_set ?_ GE747.out | refine below_set ?_ GE748.out | refine below_set ?_ GE749.out | refine below_set ?_ GE750.out | refine below_set ?_ GE752.out | refine below_set ?_ GE753.out) | exact HB.out)); rintro e w54 ⟨rfl, hi, hb, hk⟩; have n0_ := Aside0.mk (KeepBut.blk hk (g' := gb738) (o := .cells #[.int .i64 t740, .int .i64 t741] 23 (0, 0)) (pk BK738.out) NB738_751.out (by simp)); have n1_ := Aside0.mk (KeepBut.blk hk (g' := gb739) (o := .cells #[.int .i64 t742, .int .i64 t743] 23 (0, 0)) (pk BK739.out) NB739_751.out (by simp)); have n2_ := Aside0.mk (KeepBut.blk hk (g' := gb744) (o := .cells #[.bool x745000_1, .int .i64 x745001_1, .int .i64 x745002_1] 35 (0, 0)) (pk BK744.out) NB744_751.out (by simp)); have n3_ := Aside0.mk (KeepBut.blk hk (g' := gb745) (o := .cells #[.bool x746000_1, .int .i64 x746001_1, .int .i64 x746002_1] 35 (0, 0)) (pk BK745.out) NB745_751.out (by simp)); have n4_ := Aside0.mk (KeepBut.blk hk (g' := gb746) (o := .cells #[.bool x747000_1, .int .i64 x747001_1, .int .i64 x747002_1] 35 (0, 0)) (pk BK746.out) NB746_751.out (by simp)); have n5_ := Aside0.mk (KeepBut.blk hk (g' := gb747) (o := .cells #[.bool x748000_1, .int .i64 x748001_1, .int .i64 x748002_1] 35 (0, 0)) (pk BK747.out) NB747_751.out (by simp)); have n6_ := Aside0.mk (KeepBut.blk hk (g' := gb748) (o := .cells #[.bool x749000_1, .int .i64 x749001_1, .int .i64 x749002_1] 35 (0, 0)) (pk BK748.out) NB748_751.out (by simp)); have n7_ := Aside0.mk (KeepBut.blk hk (g' := gb749) (o := .cells #[.bool x750000_1, .int .i64 x750001_1, .int .i64 x750002_1] 35 (0, 0)) (pk BK749.out) NB749_751.out (by simp)); have n8_ := Aside0.mk (KeepBut.blk hk (g' := gb750) (o := .cells #[.bool x751000_1, .int .i64 x751001_1, .int .i64 x751002_1] 35 (0, 0)) (pk BK750.out) NB750_751.out (by simp)); have n9_ := Aside0.mk (KeepBut.blk hk (g' := gb752) (o := .cells #[.bool t754, .int .i64 t755, .int .i64 t756] 35 (0, 0)) (pk BK752.out) NB752_751.out (by simp)); have n10_ := Aside0.mk (KeepBut.blk hk (g' := gb753) (o := .cells #[.bool t758, .int .i64 t759, .int .i64 t760] 35 (0, 0)) (pk BK753.out) NB753_751.out (by simp)); have n11_ := Aside0.mk (hb); have n12_ := Aside0.mk ((hi).1); clear BK738; clear BK739; clear BK744; clear BK745; clear BK746; clear BK747; clear BK748; clear BK749; clear BK750; clear BK752; clear BK753; clear HB; clear BK751; have BK738 := n0_; have BK739 := n1_; have BK744 := n2_; have BK745 := n3_; have BK746 := n4_; have BK747 := n5_; have BK748 := n6_; have BK749 := n7_; have BK750 := n8_; have BK752 := n9_; have BK753 := n10_; have HB := n11_; have BK751 := n12_; clear n0_ n1_ n2_ n3_ n4_ n5_ n6_ n7_ n8_ n9_ n10_ n11_ n12_; (try clear hb); (try clear hb2); (try clear hk); (try clear hi); have hnb55 := NB739_744.out; have hnc55 := NB744_739.out; have hnb56 := NB739_745.out; have hnc56 := NB745_739.out; have hnb57 := NB739_746.out; have hnc57 := NB746_739.out; have hnb58 := NB739_747.out; have hnc58 := NB747_739.out; have hnb59 := NB739_748.out; have hnc59 := NB748_739.out; have hnb60 := NB739_749.out; have hnc60 := NB749_739.out; have hnb61 := NB739_750.out; have hnc61 := NB750_739.out; have hnb62 := NB739_751.out; have hnc62 := NB751_739.out; have hnb63 := NB739_752.out; have hnc63 := NB752_739.out; have hnb64 := NB739_753.out; have hnc64 := NB753_739.out; have hcz65_0 := hcz BK739 0; have hcz65_1 := hcz BK739 1; have hfz65_0 := blk_frozen BK739.out 0; have hfz65_1 := blk_frozen BK739.out 1))
     go_loopg [16] k1 (fun kq v16 w' => ∃ (x16_2 : Int) (x745000_2 : Bool) (x745001_2 : Int) (x745002_2 : Int) (x746000_2 : Bool) (x746001_2 : Int) (x746002_2 : Int) (x747000_2 : Bool) (x747001_2 : Int) (x747002_2 : Int) (x748000_2 : Bool) (x748001_2 : Int) (x748002_2 : Int) (x749000_2 : Bool) (x749001_2 : Int) (x749002_2 : Int) (x750000_2 : Bool) (x750001_2 : Int) (x750002_2 : Int) (x751000_2 : Bool) (x751001_2 : Int) (x751002_2 : Int), v16 = .int .i64 x16_2 ∧ Aside0 (gimballaw02_ItvLeast.l1 kq x15_1 x16_2 t740 t741 t742 t743 x745000_2 x745001_2 x745002_2 x746000_2 x746001_2 x746002_2 x747000_2 x747001_2 x747002_2 x748000_2 x748001_2 x748002_2 x749000_2 x749001_2 x749002_2 x750000_2 x750001_2 x750002_2 x751000_2 x751001_2 x751002_2 t761 t762 t763 t754 t755 t756 t758 t759 t760 = some true) ∧ Aside0 (kq ≤ k1) ∧ Aside0 (w'.heap[gb738]? = some (.cells #[.int .i64 t740, .int .i64 t741] 23 (0, 0))) ∧ Aside0 (w'.heap[gb739]? = some (.cells #[.int .i64 t742, .int .i64 t743] 23 (0, 0))) ∧ Aside0 (w'.heap[gb744]? = some (.cells #[.bool x745000_2, .int .i64 x745001_2, .int .i64 x745002_2] 35 (0, 0))) ∧ Aside0 (w'.heap[gb745]? = some (.cells #[.bool x746000_2, .int .i64 x746001_2, .int .i64 x746002_2] 35 (0, 0))) ∧ Aside0 (w'.heap[gb746]? = some (.cells #[.bool x747000_2, .int .i64 x747001_2, .int .i64 x747002_2] 35 (0, 0))) ∧ Aside0 (w'.heap[gb747]? = some (.cells #[.bool x748000_2, .int .i64 x748001_2, .int .i64 x748002_2] 35 (0, 0))) ∧ Aside0 (w'.heap[gb748]? = some (.cells #[.bool x749000_2, .int .i64 x749001_2, .int .i64 x749002_2] 35 (0, 0))) ∧ Aside0 (w'.heap[gb749]? = some (.cells #[.bool x750000_2, .int .i64 x750001_2, .int .i64 x750002_2] 35 (0, 0))) ∧ Aside0 (w'.heap[gb750]? = some (.cells #[.bool x751000_2, .int .i64 x751001_2, .int .i64 x751002_2] 35 (0, 0))) ∧ Aside0 (w'.heap[gb751]? = some (.cells #[.bool t761, .int .i64 t762, .int .i64 t763] 35 (0, 0))) ∧ Aside0 (w'.heap[gb752]? = some (.cells #[.bool t754, .int .i64 t755, .int .i64 t756] 35 (0, 0))) ∧ Aside0 (w'.heap[gb753]? = some (.cells #[.bool t758, .int .i64 t759, .int .i64 t760] 35 (0, 0))) ∧ Aside0 (Below w.heap.size w w'))
     case atStart => exact ⟨(t742), (x745000_1), (x745001_1), (x745002_1), (x746000_1), (x746001_1), (x746002_1), (x747000_1), (x747001_1), (x747002_1), (x748000_1), (x748001_1), (x748002_1), (x749000_1), (x749001_1), (x749002_1), (x750000_1), (x750001_1), (x750002_1), (x751000_1), (x751001_1), (x751002_1), (by first | rfl | (simp; done) | (simp [*]; done)), H', ⟨Nat.le_refl _⟩, pkA BK738, pkA BK739, pkA BK744, pkA BK745, pkA BK746, pkA BK747, pkA BK748, pkA BK749, pkA BK750, pkA BK751, pkA BK752, pkA BK753, bpk HB⟩
     case round =>
      clear H'
      try clear c2
      try clear p2
      try clear c3
      try clear c4
      try clear c5
      try clear c6
      try clear p6
      try clear c7
      try clear c8
      try clear c24
      try clear c25
      try clear c26
      try clear c27
      try clear c28
      try clear c29
      try clear c30
      try clear c31
      try clear c32
      try clear c33
      try clear c35
      try clear c35b0
      try clear c40
      try clear c41
      try clear c42
      try clear c43
      try clear c44
      try clear c45
      try clear c46
      try clear c47
      try clear c48
      try clear c49
      try clear c50
      try clear c55
      try clear c56
      try clear c57
      try clear c58
      try clear c59
      try clear c60
      try clear c61
      try clear c62
      try clear c63
      try clear c64
      try clear p64
      try clear hcz10_0
      try clear hcz10_1
      try clear hcz11_0
      try clear hcz11_1
      try clear hcz13_0
      try clear hcz13_1
      try clear hcz34_0
      try clear hcz34_1
      try clear hcz51_0
      try clear hcz51_1
      try clear hcz65_0
      try clear hcz65_1
      try clear hcz8_0
      try clear hcz8_1
      try clear hfz10_0
      try clear hfz10_1
      try clear hfz11_0
      try clear hfz11_1
      try clear hfz13_0
      try clear hfz13_1
      try clear hfz34_0
      try clear hfz34_1
      try clear hfz51_0
      try clear hfz51_1
      try clear hfz65_0
      try clear hfz65_1
      try clear hfz8_0
      try clear hfz8_1
      try clear p2
      obtain ⟨x16_2, x745000_2, x745001_2, x745002_2, x746000_2, x746001_2, x746002_2, x747000_2, x747001_2, x747002_2, x748000_2, x748001_2, x748002_2, x749000_2, x749001_2, x749002_2, x750000_2, x750001_2, x750002_2, x751000_2, x751001_2, x751002_2, rfl, HA, HK2, BK738, BK739, BK744, BK745, BK746, BK747, BK748, BK749, BK750, BK751, BK752, BK753, HB⟩ := hrel
      cases gk with
      | zero => exact absurd HA.out (by simp [gimballaw02_ItvLeast.l1])
      | succ k2 =>
       have H := HA.out
       clear HA
       simp only [gimballaw02_ItvLeast.l1] at H
       by_cases c66 : x16_2 ≤ t743
       ·
        rw [if_pos c66] at H
        have c66b0 : decide (x16_2 ≤ t743) = true := decide_eq_true c66
        clear c66
        replace H := Option.bind_eq_some_iff.mp H
        obtain ⟨⟨t764, t765, t766⟩, A670, H⟩ := H
        replace H : ((gimballaw02_whole_put.f k2 x746000_2 x746001_2 x746002_2 (wrap64 (x15_1 - x16_2))).bind fun bt767 => ((gimballaw02_whole_put.f k2 x747000_2 x747001_2 x747002_2 (wrap64 (x15_1 * x16_2))).bind fun bt770 => (if x15_1 < x16_2 then ((gimballaw02_whole_put.f k2 x748000_2 x748001_2 x748002_2 x15_1).bind fun bt773 => ((gimballaw02_whole_put.f k2 x749000_2 x749001_2 x749002_2 x16_2).bind fun bt776 => (gimballaw02_ItvLeast.j2 k2 x15_1 x16_2 t740 t741 t742 t743 t764 t765 t766 bt767.1 bt767.2.1 bt767.2.2 bt770.1 bt770.2.1 bt770.2.2 bt773.1 bt773.2.1 bt773.2.2 bt776.1 bt776.2.1 bt776.2.2 x750000_2 x750001_2 x750002_2 x751000_2 x751001_2 x751002_2 t761 t762 t763 t754 t755 t756 t758 t759 t760))) else ((gimballaw02_whole_put.f k2 x748000_2 x748001_2 x748002_2 x16_2).bind fun bt779 => ((gimballaw02_whole_put.f k2 x749000_2 x749001_2 x749002_2 x15_1).bind fun bt782 => (gimballaw02_ItvLeast.j2 k2 x15_1 x16_2 t740 t741 t742 t743 t764 t765 t766 bt767.1 bt767.2.1 bt767.2.2 bt770.1 bt770.2.1 bt770.2.2 bt779.1 bt779.2.1 bt779.2.2 bt782.1 bt782.2.1 bt782.2.2 x750000_2 x750001_2 x750002_2 x751000_2 x751001_2 x751002_2 t761 t762 t763 t754 t755 t756 t758 t759 t760)))))) = some true := H
        have A67 := Aside0.mk A670
        clear A670
        replace H := Option.bind_eq_some_iff.mp H
        obtain ⟨⟨t767, t768, t769⟩, A680, H⟩ := H
        replace H : ((gimballaw02_whole_put.f k2 x747000_2 x747001_2 x747002_2 (wrap64 (x15_1 * x16_2))).bind fun bt770 => (if x15_1 < x16_2 then ((gimballaw02_whole_put.f k2 x748000_2 x748001_2 x748002_2 x15_1).bind fun bt773 => ((gimballaw02_whole_put.f k2 x749000_2 x749001_2 x749002_2 x16_2).bind fun bt776 => (gimballaw02_ItvLeast.j2 k2 x15_1 x16_2 t740 t741 t742 t743 t764 t765 t766 t767 t768 t769 bt770.1 bt770.2.1 bt770.2.2 bt773.1 bt773.2.1 bt773.2.2 bt776.1 bt776.2.1 bt776.2.2 x750000_2 x750001_2 x750002_2 x751000_2 x751001_2 x751002_2 t761 t762 t763 t754 t755 t756 t758 t759 t760))) else ((gimballaw02_whole_put.f k2 x748000_2 x748001_2 x748002_2 x16_2).bind fun bt779 => ((gimballaw02_whole_put.f k2 x749000_2 x749001_2 x749002_2 x15_1).bind fun bt782 => (gimballaw02_ItvLeast.j2 k2 x15_1 x16_2 t740 t741 t742 t743 t764 t765 t766 t767 t768 t769 bt770.1 bt770.2.1 bt770.2.2 bt779.1 bt779.2.1 bt779.2.2 bt782.1 bt782.2.1 bt782.2.2 x750000_2 x750001_2 x750002_2 x751000_2 x751001_2 x751002_2 t761 t762 t763 t754 t755 t756 t758 t759 t760))))) = some true := H
        have A68 := Aside0.mk A680
        clear A680
        replace H := Option.bind_eq_some_iff.mp H
        obtain ⟨⟨t770, t771, t772⟩, A690, H⟩ := H
        replace H : (if x15_1 < x16_2 then ((gimballaw02_whole_put.f k2 x748000_2 x748001_2 x748002_2 x15_1).bind fun bt773 => ((gimballaw02_whole_put.f k2 x749000_2 x749001_2 x749002_2 x16_2).bind fun bt776 => (gimballaw02_ItvLeast.j2 k2 x15_1 x16_2 t740 t741 t742 t743 t764 t765 t766 t767 t768 t769 t770 t771 t772 bt773.1 bt773.2.1 bt773.2.2 bt776.1 bt776.2.1 bt776.2.2 x750000_2 x750001_2 x750002_2 x751000_2 x751001_2 x751002_2 t761 t762 t763 t754 t755 t756 t758 t759 t760))) else ((gimballaw02_whole_put.f k2 x748000_2 x748001_2 x748002_2 x16_2).bind fun bt779 => ((gimballaw02_whole_put.f k2 x749000_2 x749001_2 x749002_2 x15_1).bind fun bt782 => (gimballaw02_ItvLeast.j2 k2 x15_1 x16_2 t740 t741 t742 t743 t764 t765 t766 t767 t768 t769 t770 t771 t772 bt779.1 bt779.2.1 bt779.2.2 bt782.1 bt782.2.1 bt782.2.2 x750000_2 x750001_2 x750002_2 x751000_2 x751001_2 x751002_2 t761 t762 t763 t754 t755 t756 t758 t759 t760)))) = some true := H
        have A69 := Aside0.mk A690
        clear A690
        have HC70 := Aside0.mk H
        clear H
        have hnb71 := NB739_738.out
        have hnc71 := NB738_739.out
        have hnb72 := NB739_744.out
        have hnc72 := NB744_739.out
        have hnb73 := NB739_745.out
        have hnc73 := NB745_739.out
        have hnb74 := NB739_746.out
        have hnc74 := NB746_739.out
        have hnb75 := NB739_747.out
        have hnc75 := NB747_739.out
        have hnb76 := NB739_748.out
        have hnc76 := NB748_739.out
        have hnb77 := NB739_749.out
        have hnc77 := NB749_739.out
        have hnb78 := NB739_750.out
        have hnc78 := NB750_739.out
        have hnb79 := NB739_751.out
        have hnc79 := NB751_739.out
        have hnb80 := NB739_752.out
        have hnc80 := NB752_739.out
        have hnb81 := NB739_753.out
        have hnc81 := NB753_739.out
        have hcz82_0 := hcz BK739 0
        have hcz82_1 := hcz BK739 1
        have hfz82_0 := blk_frozen BK739.out 0
        have hfz82_1 := blk_frozen BK739.out 1
        go_upto_if 60 with (first | (go_at_call 32; (with_reducible refine (gimballaw02_whole_put.calls k2 gb744 x745000_2 x745001_2 x745002_2 (wrap64 (x15_1 + x16_2)) t764 t765 t766 w _ ?side1 ?side2 A67.out).mono ?_); (case side1 => exact And.intro (pk BK744.out) GE744.out); (case side2 => repeat (first | (with_reducible first | exact HB.out | apply below_alloc | apply pw_below_drewN | apply below_drew1 | refine below_set ?_ (IsS35.ge HI744.out) | refine below_set ?_ GE738.out | refine below_set ?_ GE739.out | refine below_set ?_ GE745.out | refine below_set ?_ GE746.out | refine below_set ?_ GE747.out | refine below_set ?_ GE748.out | refine below_set ?_ GE749.out | refine below_set ?_ GE750.out | refine below_set ?_ GE751.out | refine below_set ?_ GE752.out | refine below_set ?_ GE753.out) | exact HB.out)); rintro e w83 ⟨rfl, hi, hb, hk⟩; have n0_ := Aside0.mk (KeepBut.blk hk (g' := gb738) (o := .cells #[.int .i64 t740, .int .i64 t741] 23 (0, 0)) (pk BK738.out) NB738_744.out (by simp)); have n1_ := Aside0.mk (KeepBut.blk hk (g' := gb739) (o := .cells #[.int .i64 t742, .int .i64 t743] 23 (0, 0)) (pk BK739.out) NB739_744.out (by simp)); have n2_ := Aside0.mk (KeepBut.blk hk (g' := gb745) (o := .cells #[.bool x746000_2, .int .i64 x746001_2, .int .i64 x746002_2] 35 (0, 0)) (pk BK745.out) NB745_744.out (by simp)); have n3_ := Aside0.mk (KeepBut.blk hk (g' := gb746) (o := .cells #[.bool x747000_2, .int .i64 x747001_2, .int .i64 x747002_2] 35 (0, 0)) (pk BK746.out) NB746_744.out (by simp)); have n4_ := Aside0.mk (KeepBut.blk hk (g' := gb747) (o := .cells #[.bool x748000_2, .int .i64 x748001_2, .int .i64 x748002_2] 35 (0, 0)) (pk BK747.out) NB747_744.out (by simp)); have n5_ := Aside0.mk (KeepBut.blk hk (g' := gb748) (o := .cells #[.bool x749000_2, .int .i64 x749001_2, .int .i64 x749002_2] 35 (0, 0)) (pk BK748.out) NB748_744.out (by simp)); have n6_ := Aside0.mk (KeepBut.blk hk (g' := gb749) (o := .cells #[.bool x750000_2, .int .i64 x750001_2, .int .i64 x750002_2] 35 (0, 0)) (pk BK749.out) NB749_744.out (by simp)); have n7_ := Aside0.mk (KeepBut.blk hk (g' := gb750) (o := .cells #[.bool x751000_2, .int .i64 x751001_2, .int .i64 x751002_2] 35 (0, 0)) (pk BK750.out) NB750_744.out (by simp)); have n8_ := Aside0.mk (KeepBut.blk hk (g' := gb751) (o := .cells #[.bool t761, .int .i64 t762, .int .i64 t763] 35 (0, 0)) (pk BK751.out) NB751_744.out (by simp)); have n9_ := Aside0.mk (KeepBut.blk hk (g' := gb752) (o := .cells #[.bool t754, .int .i64 t755, .int .i64 t756] 35 (0, 0)) (pk BK752.out) NB752_744.out (by simp)); have n10_ := Aside0.mk (KeepBut.blk hk (g' := gb753) (o := .cells #[.bool t758, .int .i64 t759, .int .i64 t760] 35 (0, 0)) (pk BK753.out) NB753_744.out (by simp)); have n11_ := Aside0.mk (hb); have n12_ := Aside0.mk ((hi).1); clear BK738; clear BK739; clear BK745; clear BK746; clear BK747; clear BK748; clear BK749; clear BK750; clear BK751; clear BK752; clear BK753; clear HB; clear BK744; have BK738 := n0_; have BK739 := n1_; have BK745 := n2_; have BK746 := n3_; have BK747 := n4_; have BK748 := n5_; have BK749 := n6_; have BK750 := n7_; have BK751 := n8_; have BK752 := n9_; have BK753 := n10_; have HB := n11_; have BK744 := n12_; clear n0_ n1_ n2_ n3_ n4_ n5_ n6_ n7_ n8_ n9_ n10_ n11_ n12_; (try clear hb); (try clear hb2); (try clear hk); (try clear hi)) | (go_at_call 32; (with_reducible refine (gimballaw02_whole_put.calls k2 gb745 x746000_2 x746001_2 x746002_2 (wrap64 (x15_1 - x16_2)) t767 t768 t769 w _ ?side1 ?side2 A68.out).mono ?_); (case side1 => exact And.intro (pk BK745.out) GE745.out); (case side2 => repeat (first | (with_reducible first | exact HB.out | apply below_alloc | apply pw_below_drewN | apply below_drew1 | refine below_set ?_ (IsS35.ge HI745.out) | refine below_set ?_ GE738.out | refine below_set ?_ GE739.out | refine below_set ?_ GE744.out | refine below_set ?_ GE746.out | refine below_set ?_ GE747.out | refine below_set ?_ GE748.out | refine below_set ?_ GE749.out | refine below_set ?_ GE750.out | refine below_set ?_ GE751.out | refine below_set ?_ GE752.out | refine below_set ?_ GE753.out) | exact HB.out)); rintro e w84 ⟨rfl, hi, hb, hk⟩; have n0_ := Aside0.mk (KeepBut.blk hk (g' := gb738) (o := .cells #[.int .i64 t740, .int .i64 t741] 23 (0, 0)) (pk BK738.out) NB738_745.out (by simp)); have n1_ := Aside0.mk (KeepBut.blk hk (g' := gb739) (o := .cells #[.int .i64 t742, .int .i64 t743] 23 (0, 0)) (pk BK739.out) NB739_745.out (by simp)); have n2_ := Aside0.mk (KeepBut.blk hk (g' := gb744) (o := .cells #[.bool t764, .int .i64 t765, .int .i64 t766] 35 (0, 0)) (pk BK744.out) NB744_745.out (by simp)); have n3_ := Aside0.mk (KeepBut.blk hk (g' := gb746) (o := .cells #[.bool x747000_2, .int .i64 x747001_2, .int .i64 x747002_2] 35 (0, 0)) (pk BK746.out) NB746_745.out (by simp)); have n4_ := Aside0.mk (KeepBut.blk hk (g' := gb747) (o := .cells #[.bool x748000_2, .int .i64 x748001_2, .int .i64 x748002_2] 35 (0, 0)) (pk BK747.out) NB747_745.out (by simp)); have n5_ := Aside0.mk (KeepBut.blk hk (g' := gb748) (o := .cells #[.bool x749000_2, .int .i64 x749001_2, .int .i64 x749002_2] 35 (0, 0)) (pk BK748.out) NB748_745.out (by simp)); have n6_ := Aside0.mk (KeepBut.blk hk (g' := gb749) (o := .cells #[.bool x750000_2, .int .i64 x750001_2, .int .i64 x750002_2] 35 (0, 0)) (pk BK749.out) NB749_745.out (by simp)); have n7_ := Aside0.mk (KeepBut.blk hk (g' := gb750) (o := .cells #[.bool x751000_2, .int .i64 x751001_2, .int .i64 x751002_2] 35 (0, 0)) (pk BK750.out) NB750_745.out (by simp)); have n8_ := Aside0.mk (KeepBut.blk hk (g' := gb751) (o := .cells #[.bool t761, .int .i64 t762, .int .i64 t763] 35 (0, 0)) (pk BK751.out) NB751_745.out (by simp)); have n9_ := Aside0.mk (KeepBut.blk hk (g' := gb752) (o := .cells #[.bool t754, .int .i64 t755, .int .i64 t756] 35 (0, 0)) (pk BK752.out) NB752_745.out (by simp)); have n10_ := Aside0.mk (KeepBut.blk hk (g' := gb753) (o := .cells #[.bool t758, .int .i64 t759, .int .i64 t760] 35 (0, 0)) (pk BK753.out) NB753_745.out (by simp)); have n11_ := Aside0.mk (hb); have n12_ := Aside0.mk ((hi).1); clear BK738; clear BK739; clear BK744; clear BK746; clear BK747; clear BK748; clear BK749; clear BK750; clear BK751; clear BK752; clear BK753; clear HB; clear BK745; have BK738 := n0_; have BK739 := n1_; have BK744 := n2_; have BK746 := n3_; have BK747 := n4_; have BK748 := n5_; have BK749 := n6_; have BK750 := n7_; have BK751 := n8_; have BK752 := n9_; have BK753 := n10_; have HB := n11_; have BK745 := n12_; clear n0_ n1_ n2_ n3_ n4_ n5_ n6_ n7_ n8_ n9_ n10_ n11_ n12_; (try clear hb); (try clear hb2); (try clear hk); (try clear hi)) | (go_at_call 32; (with_reducible refine (gimballaw02_whole_put.calls k2 gb746 x747000_2 x747001_2 x747002_2 (wrap64 (x15_1 * x16_2)) t770 t771 t772 w _ ?side1 ?side2 A69.out).mono ?_); (case side1 => exact And.intro (pk BK746.out) GE746.out); (case side2 => repeat (first | (with_reducible first | exact HB.out | apply below_alloc | apply pw_below_drewN | apply below_drew1 | refine below_set ?_ (IsS35.ge HI746.out) | refine below_set ?_ GE738.out | refine below_set ?_ GE739.out | refine below_set ?_ GE744.out | refine below_set ?_ GE745.out | refine below_set ?_ GE747.out | refine below_set ?_ GE748.out | refine below_set ?_ GE749.out | refine below_set ?_ GE750.out | refine below_set ?_ GE751.out | refine below_set ?_ GE752.out | refine below_set ?_ GE753.out) | exact HB.out)); rintro e w85 ⟨rfl, hi, hb, hk⟩; have n0_ := Aside0.mk (KeepBut.blk hk (g' := gb738) (o := .cells #[.int .i64 t740, .int .i64 t741] 23 (0, 0)) (pk BK738.out) NB738_746.out (by simp)); have n1_ := Aside0.mk (KeepBut.blk hk (g' := gb739) (o := .cells #[.int .i64 t742, .int .i64 t743] 23 (0, 0)) (pk BK739.out) NB739_746.out (by simp)); have n2_ := Aside0.mk (KeepBut.blk hk (g' := gb744) (o := .cells #[.bool t764, .int .i64 t765, .int .i64 t766] 35 (0, 0)) (pk BK744.out) NB744_746.out (by simp)); have n3_ := Aside0.mk (KeepBut.blk hk (g' := gb745) (o := .cells #[.bool t767, .int .i64 t768, .int .i64 t769] 35 (0, 0)) (pk BK745.out) NB745_746.out (by simp)); have n4_ := Aside0.mk (KeepBut.blk hk (g' := gb747) (o := .cells #[.bool x748000_2, .int .i64 x748001_2, .int .i64 x748002_2] 35 (0, 0)) (pk BK747.out) NB747_746.out (by simp)); have n5_ := Aside0.mk (KeepBut.blk hk (g' := gb748) (o := .cells #[.bool x749000_2, .int .i64 x749001_2, .int .i64 x749002_2] 35 (0, 0)) (pk BK748.out) NB748_746.out (by simp)); have n6_ := Aside0.mk (KeepBut.blk hk (g' := gb749) (o := .cells #[.bool x750000_2, .int .i64 x750001_2, .int .i64 x750002_2] 35 (0, 0)) (pk BK749.out) NB749_746.out (by simp)); have n7_ := Aside0.mk (KeepBut.blk hk (g' := gb750) (o := .cells #[.bool x751000_2, .int .i64 x751001_2, .int .i64 x751002_2] 35 (0, 0)) (pk BK750.out) NB750_746.out (by simp)); have n8_ := Aside0.mk (KeepBut.blk hk (g' := gb751) (o := .cells #[.bool t761, .int .i64 t762, .int .i64 t763] 35 (0, 0)) (pk BK751.out) NB751_746.out (by simp)); have n9_ := Aside0.mk (KeepBut.blk hk (g' := gb752) (o := .cells #[.bool t754, .int .i64 t755, .int .i64 t756] 35 (0, 0)) (pk BK752.out) NB752_746.out (by simp)); have n10_ := Aside0.mk (KeepBut.blk hk (g' := gb753) (o := .cells #[.bool t758, .int .i64 t759, .int .i64 t760] 35 (0, 0)) (pk BK753.out) NB753_746.out (by simp)); have n11_ := Aside0.mk (hb); have n12_ := Aside0.mk ((hi).1); clear BK738; clear BK739; clear BK744; clear BK745; clear BK747; clear BK748; clear BK749; clear BK750; clear BK751; clear BK752; clear BK753; clear HB; clear BK746; have BK738 := n0_; have BK739 := n1_; have BK744 := n2_; have BK745 := n3_; have BK747 := n4_; have BK748 := n5_; have BK749 := n6_; have BK750 := n7_; have BK751 := n8_; have BK752 := n9_; have BK753 := n10_; have HB := n11_; have BK746 := n12_; clear n0_ n1_ n2_ n3_ n4_ n5_ n6_ n7_ n8_ n9_ n10_ n11_ n12_; (try clear hb); (try clear hb2); (try clear hk); (try clear hi)))
        (try simp only [Act.put, List.setIfInBounds_toArray, List.set_cons_zero, List.set_cons_succ])
        go_cut [] (fun wc => ∃ (kq : Nat) (x748000_69 : Bool) (x748001_69 : Int) (x748002_69 : Int) (x749000_69 : Bool) (x749001_69 : Int) (x749002_69 : Int), Aside0 (gimballaw02_ItvLeast.j2 kq x15_1 x16_2 t740 t741 t742 t743 t764 t765 t766 t767 t768 t769 t770 t771 t772 x748000_69 x748001_69 x748002_69 x749000_69 x749001_69 x749002_69 x750000_2 x750001_2 x750002_2 x751000_2 x751001_2 x751002_2 t761 t762 t763 t754 t755 t756 t758 t759 t760 = some true) ∧ Aside0 (kq ≤ k2) ∧ Aside0 (wc.heap[gb738]? = some (.cells #[.int .i64 t740, .int .i64 t741] 23 (0, 0))) ∧ Aside0 (wc.heap[gb739]? = some (.cells #[.int .i64 t742, .int .i64 t743] 23 (0, 0))) ∧ Aside0 (wc.heap[gb744]? = some (.cells #[.bool t764, .int .i64 t765, .int .i64 t766] 35 (0, 0))) ∧ Aside0 (wc.heap[gb745]? = some (.cells #[.bool t767, .int .i64 t768, .int .i64 t769] 35 (0, 0))) ∧ Aside0 (wc.heap[gb746]? = some (.cells #[.bool t770, .int .i64 t771, .int .i64 t772] 35 (0, 0))) ∧ Aside0 (wc.heap[gb747]? = some (.cells #[.bool x748000_69, .int .i64 x748001_69, .int .i64 x748002_69] 35 (0, 0))) ∧ Aside0 (wc.heap[gb748]? = some (.cells #[.bool x749000_69, .int .i64 x749001_69, .int .i64 x749002_69] 35 (0, 0))) ∧ Aside0 (wc.heap[gb749]? = some (.cells #[.bool x750000_2, .int .i64 x750001_2, .int .i64 x750002_2] 35 (0, 0))) ∧ Aside0 (wc.heap[gb750]? = some (.cells #[.bool x751000_2, .int .i64 x751001_2, .int .i64 x751002_2] 35 (0, 0))) ∧ Aside0 (wc.heap[gb751]? = some (.cells #[.bool t761, .int .i64 t762, .int .i64 t763] 35 (0, 0))) ∧ Aside0 (wc.heap[gb752]? = some (.cells #[.bool t754, .int .i64 t755, .int .i64 t756] 35 (0, 0))) ∧ Aside0 (wc.heap[gb753]? = some (.cells #[.bool t758, .int .i64 t759, .int .i64 t760] 35 (0, 0))) ∧ Aside0 (Below w.heap.size w wc))
        case first =>
         have H := HC70.out
         clear HC70
         by_cases c86 : x15_1 < x16_2
         ·
          rw [if_pos c86] at H
          have c86b0 : decide (x15_1 < x16_2) = true := decide_eq_true c86
          clear c86
          (first | rw [c86b0] | (simp only [i64_w, i32_w]; rw [c86b0]) | skip)
          replace H := Option.bind_eq_some_iff.mp H
          obtain ⟨⟨t773, t774, t775⟩, A870, H⟩ := H
          replace H : ((gimballaw02_whole_put.f k2 x749000_2 x749001_2 x749002_2 x16_2).bind fun bt776 => (gimballaw02_ItvLeast.j2 k2 x15_1 x16_2 t740 t741 t742 t743 t764 t765 t766 t767 t768 t769 t770 t771 t772 t773 t774 t775 bt776.1 bt776.2.1 bt776.2.2 x750000_2 x750001_2 x750002_2 x751000_2 x751001_2 x751002_2 t761 t762 t763 t754 t755 t756 t758 t759 t760)) = some true := H
          have A87 := Aside0.mk A870
          clear A870
          replace H := Option.bind_eq_some_iff.mp H
          obtain ⟨⟨t776, t777, t778⟩, A880, H⟩ := H
          replace H : (gimballaw02_ItvLeast.j2 k2 x15_1 x16_2 t740 t741 t742 t743 t764 t765 t766 t767 t768 t769 t770 t771 t772 t773 t774 t775 t776 t777 t778 x750000_2 x750001_2 x750002_2 x751000_2 x751001_2 x751002_2 t761 t762 t763 t754 t755 t756 t758 t759 t760) = some true := H
          have A88 := Aside0.mk A880
          clear A880
          have H' := Aside0.mk H
          clear H
          go_wp2_with (first | (go_at_call 32; (with_reducible refine (gimballaw02_whole_put.calls k2 gb747 x748000_2 x748001_2 x748002_2 x15_1 t773 t774 t775 w _ ?side1 ?side2 A87.out).mono ?_); (case side1 => exact And.intro (pk BK747.out) GE747.out); (case side2 => repeat (first | (with_reducible first | exact HB.out | apply below_alloc | apply pw_below_drewN | apply below_drew1 | refine below_set ?_ (IsS35.ge HI747.out) | refine below_set ?_ GE738.out | refine below_set ?_ GE739.out | refine below_set ?_ GE744.out | refine below_set ?_ GE745.out | refine below_set ?_ GE746.out | refine below_set ?_ GE748.out | refine below_set ?_ GE749.out | refine below_set ?_ GE750.out | refine below_set ?_ GE751.out | refine below_set ?_ GE752.out | refine below_set ?_ GE753.out) | exact HB.out)); rintro e w89 ⟨rfl, hi, hb, hk⟩; have n0_ := Aside0.mk (KeepBut.blk hk (g' := gb738) (o := .cells #[.int .i64 t740, .int .i64 t741] 23 (0, 0)) (pk BK738.out) NB738_747.out (by simp)); have n1_ := Aside0.mk (KeepBut.blk hk (g' := gb739) (o := .cells #[.int .i64 t742, .int .i64 t743] 23 (0, 0)) (pk BK739.out) NB739_747.out (by simp)); have n2_ := Aside0.mk (KeepBut.blk hk (g' := gb744) (o := .cells #[.bool t764, .int .i64 t765, .int .i64 t766] 35 (0, 0)) (pk BK744.out) NB744_747.out (by simp)); have n3_ := Aside0.mk (KeepBut.blk hk (g' := gb745) (o := .cells #[.bool t767, .int .i64 t768, .int .i64 t769] 35 (0, 0)) (pk BK745.out) NB745_747.out (by simp)); have n4_ := Aside0.mk (KeepBut.blk hk (g' := gb746) (o := .cells #[.bool t770, .int .i64 t771, .int .i64 t772] 35 (0, 0)) (pk BK746.out) NB746_747.out (by simp)); have n5_ := Aside0.mk (KeepBut.blk hk (g' := gb748) (o := .cells #[.bool x749000_2, .int .i64 x749001_2, .int .i64 x749002_2] 35 (0, 0)) (pk BK748.out) NB748_747.out (by simp)); have n6_ := Aside0.mk (KeepBut.blk hk (g' := gb749) (o := .cells #[.bool x750000_2, .int .i64 x750001_2, .int .i64 x750002_2] 35 (0, 0)) (pk BK749.out) NB749_747.out (by simp)); have n7_ := Aside0.mk (KeepBut.blk hk (g' := gb750) (o := .cells #[.bool x751000_2, .int .i64 x751001_2, .int .i64 x751002_2] 35 (0, 0)) (pk BK750.out) NB750_747.out (by simp)); have n8_ := Aside0.mk (KeepBut.blk hk (g' := gb751) (o := .cells #[.bool t761, .int .i64 t762, .int .i64 t763] 35 (0, 0)) (pk BK751.out) NB751_747.out (by simp)); have n9_ := Aside0.mk (KeepBut.blk hk (g' := gb752) (o := .cells #[.bool t754, .int .i64 t755, .int .i64 t756] 35 (0, 0)) (pk BK752.out) NB752_747.out (by simp)); have n10_ := Aside0.mk (KeepBut.blk hk (g' := gb753) (o := .cells #[.bool t758, .int .i64 t759, .int .i64 t760] 35 (0, 0)) (pk BK753.out) NB753_747.out (by simp)); have n11_ := Aside0.mk (hb); have n12_ := Aside0.mk ((hi).1); clear BK738; clear BK739; clear BK744; clear BK745; clear BK746; clear BK748; clear BK749; clear BK750; clear BK751; clear BK752; clear BK753; clear HB; clear BK747; have BK738 := n0_; have BK739 := n1_; have BK744 := n2_; have BK745 := n3_; have BK746 := n4_; have BK748 := n5_; have BK749 := n6_; have BK750 := n7_; have BK751 := n8_; have BK752 := n9_; have BK753 := n10_; have HB := n11_; have BK747 := n12_; clear n0_ n1_ n2_ n3_ n4_ n5_ n6_ n7_ n8_ n9_ n10_ n11_ n12_; (try clear hb); (try clear hb2); (try clear hk); (try clear hi)) | (go_at_call 32; (with_reducible refine (gimballaw02_whole_put.calls k2 gb748 x749000_2 x749001_2 x749002_2 x16_2 t776 t777 t778 w _ ?side1 ?side2 A88.out).mono ?_); (case side1 => exact And.intro (pk BK748.out) GE748.out); (case side2 => repeat (first | (with_reducible first | exact HB.out | apply below_alloc | apply pw_below_drewN | apply below_drew1 | refine below_set ?_ (IsS35.ge HI748.out) | refine below_set ?_ GE738.out | refine below_set ?_ GE739.out | refine below_set ?_ GE744.out | refine below_set ?_ GE745.out | refine below_set ?_ GE746.out | refine below_set ?_ GE747.out | refine below_set ?_ GE749.out | refine below_set ?_ GE750.out | refine below_set ?_ GE751.out | refine below_set ?_ GE752.out | refine below_set ?_ GE753.out) | exact HB.out)); rintro e w90 ⟨rfl, hi, hb, hk⟩; have n0_ := Aside0.mk (KeepBut.blk hk (g' := gb738) (o := .cells #[.int .i64 t740, .int .i64 t741] 23 (0, 0)) (pk BK738.out) NB738_748.out (by simp)); have n1_ := Aside0.mk (KeepBut.blk hk (g' := gb739) (o := .cells #[.int .i64 t742, .int .i64 t743] 23 (0, 0)) (pk BK739.out) NB739_748.out (by simp)); have n2_ := Aside0.mk (KeepBut.blk hk (g' := gb744) (o := .cells #[.bool t764, .int .i64 t765, .int .i64 t766] 35 (0, 0)) (pk BK744.out) NB744_748.out (by simp)); have n3_ := Aside0.mk (KeepBut.blk hk (g' := gb745) (o := .cells #[.bool t767, .int .i64 t768, .int .i64 t769] 35 (0, 0)) (pk BK745.out) NB745_748.out (by simp)); have n4_ := Aside0.mk (KeepBut.blk hk (g' := gb746) (o := .cells #[.bool t770, .int .i64 t771, .int .i64 t772] 35 (0, 0)) (pk BK746.out) NB746_748.out (by simp)); have n5_ := Aside0.mk (KeepBut.blk hk (g' := gb747) (o := .cells #[.bool t773, .int .i64 t774, .int .i64 t775] 35 (0, 0)) (pk BK747.out) NB747_748.out (by simp)); have n6_ := Aside0.mk (KeepBut.blk hk (g' := gb749) (o := .cells #[.bool x750000_2, .int .i64 x750001_2, .int .i64 x750002_2] 35 (0, 0)) (pk BK749.out) NB749_748.out (by simp)); have n7_ := Aside0.mk (KeepBut.blk hk (g' := gb750) (o := .cells #[.bool x751000_2, .int .i64 x751001_2, .int .i64 x751002_2] 35 (0, 0)) (pk BK750.out) NB750_748.out (by simp)); have n8_ := Aside0.mk (KeepBut.blk hk (g' := gb751) (o := .cells #[.bool t761, .int .i64 t762, .int .i64 t763] 35 (0, 0)) (pk BK751.out) NB751_748.out (by simp)); have n9_ := Aside0.mk (KeepBut.blk hk (g' := gb752) (o := .cells #[.bool t754, .int .i64 t755, .int .i64 t756] 35 (0, 0)) (pk BK752.out) NB752_748.out (by simp)); have n10_ := Aside0.mk (KeepBut.blk hk (g' := gb753) (o := .cells #[.bool t758, .int .i64 t759, .int .i64 t760] 35 (0, 0)) (pk BK753.out) NB753_748.out (by simp)); have n11_ := Aside0.mk (hb); have n12_ := Aside0.mk ((hi).1); clear BK738; clear BK739; clear BK744; clear BK745; clear BK746; clear BK747; clear BK749; clear BK750; clear BK751; clear BK752; clear BK753; clear HB; clear BK748; have BK738 := n0_; have BK739 := n1_; have BK744 := n2_; have BK745 := n3_; have BK746 := n4_; have BK747 := n5_; have BK749 := n6_; have BK750 := n7_; have BK751 := n8_; have BK752 := n9_; have BK753 := n10_; have HB := n11_; have BK748 := n12_; clear n0_ n1_ n2_ n3_ n4_ n5_ n6_ n7_ n8_ n9_ n10_ n11_ n12_; (try clear hb); (try clear hb2); (try clear hk); (try clear hi)))
          go_meet
          case rel => exact ⟨_, (t773), (t774), (t775), (t776), (t777), (t778), H', ⟨by have := HK1.out; have := HK2.out; first | omega | exact Nat.le_refl _⟩, pkA BK738, pkA BK739, pkA BK744, pkA BK745, pkA BK746, pkA BK747, pkA BK748, pkA BK749, pkA BK750, pkA BK751, pkA BK752, pkA BK753, bpk HB⟩
         ·
          rw [if_neg c86] at H
          have c86b0 : decide (x15_1 < x16_2) = false := decide_eq_false c86
          clear c86
          (first | rw [c86b0] | (simp only [i64_w, i32_w]; rw [c86b0]) | skip)
          replace H := Option.bind_eq_some_iff.mp H
          obtain ⟨⟨t779, t780, t781⟩, A910, H⟩ := H
          replace H : ((gimballaw02_whole_put.f k2 x749000_2 x749001_2 x749002_2 x15_1).bind fun bt782 => (gimballaw02_ItvLeast.j2 k2 x15_1 x16_2 t740 t741 t742 t743 t764 t765 t766 t767 t768 t769 t770 t771 t772 t779 t780 t781 bt782.1 bt782.2.1 bt782.2.2 x750000_2 x750001_2 x750002_2 x751000_2 x751001_2 x751002_2 t761 t762 t763 t754 t755 t756 t758 t759 t760)) = some true := H
          have A91 := Aside0.mk A910
          clear A910
          replace H := Option.bind_eq_some_iff.mp H
          obtain ⟨⟨t782, t783, t784⟩, A920, H⟩ := H
          replace H : (gimballaw02_ItvLeast.j2 k2 x15_1 x16_2 t740 t741 t742 t743 t764 t765 t766 t767 t768 t769 t770 t771 t772 t779 t780 t781 t782 t783 t784 x750000_2 x750001_2 x750002_2 x751000_2 x751001_2 x751002_2 t761 t762 t763 t754 t755 t756 t758 t759 t760) = some true := H
          have A92 := Aside0.mk A920
          clear A920
          have H' := Aside0.mk H
          clear H
          go_wp2_with (first | (go_at_call 32; (with_reducible refine (gimballaw02_whole_put.calls k2 gb747 x748000_2 x748001_2 x748002_2 x16_2 t779 t780 t781 w _ ?side1 ?side2 A91.out).mono ?_); (case side1 => exact And.intro (pk BK747.out) GE747.out); (case side2 => repeat (first | (with_reducible first | exact HB.out | apply below_alloc | apply pw_below_drewN | apply below_drew1 | refine below_set ?_ (IsS35.ge HI747.out) | refine below_set ?_ GE738.out | refine below_set ?_ GE739.out | refine below_set ?_ GE744.out | refine below_set ?_ GE745.out | refine below_set ?_ GE746.out | refine below_set ?_ GE748.out | refine below_set ?_ GE749.out | refine below_set ?_ GE750.out | refine below_set ?_ GE751.out | refine below_set ?_ GE752.out | refine below_set ?_ GE753.out) | exact HB.out)); rintro e w93 ⟨rfl, hi, hb, hk⟩; have n0_ := Aside0.mk (KeepBut.blk hk (g' := gb738) (o := .cells #[.int .i64 t740, .int .i64 t741] 23 (0, 0)) (pk BK738.out) NB738_747.out (by simp)); have n1_ := Aside0.mk (KeepBut.blk hk (g' := gb739) (o := .cells #[.int .i64 t742, .int .i64 t743] 23 (0, 0)) (pk BK739.out) NB739_747.out (by simp)); have n2_ := Aside0.mk (KeepBut.blk hk (g' := gb744) (o := .cells #[.bool t764, .int .i64 t765, .int .i64 t766] 35 (0, 0)) (pk BK744.out) NB744_747.out (by simp)); have n3_ := Aside0.mk (KeepBut.blk hk (g' := gb745) (o := .cells #[.bool t767, .int .i64 t768, .int .i64 t769] 35 (0, 0)) (pk BK745.out) NB745_747.out (by simp)); have n4_ := Aside0.mk (KeepBut.blk hk (g' := gb746) (o := .cells #[.bool t770, .int .i64 t771, .int .i64 t772] 35 (0, 0)) (pk BK746.out) NB746_747.out (by simp)); have n5_ := Aside0.mk (KeepBut.blk hk (g' := gb748) (o := .cells #[.bool x749000_2, .int .i64 x749001_2, .int .i64 x749002_2] 35 (0, 0)) (pk BK748.out) NB748_747.out (by simp)); have n6_ := Aside0.mk (KeepBut.blk hk (g' := gb749) (o := .cells #[.bool x750000_2, .int .i64 x750001_2, .int .i64 x750002_2] 35 (0, 0)) (pk BK749.out) NB749_747.out (by simp)); have n7_ := Aside0.mk (KeepBut.blk hk (g' := gb750) (o := .cells #[.bool x751000_2, .int .i64 x751001_2, .int .i64 x751002_2] 35 (0, 0)) (pk BK750.out) NB750_747.out (by simp)); have n8_ := Aside0.mk (KeepBut.blk hk (g' := gb751) (o := .cells #[.bool t761, .int .i64 t762, .int .i64 t763] 35 (0, 0)) (pk BK751.out) NB751_747.out (by simp)); have n9_ := Aside0.mk (KeepBut.blk hk (g' := gb752) (o := .cells #[.bool t754, .int .i64 t755, .int .i64 t756] 35 (0, 0)) (pk BK752.out) NB752_747.out (by simp)); have n10_ := Aside0.mk (KeepBut.blk hk (g' := gb753) (o := .cells #[.bool t758, .int .i64 t759, .int .i64 t760] 35 (0, 0)) (pk BK753.out) NB753_747.out (by simp)); have n11_ := Aside0.mk (hb); have n12_ := Aside0.mk ((hi).1); clear BK738; clear BK739; clear BK744; clear BK745; clear BK746; clear BK748; clear BK749; clear BK750; clear BK751; clear BK752; clear BK753; clear HB; clear BK747; have BK738 := n0_; have BK739 := n1_; have BK744 := n2_; have BK745 := n3_; have BK746 := n4_; have BK748 := n5_; have BK749 := n6_; have BK750 := n7_; have BK751 := n8_; have BK752 := n9_; have BK753 := n10_; have HB := n11_; have BK747 := n12_; clear n0_ n1_ n2_ n3_ n4_ n5_ n6_ n7_ n8_ n9_ n10_ n11_ n12_; (try clear hb); (try clear hb2); (try clear hk); (try clear hi)) | (go_at_call 32; (with_reducible refine (gimballaw02_whole_put.calls k2 gb748 x749000_2 x749001_2 x749002_2 x15_1 t782 t783 t784 w _ ?side1 ?side2 A92.out).mono ?_); (case side1 => exact And.intro (pk BK748.out) GE748.out); (case side2 => repeat (first | (with_reducible first | exact HB.out | apply below_alloc | apply pw_below_drewN | apply below_drew1 | refine below_set ?_ (IsS35.ge HI748.out) | refine below_set ?_ GE738.out | refine below_set ?_ GE739.out | refine below_set ?_ GE744.out | refine below_set ?_ GE745.out | refine below_set ?_ GE746.out | refine below_set ?_ GE747.out | refine below_set ?_ GE749.out | refine below_set ?_ GE750.out | refine below_set ?_ GE751.out | refine below_set ?_ GE752.out | refine below_set ?_ GE753.out) | exact HB.out)); rintro e w94 ⟨rfl, hi, hb, hk⟩; have n0_ := Aside0.mk (KeepBut.blk hk (g' := gb738) (o := .cells #[.int .i64 t740, .int .i64 t741] 23 (0, 0)) (pk BK738.out) NB738_748.out (by simp)); have n1_ := Aside0.mk (KeepBut.blk hk (g' := gb739) (o := .cells #[.int .i64 t742, .int .i64 t743] 23 (0, 0)) (pk BK739.out) NB739_748.out (by simp)); have n2_ := Aside0.mk (KeepBut.blk hk (g' := gb744) (o := .cells #[.bool t764, .int .i64 t765, .int .i64 t766] 35 (0, 0)) (pk BK744.out) NB744_748.out (by simp)); have n3_ := Aside0.mk (KeepBut.blk hk (g' := gb745) (o := .cells #[.bool t767, .int .i64 t768, .int .i64 t769] 35 (0, 0)) (pk BK745.out) NB745_748.out (by simp)); have n4_ := Aside0.mk (KeepBut.blk hk (g' := gb746) (o := .cells #[.bool t770, .int .i64 t771, .int .i64 t772] 35 (0, 0)) (pk BK746.out) NB746_748.out (by simp)); have n5_ := Aside0.mk (KeepBut.blk hk (g' := gb747) (o := .cells #[.bool t779, .int .i64 t780, .int .i64 t781] 35 (0, 0)) (pk BK747.out) NB747_748.out (by simp)); have n6_ := Aside0.mk (KeepBut.blk hk (g' := gb749) (o := .cells #[.bool x750000_2, .int .i64 x750001_2, .int .i64 x750002_2] 35 (0, 0)) (pk BK749.out) NB749_748.out (by simp)); have n7_ := Aside0.mk (KeepBut.blk hk (g' := gb750) (o := .cells #[.bool x751000_2, .int .i64 x751001_2, .int .i64 x751002_2] 35 (0, 0)) (pk BK750.out) NB750_748.out (by simp)); have n8_ := Aside0.mk (KeepBut.blk hk (g' := gb751) (o := .cells #[.bool t761, .int .i64 t762, .int .i64 t763] 35 (0, 0)) (pk BK751.out) NB751_748.out (by simp)); have n9_ := Aside0.mk (KeepBut.blk hk (g' := gb752) (o := .cells #[.bool t754, .int .i64 t755, .int .i64 t756] 35 (0, 0)) (pk BK752.out) NB752_748.out (by simp)); have n10_ := Aside0.mk (KeepBut.blk hk (g' := gb753) (o := .cells #[.bool t758, .int .i64 t759, .int .i64 t760] 35 (0, 0)) (pk BK753.out) NB753_748.out (by simp)); have n11_ := Aside0.mk (hb); have n12_ := Aside0.mk ((hi).1); clear BK738; clear BK739; clear BK744; clear BK745; clear BK746; clear BK747; clear BK749; clear BK750; clear BK751; clear BK752; clear BK753; clear HB; clear BK748; have BK738 := n0_; have BK739 := n1_; have BK744 := n2_; have BK745 := n3_; have BK746 := n4_; have BK747 := n5_; have BK749 := n6_; have BK750 := n7_; have BK751 := n8_; have BK752 := n9_; have BK753 := n10_; have HB := n11_; have BK748 := n12_; clear n0_ n1_ n2_ n3_ n4_ n5_ n6_ n7_ n8_ n9_ n10_ n11_ n12_; (try clear hb); (try clear hb2); (try clear hk); (try clear hi)))
          go_meet
          case rel => exact ⟨_, (t779), (t780), (t781), (t782), (t783), (t784), H', ⟨by have := HK1.out; have := HK2.out; first | omega | exact Nat.le_refl _⟩, pkA BK738, pkA BK739, pkA BK744, pkA BK745, pkA BK746, pkA BK747, pkA BK748, pkA BK749, pkA BK750, pkA BK751, pkA BK752, pkA BK753, bpk HB⟩
        case rest =>
         clear HC70
         try clear c2
         try clear p2
         try clear c3
         try clear c4
         try clear c5
         try clear c6
         try clear p6
         try clear c7
         try clear c8
         try clear c24
         try clear c25
         try clear c26
         try clear c27
         try clear c28
         try clear c29
         try clear c30
         try clear c31
         try clear c32
         try clear c33
         try clear c35
         try clear c35b0
         try clear c40
         try clear c41
         try clear c42
         try clear c43
         try clear c44
         try clear c45
         try clear c46
         try clear c47
         try clear c48
         try clear c49
         try clear c50
         try clear c55
         try clear c56
         try clear c57
         try clear c58
         try clear c59
         try clear c60
         try clear c61
         try clear c62
         try clear c63
         try clear c64
         try clear p64
         try clear c66
         try clear c66b0
         try clear c71
         try clear c72
         try clear c73
         try clear c74
         try clear c75
         try clear c76
         try clear c77
         try clear c78
         try clear c79
         try clear c80
         try clear c81
         try clear c86
         try clear c86b0
         try clear hcz10_0
         try clear hcz10_1
         try clear hcz11_0
         try clear hcz11_1
         try clear hcz13_0
         try clear hcz13_1
         try clear hcz34_0
         try clear hcz34_1
         try clear hcz51_0
         try clear hcz51_1
         try clear hcz65_0
         try clear hcz65_1
         try clear hcz82_0
         try clear hcz82_1
         try clear hcz8_0
         try clear hcz8_1
         try clear hfz10_0
         try clear hfz10_1
         try clear hfz11_0
         try clear hfz11_1
         try clear hfz13_0
         try clear hfz13_1
         try clear hfz34_0
         try clear hfz34_1
         try clear hfz51_0
         try clear hfz51_1
         try clear hfz65_0
         try clear hfz65_1
         try clear hfz82_0
         try clear hfz82_1
         try clear hfz8_0
         try clear hfz8_1
         try clear p2
         try clear p6
         try clear p64
         obtain ⟨kq, x748000_69, x748001_69, x748002_69, x749000_69, x749001_69, x749002_69, HA, HJ69, BK738, BK739, BK744, BK745, BK746, BK747, BK748, BK749, BK750, BK751, BK752, BK753, HB⟩ := hcut
         cases kq with
         | zero => exact absurd HA.out (by simp [gimballaw02_ItvLeast.j2])
         | succ kj69 =>
          have H := HA.out
          clear HA
          simp only [gimballaw02_ItvLeast.j2] at H
          by_cases c95 : x15_1 = x16_2
          ·
           rw [if_pos c95] at H
           have c95b0 : (x15_1 == x16_2) = true := beq_iff_eq.mpr c95
           have c95b1 : (x15_1 != x16_2) = false := bne_eq_false_iff_eq.mpr c95
           clear c95
           replace H := Option.bind_eq_some_iff.mp H
           obtain ⟨⟨t785, t786, t787⟩, A960, H⟩ := H
           replace H : (if x16_2 = 0 then (gimballaw02_ItvLeast.l1 kj69 x15_1 (wrap64 (x16_2 + 1)) t740 t741 t742 t743 t764 t765 t766 t767 t768 t769 t770 t771 t772 x748000_69 x748001_69 x748002_69 x749000_69 x749001_69 x749002_69 x750000_2 x750001_2 x750002_2 t785 t786 t787 t761 t762 t763 t754 t755 t756 t758 t759 t760) else ((gimballaw02_whole_put.f kj69 x750000_2 x750001_2 x750002_2 (wrap64 (Int.tdiv x15_1 x16_2))).bind fun bt788 => (gimballaw02_ItvLeast.l1 kj69 x15_1 (wrap64 (x16_2 + 1)) t740 t741 t742 t743 t764 t765 t766 t767 t768 t769 t770 t771 t772 x748000_69 x748001_69 x748002_69 x749000_69 x749001_69 x749002_69 bt788.1 bt788.2.1 bt788.2.2 t785 t786 t787 t761 t762 t763 t754 t755 t756 t758 t759 t760))) = some true := H
           have A96 := Aside0.mk A960
           clear A960
           by_cases c97 : x16_2 = 0
           ·
            rw [if_pos c97] at H
            have c97b0 : (x16_2 == 0) = true := beq_iff_eq.mpr c97
            have c97b1 : (x16_2 != 0) = false := bne_eq_false_iff_eq.mpr c97
            clear c97
            have H' := Aside0.mk H
            clear H
            go_wp2_with (first | (go_at_call 32; (with_reducible refine (gimballaw02_whole_put.calls kj69 gb750 x751000_2 x751001_2 x751002_2 x15_1 t785 t786 t787 w _ ?side1 ?side2 A96.out).mono ?_); (case side1 => exact And.intro (pk BK750.out) GE750.out); (case side2 => repeat (first | (with_reducible first | exact HB.out | apply below_alloc | apply pw_below_drewN | apply below_drew1 | refine below_set ?_ (IsS35.ge HI750.out) | refine below_set ?_ GE738.out | refine below_set ?_ GE739.out | refine below_set ?_ GE744.out | refine below_set ?_ GE745.out | refine below_set ?_ GE746.out | refine below_set ?_ GE747.out | refine below_set ?_ GE748.out | refine below_set ?_ GE749.out | refine below_set ?_ GE751.out | refine below_set ?_ GE752.out | refine below_set ?_ GE753.out) | exact HB.out)); rintro e w98 ⟨rfl, hi, hb, hk⟩; have n0_ := Aside0.mk (KeepBut.blk hk (g' := gb738) (o := .cells #[.int .i64 t740, .int .i64 t741] 23 (0, 0)) (pk BK738.out) NB738_750.out (by simp)); have n1_ := Aside0.mk (KeepBut.blk hk (g' := gb739) (o := .cells #[.int .i64 t742, .int .i64 t743] 23 (0, 0)) (pk BK739.out) NB739_750.out (by simp)); have n2_ := Aside0.mk (KeepBut.blk hk (g' := gb744) (o := .cells #[.bool t764, .int .i64 t765, .int .i64 t766] 35 (0, 0)) (pk BK744.out) NB744_750.out (by simp)); have n3_ := Aside0.mk (KeepBut.blk hk (g' := gb745) (o := .cells #[.bool t767, .int .i64 t768, .int .i64 t769] 35 (0, 0)) (pk BK745.out) NB745_750.out (by simp)); have n4_ := Aside0.mk (KeepBut.blk hk (g' := gb746) (o := .cells #[.bool t770, .int .i64 t771, .int .i64 t772] 35 (0, 0)) (pk BK746.out) NB746_750.out (by simp)); have n5_ := Aside0.mk (KeepBut.blk hk (g' := gb747) (o := .cells #[.bool x748000_69, .int .i64 x748001_69, .int .i64 x748002_69] 35 (0, 0)) (pk BK747.out) NB747_750.out (by simp)); have n6_ := Aside0.mk (KeepBut.blk hk (g' := gb748) (o := .cells #[.bool x749000_69, .int .i64 x749001_69, .int .i64 x749002_69] 35 (0, 0)) (pk BK748.out) NB748_750.out (by simp)); have n7_ := Aside0.mk (KeepBut.blk hk (g' := gb749) (o := .cells #[.bool x750000_2, .int .i64 x750001_2, .int .i64 x750002_2] 35 (0, 0)) (pk BK749.out) NB749_750.out (by simp)); have n8_ := Aside0.mk (KeepBut.blk hk (g' := gb751) (o := .cells #[.bool t761, .int .i64 t762, .int .i64 t763] 35 (0, 0)) (pk BK751.out) NB751_750.out (by simp)); have n9_ := Aside0.mk (KeepBut.blk hk (g' := gb752) (o := .cells #[.bool t754, .int .i64 t755, .int .i64 t756] 35 (0, 0)) (pk BK752.out) NB752_750.out (by simp)); have n10_ := Aside0.mk (KeepBut.blk hk (g' := gb753) (o := .cells #[.bool t758, .int .i64 t759, .int .i64 t760] 35 (0, 0)) (pk BK753.out) NB753_750.out (by simp)); have n11_ := Aside0.mk (hb); have n12_ := Aside0.mk ((hi).1); clear BK738; clear BK739; clear BK744; clear BK745; clear BK746; clear BK747; clear BK748; clear BK749; clear BK751; clear BK752; clear BK753; clear HB; clear BK750; have BK738 := n0_; have BK739 := n1_; have BK744 := n2_; have BK745 := n3_; have BK746 := n4_; have BK747 := n5_; have BK748 := n6_; have BK749 := n7_; have BK751 := n8_; have BK752 := n9_; have BK753 := n10_; have HB := n11_; have BK750 := n12_; clear n0_ n1_ n2_ n3_ n4_ n5_ n6_ n7_ n8_ n9_ n10_ n11_ n12_; (try clear hb); (try clear hb2); (try clear hk); (try clear hi)))
            go_roundg kj69
            case measure => have := HK1.out; have := HK2.out; have := HJ69.out; omega
            case rel => exact ⟨(wrap64 (x16_2 + 1)), (t764), (t765), (t766), (t767), (t768), (t769), (t770), (t771), (t772), (x748000_69), (x748001_69), (x748002_69), (x749000_69), (x749001_69), (x749002_69), (x750000_2), (x750001_2), (x750002_2), (t785), (t786), (t787), (by first | rfl | (simp; done) | (simp [*]; done)), H', ⟨by have := HK1.out; have := HK2.out; have := HJ69.out; omega⟩, pkA BK738, pkA BK739, pkA BK744, pkA BK745, pkA BK746, pkA BK747, pkA BK748, pkA BK749, pkA BK750, pkA BK751, pkA BK752, pkA BK753, bpk HB⟩
           ·
            rw [if_neg c97] at H
            have c97b0 : (x16_2 == 0) = false := beq_eq_false_iff_ne.mpr c97
            have c97b1 : (x16_2 != 0) = true := bne_iff_ne.mpr c97
            replace H := Option.bind_eq_some_iff.mp H
            obtain ⟨⟨t788, t789, t790⟩, A990, H⟩ := H
            replace H : (gimballaw02_ItvLeast.l1 kj69 x15_1 (wrap64 (x16_2 + 1)) t740 t741 t742 t743 t764 t765 t766 t767 t768 t769 t770 t771 t772 x748000_69 x748001_69 x748002_69 x749000_69 x749001_69 x749002_69 t788 t789 t790 t785 t786 t787 t761 t762 t763 t754 t755 t756 t758 t759 t760) = some true := H
            have A99 := Aside0.mk A990
            clear A990
            have H' := Aside0.mk H
            clear H
            go_wp2_with (first | (go_at_call 32; (with_reducible refine (gimballaw02_whole_put.calls kj69 gb750 x751000_2 x751001_2 x751002_2 x15_1 t785 t786 t787 w _ ?side1 ?side2 A96.out).mono ?_); (case side1 => exact And.intro (pk BK750.out) GE750.out); (case side2 => repeat (first | (with_reducible first | exact HB.out | apply below_alloc | apply pw_below_drewN | apply below_drew1 | refine below_set ?_ (IsS35.ge HI750.out) | refine below_set ?_ GE738.out | refine below_set ?_ GE739.out | refine below_set ?_ GE744.out | refine below_set ?_ GE745.out | refine below_set ?_ GE746.out | refine below_set ?_ GE747.out | refine below_set ?_ GE748.out | refine below_set ?_ GE749.out | refine below_set ?_ GE751.out | refine below_set ?_ GE752.out | refine below_set ?_ GE753.out) | exact HB.out)); rintro e w100 ⟨rfl, hi, hb, hk⟩; have n0_ := Aside0.mk (KeepBut.blk hk (g' := gb738) (o := .cells #[.int .i64 t740, .int .i64 t741] 23 (0, 0)) (pk BK738.out) NB738_750.out (by simp)); have n1_ := Aside0.mk (KeepBut.blk hk (g' := gb739) (o := .cells #[.int .i64 t742, .int .i64 t743] 23 (0, 0)) (pk BK739.out) NB739_750.out (by simp)); have n2_ := Aside0.mk (KeepBut.blk hk (g' := gb744) (o := .cells #[.bool t764, .int .i64 t765, .int .i64 t766] 35 (0, 0)) (pk BK744.out) NB744_750.out (by simp)); have n3_ := Aside0.mk (KeepBut.blk hk (g' := gb745) (o := .cells #[.bool t767, .int .i64 t768, .int .i64 t769] 35 (0, 0)) (pk BK745.out) NB745_750.out (by simp)); have n4_ := Aside0.mk (KeepBut.blk hk (g' := gb746) (o := .cells #[.bool t770, .int .i64 t771, .int .i64 t772] 35 (0, 0)) (pk BK746.out) NB746_750.out (by simp)); have n5_ := Aside0.mk (KeepBut.blk hk (g' := gb747) (o := .cells #[.bool x748000_69, .int .i64 x748001_69, .int .i64 x748002_69] 35 (0, 0)) (pk BK747.out) NB747_750.out (by simp)); have n6_ := Aside0.mk (KeepBut.blk hk (g' := gb748) (o := .cells #[.bool x749000_69, .int .i64 x749001_69, .int .i64 x749002_69] 35 (0, 0)) (pk BK748.out) NB748_750.out (by simp)); have n7_ := Aside0.mk (KeepBut.blk hk (g' := gb749) (o := .cells #[.bool x750000_2, .int .i64 x750001_2, .int .i64 x750002_2] 35 (0, 0)) (pk BK749.out) NB749_750.out (by simp)); have n8_ := Aside0.mk (KeepBut.blk hk (g' := gb751) (o := .cells #[.bool t761, .int .i64 t762, .int .i64 t763] 35 (0, 0)) (pk BK751.out) NB751_750.out (by simp)); have n9_ := Aside0.mk (KeepBut.blk hk (g' := gb752) (o := .cells #[.bool t754, .int .i64 t755, .int .i64 t756] 35 (0, 0)) (pk BK752.out) NB752_750.out (by simp)); have n10_ := Aside0.mk (KeepBut.blk hk (g' := gb753) (o := .cells #[.bool t758, .int .i64 t759, .int .i64 t760] 35 (0, 0)) (pk BK753.out) NB753_750.out (by simp)); have n11_ := Aside0.mk (hb); have n12_ := Aside0.mk ((hi).1); clear BK738; clear BK739; clear BK744; clear BK745; clear BK746; clear BK747; clear BK748; clear BK749; clear BK751; clear BK752; clear BK753; clear HB; clear BK750; have BK738 := n0_; have BK739 := n1_; have BK744 := n2_; have BK745 := n3_; have BK746 := n4_; have BK747 := n5_; have BK748 := n6_; have BK749 := n7_; have BK751 := n8_; have BK752 := n9_; have BK753 := n10_; have HB := n11_; have BK750 := n12_; clear n0_ n1_ n2_ n3_ n4_ n5_ n6_ n7_ n8_ n9_ n10_ n11_ n12_; (try clear hb); (try clear hb2); (try clear hk); (try clear hi)) | (go_at_call 32; (with_reducible refine (gimballaw02_whole_put.calls kj69 gb749 x750000_2 x750001_2 x750002_2 (wrap64 (Int.tdiv x15_1 x16_2)) t788 t789 t790 w _ ?side1 ?side2 A99.out).mono ?_); (case side1 => exact And.intro (pk BK749.out) GE749.out); (case side2 => repeat (first | (with_reducible first | exact HB.out | apply below_alloc | apply pw_below_drewN | apply below_drew1 | refine below_set ?_ (IsS35.ge HI749.out) | refine below_set ?_ GE738.out | refine below_set ?_ GE739.out | refine below_set ?_ GE744.out | refine below_set ?_ GE745.out | refine below_set ?_ GE746.out | refine below_set ?_ GE747.out | refine below_set ?_ GE748.out | refine below_set ?_ GE750.out | refine below_set ?_ GE751.out | refine below_set ?_ GE752.out | refine below_set ?_ GE753.out) | exact HB.out)); rintro e w101 ⟨rfl, hi, hb, hk⟩; have n0_ := Aside0.mk (KeepBut.blk hk (g' := gb738) (o := .cells #[.int .i64 t740, .int .i64 t741] 23 (0, 0)) (pk BK738.out) NB738_749.out (by simp)); have n1_ := Aside0.mk (KeepBut.blk hk (g' := gb739) (o := .cells #[.int .i64 t742, .int .i64 t743] 23 (0, 0)) (pk BK739.out) NB739_749.out (by simp)); have n2_ := Aside0.mk (KeepBut.blk hk (g' := gb744) (o := .cells #[.bool t764, .int .i64 t765, .int .i64 t766] 35 (0, 0)) (pk BK744.out) NB744_749.out (by simp)); have n3_ := Aside0.mk (KeepBut.blk hk (g' := gb745) (o := .cells #[.bool t767, .int .i64 t768, .int .i64 t769] 35 (0, 0)) (pk BK745.out) NB745_749.out (by simp)); have n4_ := Aside0.mk (KeepBut.blk hk (g' := gb746) (o := .cells #[.bool t770, .int .i64 t771, .int .i64 t772] 35 (0, 0)) (pk BK746.out) NB746_749.out (by simp)); have n5_ := Aside0.mk (KeepBut.blk hk (g' := gb747) (o := .cells #[.bool x748000_69, .int .i64 x748001_69, .int .i64 x748002_69] 35 (0, 0)) (pk BK747.out) NB747_749.out (by simp)); have n6_ := Aside0.mk (KeepBut.blk hk (g' := gb748) (o := .cells #[.bool x749000_69, .int .i64 x749001_69, .int .i64 x749002_69] 35 (0, 0)) (pk BK748.out) NB748_749.out (by simp)); have n7_ := Aside0.mk (KeepBut.blk hk (g' := gb750) (o := .cells #[.bool t785, .int .i64 t786, .int .i64 t787] 35 (0, 0)) (pk BK750.out) NB750_749.out (by simp)); have n8_ := Aside0.mk (KeepBut.blk hk (g' := gb751) (o := .cells #[.bool t761, .int .i64 t762, .int .i64 t763] 35 (0, 0)) (pk BK751.out) NB751_749.out (by simp)); have n9_ := Aside0.mk (KeepBut.blk hk (g' := gb752) (o := .cells #[.bool t754, .int .i64 t755, .int .i64 t756] 35 (0, 0)) (pk BK752.out) NB752_749.out (by simp)); have n10_ := Aside0.mk (KeepBut.blk hk (g' := gb753) (o := .cells #[.bool t758, .int .i64 t759, .int .i64 t760] 35 (0, 0)) (pk BK753.out) NB753_749.out (by simp)); have n11_ := Aside0.mk (hb); have n12_ := Aside0.mk ((hi).1); clear BK738; clear BK739; clear BK744; clear BK745; clear BK746; clear BK747; clear BK748; clear BK750; clear BK751; clear BK752; clear BK753; clear HB; clear BK749; have BK738 := n0_; have BK739 := n1_; have BK744 := n2_; have BK745 := n3_; have BK746 := n4_; have BK747 := n5_; have BK748 := n6_; have BK750 := n7_; have BK751 := n8_; have BK752 := n9_; have BK753 := n10_; have HB := n11_; have BK749 := n12_; clear n0_ n1_ n2_ n3_ n4_ n5_ n6_ n7_ n8_ n9_ n10_ n11_ n12_; (try clear hb); (try clear hb2); (try clear hk); (try clear hi)))
            go_roundg kj69
            case measure => have := HK1.out; have := HK2.out; have := HJ69.out; omega
            case rel => exact ⟨(wrap64 (x16_2 + 1)), (t764), (t765), (t766), (t767), (t768), (t769), (t770), (t771), (t772), (x748000_69), (x748001_69), (x748002_69), (x749000_69), (x749001_69), (x749002_69), (t788), (t789), (t790), (t785), (t786), (t787), (by first | rfl | (simp; done) | (simp [*]; done)), H', ⟨by have := HK1.out; have := HK2.out; have := HJ69.out; omega⟩, pkA BK738, pkA BK739, pkA BK744, pkA BK745, pkA BK746, pkA BK747, pkA BK748, pkA BK749, pkA BK750, pkA BK751, pkA BK752, pkA BK753, bpk HB⟩
          ·
           rw [if_neg c95] at H
           have c95b0 : (x15_1 == x16_2) = false := beq_eq_false_iff_ne.mpr c95
           have c95b1 : (x15_1 != x16_2) = true := bne_iff_ne.mpr c95
           by_cases c102 : x16_2 = 0
           ·
            rw [if_pos c102] at H
            have c102b0 : (x16_2 == 0) = true := beq_iff_eq.mpr c102
            have c102b1 : (x16_2 != 0) = false := bne_eq_false_iff_eq.mpr c102
            clear c102
            have H' := Aside0.mk H
            clear H
            go_wp2
            go_roundg kj69
            case measure => have := HK1.out; have := HK2.out; have := HJ69.out; omega
            case rel => exact ⟨(wrap64 (x16_2 + 1)), (t764), (t765), (t766), (t767), (t768), (t769), (t770), (t771), (t772), (x748000_69), (x748001_69), (x748002_69), (x749000_69), (x749001_69), (x749002_69), (x750000_2), (x750001_2), (x750002_2), (x751000_2), (x751001_2), (x751002_2), (by first | rfl | (simp; done) | (simp [*]; done)), H', ⟨by have := HK1.out; have := HK2.out; have := HJ69.out; omega⟩, pkA BK738, pkA BK739, pkA BK744, pkA BK745, pkA BK746, pkA BK747, pkA BK748, pkA BK749, pkA BK750, pkA BK751, pkA BK752, pkA BK753, bpk HB⟩
           ·
            rw [if_neg c102] at H
            have c102b0 : (x16_2 == 0) = false := beq_eq_false_iff_ne.mpr c102
            have c102b1 : (x16_2 != 0) = true := bne_iff_ne.mpr c102
            replace H := Option.bind_eq_some_iff.mp H
            obtain ⟨⟨t791, t792, t793⟩, A1030, H⟩ := H
            replace H : (gimballaw02_ItvLeast.l1 kj69 x15_1 (wrap64 (x16_2 + 1)) t740 t741 t742 t743 t764 t765 t766 t767 t768 t769 t770 t771 t772 x748000_69 x748001_69 x748002_69 x749000_69 x749001_69 x749002_69 t791 t792 t793 x751000_2 x751001_2 x751002_2 t761 t762 t763 t754 t755 t756 t758 t759 t760) = some true := H
            have A103 := Aside0.mk A1030
            clear A1030
            have H' := Aside0.mk H
            clear H
            go_wp2_with (first | (go_at_call 32; (with_reducible refine (gimballaw02_whole_put.calls kj69 gb749 x750000_2 x750001_2 x750002_2 (wrap64 (Int.tdiv x15_1 x16_2)) t791 t792 t793 w _ ?side1 ?side2 A103.out).mono ?_); (case side1 => exact And.intro (pk BK749.out) GE749.out); (case side2 => repeat (first | (with_reducible first | exact HB.out | apply below_alloc | apply pw_below_drewN | apply below_drew1 | refine below_set ?_ (IsS35.ge HI749.out) | refine below_set ?_ GE738.out | refine below_set ?_ GE739.out | refine below_set ?_ GE744.out | refine below_set ?_ GE745.out | refine below_set ?_ GE746.out | refine below_set ?_ GE747.out | refine below_set ?_ GE748.out | refine below_set ?_ GE750.out | refine below_set ?_ GE751.out | refine below_set ?_ GE752.out | refine below_set ?_ GE753.out) | exact HB.out)); rintro e w104 ⟨rfl, hi, hb, hk⟩; have n0_ := Aside0.mk (KeepBut.blk hk (g' := gb738) (o := .cells #[.int .i64 t740, .int .i64 t741] 23 (0, 0)) (pk BK738.out) NB738_749.out (by simp)); have n1_ := Aside0.mk (KeepBut.blk hk (g' := gb739) (o := .cells #[.int .i64 t742, .int .i64 t743] 23 (0, 0)) (pk BK739.out) NB739_749.out (by simp)); have n2_ := Aside0.mk (KeepBut.blk hk (g' := gb744) (o := .cells #[.bool t764, .int .i64 t765, .int .i64 t766] 35 (0, 0)) (pk BK744.out) NB744_749.out (by simp)); have n3_ := Aside0.mk (KeepBut.blk hk (g' := gb745) (o := .cells #[.bool t767, .int .i64 t768, .int .i64 t769] 35 (0, 0)) (pk BK745.out) NB745_749.out (by simp)); have n4_ := Aside0.mk (KeepBut.blk hk (g' := gb746) (o := .cells #[.bool t770, .int .i64 t771, .int .i64 t772] 35 (0, 0)) (pk BK746.out) NB746_749.out (by simp)); have n5_ := Aside0.mk (KeepBut.blk hk (g' := gb747) (o := .cells #[.bool x748000_69, .int .i64 x748001_69, .int .i64 x748002_69] 35 (0, 0)) (pk BK747.out) NB747_749.out (by simp)); have n6_ := Aside0.mk (KeepBut.blk hk (g' := gb748) (o := .cells #[.bool x749000_69, .int .i64 x749001_69, .int .i64 x749002_69] 35 (0, 0)) (pk BK748.out) NB748_749.out (by simp)); have n7_ := Aside0.mk (KeepBut.blk hk (g' := gb750) (o := .cells #[.bool x751000_2, .int .i64 x751001_2, .int .i64 x751002_2] 35 (0, 0)) (pk BK750.out) NB750_749.out (by simp)); have n8_ := Aside0.mk (KeepBut.blk hk (g' := gb751) (o := .cells #[.bool t761, .int .i64 t762, .int .i64 t763] 35 (0, 0)) (pk BK751.out) NB751_749.out (by simp)); have n9_ := Aside0.mk (KeepBut.blk hk (g' := gb752) (o := .cells #[.bool t754, .int .i64 t755, .int .i64 t756] 35 (0, 0)) (pk BK752.out) NB752_749.out (by simp)); have n10_ := Aside0.mk (KeepBut.blk hk (g' := gb753) (o := .cells #[.bool t758, .int .i64 t759, .int .i64 t760] 35 (0, 0)) (pk BK753.out) NB753_749.out (by simp)); have n11_ := Aside0.mk (hb); have n12_ := Aside0.mk ((hi).1); clear BK738; clear BK739; clear BK744; clear BK745; clear BK746; clear BK747; clear BK748; clear BK750; clear BK751; clear BK752; clear BK753; clear HB; clear BK749; have BK738 := n0_; have BK739 := n1_; have BK744 := n2_; have BK745 := n3_; have BK746 := n4_; have BK747 := n5_; have BK748 := n6_; have BK750 := n7_; have BK751 := n8_; have BK752 := n9_; have BK753 := n10_; have HB := n11_; have BK749 := n12_; clear n0_ n1_ n2_ n3_ n4_ n5_ n6_ n7_ n8_ n9_ n10_ n11_ n12_; (try clear hb); (try clear hb2); (try clear hk); (try clear hi)))
            go_roundg kj69
            case measure => have := HK1.out; have := HK2.out; have := HJ69.out; omega
            case rel => exact ⟨(wrap64 (x16_2 + 1)), (t764), (t765), (t766), (t767), (t768), (t769), (t770), (t771), (t772), (x748000_69), (x748001_69), (x748002_69), (x749000_69), (x749001_69), (x749002_69), (t791), (t792), (t793), (x751000_2), (x751001_2), (x751002_2), (by first | rfl | (simp; done) | (simp [*]; done)), H', ⟨by have := HK1.out; have := HK2.out; have := HJ69.out; omega⟩, pkA BK738, pkA BK739, pkA BK744, pkA BK745, pkA BK746, pkA BK747, pkA BK748, pkA BK749, pkA BK750, pkA BK751, pkA BK752, pkA BK753, bpk HB⟩
       ·
        rw [if_neg c66] at H
        have c66b0 : decide (x16_2 ≤ t743) = false := decide_eq_false c66
        clear c66
        have H' := Aside0.mk H
        clear H
        have hnb105 := NB739_738.out
        have hnc105 := NB738_739.out
        have hnb106 := NB739_744.out
        have hnc106 := NB744_739.out
        have hnb107 := NB739_745.out
        have hnc107 := NB745_739.out
        have hnb108 := NB739_746.out
        have hnc108 := NB746_739.out
        have hnb109 := NB739_747.out
        have hnc109 := NB747_739.out
        have hnb110 := NB739_748.out
        have hnc110 := NB748_739.out
        have hnb111 := NB739_749.out
        have hnc111 := NB749_739.out
        have hnb112 := NB739_750.out
        have hnc112 := NB750_739.out
        have hnb113 := NB739_751.out
        have hnc113 := NB751_739.out
        have hnb114 := NB739_752.out
        have hnc114 := NB752_739.out
        have hnb115 := NB739_753.out
        have hnc115 := NB753_739.out
        have hcz116_0 := hcz BK739 0
        have hcz116_1 := hcz BK739 1
        have hfz116_0 := blk_frozen BK739.out 0
        have hfz116_1 := blk_frozen BK739.out 1
        go_wp2
        go_roundg k2
        case measure => have := HK1.out; have := HK2.out; omega
        case rel => exact ⟨(wrap64 (x15_1 + 1)), (x745000_2), (x745001_2), (x745002_2), (x746000_2), (x746001_2), (x746002_2), (x747000_2), (x747001_2), (x747002_2), (x748000_2), (x748001_2), (x748002_2), (x749000_2), (x749001_2), (x749002_2), (x750000_2), (x750001_2), (x750002_2), (x751000_2), (x751001_2), (x751002_2), (t761), (t762), (t763), (t754), (t755), (t756), (t758), (t759), (t760), (by first | rfl | (simp; done) | (simp [*]; done)), H', ⟨by have := HK1.out; have := HK2.out; omega⟩, pkA BK738, pkA BK739, pkA BK744, pkA BK745, pkA BK746, pkA BK747, pkA BK748, pkA BK749, pkA BK750, pkA BK751, pkA BK752, pkA BK753, bpk HB⟩
    ·
     rw [if_neg c35] at H
     have c35b0 : decide (x15_1 ≤ t741) = false := decide_eq_false c35
     clear c35
     have H' := Aside0.mk H
     clear H
     have hnb117 := NB738_739.out
     have hnc117 := NB739_738.out
     have hnb118 := NB738_744.out
     have hnc118 := NB744_738.out
     have hnb119 := NB738_745.out
     have hnc119 := NB745_738.out
     have hnb120 := NB738_746.out
     have hnc120 := NB746_738.out
     have hnb121 := NB738_747.out
     have hnc121 := NB747_738.out
     have hnb122 := NB738_748.out
     have hnc122 := NB748_738.out
     have hnb123 := NB738_749.out
     have hnc123 := NB749_738.out
     have hnb124 := NB738_750.out
     have hnc124 := NB750_738.out
     have hnb125 := NB738_751.out
     have hnc125 := NB751_738.out
     have hnb126 := NB738_752.out
     have hnc126 := NB752_738.out
     have hnb127 := NB738_753.out
     have hnc127 := NB753_738.out
     have hcz128_0 := hcz BK738 0
     have hcz128_1 := hcz BK738 1
     have hfz128_0 := blk_frozen BK738.out 0
     have hfz128_1 := blk_frozen BK738.out 1
     have hnb129 := NB739_744.out
     have hnc129 := NB744_739.out
     have hnb130 := NB739_745.out
     have hnc130 := NB745_739.out
     have hnb131 := NB739_746.out
     have hnc131 := NB746_739.out
     have hnb132 := NB739_747.out
     have hnc132 := NB747_739.out
     have hnb133 := NB739_748.out
     have hnc133 := NB748_739.out
     have hnb134 := NB739_749.out
     have hnc134 := NB749_739.out
     have hnb135 := NB739_750.out
     have hnc135 := NB750_739.out
     have hnb136 := NB739_751.out
     have hnc136 := NB751_739.out
     have hnb137 := NB739_752.out
     have hnc137 := NB752_739.out
     have hnb138 := NB739_753.out
     have hnc138 := NB753_739.out
     have hcz139_0 := hcz BK739 0
     have hcz139_1 := hcz BK739 1
     have hfz139_0 := blk_frozen BK739.out 0
     have hfz139_1 := blk_frozen BK739.out 1
     go_wp2
     go_loopg [17] k1 (fun kq v17 w' => ∃ (x17_2 : Int) (x752000_2 : Bool) (x752001_2 : Int) (x752002_2 : Int), v17 = .int .i64 x17_2 ∧ Aside0 (gimballaw02_ItvLeast.l2 kq x17_2 t740 t741 t742 t743 x745000_1 x745001_1 x745002_1 x746000_1 x746001_1 x746002_1 x747000_1 x747001_1 x747002_1 x748000_1 x748001_1 x748002_1 x749000_1 x749001_1 x749002_1 x750000_1 x750001_1 x750002_1 x751000_1 x751001_1 x751002_1 x752000_2 x752001_2 x752002_2 x753000_1 x753001_1 x753002_1 x754000_1 x754001_1 x754002_1 = some true) ∧ Aside0 (kq ≤ k1) ∧ Aside0 (w'.heap[gb738]? = some (.cells #[.int .i64 t740, .int .i64 t741] 23 (0, 0))) ∧ Aside0 (w'.heap[gb739]? = some (.cells #[.int .i64 t742, .int .i64 t743] 23 (0, 0))) ∧ Aside0 (w'.heap[gb744]? = some (.cells #[.bool x745000_1, .int .i64 x745001_1, .int .i64 x745002_1] 35 (0, 0))) ∧ Aside0 (w'.heap[gb745]? = some (.cells #[.bool x746000_1, .int .i64 x746001_1, .int .i64 x746002_1] 35 (0, 0))) ∧ Aside0 (w'.heap[gb746]? = some (.cells #[.bool x747000_1, .int .i64 x747001_1, .int .i64 x747002_1] 35 (0, 0))) ∧ Aside0 (w'.heap[gb747]? = some (.cells #[.bool x748000_1, .int .i64 x748001_1, .int .i64 x748002_1] 35 (0, 0))) ∧ Aside0 (w'.heap[gb748]? = some (.cells #[.bool x749000_1, .int .i64 x749001_1, .int .i64 x749002_1] 35 (0, 0))) ∧ Aside0 (w'.heap[gb749]? = some (.cells #[.bool x750000_1, .int .i64 x750001_1, .int .i64 x750002_1] 35 (0, 0))) ∧ Aside0 (w'.heap[gb750]? = some (.cells #[.bool x751000_1, .int .i64 x751001_1, .int .i64 x751002_1] 35 (0, 0))) ∧ Aside0 (w'.heap[gb751]? = some (.cells #[.bool x752000_2, .int .i64 x752001_2, .int .i64 x752002_2] 35 (0, 0))) ∧ Aside0 (w'.heap[gb752]? = some (.cells #[.bool x753000_1, .int .i64 x753001_1, .int .i64 x753002_1] 35 (0, 0))) ∧ Aside0 (w'.heap[gb753]? = some (.cells #[.bool x754000_1, .int .i64 x754001_1, .int .i64 x754002_1] 35 (0, 0))) ∧ Aside0 (Below w.heap.size w w'))
     case atStart => exact ⟨(t742), (x752000_1), (x752001_1), (x752002_1), (by first | rfl | (simp; done) | (simp [*]; done)), H', ⟨Nat.le_refl _⟩, pkA BK738, pkA BK739, pkA BK744, pkA BK745, pkA BK746, pkA BK747, pkA BK748, pkA BK749, pkA BK750, pkA BK751, pkA BK752, pkA BK753, bpk HB⟩
     case round =>
      clear H'
      try clear c1
      try clear c2
      try clear p2
      try clear c3
      try clear c4
      try clear c5
      try clear c6
      try clear p6
      try clear c7
      try clear c8
      try clear c9
      try clear c10
      try clear c11
      try clear c12
      try clear c13
      try clear c24
      try clear c25
      try clear c26
      try clear c27
      try clear c28
      try clear c29
      try clear c30
      try clear c31
      try clear c32
      try clear c33
      try clear c35
      try clear c35b0
      try clear c40
      try clear c41
      try clear c42
      try clear c43
      try clear c44
      try clear c45
      try clear c46
      try clear c47
      try clear c48
      try clear c49
      try clear c50
      try clear c55
      try clear c56
      try clear c57
      try clear c58
      try clear c59
      try clear c60
      try clear c61
      try clear c62
      try clear c63
      try clear c64
      try clear p64
      try clear c66
      try clear c66b0
      try clear c71
      try clear c72
      try clear c73
      try clear c74
      try clear c75
      try clear c76
      try clear c77
      try clear c78
      try clear c79
      try clear c80
      try clear c81
      try clear c86
      try clear c86b0
      try clear c95
      try clear c95b0
      try clear c95b1
      try clear c97
      try clear c97b0
      try clear c97b1
      try clear c102
      try clear c102b0
      try clear c102b1
      try clear c105
      try clear c106
      try clear c107
      try clear c108
      try clear c109
      try clear c110
      try clear c111
      try clear c112
      try clear c113
      try clear c114
      try clear c115
      try clear c117
      try clear c118
      try clear c119
      try clear c120
      try clear c121
      try clear c122
      try clear c123
      try clear c124
      try clear c125
      try clear c126
      try clear c127
      try clear c129
      try clear c130
      try clear c131
      try clear c132
      try clear c133
      try clear c134
      try clear c135
      try clear c136
      try clear c137
      try clear c138
      try clear hcz10_0
      try clear hcz10_1
      try clear hcz116_0
      try clear hcz116_1
      try clear hcz11_0
      try clear hcz11_1
      try clear hcz128_0
      try clear hcz128_1
      try clear hcz139_0
      try clear hcz139_1
      try clear hcz13_0
      try clear hcz13_1
      try clear hcz34_0
      try clear hcz34_1
      try clear hcz51_0
      try clear hcz51_1
      try clear hcz65_0
      try clear hcz65_1
      try clear hcz82_0
      try clear hcz82_1
      try clear hcz8_0
      try clear hcz8_1
      try clear hfz10_0
      try clear hfz10_1
      try clear hfz116_0
      try clear hfz116_1
      try clear hfz11_0
      try clear hfz11_1
      try clear hfz128_0
      try clear hfz128_1
      try clear hfz139_0
      try clear hfz139_1
      try clear hfz13_0
      try clear hfz13_1
      try clear hfz34_0
      try clear hfz34_1
      try clear hfz51_0
      try clear hfz51_1
      try clear hfz65_0
      try clear hfz65_1
      try clear hfz82_0
      try clear hfz82_1
      try clear hfz8_0
      try clear hfz8_1
      try clear p2
      try clear p6
      try clear p64
      obtain ⟨x17_2, x752000_2, x752001_2, x752002_2, rfl, HA, HK2, BK738, BK739, BK744, BK745, BK746, BK747, BK748, BK749, BK750, BK751, BK752, BK753, HB⟩ := hrel
      cases gk with
      | zero => exact absurd HA.out (by simp [gimballaw02_ItvLeast.l2])
      | succ k2 =>
       have H := HA.out
       clear HA
       simp only [gimballaw02_ItvLeast.l2] at H
       by_cases c140 : x17_2 ≤ t743
       ·
        rw [if_pos c140] at H
        have c140b0 : decide (x17_2 ≤ t743) = true := decide_eq_true c140
        clear c140
        replace H := Option.bind_eq_some_iff.mp H
        obtain ⟨⟨t794, t795, t796⟩, A1410, H⟩ := H
        replace H : (gimballaw02_ItvLeast.l2 k2 (wrap64 (x17_2 + 1)) t740 t741 t742 t743 x745000_1 x745001_1 x745002_1 x746000_1 x746001_1 x746002_1 x747000_1 x747001_1 x747002_1 x748000_1 x748001_1 x748002_1 x749000_1 x749001_1 x749002_1 x750000_1 x750001_1 x750002_1 x751000_1 x751001_1 x751002_1 t794 t795 t796 x753000_1 x753001_1 x753002_1 x754000_1 x754001_1 x754002_1) = some true := H
        have A141 := Aside0.mk A1410
        clear A1410
        have H' := Aside0.mk H
        clear H
        have hnb142 := NB739_738.out
        have hnc142 := NB738_739.out
        have hnb143 := NB739_744.out
        have hnc143 := NB744_739.out
        have hnb144 := NB739_745.out
        have hnc144 := NB745_739.out
        have hnb145 := NB739_746.out
        have hnc145 := NB746_739.out
        have hnb146 := NB739_747.out
        have hnc146 := NB747_739.out
        have hnb147 := NB739_748.out
        have hnc147 := NB748_739.out
        have hnb148 := NB739_749.out
        have hnc148 := NB749_739.out
        have hnb149 := NB739_750.out
        have hnc149 := NB750_739.out
        have hnb150 := NB739_751.out
        have hnc150 := NB751_739.out
        have hnb151 := NB739_752.out
        have hnc151 := NB752_739.out
        have hnb152 := NB739_753.out
        have hnc152 := NB753_739.out
        have hcz153_0 := hcz BK739 0
        have hcz153_1 := hcz BK739 1
        have hfz153_0 := blk_frozen BK739.out 0
        have hfz153_1 := blk_frozen BK739.out 1
        go_wp2_with (first | (go_at_call 32; (with_reducible refine (gimballaw02_whole_put.calls k2 gb751 x752000_2 x752001_2 x752002_2 x17_2 t794 t795 t796 w _ ?side1 ?side2 A141.out).mono ?_); (case side1 => exact And.intro (pk BK751.out) GE751.out); (case side2 => repeat (first | (with_reducible first | exact HB.out | apply below_alloc | apply pw_below_drewN | apply below_drew1 | refine below_set ?_ (IsS35.ge HI751.out) | refine below_set ?_ GE738.out | refine below_set ?_ GE739.out | refine below_set ?_ GE744.out | refine below_set ?_ GE745.out | refine below_set ?_ GE746.out | refine below_set ?_ GE747.out | refine below_set ?_ GE748.out | refine below_set ?_ GE749.out | refine below_set ?_ GE750.out | refine below_set ?_ GE752.out | refine below_set ?_ GE753.out) | exact HB.out)); rintro e w154 ⟨rfl, hi, hb, hk⟩; have n0_ := Aside0.mk (KeepBut.blk hk (g' := gb738) (o := .cells #[.int .i64 t740, .int .i64 t741] 23 (0, 0)) (pk BK738.out) NB738_751.out (by simp)); have n1_ := Aside0.mk (KeepBut.blk hk (g' := gb739) (o := .cells #[.int .i64 t742, .int .i64 t743] 23 (0, 0)) (pk BK739.out) NB739_751.out (by simp)); have n2_ := Aside0.mk (KeepBut.blk hk (g' := gb744) (o := .cells #[.bool x745000_1, .int .i64 x745001_1, .int .i64 x745002_1] 35 (0, 0)) (pk BK744.out) NB744_751.out (by simp)); have n3_ := Aside0.mk (KeepBut.blk hk (g' := gb745) (o := .cells #[.bool x746000_1, .int .i64 x746001_1, .int .i64 x746002_1] 35 (0, 0)) (pk BK745.out) NB745_751.out (by simp)); have n4_ := Aside0.mk (KeepBut.blk hk (g' := gb746) (o := .cells #[.bool x747000_1, .int .i64 x747001_1, .int .i64 x747002_1] 35 (0, 0)) (pk BK746.out) NB746_751.out (by simp)); have n5_ := Aside0.mk (KeepBut.blk hk (g' := gb747) (o := .cells #[.bool x748000_1, .int .i64 x748001_1, .int .i64 x748002_1] 35 (0, 0)) (pk BK747.out) NB747_751.out (by simp)); have n6_ := Aside0.mk (KeepBut.blk hk (g' := gb748) (o := .cells #[.bool x749000_1, .int .i64 x749001_1, .int .i64 x749002_1] 35 (0, 0)) (pk BK748.out) NB748_751.out (by simp)); have n7_ := Aside0.mk (KeepBut.blk hk (g' := gb749) (o := .cells #[.bool x750000_1, .int .i64 x750001_1, .int .i64 x750002_1] 35 (0, 0)) (pk BK749.out) NB749_751.out (by simp)); have n8_ := Aside0.mk (KeepBut.blk hk (g' := gb750) (o := .cells #[.bool x751000_1, .int .i64 x751001_1, .int .i64 x751002_1] 35 (0, 0)) (pk BK750.out) NB750_751.out (by simp)); have n9_ := Aside0.mk (KeepBut.blk hk (g' := gb752) (o := .cells #[.bool x753000_1, .int .i64 x753001_1, .int .i64 x753002_1] 35 (0, 0)) (pk BK752.out) NB752_751.out (by simp)); have n10_ := Aside0.mk (KeepBut.blk hk (g' := gb753) (o := .cells #[.bool x754000_1, .int .i64 x754001_1, .int .i64 x754002_1] 35 (0, 0)) (pk BK753.out) NB753_751.out (by simp)); have n11_ := Aside0.mk (hb); have n12_ := Aside0.mk ((hi).1); clear BK738; clear BK739; clear BK744; clear BK745; clear BK746; clear BK747; clear BK748; clear BK749; clear BK750; clear BK752; clear BK753; clear HB; clear BK751; have BK738 := n0_; have BK739 := n1_; have BK744 := n2_; have BK745 := n3_; have BK746 := n4_; have BK747 := n5_; have BK748 := n6_; have BK749 := n7_; have BK750 := n8_; have BK752 := n9_; have BK753 := n10_; have HB := n11_; have BK751 := n12_; clear n0_ n1_ n2_ n3_ n4_ n5_ n6_ n7_ n8_ n9_ n10_ n11_ n12_; (try clear hb); (try clear hb2); (try clear hk); (try clear hi)))
        go_roundg k2
        case measure => have := HK1.out; have := HK2.out; omega
        case rel => exact ⟨(wrap64 (x17_2 + 1)), (t794), (t795), (t796), (by first | rfl | (simp; done) | (simp [*]; done)), H', ⟨by have := HK1.out; have := HK2.out; omega⟩, pkA BK738, pkA BK739, pkA BK744, pkA BK745, pkA BK746, pkA BK747, pkA BK748, pkA BK749, pkA BK750, pkA BK751, pkA BK752, pkA BK753, bpk HB⟩
       ·
        rw [if_neg c140] at H
        have c140b0 : decide (x17_2 ≤ t743) = false := decide_eq_false c140
        clear c140
        replace H := Option.bind_eq_some_iff.mp H
        obtain ⟨⟨t797, t798⟩, A1550, H⟩ := H
        replace H : ((gimballaw02_whole_itv.f x745000_1 x745001_1 x745002_1).bind fun bt799 => (if (t797 == bt799.1 && (t798 == bt799.2.1)) = true then ((itv_Sub.f k2 t740 t741 t742 t743).bind fun bt804 => ((gimballaw02_whole_itv.f x746000_1 x746001_1 x746002_1).bind fun bt806 => (if (bt804.1 == bt806.1 && (bt804.2 == bt806.2.1)) = true then ((itv_Mul.f k2 t740 t741 t742 t743).bind fun bt811 => ((gimballaw02_whole_itv.f x747000_1 x747001_1 x747002_1).bind fun bt813 => (if (bt811.1 == bt813.1 && (bt811.2 == bt813.2.1)) = true then ((itv_Min.f k2 t740 t741 t742 t743).bind fun bt818 => ((gimballaw02_whole_itv.f x748000_1 x748001_1 x748002_1).bind fun bt820 => (if (bt818.1 == bt820.1 && (bt818.2 == bt820.2.1)) = true then ((itv_Max.f k2 t740 t741 t742 t743).bind fun bt825 => ((gimballaw02_whole_itv.f x749000_1 x749001_1 x749002_1).bind fun bt827 => (if (bt825.1 == bt827.1 && (bt825.2 == bt827.2.1)) = true then ((itv_Div.f k2 t740 t741 t742 t743).bind fun bt832 => ((gimballaw02_whole_itv.f x750000_1 x750001_1 x750002_1).bind fun bt834 => (if (bt832.1 == bt834.1 && (bt832.2 == bt834.2.1)) = true then ((itv_Neg.f t740 t741).bind fun bt839 => ((gimballaw02_whole_itv.f x753000_1 x753001_1 x753002_1).bind fun bt841 => (if (bt839.1 == bt841.1 && (bt839.2 == bt841.2.1)) = true then ((itv_Abs.f k2 t740 t741).bind fun bt846 => ((gimballaw02_whole_itv.f x754000_1 x754001_1 x754002_1).bind fun bt848 => (if (bt846.1 == bt848.1 && (bt846.2 == bt848.2.1)) = true then ((itv_Meet.f k2 t740 t741 t742 t743).bind fun bt853 => ((gimballaw02_whole_itv.f x751000_1 x751001_1 x751002_1).bind fun bt855 => (if (bt853.1 == bt855.1 && (bt853.2 == bt855.2.1)) = true then ((itv_Join.f t740 t741 t742 t743).bind fun bt860 => ((gimballaw02_whole_itv.f x752000_2 x752001_2 x752002_2).bind fun bt862 => (some (bt860.1 == bt862.1 && (bt860.2 == bt862.2.1))))) else (some false)))) else (some false)))) else (some false)))) else (some false)))) else (some false)))) else (some false)))) else (some false)))) else (some false)))) else (some false))) = some true := H
        have A155 := Aside0.mk A1550
        clear A1550
        replace H := Option.bind_eq_some_iff.mp H
        obtain ⟨⟨t799, t800, t801, t802, t803⟩, A1560, H⟩ := H
        obtain ⟨e0_, e1_, e2_⟩ : x745000_1 = t801 ∧ x745001_1 = t802 ∧ x745002_1 = t803 := by (have h_ := A1560; unfold gimballaw02_whole_itv.f at h_; split at h_ <;> (simp only [Option.some.injEq, Prod.mk.injEq] at h_; exact ⟨h_.2.2.1, h_.2.2.2.1, h_.2.2.2.2⟩))
        subst e0_; subst e1_; subst e2_
        replace H : (if (t797 == t799 && (t798 == t800)) = true then ((itv_Sub.f k2 t740 t741 t742 t743).bind fun bt804 => ((gimballaw02_whole_itv.f x746000_1 x746001_1 x746002_1).bind fun bt806 => (if (bt804.1 == bt806.1 && (bt804.2 == bt806.2.1)) = true then ((itv_Mul.f k2 t740 t741 t742 t743).bind fun bt811 => ((gimballaw02_whole_itv.f x747000_1 x747001_1 x747002_1).bind fun bt813 => (if (bt811.1 == bt813.1 && (bt811.2 == bt813.2.1)) = true then ((itv_Min.f k2 t740 t741 t742 t743).bind fun bt818 => ((gimballaw02_whole_itv.f x748000_1 x748001_1 x748002_1).bind fun bt820 => (if (bt818.1 == bt820.1 && (bt818.2 == bt820.2.1)) = true then ((itv_Max.f k2 t740 t741 t742 t743).bind fun bt825 => ((gimballaw02_whole_itv.f x749000_1 x749001_1 x749002_1).bind fun bt827 => (if (bt825.1 == bt827.1 && (bt825.2 == bt827.2.1)) = true then ((itv_Div.f k2 t740 t741 t742 t743).bind fun bt832 => ((gimballaw02_whole_itv.f x750000_1 x750001_1 x750002_1).bind fun bt834 => (if (bt832.1 == bt834.1 && (bt832.2 == bt834.2.1)) = true then ((itv_Neg.f t740 t741).bind fun bt839 => ((gimballaw02_whole_itv.f x753000_1 x753001_1 x753002_1).bind fun bt841 => (if (bt839.1 == bt841.1 && (bt839.2 == bt841.2.1)) = true then ((itv_Abs.f k2 t740 t741).bind fun bt846 => ((gimballaw02_whole_itv.f x754000_1 x754001_1 x754002_1).bind fun bt848 => (if (bt846.1 == bt848.1 && (bt846.2 == bt848.2.1)) = true then ((itv_Meet.f k2 t740 t741 t742 t743).bind fun bt853 => ((gimballaw02_whole_itv.f x751000_1 x751001_1 x751002_1).bind fun bt855 => (if (bt853.1 == bt855.1 && (bt853.2 == bt855.2.1)) = true then ((itv_Join.f t740 t741 t742 t743).bind fun bt860 => ((gimballaw02_whole_itv.f x752000_2 x752001_2 x752002_2).bind fun bt862 => (some (bt860.1 == bt862.1 && (bt860.2 == bt862.2.1))))) else (some false)))) else (some false)))) else (some false)))) else (some false)))) else (some false)))) else (some false)))) else (some false)))) else (some false)))) else (some false)) = some true := H
        have A156 := Aside0.mk A1560
        clear A1560
        by_cases c157 : (t797 == t799 && (t798 == t800)) = true
        ·
         rw [if_pos c157] at H
         have c157b0 : (t797 == t799 && (t798 == t800)) = true := c157
         (try (have c157b1 : decide (t797 = t799 && (t798 == t800)) = true := by simpa using c157))
         (try (have c157b2 : (t797 == t799 && (t798 == t800)) = true := by simpa using c157))
         clear c157
         replace H := Option.bind_eq_some_iff.mp H
         obtain ⟨⟨t804, t805⟩, A1580, H⟩ := H
         replace H : ((gimballaw02_whole_itv.f x746000_1 x746001_1 x746002_1).bind fun bt806 => (if (t804 == bt806.1 && (t805 == bt806.2.1)) = true then ((itv_Mul.f k2 t740 t741 t742 t743).bind fun bt811 => ((gimballaw02_whole_itv.f x747000_1 x747001_1 x747002_1).bind fun bt813 => (if (bt811.1 == bt813.1 && (bt811.2 == bt813.2.1)) = true then ((itv_Min.f k2 t740 t741 t742 t743).bind fun bt818 => ((gimballaw02_whole_itv.f x748000_1 x748001_1 x748002_1).bind fun bt820 => (if (bt818.1 == bt820.1 && (bt818.2 == bt820.2.1)) = true then ((itv_Max.f k2 t740 t741 t742 t743).bind fun bt825 => ((gimballaw02_whole_itv.f x749000_1 x749001_1 x749002_1).bind fun bt827 => (if (bt825.1 == bt827.1 && (bt825.2 == bt827.2.1)) = true then ((itv_Div.f k2 t740 t741 t742 t743).bind fun bt832 => ((gimballaw02_whole_itv.f x750000_1 x750001_1 x750002_1).bind fun bt834 => (if (bt832.1 == bt834.1 && (bt832.2 == bt834.2.1)) = true then ((itv_Neg.f t740 t741).bind fun bt839 => ((gimballaw02_whole_itv.f x753000_1 x753001_1 x753002_1).bind fun bt841 => (if (bt839.1 == bt841.1 && (bt839.2 == bt841.2.1)) = true then ((itv_Abs.f k2 t740 t741).bind fun bt846 => ((gimballaw02_whole_itv.f x754000_1 x754001_1 x754002_1).bind fun bt848 => (if (bt846.1 == bt848.1 && (bt846.2 == bt848.2.1)) = true then ((itv_Meet.f k2 t740 t741 t742 t743).bind fun bt853 => ((gimballaw02_whole_itv.f x751000_1 x751001_1 x751002_1).bind fun bt855 => (if (bt853.1 == bt855.1 && (bt853.2 == bt855.2.1)) = true then ((itv_Join.f t740 t741 t742 t743).bind fun bt860 => ((gimballaw02_whole_itv.f x752000_2 x752001_2 x752002_2).bind fun bt862 => (some (bt860.1 == bt862.1 && (bt860.2 == bt862.2.1))))) else (some false)))) else (some false)))) else (some false)))) else (some false)))) else (some false)))) else (some false)))) else (some false)))) else (some false))) = some true := H
         have A158 := Aside0.mk A1580
         clear A1580
         replace H := Option.bind_eq_some_iff.mp H
         obtain ⟨⟨t806, t807, t808, t809, t810⟩, A1590, H⟩ := H
         obtain ⟨e0_, e1_, e2_⟩ : x746000_1 = t808 ∧ x746001_1 = t809 ∧ x746002_1 = t810 := by (have h_ := A1590; unfold gimballaw02_whole_itv.f at h_; split at h_ <;> (simp only [Option.some.injEq, Prod.mk.injEq] at h_; exact ⟨h_.2.2.1, h_.2.2.2.1, h_.2.2.2.2⟩))
         subst e0_; subst e1_; subst e2_
         replace H : (if (t804 == t806 && (t805 == t807)) = true then ((itv_Mul.f k2 t740 t741 t742 t743).bind fun bt811 => ((gimballaw02_whole_itv.f x747000_1 x747001_1 x747002_1).bind fun bt813 => (if (bt811.1 == bt813.1 && (bt811.2 == bt813.2.1)) = true then ((itv_Min.f k2 t740 t741 t742 t743).bind fun bt818 => ((gimballaw02_whole_itv.f x748000_1 x748001_1 x748002_1).bind fun bt820 => (if (bt818.1 == bt820.1 && (bt818.2 == bt820.2.1)) = true then ((itv_Max.f k2 t740 t741 t742 t743).bind fun bt825 => ((gimballaw02_whole_itv.f x749000_1 x749001_1 x749002_1).bind fun bt827 => (if (bt825.1 == bt827.1 && (bt825.2 == bt827.2.1)) = true then ((itv_Div.f k2 t740 t741 t742 t743).bind fun bt832 => ((gimballaw02_whole_itv.f x750000_1 x750001_1 x750002_1).bind fun bt834 => (if (bt832.1 == bt834.1 && (bt832.2 == bt834.2.1)) = true then ((itv_Neg.f t740 t741).bind fun bt839 => ((gimballaw02_whole_itv.f x753000_1 x753001_1 x753002_1).bind fun bt841 => (if (bt839.1 == bt841.1 && (bt839.2 == bt841.2.1)) = true then ((itv_Abs.f k2 t740 t741).bind fun bt846 => ((gimballaw02_whole_itv.f x754000_1 x754001_1 x754002_1).bind fun bt848 => (if (bt846.1 == bt848.1 && (bt846.2 == bt848.2.1)) = true then ((itv_Meet.f k2 t740 t741 t742 t743).bind fun bt853 => ((gimballaw02_whole_itv.f x751000_1 x751001_1 x751002_1).bind fun bt855 => (if (bt853.1 == bt855.1 && (bt853.2 == bt855.2.1)) = true then ((itv_Join.f t740 t741 t742 t743).bind fun bt860 => ((gimballaw02_whole_itv.f x752000_2 x752001_2 x752002_2).bind fun bt862 => (some (bt860.1 == bt862.1 && (bt860.2 == bt862.2.1))))) else (some false)))) else (some false)))) else (some false)))) else (some false)))) else (some false)))) else (some false)))) else (some false)))) else (some false)) = some true := H
         have A159 := Aside0.mk A1590
         clear A1590
         by_cases c160 : (t804 == t806 && (t805 == t807)) = true
         ·
          rw [if_pos c160] at H
          have c160b0 : (t804 == t806 && (t805 == t807)) = true := c160
          (try (have c160b1 : decide (t804 = t806 && (t805 == t807)) = true := by simpa using c160))
          (try (have c160b2 : (t804 == t806 && (t805 == t807)) = true := by simpa using c160))
          clear c160
          replace H := Option.bind_eq_some_iff.mp H
          obtain ⟨⟨t811, t812⟩, A1610, H⟩ := H
          replace H : ((gimballaw02_whole_itv.f x747000_1 x747001_1 x747002_1).bind fun bt813 => (if (t811 == bt813.1 && (t812 == bt813.2.1)) = true then ((itv_Min.f k2 t740 t741 t742 t743).bind fun bt818 => ((gimballaw02_whole_itv.f x748000_1 x748001_1 x748002_1).bind fun bt820 => (if (bt818.1 == bt820.1 && (bt818.2 == bt820.2.1)) = true then ((itv_Max.f k2 t740 t741 t742 t743).bind fun bt825 => ((gimballaw02_whole_itv.f x749000_1 x749001_1 x749002_1).bind fun bt827 => (if (bt825.1 == bt827.1 && (bt825.2 == bt827.2.1)) = true then ((itv_Div.f k2 t740 t741 t742 t743).bind fun bt832 => ((gimballaw02_whole_itv.f x750000_1 x750001_1 x750002_1).bind fun bt834 => (if (bt832.1 == bt834.1 && (bt832.2 == bt834.2.1)) = true then ((itv_Neg.f t740 t741).bind fun bt839 => ((gimballaw02_whole_itv.f x753000_1 x753001_1 x753002_1).bind fun bt841 => (if (bt839.1 == bt841.1 && (bt839.2 == bt841.2.1)) = true then ((itv_Abs.f k2 t740 t741).bind fun bt846 => ((gimballaw02_whole_itv.f x754000_1 x754001_1 x754002_1).bind fun bt848 => (if (bt846.1 == bt848.1 && (bt846.2 == bt848.2.1)) = true then ((itv_Meet.f k2 t740 t741 t742 t743).bind fun bt853 => ((gimballaw02_whole_itv.f x751000_1 x751001_1 x751002_1).bind fun bt855 => (if (bt853.1 == bt855.1 && (bt853.2 == bt855.2.1)) = true then ((itv_Join.f t740 t741 t742 t743).bind fun bt860 => ((gimballaw02_whole_itv.f x752000_2 x752001_2 x752002_2).bind fun bt862 => (some (bt860.1 == bt862.1 && (bt860.2 == bt862.2.1))))) else (some false)))) else (some false)))) else (some false)))) else (some false)))) else (some false)))) else (some false)))) else (some false))) = some true := H
          have A161 := Aside0.mk A1610
          clear A1610
          replace H := Option.bind_eq_some_iff.mp H
          obtain ⟨⟨t813, t814, t815, t816, t817⟩, A1620, H⟩ := H
          obtain ⟨e0_, e1_, e2_⟩ : x747000_1 = t815 ∧ x747001_1 = t816 ∧ x747002_1 = t817 := by (have h_ := A1620; unfold gimballaw02_whole_itv.f at h_; split at h_ <;> (simp only [Option.some.injEq, Prod.mk.injEq] at h_; exact ⟨h_.2.2.1, h_.2.2.2.1, h_.2.2.2.2⟩))
          subst e0_; subst e1_; subst e2_
          replace H : (if (t811 == t813 && (t812 == t814)) = true then ((itv_Min.f k2 t740 t741 t742 t743).bind fun bt818 => ((gimballaw02_whole_itv.f x748000_1 x748001_1 x748002_1).bind fun bt820 => (if (bt818.1 == bt820.1 && (bt818.2 == bt820.2.1)) = true then ((itv_Max.f k2 t740 t741 t742 t743).bind fun bt825 => ((gimballaw02_whole_itv.f x749000_1 x749001_1 x749002_1).bind fun bt827 => (if (bt825.1 == bt827.1 && (bt825.2 == bt827.2.1)) = true then ((itv_Div.f k2 t740 t741 t742 t743).bind fun bt832 => ((gimballaw02_whole_itv.f x750000_1 x750001_1 x750002_1).bind fun bt834 => (if (bt832.1 == bt834.1 && (bt832.2 == bt834.2.1)) = true then ((itv_Neg.f t740 t741).bind fun bt839 => ((gimballaw02_whole_itv.f x753000_1 x753001_1 x753002_1).bind fun bt841 => (if (bt839.1 == bt841.1 && (bt839.2 == bt841.2.1)) = true then ((itv_Abs.f k2 t740 t741).bind fun bt846 => ((gimballaw02_whole_itv.f x754000_1 x754001_1 x754002_1).bind fun bt848 => (if (bt846.1 == bt848.1 && (bt846.2 == bt848.2.1)) = true then ((itv_Meet.f k2 t740 t741 t742 t743).bind fun bt853 => ((gimballaw02_whole_itv.f x751000_1 x751001_1 x751002_1).bind fun bt855 => (if (bt853.1 == bt855.1 && (bt853.2 == bt855.2.1)) = true then ((itv_Join.f t740 t741 t742 t743).bind fun bt860 => ((gimballaw02_whole_itv.f x752000_2 x752001_2 x752002_2).bind fun bt862 => (some (bt860.1 == bt862.1 && (bt860.2 == bt862.2.1))))) else (some false)))) else (some false)))) else (some false)))) else (some false)))) else (some false)))) else (some false)))) else (some false)) = some true := H
          have A162 := Aside0.mk A1620
          clear A1620
          by_cases c163 : (t811 == t813 && (t812 == t814)) = true
          ·
           rw [if_pos c163] at H
           have c163b0 : (t811 == t813 && (t812 == t814)) = true := c163
           (try (have c163b1 : decide (t811 = t813 && (t812 == t814)) = true := by simpa using c163))
           (try (have c163b2 : (t811 == t813 && (t812 == t814)) = true := by simpa using c163))
           clear c163
           replace H := Option.bind_eq_some_iff.mp H
           obtain ⟨⟨t818, t819⟩, A1640, H⟩ := H
           replace H : ((gimballaw02_whole_itv.f x748000_1 x748001_1 x748002_1).bind fun bt820 => (if (t818 == bt820.1 && (t819 == bt820.2.1)) = true then ((itv_Max.f k2 t740 t741 t742 t743).bind fun bt825 => ((gimballaw02_whole_itv.f x749000_1 x749001_1 x749002_1).bind fun bt827 => (if (bt825.1 == bt827.1 && (bt825.2 == bt827.2.1)) = true then ((itv_Div.f k2 t740 t741 t742 t743).bind fun bt832 => ((gimballaw02_whole_itv.f x750000_1 x750001_1 x750002_1).bind fun bt834 => (if (bt832.1 == bt834.1 && (bt832.2 == bt834.2.1)) = true then ((itv_Neg.f t740 t741).bind fun bt839 => ((gimballaw02_whole_itv.f x753000_1 x753001_1 x753002_1).bind fun bt841 => (if (bt839.1 == bt841.1 && (bt839.2 == bt841.2.1)) = true then ((itv_Abs.f k2 t740 t741).bind fun bt846 => ((gimballaw02_whole_itv.f x754000_1 x754001_1 x754002_1).bind fun bt848 => (if (bt846.1 == bt848.1 && (bt846.2 == bt848.2.1)) = true then ((itv_Meet.f k2 t740 t741 t742 t743).bind fun bt853 => ((gimballaw02_whole_itv.f x751000_1 x751001_1 x751002_1).bind fun bt855 => (if (bt853.1 == bt855.1 && (bt853.2 == bt855.2.1)) = true then ((itv_Join.f t740 t741 t742 t743).bind fun bt860 => ((gimballaw02_whole_itv.f x752000_2 x752001_2 x752002_2).bind fun bt862 => (some (bt860.1 == bt862.1 && (bt860.2 == bt862.2.1))))) else (some false)))) else (some false)))) else (some false)))) else (some false)))) else (some false)))) else (some false))) = some true := H
           have A164 := Aside0.mk A1640
           clear A1640
           replace H := Option.bind_eq_some_iff.mp H
           obtain ⟨⟨t820, t821, t822, t823, t824⟩, A1650, H⟩ := H
           obtain ⟨e0_, e1_, e2_⟩ : x748000_1 = t822 ∧ x748001_1 = t823 ∧ x748002_1 = t824 := by (have h_ := A1650; unfold gimballaw02_whole_itv.f at h_; split at h_ <;> (simp only [Option.some.injEq, Prod.mk.injEq] at h_; exact ⟨h_.2.2.1, h_.2.2.2.1, h_.2.2.2.2⟩))
           subst e0_; subst e1_; subst e2_
           replace H : (if (t818 == t820 && (t819 == t821)) = true then ((itv_Max.f k2 t740 t741 t742 t743).bind fun bt825 => ((gimballaw02_whole_itv.f x749000_1 x749001_1 x749002_1).bind fun bt827 => (if (bt825.1 == bt827.1 && (bt825.2 == bt827.2.1)) = true then ((itv_Div.f k2 t740 t741 t742 t743).bind fun bt832 => ((gimballaw02_whole_itv.f x750000_1 x750001_1 x750002_1).bind fun bt834 => (if (bt832.1 == bt834.1 && (bt832.2 == bt834.2.1)) = true then ((itv_Neg.f t740 t741).bind fun bt839 => ((gimballaw02_whole_itv.f x753000_1 x753001_1 x753002_1).bind fun bt841 => (if (bt839.1 == bt841.1 && (bt839.2 == bt841.2.1)) = true then ((itv_Abs.f k2 t740 t741).bind fun bt846 => ((gimballaw02_whole_itv.f x754000_1 x754001_1 x754002_1).bind fun bt848 => (if (bt846.1 == bt848.1 && (bt846.2 == bt848.2.1)) = true then ((itv_Meet.f k2 t740 t741 t742 t743).bind fun bt853 => ((gimballaw02_whole_itv.f x751000_1 x751001_1 x751002_1).bind fun bt855 => (if (bt853.1 == bt855.1 && (bt853.2 == bt855.2.1)) = true then ((itv_Join.f t740 t741 t742 t743).bind fun bt860 => ((gimballaw02_whole_itv.f x752000_2 x752001_2 x752002_2).bind fun bt862 => (some (bt860.1 == bt862.1 && (bt860.2 == bt862.2.1))))) else (some false)))) else (some false)))) else (some false)))) else (some false)))) else (some false)))) else (some false)) = some true := H
           have A165 := Aside0.mk A1650
           clear A1650
           by_cases c166 : (t818 == t820 && (t819 == t821)) = true
           ·
            rw [if_pos c166] at H
            have c166b0 : (t818 == t820 && (t819 == t821)) = true := c166
            (try (have c166b1 : decide (t818 = t820 && (t819 == t821)) = true := by simpa using c166))
            (try (have c166b2 : (t818 == t820 && (t819 == t821)) = true := by simpa using c166))
            clear c166
            replace H := Option.bind_eq_some_iff.mp H
            obtain ⟨⟨t825, t826⟩, A1670, H⟩ := H
            replace H : ((gimballaw02_whole_itv.f x749000_1 x749001_1 x749002_1).bind fun bt827 => (if (t825 == bt827.1 && (t826 == bt827.2.1)) = true then ((itv_Div.f k2 t740 t741 t742 t743).bind fun bt832 => ((gimballaw02_whole_itv.f x750000_1 x750001_1 x750002_1).bind fun bt834 => (if (bt832.1 == bt834.1 && (bt832.2 == bt834.2.1)) = true then ((itv_Neg.f t740 t741).bind fun bt839 => ((gimballaw02_whole_itv.f x753000_1 x753001_1 x753002_1).bind fun bt841 => (if (bt839.1 == bt841.1 && (bt839.2 == bt841.2.1)) = true then ((itv_Abs.f k2 t740 t741).bind fun bt846 => ((gimballaw02_whole_itv.f x754000_1 x754001_1 x754002_1).bind fun bt848 => (if (bt846.1 == bt848.1 && (bt846.2 == bt848.2.1)) = true then ((itv_Meet.f k2 t740 t741 t742 t743).bind fun bt853 => ((gimballaw02_whole_itv.f x751000_1 x751001_1 x751002_1).bind fun bt855 => (if (bt853.1 == bt855.1 && (bt853.2 == bt855.2.1)) = true then ((itv_Join.f t740 t741 t742 t743).bind fun bt860 => ((gimballaw02_whole_itv.f x752000_2 x752001_2 x752002_2).bind fun bt862 => (some (bt860.1 == bt862.1 && (bt860.2 == bt862.2.1))))) else (some false)))) else (some false)))) else (some false)))) else (some false)))) else (some false))) = some true := H
            have A167 := Aside0.mk A1670
            clear A1670
            replace H := Option.bind_eq_some_iff.mp H
            obtain ⟨⟨t827, t828, t829, t830, t831⟩, A1680, H⟩ := H
            obtain ⟨e0_, e1_, e2_⟩ : x749000_1 = t829 ∧ x749001_1 = t830 ∧ x749002_1 = t831 := by (have h_ := A1680; unfold gimballaw02_whole_itv.f at h_; split at h_ <;> (simp only [Option.some.injEq, Prod.mk.injEq] at h_; exact ⟨h_.2.2.1, h_.2.2.2.1, h_.2.2.2.2⟩))
            subst e0_; subst e1_; subst e2_
            replace H : (if (t825 == t827 && (t826 == t828)) = true then ((itv_Div.f k2 t740 t741 t742 t743).bind fun bt832 => ((gimballaw02_whole_itv.f x750000_1 x750001_1 x750002_1).bind fun bt834 => (if (bt832.1 == bt834.1 && (bt832.2 == bt834.2.1)) = true then ((itv_Neg.f t740 t741).bind fun bt839 => ((gimballaw02_whole_itv.f x753000_1 x753001_1 x753002_1).bind fun bt841 => (if (bt839.1 == bt841.1 && (bt839.2 == bt841.2.1)) = true then ((itv_Abs.f k2 t740 t741).bind fun bt846 => ((gimballaw02_whole_itv.f x754000_1 x754001_1 x754002_1).bind fun bt848 => (if (bt846.1 == bt848.1 && (bt846.2 == bt848.2.1)) = true then ((itv_Meet.f k2 t740 t741 t742 t743).bind fun bt853 => ((gimballaw02_whole_itv.f x751000_1 x751001_1 x751002_1).bind fun bt855 => (if (bt853.1 == bt855.1 && (bt853.2 == bt855.2.1)) = true then ((itv_Join.f t740 t741 t742 t743).bind fun bt860 => ((gimballaw02_whole_itv.f x752000_2 x752001_2 x752002_2).bind fun bt862 => (some (bt860.1 == bt862.1 && (bt860.2 == bt862.2.1))))) else (some false)))) else (some false)))) else (some false)))) else (some false)))) else (some false)) = some true := H
            have A168 := Aside0.mk A1680
            clear A1680
            by_cases c169 : (t825 == t827 && (t826 == t828)) = true
            ·
             rw [if_pos c169] at H
             have c169b0 : (t825 == t827 && (t826 == t828)) = true := c169
             (try (have c169b1 : decide (t825 = t827 && (t826 == t828)) = true := by simpa using c169))
             (try (have c169b2 : (t825 == t827 && (t826 == t828)) = true := by simpa using c169))
             clear c169
             replace H := Option.bind_eq_some_iff.mp H
             obtain ⟨⟨t832, t833⟩, A1700, H⟩ := H
             replace H : ((gimballaw02_whole_itv.f x750000_1 x750001_1 x750002_1).bind fun bt834 => (if (t832 == bt834.1 && (t833 == bt834.2.1)) = true then ((itv_Neg.f t740 t741).bind fun bt839 => ((gimballaw02_whole_itv.f x753000_1 x753001_1 x753002_1).bind fun bt841 => (if (bt839.1 == bt841.1 && (bt839.2 == bt841.2.1)) = true then ((itv_Abs.f k2 t740 t741).bind fun bt846 => ((gimballaw02_whole_itv.f x754000_1 x754001_1 x754002_1).bind fun bt848 => (if (bt846.1 == bt848.1 && (bt846.2 == bt848.2.1)) = true then ((itv_Meet.f k2 t740 t741 t742 t743).bind fun bt853 => ((gimballaw02_whole_itv.f x751000_1 x751001_1 x751002_1).bind fun bt855 => (if (bt853.1 == bt855.1 && (bt853.2 == bt855.2.1)) = true then ((itv_Join.f t740 t741 t742 t743).bind fun bt860 => ((gimballaw02_whole_itv.f x752000_2 x752001_2 x752002_2).bind fun bt862 => (some (bt860.1 == bt862.1 && (bt860.2 == bt862.2.1))))) else (some false)))) else (some false)))) else (some false)))) else (some false))) = some true := H
             have A170 := Aside0.mk A1700
             clear A1700
             replace H := Option.bind_eq_some_iff.mp H
             obtain ⟨⟨t834, t835, t836, t837, t838⟩, A1710, H⟩ := H
             obtain ⟨e0_, e1_, e2_⟩ : x750000_1 = t836 ∧ x750001_1 = t837 ∧ x750002_1 = t838 := by (have h_ := A1710; unfold gimballaw02_whole_itv.f at h_; split at h_ <;> (simp only [Option.some.injEq, Prod.mk.injEq] at h_; exact ⟨h_.2.2.1, h_.2.2.2.1, h_.2.2.2.2⟩))
             subst e0_; subst e1_; subst e2_
             replace H : (if (t832 == t834 && (t833 == t835)) = true then ((itv_Neg.f t740 t741).bind fun bt839 => ((gimballaw02_whole_itv.f x753000_1 x753001_1 x753002_1).bind fun bt841 => (if (bt839.1 == bt841.1 && (bt839.2 == bt841.2.1)) = true then ((itv_Abs.f k2 t740 t741).bind fun bt846 => ((gimballaw02_whole_itv.f x754000_1 x754001_1 x754002_1).bind fun bt848 => (if (bt846.1 == bt848.1 && (bt846.2 == bt848.2.1)) = true then ((itv_Meet.f k2 t740 t741 t742 t743).bind fun bt853 => ((gimballaw02_whole_itv.f x751000_1 x751001_1 x751002_1).bind fun bt855 => (if (bt853.1 == bt855.1 && (bt853.2 == bt855.2.1)) = true then ((itv_Join.f t740 t741 t742 t743).bind fun bt860 => ((gimballaw02_whole_itv.f x752000_2 x752001_2 x752002_2).bind fun bt862 => (some (bt860.1 == bt862.1 && (bt860.2 == bt862.2.1))))) else (some false)))) else (some false)))) else (some false)))) else (some false)) = some true := H
             have A171 := Aside0.mk A1710
             clear A1710
             by_cases c172 : (t832 == t834 && (t833 == t835)) = true
             ·
              rw [if_pos c172] at H
              have c172b0 : (t832 == t834 && (t833 == t835)) = true := c172
              (try (have c172b1 : decide (t832 = t834 && (t833 == t835)) = true := by simpa using c172))
              (try (have c172b2 : (t832 == t834 && (t833 == t835)) = true := by simpa using c172))
              clear c172
              replace H := Option.bind_eq_some_iff.mp H
              obtain ⟨⟨t839, t840⟩, A1730, H⟩ := H
              replace H : ((gimballaw02_whole_itv.f x753000_1 x753001_1 x753002_1).bind fun bt841 => (if (t839 == bt841.1 && (t840 == bt841.2.1)) = true then ((itv_Abs.f k2 t740 t741).bind fun bt846 => ((gimballaw02_whole_itv.f x754000_1 x754001_1 x754002_1).bind fun bt848 => (if (bt846.1 == bt848.1 && (bt846.2 == bt848.2.1)) = true then ((itv_Meet.f k2 t740 t741 t742 t743).bind fun bt853 => ((gimballaw02_whole_itv.f x751000_1 x751001_1 x751002_1).bind fun bt855 => (if (bt853.1 == bt855.1 && (bt853.2 == bt855.2.1)) = true then ((itv_Join.f t740 t741 t742 t743).bind fun bt860 => ((gimballaw02_whole_itv.f x752000_2 x752001_2 x752002_2).bind fun bt862 => (some (bt860.1 == bt862.1 && (bt860.2 == bt862.2.1))))) else (some false)))) else (some false)))) else (some false))) = some true := H
              have A173 := Aside0.mk A1730
              clear A1730
              replace H := Option.bind_eq_some_iff.mp H
              obtain ⟨⟨t841, t842, t843, t844, t845⟩, A1740, H⟩ := H
              obtain ⟨e0_, e1_, e2_⟩ : x753000_1 = t843 ∧ x753001_1 = t844 ∧ x753002_1 = t845 := by (have h_ := A1740; unfold gimballaw02_whole_itv.f at h_; split at h_ <;> (simp only [Option.some.injEq, Prod.mk.injEq] at h_; exact ⟨h_.2.2.1, h_.2.2.2.1, h_.2.2.2.2⟩))
              subst e0_; subst e1_; subst e2_
              replace H : (if (t839 == t841 && (t840 == t842)) = true then ((itv_Abs.f k2 t740 t741).bind fun bt846 => ((gimballaw02_whole_itv.f x754000_1 x754001_1 x754002_1).bind fun bt848 => (if (bt846.1 == bt848.1 && (bt846.2 == bt848.2.1)) = true then ((itv_Meet.f k2 t740 t741 t742 t743).bind fun bt853 => ((gimballaw02_whole_itv.f x751000_1 x751001_1 x751002_1).bind fun bt855 => (if (bt853.1 == bt855.1 && (bt853.2 == bt855.2.1)) = true then ((itv_Join.f t740 t741 t742 t743).bind fun bt860 => ((gimballaw02_whole_itv.f x752000_2 x752001_2 x752002_2).bind fun bt862 => (some (bt860.1 == bt862.1 && (bt860.2 == bt862.2.1))))) else (some false)))) else (some false)))) else (some false)) = some true := H
              have A174 := Aside0.mk A1740
              clear A1740
              by_cases c175 : (t839 == t841 && (t840 == t842)) = true
              ·
               rw [if_pos c175] at H
               have c175b0 : (t839 == t841 && (t840 == t842)) = true := c175
               (try (have c175b1 : decide (t839 = t841 && (t840 == t842)) = true := by simpa using c175))
               (try (have c175b2 : (t839 == t841 && (t840 == t842)) = true := by simpa using c175))
               clear c175
               replace H := Option.bind_eq_some_iff.mp H
               obtain ⟨⟨t846, t847⟩, A1760, H⟩ := H
               replace H : ((gimballaw02_whole_itv.f x754000_1 x754001_1 x754002_1).bind fun bt848 => (if (t846 == bt848.1 && (t847 == bt848.2.1)) = true then ((itv_Meet.f k2 t740 t741 t742 t743).bind fun bt853 => ((gimballaw02_whole_itv.f x751000_1 x751001_1 x751002_1).bind fun bt855 => (if (bt853.1 == bt855.1 && (bt853.2 == bt855.2.1)) = true then ((itv_Join.f t740 t741 t742 t743).bind fun bt860 => ((gimballaw02_whole_itv.f x752000_2 x752001_2 x752002_2).bind fun bt862 => (some (bt860.1 == bt862.1 && (bt860.2 == bt862.2.1))))) else (some false)))) else (some false))) = some true := H
               have A176 := Aside0.mk A1760
               clear A1760
               replace H := Option.bind_eq_some_iff.mp H
               obtain ⟨⟨t848, t849, t850, t851, t852⟩, A1770, H⟩ := H
               obtain ⟨e0_, e1_, e2_⟩ : x754000_1 = t850 ∧ x754001_1 = t851 ∧ x754002_1 = t852 := by (have h_ := A1770; unfold gimballaw02_whole_itv.f at h_; split at h_ <;> (simp only [Option.some.injEq, Prod.mk.injEq] at h_; exact ⟨h_.2.2.1, h_.2.2.2.1, h_.2.2.2.2⟩))
               subst e0_; subst e1_; subst e2_
               replace H : (if (t846 == t848 && (t847 == t849)) = true then ((itv_Meet.f k2 t740 t741 t742 t743).bind fun bt853 => ((gimballaw02_whole_itv.f x751000_1 x751001_1 x751002_1).bind fun bt855 => (if (bt853.1 == bt855.1 && (bt853.2 == bt855.2.1)) = true then ((itv_Join.f t740 t741 t742 t743).bind fun bt860 => ((gimballaw02_whole_itv.f x752000_2 x752001_2 x752002_2).bind fun bt862 => (some (bt860.1 == bt862.1 && (bt860.2 == bt862.2.1))))) else (some false)))) else (some false)) = some true := H
               have A177 := Aside0.mk A1770
               clear A1770
               by_cases c178 : (t846 == t848 && (t847 == t849)) = true
               ·
                rw [if_pos c178] at H
                have c178b0 : (t846 == t848 && (t847 == t849)) = true := c178
                (try (have c178b1 : decide (t846 = t848 && (t847 == t849)) = true := by simpa using c178))
                (try (have c178b2 : (t846 == t848 && (t847 == t849)) = true := by simpa using c178))
                clear c178
                replace H := Option.bind_eq_some_iff.mp H
                obtain ⟨⟨t853, t854⟩, A1790, H⟩ := H
                replace H : ((gimballaw02_whole_itv.f x751000_1 x751001_1 x751002_1).bind fun bt855 => (if (t853 == bt855.1 && (t854 == bt855.2.1)) = true then ((itv_Join.f t740 t741 t742 t743).bind fun bt860 => ((gimballaw02_whole_itv.f x752000_2 x752001_2 x752002_2).bind fun bt862 => (some (bt860.1 == bt862.1 && (bt860.2 == bt862.2.1))))) else (some false))) = some true := H
                have A179 := Aside0.mk A1790
                clear A1790
                replace H := Option.bind_eq_some_iff.mp H
                obtain ⟨⟨t855, t856, t857, t858, t859⟩, A1800, H⟩ := H
                obtain ⟨e0_, e1_, e2_⟩ : x751000_1 = t857 ∧ x751001_1 = t858 ∧ x751002_1 = t859 := by (have h_ := A1800; unfold gimballaw02_whole_itv.f at h_; split at h_ <;> (simp only [Option.some.injEq, Prod.mk.injEq] at h_; exact ⟨h_.2.2.1, h_.2.2.2.1, h_.2.2.2.2⟩))
                subst e0_; subst e1_; subst e2_
                replace H : (if (t853 == t855 && (t854 == t856)) = true then ((itv_Join.f t740 t741 t742 t743).bind fun bt860 => ((gimballaw02_whole_itv.f x752000_2 x752001_2 x752002_2).bind fun bt862 => (some (bt860.1 == bt862.1 && (bt860.2 == bt862.2.1))))) else (some false)) = some true := H
                have A180 := Aside0.mk A1800
                clear A1800
                by_cases c181 : (t853 == t855 && (t854 == t856)) = true
                ·
                 rw [if_pos c181] at H
                 have c181b0 : (t853 == t855 && (t854 == t856)) = true := c181
                 (try (have c181b1 : decide (t853 = t855 && (t854 == t856)) = true := by simpa using c181))
                 (try (have c181b2 : (t853 == t855 && (t854 == t856)) = true := by simpa using c181))
                 clear c181
                 replace H := Option.bind_eq_some_iff.mp H
                 obtain ⟨⟨t860, t861⟩, A1820, H⟩ := H
                 replace H : ((gimballaw02_whole_itv.f x752000_2 x752001_2 x752002_2).bind fun bt862 => (some (t860 == bt862.1 && (t861 == bt862.2.1)))) = some true := H
                 have A182 := Aside0.mk A1820
                 clear A1820
                 replace H := Option.bind_eq_some_iff.mp H
                 obtain ⟨⟨t862, t863, t864, t865, t866⟩, A1830, H⟩ := H
                 obtain ⟨e0_, e1_, e2_⟩ : x752000_2 = t864 ∧ x752001_2 = t865 ∧ x752002_2 = t866 := by (have h_ := A1830; unfold gimballaw02_whole_itv.f at h_; split at h_ <;> (simp only [Option.some.injEq, Prod.mk.injEq] at h_; exact ⟨h_.2.2.1, h_.2.2.2.1, h_.2.2.2.2⟩))
                 subst e0_; subst e1_; subst e2_
                 replace H : (some (t860 == t862 && (t861 == t863))) = some true := H
                 have A183 := Aside0.mk A1830
                 clear A1830
                 have hret_ := Option.some.inj H
                 clear H
                 have hnb184 := NB739_738.out
                 have hnc184 := NB738_739.out
                 have hnb185 := NB739_744.out
                 have hnc185 := NB744_739.out
                 have hnb186 := NB739_745.out
                 have hnc186 := NB745_739.out
                 have hnb187 := NB739_746.out
                 have hnc187 := NB746_739.out
                 have hnb188 := NB739_747.out
                 have hnc188 := NB747_739.out
                 have hnb189 := NB739_748.out
                 have hnc189 := NB748_739.out
                 have hnb190 := NB739_749.out
                 have hnc190 := NB749_739.out
                 have hnb191 := NB739_750.out
                 have hnc191 := NB750_739.out
                 have hnb192 := NB739_751.out
                 have hnc192 := NB751_739.out
                 have hnb193 := NB739_752.out
                 have hnc193 := NB752_739.out
                 have hnb194 := NB739_753.out
                 have hnc194 := NB753_739.out
                 have hcz195_0 := hcz BK739 0
                 have hcz195_1 := hcz BK739 1
                 have hfz195_0 := blk_frozen BK739.out 0
                 have hfz195_1 := blk_frozen BK739.out 1
                 have hnb196 := NB738_744.out
                 have hnc196 := NB744_738.out
                 have hnb197 := NB738_745.out
                 have hnc197 := NB745_738.out
                 have hnb198 := NB738_746.out
                 have hnc198 := NB746_738.out
                 have hnb199 := NB738_747.out
                 have hnc199 := NB747_738.out
                 have hnb200 := NB738_748.out
                 have hnc200 := NB748_738.out
                 have hnb201 := NB738_749.out
                 have hnc201 := NB749_738.out
                 have hnb202 := NB738_750.out
                 have hnc202 := NB750_738.out
                 have hnb203 := NB738_751.out
                 have hnc203 := NB751_738.out
                 have hnb204 := NB738_752.out
                 have hnc204 := NB752_738.out
                 have hnb205 := NB738_753.out
                 have hnc205 := NB753_738.out
                 have hcz206_0 := hcz BK738 0
                 have hcz206_1 := hcz BK738 1
                 have hfz206_0 := blk_frozen BK738.out 0
                 have hfz206_1 := blk_frozen BK738.out 1
                 go_wp2_with (first | (go_at_call 40; (with_reducible refine (itv_Add.calls k2 t740 t741 t742 t743 t797 t798 _ A155.out).mono ?_); rintro e w207 ⟨rfl, hb⟩; have n0_ := bst HB hb; replace BK738 := bbw BK738 hb; replace BK739 := bbw BK739 hb; replace BK744 := bbw BK744 hb; replace BK745 := bbw BK745 hb; replace BK746 := bbw BK746 hb; replace BK747 := bbw BK747 hb; replace BK748 := bbw BK748 hb; replace BK749 := bbw BK749 hb; replace BK750 := bbw BK750 hb; replace BK751 := bbw BK751 hb; replace BK752 := bbw BK752 hb; replace BK753 := bbw BK753 hb; clear HB; have HB := n0_; clear n0_; (try clear hb); (try clear hb2); (try clear hk); (try clear hi)) | (go_at_call 35; (with_reducible refine (gimballaw02_whole_itv.calls gb744 x745000_1 x745001_1 x745002_1 t799 t800 x745000_1 x745001_1 x745002_1 w _ ?side1 ?side2 A156.out).mono ?_); (case side1 => exact And.intro (pk BK744.out) GE744.out); (case side2 => repeat (first | (with_reducible first | exact HB.out | apply below_alloc | apply pw_below_drewN | apply below_drew1 | refine below_set ?_ (IsS35.ge HI744.out) | refine below_set ?_ GE738.out | refine below_set ?_ GE739.out | refine below_set ?_ GE745.out | refine below_set ?_ GE746.out | refine below_set ?_ GE747.out | refine below_set ?_ GE748.out | refine below_set ?_ GE749.out | refine below_set ?_ GE750.out | refine below_set ?_ GE751.out | refine below_set ?_ GE752.out | refine below_set ?_ GE753.out) | exact HB.out)); rintro e w208 ⟨rfl, hi, hb, hk⟩; have n0_ := Aside0.mk (KeepBut.blk hk (g' := gb738) (o := .cells #[.int .i64 t740, .int .i64 t741] 23 (0, 0)) (pk BK738.out) NB738_744.out (by simp)); have n1_ := Aside0.mk (KeepBut.blk hk (g' := gb739) (o := .cells #[.int .i64 t742, .int .i64 t743] 23 (0, 0)) (pk BK739.out) NB739_744.out (by simp)); have n2_ := Aside0.mk (KeepBut.blk hk (g' := gb745) (o := .cells #[.bool x746000_1, .int .i64 x746001_1, .int .i64 x746002_1] 35 (0, 0)) (pk BK745.out) NB745_744.out (by simp)); have n3_ := Aside0.mk (KeepBut.blk hk (g' := gb746) (o := .cells #[.bool x747000_1, .int .i64 x747001_1, .int .i64 x747002_1] 35 (0, 0)) (pk BK746.out) NB746_744.out (by simp)); have n4_ := Aside0.mk (KeepBut.blk hk (g' := gb747) (o := .cells #[.bool x748000_1, .int .i64 x748001_1, .int .i64 x748002_1] 35 (0, 0)) (pk BK747.out) NB747_744.out (by simp)); have n5_ := Aside0.mk (KeepBut.blk hk (g' := gb748) (o := .cells #[.bool x749000_1, .int .i64 x749001_1, .int .i64 x749002_1] 35 (0, 0)) (pk BK748.out) NB748_744.out (by simp)); have n6_ := Aside0.mk (KeepBut.blk hk (g' := gb749) (o := .cells #[.bool x750000_1, .int .i64 x750001_1, .int .i64 x750002_1] 35 (0, 0)) (pk BK749.out) NB749_744.out (by simp)); have n7_ := Aside0.mk (KeepBut.blk hk (g' := gb750) (o := .cells #[.bool x751000_1, .int .i64 x751001_1, .int .i64 x751002_1] 35 (0, 0)) (pk BK750.out) NB750_744.out (by simp)); have n8_ := Aside0.mk (KeepBut.blk hk (g' := gb751) (o := .cells #[.bool x752000_2, .int .i64 x752001_2, .int .i64 x752002_2] 35 (0, 0)) (pk BK751.out) NB751_744.out (by simp)); have n9_ := Aside0.mk (KeepBut.blk hk (g' := gb752) (o := .cells #[.bool x753000_1, .int .i64 x753001_1, .int .i64 x753002_1] 35 (0, 0)) (pk BK752.out) NB752_744.out (by simp)); have n10_ := Aside0.mk (KeepBut.blk hk (g' := gb753) (o := .cells #[.bool x754000_1, .int .i64 x754001_1, .int .i64 x754002_1] 35 (0, 0)) (pk BK753.out) NB753_744.out (by simp)); have n11_ := Aside0.mk (hb); have n12_ := Aside0.mk ((hi).1); clear BK738; clear BK739; clear BK745; clear BK746; clear BK747; clear BK748; clear BK749; clear BK750; clear BK751; clear BK752; clear BK753; clear HB; clear BK744; have BK738 := n0_; have BK739 := n1_; have BK745 := n2_; have BK746 := n3_; have BK747 := n4_; have BK748 := n5_; have BK749 := n6_; have BK750 := n7_; have BK751 := n8_; have BK752 := n9_; have BK753 := n10_; have HB := n11_; have BK744 := n12_; clear n0_ n1_ n2_ n3_ n4_ n5_ n6_ n7_ n8_ n9_ n10_ n11_ n12_; (try clear hb); (try clear hb2); (try clear hk); (try clear hi); have hcz209_0 := hcz BK738 0; have hcz209_1 := hcz BK738 1; have hfz209_0 := blk_frozen BK738.out 0; have hfz209_1 := blk_frozen BK738.out 1; have hcz210_0 := hcz BK739 0; have hcz210_1 := hcz BK739 1; have hfz210_0 := blk_frozen BK739.out 0; have hfz210_1 := blk_frozen BK739.out 1) | (go_at_call 41; (with_reducible refine (itv_Sub.calls k2 t740 t741 t742 t743 t804 t805 _ A158.out).mono ?_); rintro e w211 ⟨rfl, hb⟩; have n0_ := bst HB hb; replace BK738 := bbw BK738 hb; replace BK739 := bbw BK739 hb; replace BK744 := bbw BK744 hb; replace BK745 := bbw BK745 hb; replace BK746 := bbw BK746 hb; replace BK747 := bbw BK747 hb; replace BK748 := bbw BK748 hb; replace BK749 := bbw BK749 hb; replace BK750 := bbw BK750 hb; replace BK751 := bbw BK751 hb; replace BK752 := bbw BK752 hb; replace BK753 := bbw BK753 hb; clear HB; have HB := n0_; clear n0_; (try clear hb); (try clear hb2); (try clear hk); (try clear hi)) | (go_at_call 35; (with_reducible refine (gimballaw02_whole_itv.calls gb745 x746000_1 x746001_1 x746002_1 t806 t807 x746000_1 x746001_1 x746002_1 w _ ?side1 ?side2 A159.out).mono ?_); (case side1 => exact And.intro (pk BK745.out) GE745.out); (case side2 => repeat (first | (with_reducible first | exact HB.out | apply below_alloc | apply pw_below_drewN | apply below_drew1 | refine below_set ?_ (IsS35.ge HI745.out) | refine below_set ?_ GE738.out | refine below_set ?_ GE739.out | refine below_set ?_ GE744.out | refine below_set ?_ GE746.out | refine below_set ?_ GE747.out | refine below_set ?_ GE748.out | refine below_set ?_ GE749.out | refine below_set ?_ GE750.out | refine below_set ?_ GE751.out | refine below_set ?_ GE752.out | refine below_set ?_ GE753.out) | exact HB.out)); rintro e w212 ⟨rfl, hi, hb, hk⟩; have n0_ := Aside0.mk (KeepBut.blk hk (g' := gb738) (o := .cells #[.int .i64 t740, .int .i64 t741] 23 (0, 0)) (pk BK738.out) NB738_745.out (by simp)); have n1_ := Aside0.mk (KeepBut.blk hk (g' := gb739) (o := .cells #[.int .i64 t742, .int .i64 t743] 23 (0, 0)) (pk BK739.out) NB739_745.out (by simp)); have n2_ := Aside0.mk (KeepBut.blk hk (g' := gb744) (o := .cells #[.bool x745000_1, .int .i64 x745001_1, .int .i64 x745002_1] 35 (0, 0)) (pk BK744.out) NB744_745.out (by simp)); have n3_ := Aside0.mk (KeepBut.blk hk (g' := gb746) (o := .cells #[.bool x747000_1, .int .i64 x747001_1, .int .i64 x747002_1] 35 (0, 0)) (pk BK746.out) NB746_745.out (by simp)); have n4_ := Aside0.mk (KeepBut.blk hk (g' := gb747) (o := .cells #[.bool x748000_1, .int .i64 x748001_1, .int .i64 x748002_1] 35 (0, 0)) (pk BK747.out) NB747_745.out (by simp)); have n5_ := Aside0.mk (KeepBut.blk hk (g' := gb748) (o := .cells #[.bool x749000_1, .int .i64 x749001_1, .int .i64 x749002_1] 35 (0, 0)) (pk BK748.out) NB748_745.out (by simp)); have n6_ := Aside0.mk (KeepBut.blk hk (g' := gb749) (o := .cells #[.bool x750000_1, .int .i64 x750001_1, .int .i64 x750002_1] 35 (0, 0)) (pk BK749.out) NB749_745.out (by simp)); have n7_ := Aside0.mk (KeepBut.blk hk (g' := gb750) (o := .cells #[.bool x751000_1, .int .i64 x751001_1, .int .i64 x751002_1] 35 (0, 0)) (pk BK750.out) NB750_745.out (by simp)); have n8_ := Aside0.mk (KeepBut.blk hk (g' := gb751) (o := .cells #[.bool x752000_2, .int .i64 x752001_2, .int .i64 x752002_2] 35 (0, 0)) (pk BK751.out) NB751_745.out (by simp)); have n9_ := Aside0.mk (KeepBut.blk hk (g' := gb752) (o := .cells #[.bool x753000_1, .int .i64 x753001_1, .int .i64 x753002_1] 35 (0, 0)) (pk BK752.out) NB752_745.out (by simp)); have n10_ := Aside0.mk (KeepBut.blk hk (g' := gb753) (o := .cells #[.bool x754000_1, .int .i64 x754001_1, .int .i64 x754002_1] 35 (0, 0)) (pk BK753.out) NB753_745.out (by simp)); have n11_ := Aside0.mk (hb); have n12_ := Aside0.mk ((hi).1); clear BK738; clear BK739; clear BK744; clear BK746; clear BK747; clear BK748; clear BK749; clear BK750; clear BK751; clear BK752; clear BK753; clear HB; clear BK745; have BK738 := n0_; have BK739 := n1_; have BK744 := n2_; have BK746 := n3_; have BK747 := n4_; have BK748 := n5_; have BK749 := n6_; have BK750 := n7_; have BK751 := n8_; have BK752 := n9_; have BK753 := n10_; have HB := n11_; have BK745 := n12_; clear n0_ n1_ n2_ n3_ n4_ n5_ n6_ n7_ n8_ n9_ n10_ n11_ n12_; (try clear hb); (try clear hb2); (try clear hk); (try clear hi); have hcz213_0 := hcz BK738 0; have hcz213_1 := hcz BK738 1; have hfz213_0 := blk_frozen BK738.out 0; have hfz213_1 := blk_frozen BK738.out 1; have hcz214_0 := hcz BK739 0; have hcz214_1 := hcz BK739 1; have hfz214_0 := blk_frozen BK739.out 0; have hfz214_1 := blk_frozen BK739.out 1) | (go_at_call 42; (with_reducible refine (itv_Mul.calls k2 t740 t741 t742 t743 t811 t812 _ A161.out).mono ?_); rintro e w215 ⟨rfl, hb⟩; have n0_ := bst HB hb; replace BK738 := bbw BK738 hb; replace BK739 := bbw BK739 hb; replace BK744 := bbw BK744 hb; replace BK745 := bbw BK745 hb; replace BK746 := bbw BK746 hb; replace BK747 := bbw BK747 hb; replace BK748 := bbw BK748 hb; replace BK749 := bbw BK749 hb; replace BK750 := bbw BK750 hb; replace BK751 := bbw BK751 hb; replace BK752 := bbw BK752 hb; replace BK753 := bbw BK753 hb; clear HB; have HB := n0_; clear n0_; (try clear hb); (try clear hb2); (try clear hk); (try clear hi)) | (go_at_call 35; (with_reducible refine (gimballaw02_whole_itv.calls gb746 x747000_1 x747001_1 x747002_1 t813 t814 x747000_1 x747001_1 x747002_1 w _ ?side1 ?side2 A162.out).mono ?_); (case side1 => exact And.intro (pk BK746.out) GE746.out); (case side2 => repeat (first | (with_reducible first | exact HB.out | apply below_alloc | apply pw_below_drewN | apply below_drew1 | refine below_set ?_ (IsS35.ge HI746.out) | refine below_set ?_ GE738.out | refine below_set ?_ GE739.out | refine below_set ?_ GE744.out | refine below_set ?_ GE745.out | refine below_set ?_ GE747.out | refine below_set ?_ GE748.out | refine below_set ?_ GE749.out | refine below_set ?_ GE750.out | refine below_set ?_ GE751.out | refine below_set ?_ GE752.out | refine below_set ?_ GE753.out) | exact HB.out)); rintro e w216 ⟨rfl, hi, hb, hk⟩; have n0_ := Aside0.mk (KeepBut.blk hk (g' := gb738) (o := .cells #[.int .i64 t740, .int .i64 t741] 23 (0, 0)) (pk BK738.out) NB738_746.out (by simp)); have n1_ := Aside0.mk (KeepBut.blk hk (g' := gb739) (o := .cells #[.int .i64 t742, .int .i64 t743] 23 (0, 0)) (pk BK739.out) NB739_746.out (by simp)); have n2_ := Aside0.mk (KeepBut.blk hk (g' := gb744) (o := .cells #[.bool x745000_1, .int .i64 x745001_1, .int .i64 x745002_1] 35 (0, 0)) (pk BK744.out) NB744_746.out (by simp)); have n3_ := Aside0.mk (KeepBut.blk hk (g' := gb745) (o := .cells #[.bool x746000_1, .int .i64 x746001_1, .int .i64 x746002_1] 35 (0, 0)) (pk BK745.out) NB745_746.out (by simp)); have n4_ := Aside0.mk (KeepBut.blk hk (g' := gb747) (o := .cells #[.bool x748000_1, .int .i64 x748001_1, .int .i64 x748002_1] 35 (0, 0)) (pk BK747.out) NB747_746.out (by simp)); have n5_ := Aside0.mk (KeepBut.blk hk (g' := gb748) (o := .cells #[.bool x749000_1, .int .i64 x749001_1, .int .i64 x749002_1] 35 (0, 0)) (pk BK748.out) NB748_746.out (by simp)); have n6_ := Aside0.mk (KeepBut.blk hk (g' := gb749) (o := .cells #[.bool x750000_1, .int .i64 x750001_1, .int .i64 x750002_1] 35 (0, 0)) (pk BK749.out) NB749_746.out (by simp)); have n7_ := Aside0.mk (KeepBut.blk hk (g' := gb750) (o := .cells #[.bool x751000_1, .int .i64 x751001_1, .int .i64 x751002_1] 35 (0, 0)) (pk BK750.out) NB750_746.out (by simp)); have n8_ := Aside0.mk (KeepBut.blk hk (g' := gb751) (o := .cells #[.bool x752000_2, .int .i64 x752001_2, .int .i64 x752002_2] 35 (0, 0)) (pk BK751.out) NB751_746.out (by simp)); have n9_ := Aside0.mk (KeepBut.blk hk (g' := gb752) (o := .cells #[.bool x753000_1, .int .i64 x753001_1, .int .i64 x753002_1] 35 (0, 0)) (pk BK752.out) NB752_746.out (by simp)); have n10_ := Aside0.mk (KeepBut.blk hk (g' := gb753) (o := .cells #[.bool x754000_1, .int .i64 x754001_1, .int .i64 x754002_1] 35 (0, 0)) (pk BK753.out) NB753_746.out (by simp)); have n11_ := Aside0.mk (hb); have n12_ := Aside0.mk ((hi).1); clear BK738; clear BK739; clear BK744; clear BK745; clear BK747; clear BK748; clear BK749; clear BK750; clear BK751; clear BK752; clear BK753; clear HB; clear BK746; have BK738 := n0_; have BK739 := n1_; have BK744 := n2_; have BK745 := n3_; have BK747 := n4_; have BK748 := n5_; have BK749 := n6_; have BK750 := n7_; have BK751 := n8_; have BK752 := n9_; have BK753 := n10_; have HB := n11_; have BK746 := n12_; clear n0_ n1_ n2_ n3_ n4_ n5_ n6_ n7_ n8_ n9_ n10_ n11_ n12_; (try clear hb); (try clear hb2); (try clear hk); (try clear hi); have hcz217_0 := hcz BK738 0; have hcz217_1 := hcz BK738 1; have hfz217_0 := blk_frozen BK738.out 0; have hfz217_1 := blk_frozen BK738.out 1; have hcz218_0 := hcz BK739 0; have hcz218_1 := hcz BK739 1; have hfz218_0 := blk_frozen BK739.out 0; have hfz218_1 := blk_frozen BK739.out 1) | (go_at_call 43; (with_reducible refine (itv_Min.calls k2 t740 t741 t742 t743 t818 t819 _ A164.out).mono ?_); rintro e w219 ⟨rfl, hb⟩; have n0_ := bst HB hb; replace BK738 := bbw BK738 hb; replace BK739 := bbw BK739 hb; replace BK744 := bbw BK744 hb; replace BK745 := bbw BK745 hb; replace BK746 := bbw BK746 hb; replace BK747 := bbw BK747 hb; replace BK748 := bbw BK748 hb; replace BK749 := bbw BK749 hb; replace BK750 := bbw BK750 hb; replace BK751 := bbw BK751 hb; replace BK752 := bbw BK752 hb; replace BK753 := bbw BK753 hb; clear HB; have HB := n0_; clear n0_; (try clear hb); (try clear hb2); (try clear hk); (try clear hi)) | (go_at_call 35; (with_reducible refine (gimballaw02_whole_itv.calls gb747 x748000_1 x748001_1 x748002_1 t820 t821 x748000_1 x748001_1 x748002_1 w _ ?side1 ?side2 A165.out).mono ?_); (case side1 => exact And.intro (pk BK747.out) GE747.out); (case side2 => repeat (first | (with_reducible first | exact HB.out | apply below_alloc | apply pw_below_drewN | apply below_drew1 | refine below_set ?_ (IsS35.ge HI747.out) | refine below_set ?_ GE738.out | refine below_set ?_ GE739.out | refine below_set ?_ GE744.out | refine below_set ?_ GE745.out | refine below_set ?_ GE746.out | refine below_set ?_ GE748.out | refine below_set ?_ GE749.out | refine below_set ?_ GE750.out | refine below_set ?_ GE751.out | refine below_set ?_ GE752.out | refine below_set ?_ GE753.out) | exact HB.out)); rintro e w220 ⟨rfl, hi, hb, hk⟩; have n0_ := Aside0.mk (KeepBut.blk hk (g' := gb738) (o := .cells #[.int .i64 t740, .int .i64 t741] 23 (0, 0)) (pk BK738.out) NB738_747.out (by simp)); have n1_ := Aside0.mk (KeepBut.blk hk (g' := gb739) (o := .cells #[.int .i64 t742, .int .i64 t743] 23 (0, 0)) (pk BK739.out) NB739_747.out (by simp)); have n2_ := Aside0.mk (KeepBut.blk hk (g' := gb744) (o := .cells #[.bool x745000_1, .int .i64 x745001_1, .int .i64 x745002_1] 35 (0, 0)) (pk BK744.out) NB744_747.out (by simp)); have n3_ := Aside0.mk (KeepBut.blk hk (g' := gb745) (o := .cells #[.bool x746000_1, .int .i64 x746001_1, .int .i64 x746002_1] 35 (0, 0)) (pk BK745.out) NB745_747.out (by simp)); have n4_ := Aside0.mk (KeepBut.blk hk (g' := gb746) (o := .cells #[.bool x747000_1, .int .i64 x747001_1, .int .i64 x747002_1] 35 (0, 0)) (pk BK746.out) NB746_747.out (by simp)); have n5_ := Aside0.mk (KeepBut.blk hk (g' := gb748) (o := .cells #[.bool x749000_1, .int .i64 x749001_1, .int .i64 x749002_1] 35 (0, 0)) (pk BK748.out) NB748_747.out (by simp)); have n6_ := Aside0.mk (KeepBut.blk hk (g' := gb749) (o := .cells #[.bool x750000_1, .int .i64 x750001_1, .int .i64 x750002_1] 35 (0, 0)) (pk BK749.out) NB749_747.out (by simp)); have n7_ := Aside0.mk (KeepBut.blk hk (g' := gb750) (o := .cells #[.bool x751000_1, .int .i64 x751001_1, .int .i64 x751002_1] 35 (0, 0)) (pk BK750.out) NB750_747.out (by simp)); have n8_ := Aside0.mk (KeepBut.blk hk (g' := gb751) (o := .cells #[.bool x752000_2, .int .i64 x752001_2, .int .i64 x752002_2] 35 (0, 0)) (pk BK751.out) NB751_747.out (by simp)); have n9_ := Aside0.mk (KeepBut.blk hk (g' := gb752) (o := .cells #[.bool x753000_1, .int .i64 x753001_1, .int .i64 x753002_1] 35 (0, 0)) (pk BK752.out) NB752_747.out (by simp)); have n10_ := Aside0.mk (KeepBut.blk hk (g' := gb753) (o := .cells #[.bool x754000_1, .int .i64 x754001_1, .int .i64 x754002_1] 35 (0, 0)) (pk BK753.out) NB753_747.out (by simp)); have n11_ := Aside0.mk (hb); have n12_ := Aside0.mk ((hi).1); clear BK738; clear BK739; clear BK744; clear BK745; clear BK746; clear BK748; clear BK749; clear BK750; clear BK751; clear BK752; clear BK753; clear HB; clear BK747; have BK738 := n0_; have BK739 := n1_; have BK744 := n2_; have BK745 := n3_; have BK746 := n4_; have BK748 := n5_; have BK749 := n6_; have BK750 := n7_; have BK751 := n8_; have BK752 := n9_; have BK753 := n10_; have HB := n11_; have BK747 := n12_; clear n0_ n1_ n2_ n3_ n4_ n5_ n6_ n7_ n8_ n9_ n10_ n11_ n12_; (try clear hb); (try clear hb2); (try clear hk); (try clear hi); have hcz221_0 := hcz BK738 0; have hcz221_1 := hcz BK738 1; have hfz221_0 := blk_frozen BK738.out 0; have hfz221_1 := blk_frozen BK738.out 1; have hcz222_0 := hcz BK739 0; have hcz222_1 := hcz BK739 1; have hfz222_0 := blk_frozen BK739.out 0; have hfz222_1 := blk_frozen BK739.out 1) | (go_at_call 44; (with_reducible refine (itv_Max.calls k2 t740 t741 t742 t743 t825 t826 _ A167.out).mono ?_); rintro e w223 ⟨rfl, hb⟩; have n0_ := bst HB hb; replace BK738 := bbw BK738 hb; replace BK739 := bbw BK739 hb; replace BK744 := bbw BK744 hb; replace BK745 := bbw BK745 hb; replace BK746 := bbw BK746 hb; replace BK747 := bbw BK747 hb; replace BK748 := bbw BK748 hb; replace BK749 := bbw BK749 hb; replace BK750 := bbw BK750 hb; replace BK751 := bbw BK751 hb; replace BK752 := bbw BK752 hb; replace BK753 := bbw BK753 hb; clear HB; have HB := n0_; clear n0_; (try clear hb); (try clear hb2); (try clear hk); (try clear hi)) | (go_at_call 35; (with_reducible refine (gimballaw02_whole_itv.calls gb748 x749000_1 x749001_1 x749002_1 t827 t828 x749000_1 x749001_1 x749002_1 w _ ?side1 ?side2 A168.out).mono ?_); (case side1 => exact And.intro (pk BK748.out) GE748.out); (case side2 => repeat (first | (with_reducible first | exact HB.out | apply below_alloc | apply pw_below_drewN | apply below_drew1 | refine below_set ?_ (IsS35.ge HI748.out) | refine below_set ?_ GE738.out | refine below_set ?_ GE739.out | refine below_set ?_ GE744.out | refine below_set ?_ GE745.out | refine below_set ?_ GE746.out | refine below_set ?_ GE747.out | refine below_set ?_ GE749.out | refine below_set ?_ GE750.out | refine below_set ?_ GE751.out | refine below_set ?_ GE752.out | refine below_set ?_ GE753.out) | exact HB.out)); rintro e w224 ⟨rfl, hi, hb, hk⟩; have n0_ := Aside0.mk (KeepBut.blk hk (g' := gb738) (o := .cells #[.int .i64 t740, .int .i64 t741] 23 (0, 0)) (pk BK738.out) NB738_748.out (by simp)); have n1_ := Aside0.mk (KeepBut.blk hk (g' := gb739) (o := .cells #[.int .i64 t742, .int .i64 t743] 23 (0, 0)) (pk BK739.out) NB739_748.out (by simp)); have n2_ := Aside0.mk (KeepBut.blk hk (g' := gb744) (o := .cells #[.bool x745000_1, .int .i64 x745001_1, .int .i64 x745002_1] 35 (0, 0)) (pk BK744.out) NB744_748.out (by simp)); have n3_ := Aside0.mk (KeepBut.blk hk (g' := gb745) (o := .cells #[.bool x746000_1, .int .i64 x746001_1, .int .i64 x746002_1] 35 (0, 0)) (pk BK745.out) NB745_748.out (by simp)); have n4_ := Aside0.mk (KeepBut.blk hk (g' := gb746) (o := .cells #[.bool x747000_1, .int .i64 x747001_1, .int .i64 x747002_1] 35 (0, 0)) (pk BK746.out) NB746_748.out (by simp)); have n5_ := Aside0.mk (KeepBut.blk hk (g' := gb747) (o := .cells #[.bool x748000_1, .int .i64 x748001_1, .int .i64 x748002_1] 35 (0, 0)) (pk BK747.out) NB747_748.out (by simp)); have n6_ := Aside0.mk (KeepBut.blk hk (g' := gb749) (o := .cells #[.bool x750000_1, .int .i64 x750001_1, .int .i64 x750002_1] 35 (0, 0)) (pk BK749.out) NB749_748.out (by simp)); have n7_ := Aside0.mk (KeepBut.blk hk (g' := gb750) (o := .cells #[.bool x751000_1, .int .i64 x751001_1, .int .i64 x751002_1] 35 (0, 0)) (pk BK750.out) NB750_748.out (by simp)); have n8_ := Aside0.mk (KeepBut.blk hk (g' := gb751) (o := .cells #[.bool x752000_2, .int .i64 x752001_2, .int .i64 x752002_2] 35 (0, 0)) (pk BK751.out) NB751_748.out (by simp)); have n9_ := Aside0.mk (KeepBut.blk hk (g' := gb752) (o := .cells #[.bool x753000_1, .int .i64 x753001_1, .int .i64 x753002_1] 35 (0, 0)) (pk BK752.out) NB752_748.out (by simp)); have n10_ := Aside0.mk (KeepBut.blk hk (g' := gb753) (o := .cells #[.bool x754000_1, .int .i64 x754001_1, .int .i64 x754002_1] 35 (0, 0)) (pk BK753.out) NB753_748.out (by simp)); have n11_ := Aside0.mk (hb); have n12_ := Aside0.mk ((hi).1); clear BK738; clear BK739; clear BK744; clear BK745; clear BK746; clear BK747; clear BK749; clear BK750; clear BK751; clear BK752; clear BK753; clear HB; clear BK748; have BK738 := n0_; have BK739 := n1_; have BK744 := n2_; have BK745 := n3_; have BK746 := n4_; have BK747 := n5_; have BK749 := n6_; have BK750 := n7_; have BK751 := n8_; have BK752 := n9_; have BK753 := n10_; have HB := n11_; have BK748 := n12_; clear n0_ n1_ n2_ n3_ n4_ n5_ n6_ n7_ n8_ n9_ n10_ n11_ n12_; (try clear hb); (try clear hb2); (try clear hk); (try clear hi); have hcz225_0 := hcz BK738 0; have hcz225_1 := hcz BK738 1; have hfz225_0 := blk_frozen BK738.out 0; have hfz225_1 := blk_frozen BK738.out 1; have hcz226_0 := hcz BK739 0; have hcz226_1 := hcz BK739 1; have hfz226_0 := blk_frozen BK739.out 0; have hfz226_1 := blk_frozen BK739.out 1) | (go_at_call 45; (with_reducible refine (itv_Div.calls k2 t740 t741 t742 t743 t832 t833 _ A170.out).mono ?_); rintro e w227 ⟨rfl, hb⟩; have n0_ := bst HB hb; replace BK738 := bbw BK738 hb; replace BK739 := bbw BK739 hb; replace BK744 := bbw BK744 hb; replace BK745 := bbw BK745 hb; replace BK746 := bbw BK746 hb; replace BK747 := bbw BK747 hb; replace BK748 := bbw BK748 hb; replace BK749 := bbw BK749 hb; replace BK750 := bbw BK750 hb; replace BK751 := bbw BK751 hb; replace BK752 := bbw BK752 hb; replace BK753 := bbw BK753 hb; clear HB; have HB := n0_; clear n0_; (try clear hb); (try clear hb2); (try clear hk); (try clear hi)) | (go_at_call 35; (with_reducible refine (gimballaw02_whole_itv.calls gb749 x750000_1 x750001_1 x750002_1 t834 t835 x750000_1 x750001_1 x750002_1 w _ ?side1 ?side2 A171.out).mono ?_); (case side1 => exact And.intro (pk BK749.out) GE749.out); (case side2 => repeat (first | (with_reducible first | exact HB.out | apply below_alloc | apply pw_below_drewN | apply below_drew1 | refine below_set ?_ (IsS35.ge HI749.out) | refine below_set ?_ GE738.out | refine below_set ?_ GE739.out | refine below_set ?_ GE744.out | refine below_set ?_ GE745.out | refine below_set ?_ GE746.out | refine below_set ?_ GE747.out | refine below_set ?_ GE748.out | refine below_set ?_ GE750.out | refine below_set ?_ GE751.out | refine below_set ?_ GE752.out | refine below_set ?_ GE753.out) | exact HB.out)); rintro e w228 ⟨rfl, hi, hb, hk⟩; have n0_ := Aside0.mk (KeepBut.blk hk (g' := gb738) (o := .cells #[.int .i64 t740, .int .i64 t741] 23 (0, 0)) (pk BK738.out) NB738_749.out (by simp)); have n1_ := Aside0.mk (KeepBut.blk hk (g' := gb739) (o := .cells #[.int .i64 t742, .int .i64 t743] 23 (0, 0)) (pk BK739.out) NB739_749.out (by simp)); have n2_ := Aside0.mk (KeepBut.blk hk (g' := gb744) (o := .cells #[.bool x745000_1, .int .i64 x745001_1, .int .i64 x745002_1] 35 (0, 0)) (pk BK744.out) NB744_749.out (by simp)); have n3_ := Aside0.mk (KeepBut.blk hk (g' := gb745) (o := .cells #[.bool x746000_1, .int .i64 x746001_1, .int .i64 x746002_1] 35 (0, 0)) (pk BK745.out) NB745_749.out (by simp)); have n4_ := Aside0.mk (KeepBut.blk hk (g' := gb746) (o := .cells #[.bool x747000_1, .int .i64 x747001_1, .int .i64 x747002_1] 35 (0, 0)) (pk BK746.out) NB746_749.out (by simp)); have n5_ := Aside0.mk (KeepBut.blk hk (g' := gb747) (o := .cells #[.bool x748000_1, .int .i64 x748001_1, .int .i64 x748002_1] 35 (0, 0)) (pk BK747.out) NB747_749.out (by simp)); have n6_ := Aside0.mk (KeepBut.blk hk (g' := gb748) (o := .cells #[.bool x749000_1, .int .i64 x749001_1, .int .i64 x749002_1] 35 (0, 0)) (pk BK748.out) NB748_749.out (by simp)); have n7_ := Aside0.mk (KeepBut.blk hk (g' := gb750) (o := .cells #[.bool x751000_1, .int .i64 x751001_1, .int .i64 x751002_1] 35 (0, 0)) (pk BK750.out) NB750_749.out (by simp)); have n8_ := Aside0.mk (KeepBut.blk hk (g' := gb751) (o := .cells #[.bool x752000_2, .int .i64 x752001_2, .int .i64 x752002_2] 35 (0, 0)) (pk BK751.out) NB751_749.out (by simp)); have n9_ := Aside0.mk (KeepBut.blk hk (g' := gb752) (o := .cells #[.bool x753000_1, .int .i64 x753001_1, .int .i64 x753002_1] 35 (0, 0)) (pk BK752.out) NB752_749.out (by simp)); have n10_ := Aside0.mk (KeepBut.blk hk (g' := gb753) (o := .cells #[.bool x754000_1, .int .i64 x754001_1, .int .i64 x754002_1] 35 (0, 0)) (pk BK753.out) NB753_749.out (by simp)); have n11_ := Aside0.mk (hb); have n12_ := Aside0.mk ((hi).1); clear BK738; clear BK739; clear BK744; clear BK745; clear BK746; clear BK747; clear BK748; clear BK750; clear BK751; clear BK752; clear BK753; clear HB; clear BK749; have BK738 := n0_; have BK739 := n1_; have BK744 := n2_; have BK745 := n3_; have BK746 := n4_; have BK747 := n5_; have BK748 := n6_; have BK750 := n7_; have BK751 := n8_; have BK752 := n9_; have BK753 := n10_; have HB := n11_; have BK749 := n12_; clear n0_ n1_ n2_ n3_ n4_ n5_ n6_ n7_ n8_ n9_ n10_ n11_ n12_; (try clear hb); (try clear hb2); (try clear hk); (try clear hi); have hcz229_0 := hcz BK738 0; have hcz229_1 := hcz BK738 1; have hfz229_0 := blk_frozen BK738.out 0; have hfz229_1 := blk_frozen BK738.out 1) | (go_at_call 46; (with_reducible refine (itv_Neg.calls t740 t741 t839 t840 _ A173.out).mono ?_); rintro e w230 ⟨rfl, hb⟩; have n0_ := bst HB hb; replace BK738 := bbw BK738 hb; replace BK739 := bbw BK739 hb; replace BK744 := bbw BK744 hb; replace BK745 := bbw BK745 hb; replace BK746 := bbw BK746 hb; replace BK747 := bbw BK747 hb; replace BK748 := bbw BK748 hb; replace BK749 := bbw BK749 hb; replace BK750 := bbw BK750 hb; replace BK751 := bbw BK751 hb; replace BK752 := bbw BK752 hb; replace BK753 := bbw BK753 hb; clear HB; have HB := n0_; clear n0_; (try clear hb); (try clear hb2); (try clear hk); (try clear hi)) | (go_at_call 35; (with_reducible refine (gimballaw02_whole_itv.calls gb752 x753000_1 x753001_1 x753002_1 t841 t842 x753000_1 x753001_1 x753002_1 w _ ?side1 ?side2 A174.out).mono ?_); (case side1 => exact And.intro (pk BK752.out) GE752.out); (case side2 => repeat (first | (with_reducible first | exact HB.out | apply below_alloc | apply pw_below_drewN | apply below_drew1 | refine below_set ?_ (IsS35.ge HI752.out) | refine below_set ?_ GE738.out | refine below_set ?_ GE739.out | refine below_set ?_ GE744.out | refine below_set ?_ GE745.out | refine below_set ?_ GE746.out | refine below_set ?_ GE747.out | refine below_set ?_ GE748.out | refine below_set ?_ GE749.out | refine below_set ?_ GE750.out | refine below_set ?_ GE751.out | refine below_set ?_ GE753.out) | exact HB.out)); rintro e w231 ⟨rfl, hi, hb, hk⟩; have n0_ := Aside0.mk (KeepBut.blk hk (g' := gb738) (o := .cells #[.int .i64 t740, .int .i64 t741] 23 (0, 0)) (pk BK738.out) NB738_752.out (by simp)); have n1_ := Aside0.mk (KeepBut.blk hk (g' := gb739) (o := .cells #[.int .i64 t742, .int .i64 t743] 23 (0, 0)) (pk BK739.out) NB739_752.out (by simp)); have n2_ := Aside0.mk (KeepBut.blk hk (g' := gb744) (o := .cells #[.bool x745000_1, .int .i64 x745001_1, .int .i64 x745002_1] 35 (0, 0)) (pk BK744.out) NB744_752.out (by simp)); have n3_ := Aside0.mk (KeepBut.blk hk (g' := gb745) (o := .cells #[.bool x746000_1, .int .i64 x746001_1, .int .i64 x746002_1] 35 (0, 0)) (pk BK745.out) NB745_752.out (by simp)); have n4_ := Aside0.mk (KeepBut.blk hk (g' := gb746) (o := .cells #[.bool x747000_1, .int .i64 x747001_1, .int .i64 x747002_1] 35 (0, 0)) (pk BK746.out) NB746_752.out (by simp)); have n5_ := Aside0.mk (KeepBut.blk hk (g' := gb747) (o := .cells #[.bool x748000_1, .int .i64 x748001_1, .int .i64 x748002_1] 35 (0, 0)) (pk BK747.out) NB747_752.out (by simp)); have n6_ := Aside0.mk (KeepBut.blk hk (g' := gb748) (o := .cells #[.bool x749000_1, .int .i64 x749001_1, .int .i64 x749002_1] 35 (0, 0)) (pk BK748.out) NB748_752.out (by simp)); have n7_ := Aside0.mk (KeepBut.blk hk (g' := gb749) (o := .cells #[.bool x750000_1, .int .i64 x750001_1, .int .i64 x750002_1] 35 (0, 0)) (pk BK749.out) NB749_752.out (by simp)); have n8_ := Aside0.mk (KeepBut.blk hk (g' := gb750) (o := .cells #[.bool x751000_1, .int .i64 x751001_1, .int .i64 x751002_1] 35 (0, 0)) (pk BK750.out) NB750_752.out (by simp)); have n9_ := Aside0.mk (KeepBut.blk hk (g' := gb751) (o := .cells #[.bool x752000_2, .int .i64 x752001_2, .int .i64 x752002_2] 35 (0, 0)) (pk BK751.out) NB751_752.out (by simp)); have n10_ := Aside0.mk (KeepBut.blk hk (g' := gb753) (o := .cells #[.bool x754000_1, .int .i64 x754001_1, .int .i64 x754002_1] 35 (0, 0)) (pk BK753.out) NB753_752.out (by simp)); have n11_ := Aside0.mk (hb); have n12_ := Aside0.mk ((hi).1); clear BK738; clear BK739; clear BK744; clear BK745; clear BK746; clear BK747; clear BK748; clear BK749; clear BK750; clear BK751; clear BK753; clear HB; clear BK752; have BK738 := n0_; have BK739 := n1_; have BK744 := n2_; have BK745 := n3_; have BK746 := n4_; have BK747 := n5_; have BK748 := n6_; have BK749 := n7_; have BK750 := n8_; have BK751 := n9_; have BK753 := n10_; have HB := n11_; have BK752 := n12_; clear n0_ n1_ n2_ n3_ n4_ n5_ n6_ n7_ n8_ n9_ n10_ n11_ n12_; (try clear hb); (try clear hb2); (try clear hk); (try clear hi); have hcz232_0 := hcz BK738 0; have hcz232_1 := hcz BK738 1; have hfz232_0 := blk_frozen BK738.out 0; have hfz232_1 := blk_frozen BK738.out 1) | (go_at_call 47; (with_reducible refine (itv_Abs.calls k2 t740 t741 t846 t847 _ A176.out).mono ?_); rintro e w233 ⟨rfl, hb⟩; have n0_ := bst HB hb; replace BK738 := bbw BK738 hb; replace BK739 := bbw BK739 hb; replace BK744 := bbw BK744 hb; replace BK745 := bbw BK745 hb; replace BK746 := bbw BK746 hb; replace BK747 := bbw BK747 hb; replace BK748 := bbw BK748 hb; replace BK749 := bbw BK749 hb; replace BK750 := bbw BK750 hb; replace BK751 := bbw BK751 hb; replace BK752 := bbw BK752 hb; replace BK753 := bbw BK753 hb; clear HB; have HB := n0_; clear n0_; (try clear hb); (try clear hb2); (try clear hk); (try clear hi)) | (go_at_call 35; (with_reducible refine (gimballaw02_whole_itv.calls gb753 x754000_1 x754001_1 x754002_1 t848 t849 x754000_1 x754001_1 x754002_1 w _ ?side1 ?side2 A177.out).mono ?_); (case side1 => exact And.intro (pk BK753.out) GE753.out); (case side2 => repeat (first | (with_reducible first | exact HB.out | apply below_alloc | apply pw_below_drewN | apply below_drew1 | refine below_set ?_ (IsS35.ge HI753.out) | refine below_set ?_ GE738.out | refine below_set ?_ GE739.out | refine below_set ?_ GE744.out | refine below_set ?_ GE745.out | refine below_set ?_ GE746.out | refine below_set ?_ GE747.out | refine below_set ?_ GE748.out | refine below_set ?_ GE749.out | refine below_set ?_ GE750.out | refine below_set ?_ GE751.out | refine below_set ?_ GE752.out) | exact HB.out)); rintro e w234 ⟨rfl, hi, hb, hk⟩; have n0_ := Aside0.mk (KeepBut.blk hk (g' := gb738) (o := .cells #[.int .i64 t740, .int .i64 t741] 23 (0, 0)) (pk BK738.out) NB738_753.out (by simp)); have n1_ := Aside0.mk (KeepBut.blk hk (g' := gb739) (o := .cells #[.int .i64 t742, .int .i64 t743] 23 (0, 0)) (pk BK739.out) NB739_753.out (by simp)); have n2_ := Aside0.mk (KeepBut.blk hk (g' := gb744) (o := .cells #[.bool x745000_1, .int .i64 x745001_1, .int .i64 x745002_1] 35 (0, 0)) (pk BK744.out) NB744_753.out (by simp)); have n3_ := Aside0.mk (KeepBut.blk hk (g' := gb745) (o := .cells #[.bool x746000_1, .int .i64 x746001_1, .int .i64 x746002_1] 35 (0, 0)) (pk BK745.out) NB745_753.out (by simp)); have n4_ := Aside0.mk (KeepBut.blk hk (g' := gb746) (o := .cells #[.bool x747000_1, .int .i64 x747001_1, .int .i64 x747002_1] 35 (0, 0)) (pk BK746.out) NB746_753.out (by simp)); have n5_ := Aside0.mk (KeepBut.blk hk (g' := gb747) (o := .cells #[.bool x748000_1, .int .i64 x748001_1, .int .i64 x748002_1] 35 (0, 0)) (pk BK747.out) NB747_753.out (by simp)); have n6_ := Aside0.mk (KeepBut.blk hk (g' := gb748) (o := .cells #[.bool x749000_1, .int .i64 x749001_1, .int .i64 x749002_1] 35 (0, 0)) (pk BK748.out) NB748_753.out (by simp)); have n7_ := Aside0.mk (KeepBut.blk hk (g' := gb749) (o := .cells #[.bool x750000_1, .int .i64 x750001_1, .int .i64 x750002_1] 35 (0, 0)) (pk BK749.out) NB749_753.out (by simp)); have n8_ := Aside0.mk (KeepBut.blk hk (g' := gb750) (o := .cells #[.bool x751000_1, .int .i64 x751001_1, .int .i64 x751002_1] 35 (0, 0)) (pk BK750.out) NB750_753.out (by simp)); have n9_ := Aside0.mk (KeepBut.blk hk (g' := gb751) (o := .cells #[.bool x752000_2, .int .i64 x752001_2, .int .i64 x752002_2] 35 (0, 0)) (pk BK751.out) NB751_753.out (by simp)); have n10_ := Aside0.mk (KeepBut.blk hk (g' := gb752) (o := .cells #[.bool x753000_1, .int .i64 x753001_1, .int .i64 x753002_1] 35 (0, 0)) (pk BK752.out) NB752_753.out (by simp)); have n11_ := Aside0.mk (hb); have n12_ := Aside0.mk ((hi).1); clear BK738; clear BK739; clear BK744; clear BK745; clear BK746; clear BK747; clear BK748; clear BK749; clear BK750; clear BK751; clear BK752; clear HB; clear BK753; have BK738 := n0_; have BK739 := n1_; have BK744 := n2_; have BK745 := n3_; have BK746 := n4_; have BK747 := n5_; have BK748 := n6_; have BK749 := n7_; have BK750 := n8_; have BK751 := n9_; have BK752 := n10_; have HB := n11_; have BK753 := n12_; clear n0_ n1_ n2_ n3_ n4_ n5_ n6_ n7_ n8_ n9_ n10_ n11_ n12_; (try clear hb); (try clear hb2); (try clear hk); (try clear hi); have hcz235_0 := hcz BK738 0; have hcz235_1 := hcz BK738 1; have hfz235_0 := blk_frozen BK738.out 0; have hfz235_1 := blk_frozen BK738.out 1; have hcz236_0 := hcz BK739 0; have hcz236_1 := hcz BK739 1; have hfz236_0 := blk_frozen BK739.out 0; have hfz236_1 := blk_frozen BK739.out 1) | (go_at_call 28; (with_reducible refine (itv_Meet.calls k2 t740 t741 t742 t743 t853 t854 _ A179.out).mono ?_); rintro e w237 ⟨rfl, hb⟩; have n0_ := bst HB hb; replace BK738 := bbw BK738 hb; replace BK739 := bbw BK739 hb; replace BK744 := bbw BK744 hb; replace BK745 := bbw BK745 hb; replace BK746 := bbw BK746 hb; replace BK747 := bbw BK747 hb; replace BK748 := bbw BK748 hb; replace BK749 := bbw BK749 hb; replace BK750 := bbw BK750 hb; replace BK751 := bbw BK751 hb; replace BK752 := bbw BK752 hb; replace BK753 := bbw BK753 hb; clear HB; have HB := n0_; clear n0_; (try clear hb); (try clear hb2); (try clear hk); (try clear hi)) | (go_at_call 35; (with_reducible refine (gimballaw02_whole_itv.calls gb750 x751000_1 x751001_1 x751002_1 t855 t856 x751000_1 x751001_1 x751002_1 w _ ?side1 ?side2 A180.out).mono ?_); (case side1 => exact And.intro (pk BK750.out) GE750.out); (case side2 => repeat (first | (with_reducible first | exact HB.out | apply below_alloc | apply pw_below_drewN | apply below_drew1 | refine below_set ?_ (IsS35.ge HI750.out) | refine below_set ?_ GE738.out | refine below_set ?_ GE739.out | refine below_set ?_ GE744.out | refine below_set ?_ GE745.out | refine below_set ?_ GE746.out | refine below_set ?_ GE747.out | refine below_set ?_ GE748.out | refine below_set ?_ GE749.out | refine below_set ?_ GE751.out | refine below_set ?_ GE752.out | refine below_set ?_ GE753.out) | exact HB.out)); rintro e w238 ⟨rfl, hi, hb, hk⟩; have n0_ := Aside0.mk (KeepBut.blk hk (g' := gb738) (o := .cells #[.int .i64 t740, .int .i64 t741] 23 (0, 0)) (pk BK738.out) NB738_750.out (by simp)); have n1_ := Aside0.mk (KeepBut.blk hk (g' := gb739) (o := .cells #[.int .i64 t742, .int .i64 t743] 23 (0, 0)) (pk BK739.out) NB739_750.out (by simp)); have n2_ := Aside0.mk (KeepBut.blk hk (g' := gb744) (o := .cells #[.bool x745000_1, .int .i64 x745001_1, .int .i64 x745002_1] 35 (0, 0)) (pk BK744.out) NB744_750.out (by simp)); have n3_ := Aside0.mk (KeepBut.blk hk (g' := gb745) (o := .cells #[.bool x746000_1, .int .i64 x746001_1, .int .i64 x746002_1] 35 (0, 0)) (pk BK745.out) NB745_750.out (by simp)); have n4_ := Aside0.mk (KeepBut.blk hk (g' := gb746) (o := .cells #[.bool x747000_1, .int .i64 x747001_1, .int .i64 x747002_1] 35 (0, 0)) (pk BK746.out) NB746_750.out (by simp)); have n5_ := Aside0.mk (KeepBut.blk hk (g' := gb747) (o := .cells #[.bool x748000_1, .int .i64 x748001_1, .int .i64 x748002_1] 35 (0, 0)) (pk BK747.out) NB747_750.out (by simp)); have n6_ := Aside0.mk (KeepBut.blk hk (g' := gb748) (o := .cells #[.bool x749000_1, .int .i64 x749001_1, .int .i64 x749002_1] 35 (0, 0)) (pk BK748.out) NB748_750.out (by simp)); have n7_ := Aside0.mk (KeepBut.blk hk (g' := gb749) (o := .cells #[.bool x750000_1, .int .i64 x750001_1, .int .i64 x750002_1] 35 (0, 0)) (pk BK749.out) NB749_750.out (by simp)); have n8_ := Aside0.mk (KeepBut.blk hk (g' := gb751) (o := .cells #[.bool x752000_2, .int .i64 x752001_2, .int .i64 x752002_2] 35 (0, 0)) (pk BK751.out) NB751_750.out (by simp)); have n9_ := Aside0.mk (KeepBut.blk hk (g' := gb752) (o := .cells #[.bool x753000_1, .int .i64 x753001_1, .int .i64 x753002_1] 35 (0, 0)) (pk BK752.out) NB752_750.out (by simp)); have n10_ := Aside0.mk (KeepBut.blk hk (g' := gb753) (o := .cells #[.bool x754000_1, .int .i64 x754001_1, .int .i64 x754002_1] 35 (0, 0)) (pk BK753.out) NB753_750.out (by simp)); have n11_ := Aside0.mk (hb); have n12_ := Aside0.mk ((hi).1); clear BK738; clear BK739; clear BK744; clear BK745; clear BK746; clear BK747; clear BK748; clear BK749; clear BK751; clear BK752; clear BK753; clear HB; clear BK750; have BK738 := n0_; have BK739 := n1_; have BK744 := n2_; have BK745 := n3_; have BK746 := n4_; have BK747 := n5_; have BK748 := n6_; have BK749 := n7_; have BK751 := n8_; have BK752 := n9_; have BK753 := n10_; have HB := n11_; have BK750 := n12_; clear n0_ n1_ n2_ n3_ n4_ n5_ n6_ n7_ n8_ n9_ n10_ n11_ n12_; (try clear hb); (try clear hb2); (try clear hk); (try clear hi); have hcz239_0 := hcz BK738 0; have hcz239_1 := hcz BK738 1; have hfz239_0 := blk_frozen BK738.out 0; have hfz239_1 := blk_frozen BK738.out 1; have hcz240_0 := hcz BK739 0; have hcz240_1 := hcz BK739 1; have hfz240_0 := blk_frozen BK739.out 0; have hfz240_1 := blk_frozen BK739.out 1) | (go_at_call 26; (with_reducible refine (itv_Join.calls t740 t741 t742 t743 t860 t861 _ A182.out).mono ?_); rintro e w241 ⟨rfl, hb⟩; have n0_ := bst HB hb; replace BK738 := bbw BK738 hb; replace BK739 := bbw BK739 hb; replace BK744 := bbw BK744 hb; replace BK745 := bbw BK745 hb; replace BK746 := bbw BK746 hb; replace BK747 := bbw BK747 hb; replace BK748 := bbw BK748 hb; replace BK749 := bbw BK749 hb; replace BK750 := bbw BK750 hb; replace BK751 := bbw BK751 hb; replace BK752 := bbw BK752 hb; replace BK753 := bbw BK753 hb; clear HB; have HB := n0_; clear n0_; (try clear hb); (try clear hb2); (try clear hk); (try clear hi)) | (go_at_call 35; (with_reducible refine (gimballaw02_whole_itv.calls gb751 x752000_2 x752001_2 x752002_2 t862 t863 x752000_2 x752001_2 x752002_2 w _ ?side1 ?side2 A183.out).mono ?_); (case side1 => exact And.intro (pk BK751.out) GE751.out); (case side2 => repeat (first | (with_reducible first | exact HB.out | apply below_alloc | apply pw_below_drewN | apply below_drew1 | refine below_set ?_ (IsS35.ge HI751.out) | refine below_set ?_ GE738.out | refine below_set ?_ GE739.out | refine below_set ?_ GE744.out | refine below_set ?_ GE745.out | refine below_set ?_ GE746.out | refine below_set ?_ GE747.out | refine below_set ?_ GE748.out | refine below_set ?_ GE749.out | refine below_set ?_ GE750.out | refine below_set ?_ GE752.out | refine below_set ?_ GE753.out) | exact HB.out)); rintro e w242 ⟨rfl, hi, hb, hk⟩; have n0_ := Aside0.mk (KeepBut.blk hk (g' := gb738) (o := .cells #[.int .i64 t740, .int .i64 t741] 23 (0, 0)) (pk BK738.out) NB738_751.out (by simp)); have n1_ := Aside0.mk (KeepBut.blk hk (g' := gb739) (o := .cells #[.int .i64 t742, .int .i64 t743] 23 (0, 0)) (pk BK739.out) NB739_751.out (by simp)); have n2_ := Aside0.mk (KeepBut.blk hk (g' := gb744) (o := .cells #[.bool x745000_1, .int .i64 x745001_1, .int .i64 x745002_1] 35 (0, 0)) (pk BK744.out) NB744_751.out (by simp)); have n3_ := Aside0.mk (KeepBut.blk hk (g' := gb745) (o := .cells #[.bool x746000_1, .int .i64 x746001_1, .int .i64 x746002_1] 35 (0, 0)) (pk BK745.out) NB745_751.out (by simp)); have n4_ := Aside0.mk (KeepBut.blk hk (g' := gb746) (o := .cells #[.bool x747000_1, .int .i64 x747001_1, .int .i64 x747002_1] 35 (0, 0)) (pk BK746.out) NB746_751.out (by simp)); have n5_ := Aside0.mk (KeepBut.blk hk (g' := gb747) (o := .cells #[.bool x748000_1, .int .i64 x748001_1, .int .i64 x748002_1] 35 (0, 0)) (pk BK747.out) NB747_751.out (by simp)); have n6_ := Aside0.mk (KeepBut.blk hk (g' := gb748) (o := .cells #[.bool x749000_1, .int .i64 x749001_1, .int .i64 x749002_1] 35 (0, 0)) (pk BK748.out) NB748_751.out (by simp)); have n7_ := Aside0.mk (KeepBut.blk hk (g' := gb749) (o := .cells #[.bool x750000_1, .int .i64 x750001_1, .int .i64 x750002_1] 35 (0, 0)) (pk BK749.out) NB749_751.out (by simp)); have n8_ := Aside0.mk (KeepBut.blk hk (g' := gb750) (o := .cells #[.bool x751000_1, .int .i64 x751001_1, .int .i64 x751002_1] 35 (0, 0)) (pk BK750.out) NB750_751.out (by simp)); have n9_ := Aside0.mk (KeepBut.blk hk (g' := gb752) (o := .cells #[.bool x753000_1, .int .i64 x753001_1, .int .i64 x753002_1] 35 (0, 0)) (pk BK752.out) NB752_751.out (by simp)); have n10_ := Aside0.mk (KeepBut.blk hk (g' := gb753) (o := .cells #[.bool x754000_1, .int .i64 x754001_1, .int .i64 x754002_1] 35 (0, 0)) (pk BK753.out) NB753_751.out (by simp)); have n11_ := Aside0.mk (hb); have n12_ := Aside0.mk ((hi).1); clear BK738; clear BK739; clear BK744; clear BK745; clear BK746; clear BK747; clear BK748; clear BK749; clear BK750; clear BK752; clear BK753; clear HB; clear BK751; have BK738 := n0_; have BK739 := n1_; have BK744 := n2_; have BK745 := n3_; have BK746 := n4_; have BK747 := n5_; have BK748 := n6_; have BK749 := n7_; have BK750 := n8_; have BK752 := n9_; have BK753 := n10_; have HB := n11_; have BK751 := n12_; clear n0_ n1_ n2_ n3_ n4_ n5_ n6_ n7_ n8_ n9_ n10_ n11_ n12_; (try clear hb); (try clear hb2); (try clear hk); (try clear hi)))
                 go_ret
                 exact ⟨by first | rfl | (simp [errW_none, errW_some] <;> rfl) | (simp [*, errW_none, errW_some] <;> rfl) | kernel_rfl, by repeat (first | (with_reducible first | exact HB.out | apply below_alloc | apply pw_below_drewN | apply below_drew1 | refine below_set ?_ GE738.out | refine below_set ?_ GE739.out | refine below_set ?_ GE744.out | refine below_set ?_ GE745.out | refine below_set ?_ GE746.out | refine below_set ?_ GE747.out | refine below_set ?_ GE748.out | refine below_set ?_ GE749.out | refine below_set ?_ GE750.out | refine below_set ?_ GE751.out | refine below_set ?_ GE752.out | refine below_set ?_ GE753.out) | exact HB.out)⟩
                ·
                 rw [if_neg c181] at H
                 have c181b0 : (t853 == t855 && (t854 == t856)) = false := by simpa using c181
                 (try (have c181b1 : decide (t853 = t855 && (t854 == t856)) = false := by simpa using c181))
                 (try (have c181b2 : (t853 == t855 && (t854 == t856)) = false := by simpa using c181))
                 (try (have c181b3 : ¬ (t853 = t855 && (t854 == t856)) := by simpa using c181))
                 clear c181
                 exact absurd H (by simp)
               ·
                rw [if_neg c178] at H
                have c178b0 : (t846 == t848 && (t847 == t849)) = false := by simpa using c178
                (try (have c178b1 : decide (t846 = t848 && (t847 == t849)) = false := by simpa using c178))
                (try (have c178b2 : (t846 == t848 && (t847 == t849)) = false := by simpa using c178))
                (try (have c178b3 : ¬ (t846 = t848 && (t847 == t849)) := by simpa using c178))
                clear c178
                exact absurd H (by simp)
              ·
               rw [if_neg c175] at H
               have c175b0 : (t839 == t841 && (t840 == t842)) = false := by simpa using c175
               (try (have c175b1 : decide (t839 = t841 && (t840 == t842)) = false := by simpa using c175))
               (try (have c175b2 : (t839 == t841 && (t840 == t842)) = false := by simpa using c175))
               (try (have c175b3 : ¬ (t839 = t841 && (t840 == t842)) := by simpa using c175))
               clear c175
               exact absurd H (by simp)
             ·
              rw [if_neg c172] at H
              have c172b0 : (t832 == t834 && (t833 == t835)) = false := by simpa using c172
              (try (have c172b1 : decide (t832 = t834 && (t833 == t835)) = false := by simpa using c172))
              (try (have c172b2 : (t832 == t834 && (t833 == t835)) = false := by simpa using c172))
              (try (have c172b3 : ¬ (t832 = t834 && (t833 == t835)) := by simpa using c172))
              clear c172
              exact absurd H (by simp)
            ·
             rw [if_neg c169] at H
             have c169b0 : (t825 == t827 && (t826 == t828)) = false := by simpa using c169
             (try (have c169b1 : decide (t825 = t827 && (t826 == t828)) = false := by simpa using c169))
             (try (have c169b2 : (t825 == t827 && (t826 == t828)) = false := by simpa using c169))
             (try (have c169b3 : ¬ (t825 = t827 && (t826 == t828)) := by simpa using c169))
             clear c169
             exact absurd H (by simp)
           ·
            rw [if_neg c166] at H
            have c166b0 : (t818 == t820 && (t819 == t821)) = false := by simpa using c166
            (try (have c166b1 : decide (t818 = t820 && (t819 == t821)) = false := by simpa using c166))
            (try (have c166b2 : (t818 == t820 && (t819 == t821)) = false := by simpa using c166))
            (try (have c166b3 : ¬ (t818 = t820 && (t819 == t821)) := by simpa using c166))
            clear c166
            exact absurd H (by simp)
          ·
           rw [if_neg c163] at H
           have c163b0 : (t811 == t813 && (t812 == t814)) = false := by simpa using c163
           (try (have c163b1 : decide (t811 = t813 && (t812 == t814)) = false := by simpa using c163))
           (try (have c163b2 : (t811 == t813 && (t812 == t814)) = false := by simpa using c163))
           (try (have c163b3 : ¬ (t811 = t813 && (t812 == t814)) := by simpa using c163))
           clear c163
           exact absurd H (by simp)
         ·
          rw [if_neg c160] at H
          have c160b0 : (t804 == t806 && (t805 == t807)) = false := by simpa using c160
          (try (have c160b1 : decide (t804 = t806 && (t805 == t807)) = false := by simpa using c160))
          (try (have c160b2 : (t804 == t806 && (t805 == t807)) = false := by simpa using c160))
          (try (have c160b3 : ¬ (t804 = t806 && (t805 == t807)) := by simpa using c160))
          clear c160
          exact absurd H (by simp)
        ·
         rw [if_neg c157] at H
         have c157b0 : (t797 == t799 && (t798 == t800)) = false := by simpa using c157
         (try (have c157b1 : decide (t797 = t799 && (t798 == t800)) = false := by simpa using c157))
         (try (have c157b2 : (t797 == t799 && (t798 == t800)) = false := by simpa using c157))
         (try (have c157b3 : ¬ (t797 = t799 && (t798 == t800)) := by simpa using c157))
         clear c157
         exact absurd H (by simp)
/-- THE ONE PURE STATEMENT of gimballaw02_ItvLeast: yours. -/
def gimballaw02_ItvLeast.Pure : Prop := ∀ (a0_0 : Int) (a0_1 : Int) (a1_0 : Int) (a1_1 : Int), (Lit.int .i64 a0_0).wf = true → (Lit.int .i64 a0_1).wf = true → (Lit.int .i64 a1_0).wf = true → (Lit.int .i64 a1_1).wf = true → ∃ k, gimballaw02_ItvLeast.f k a0_0 a0_1 a1_0 a1_1 = some true
theorem gimballaw02_ItvLeast.walk (P : gimballaw02_ItvLeast.Pure) (a0_0 : Int) (a0_1 : Int) (a1_0 : Int) (a1_1 : Int) (w : World) (w0_0 : (Lit.int .i64 a0_0).wf = true) (w0_1 : (Lit.int .i64 a0_1).wf = true) (w1_0 : (Lit.int .i64 a1_0).wf = true) (w1_1 : (Lit.int .i64 a1_1).wf = true) :
    Calls Try.prog 8 #[.agg #[.int .i64 a0_0, .int .i64 a0_1], .agg #[.int .i64 a1_0, .int .i64 a1_1]] w fun e w' => e = .returned (.bool true) ∧ Below w.heap.size w w' := by
  obtain ⟨k, h⟩ := P a0_0 a0_1 a1_0 a1_1 w0_0 w0_1 w1_0 w1_1
  refine (gimballaw02_ItvLeast.calls k a0_0 a0_1 a1_0 a1_1  w h).mono ?_
  rintro e w' ⟨rfl, hd⟩
  exact ⟨rfl, hd⟩
end Go.Proofs.Ytbbnpipmjadpoaa.P
