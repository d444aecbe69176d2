/- What the law's proof needs of Px33. -/
import Derived.Test.YtbbnpipmjadpoaaTrJU2
import Derived.Test.YtbbnpipmjadpoaaTrJU
import Derived.Test.YtbbnpipmjadpoaaTrJPx0
import Derived.Test.YtbbnpipmjadpoaaTrJPx2
import Derived.Test.YtbbnpipmjadpoaaTrJPx3
import Derived.Test.YtbbnpipmjadpoaaTrJPx8
import Derived.Test.YtbbnpipmjadpoaaTrJPx26
import Derived.Test.YtbbnpipmjadpoaaTrJPx32
-- PRINTED by print.py (a twelfth state) out of the translation. Not trusted: Lean checks it.
namespace Go.Proofs.Ytbbnpipmjadpoaa.P
open Go.RowKit Go.Proofs.YtbbnpipmjadpoaaW.PrintWords Go.Proofs.YtbbnpipmjadpoaaW.PrintLast Go.Proofs.YtbbnpipmjadpoaaW.PrintMore Go.Proofs.YtbbnpipmjadpoaaO
attribute [local go_sem] max2_int min2_int max_two min_two max_three min_three max_four min_four   -- for this text's walks alone
set_option linter.unusedVariables false
set_option linter.unusedSimpArgs false
def itv_Div_1.f (k : Nat) (a0_0 : Int) (a0_1 : Int) (a1_0 : Int) (a1_1 : Int) : Option (Int × Int) := (itv_Empty.f).bind fun bt673 => ((itv_signs.f k a1_0 a1_1).bind fun bt676 => ((itv_None.f bt676.1 bt676.2.1).bind fun t681 => (if t681 = true then ((itv_None.f bt676.2.2.1 bt676.2.2.2).bind fun t683 => (if t683 = true then (some (bt673.1, bt673.2)) else ((bound_Div.f k a0_0 bt676.2.2.1).bind fun t684 => ((bound_Div.f k a0_0 bt676.2.2.2).bind fun t685 => ((bound_Div.f k a0_1 bt676.2.2.1).bind fun t686 => ((bound_Div.f k a0_1 bt676.2.2.2).bind fun t687 => ((itv_hull.f t684 t685 t686 t687).bind fun bt688 => ((itv_Join.f bt673.1 bt673.2 bt688.1 bt688.2).bind fun bt690 => (some (bt690.1, bt690.2)))))))))) else ((bound_Div.f k a0_0 bt676.1).bind fun t692 => ((bound_Div.f k a0_0 bt676.2.1).bind fun t693 => ((bound_Div.f k a0_1 bt676.1).bind fun t694 => ((bound_Div.f k a0_1 bt676.2.1).bind fun t695 => ((itv_hull.f t692 t693 t694 t695).bind fun bt696 => ((itv_Join.f bt673.1 bt673.2 bt696.1 bt696.2).bind fun bt698 => ((itv_None.f bt676.2.2.1 bt676.2.2.2).bind fun t701 => (if t701 = true then (some (bt698.1, bt698.2)) else ((bound_Div.f k a0_0 bt676.2.2.1).bind fun t702 => ((bound_Div.f k a0_0 bt676.2.2.2).bind fun t703 => ((bound_Div.f k a0_1 bt676.2.2.1).bind fun t704 => ((bound_Div.f k a0_1 bt676.2.2.2).bind fun t705 => ((itv_hull.f t702 t703 t704 t705).bind fun bt706 => ((itv_Join.f bt698.1 bt698.2 bt706.1 bt706.2).bind fun bt708 => (some (bt708.1, bt708.2)))))))))))))))))))
def itv_Div_1.T6 : Bool × List (List Nat × List Nat) := (true, [([], []), ([], []), ([1], [1]), ([], []), ([3], [3]), ([2, 4], [2, 4]), ([], []), ([6], [6]), ([], []), ([8], [8]), ([7, 9, 5], [7, 9]), ([], []), ([11], [11]), ([], []), ([13], [13]), ([12, 14, 10], [12, 14]), ([], []), ([16], [16]), ([], []), ([18], [18]), ([17, 19, 15], [17, 19]), ([5, 10, 15, 20], [5, 10, 15, 20]), ([21, 20], [21]), ([0, 22, 22], [0, 22]), ([23, 23, 0, 1, 2, 3, 4, 5, 6, 7, 8, 9, 10, 11, 12, 13, 14, 15, 16, 17, 18, 19, 20, 21, 22, 23], [23])])
def itv_Div_1.B6 : List Nat := [0, 0, 2, 0, 8, 30, 0, 64, 0, 256, 1022, 0, 2048, 0, 8192, 32766, 0, 65536, 0, 262144, 1048574, 2097150, 4194302, 8388607, 16777215]
theorem itv_Div_1.tab6 : rtab .any (opsOf Try.f82 6) = itv_Div_1.T6 := by kernel_rfl
theorem itv_Div_1.bits6 : waitsOk itv_Div_1.T6.2 itv_Div_1.B6 = true := by kernel_rfl
set_option maxHeartbeats 8000000 in
set_option maxRecDepth 100000 in
theorem itv_Div_1.calls (k : Nat) (a0_0 : Int) (a0_1 : Int) (a1_0 : Int) (a1_1 : Int) (r1 : Int) (r2 : Int) (w : World) (h : itv_Div_1.f k a0_0 a0_1 a1_0 a1_1 = some (r1, r2)) :
    Calls Try.prog 82 #[.agg #[.int .i64 a0_0, .int .i64 a0_1], .agg #[.int .i64 a1_0, .int .i64 a1_1]] w fun e w' => e = .returned (.agg #[.int .i64 r1, .int .i64 r2]) ∧ Below w.heap.size w w' := by
  have hu23 := Try.underlying23
  have hu60 := Try.underlying60
  have hix61_0 : ∀ (y0_ : Int) (y1_ : Int) (y2_ : Int) (y3_ : Int) (W : World), (Instr.index 61 (.agg #[.int .i64 y0_, .int .i64 y1_, .int .i64 y2_, .int .i64 y3_]) (.int .i64 0)).run Try.prog W = .ok (.agg #[.int .i64 y0_, .int .i64 y1_]) W := fun _ _ _ _ _ => by kernel_rfl
  have hix61_1 : ∀ (y0_ : Int) (y1_ : Int) (y2_ : Int) (y3_ : Int) (W : World), (Instr.index 61 (.agg #[.int .i64 y0_, .int .i64 y1_, .int .i64 y2_, .int .i64 y3_]) (.int .i64 1)).run Try.prog W = .ok (.agg #[.int .i64 y2_, .int .i64 y3_]) W := fun _ _ _ _ _ => by kernel_rfl
  have HB := Aside0.mk (Below.refl w.heap.size w)
  have H : ((itv_Empty.f).bind fun bt673 => ((itv_signs.f k a1_0 a1_1).bind fun bt676 => ((itv_None.f bt676.1 bt676.2.1).bind fun t681 => (if t681 = true then ((itv_None.f bt676.2.2.1 bt676.2.2.2).bind fun t683 => (if t683 = true then (some (bt673.1, bt673.2)) else ((bound_Div.f k a0_0 bt676.2.2.1).bind fun t684 => ((bound_Div.f k a0_0 bt676.2.2.2).bind fun t685 => ((bound_Div.f k a0_1 bt676.2.2.1).bind fun t686 => ((bound_Div.f k a0_1 bt676.2.2.2).bind fun t687 => ((itv_hull.f t684 t685 t686 t687).bind fun bt688 => ((itv_Join.f bt673.1 bt673.2 bt688.1 bt688.2).bind fun bt690 => (some (bt690.1, bt690.2)))))))))) else ((bound_Div.f k a0_0 bt676.1).bind fun t692 => ((bound_Div.f k a0_0 bt676.2.1).bind fun t693 => ((bound_Div.f k a0_1 bt676.1).bind fun t694 => ((bound_Div.f k a0_1 bt676.2.1).bind fun t695 => ((itv_hull.f t692 t693 t694 t695).bind fun bt696 => ((itv_Join.f bt673.1 bt673.2 bt696.1 bt696.2).bind fun bt698 => ((itv_None.f bt676.2.2.1 bt676.2.2.2).bind fun t701 => (if t701 = true then (some (bt698.1, bt698.2)) else ((bound_Div.f k a0_0 bt676.2.2.1).bind fun t702 => ((bound_Div.f k a0_0 bt676.2.2.2).bind fun t703 => ((bound_Div.f k a0_1 bt676.2.2.1).bind fun t704 => ((bound_Div.f k a0_1 bt676.2.2.2).bind fun t705 => ((itv_hull.f t702 t703 t704 t705).bind fun bt706 => ((itv_Join.f bt698.1 bt698.2 bt706.1 bt706.2).bind fun bt708 => (some (bt708.1, bt708.2)))))))))))))))))))) = some (r1, r2) := h
  clear h
  replace H := Option.bind_eq_some_iff.mp H
  obtain ⟨⟨t673, t674⟩, A30, H⟩ := H
  replace H : ((itv_signs.f k a1_0 a1_1).bind fun bt676 => ((itv_None.f bt676.1 bt676.2.1).bind fun t681 => (if t681 = true then ((itv_None.f bt676.2.2.1 bt676.2.2.2).bind fun t683 => (if t683 = true then (some (t673, t674)) else ((bound_Div.f k a0_0 bt676.2.2.1).bind fun t684 => ((bound_Div.f k a0_0 bt676.2.2.2).bind fun t685 => ((bound_Div.f k a0_1 bt676.2.2.1).bind fun t686 => ((bound_Div.f k a0_1 bt676.2.2.2).bind fun t687 => ((itv_hull.f t684 t685 t686 t687).bind fun bt688 => ((itv_Join.f t673 t674 bt688.1 bt688.2).bind fun bt690 => (some (bt690.1, bt690.2)))))))))) else ((bound_Div.f k a0_0 bt676.1).bind fun t692 => ((bound_Div.f k a0_0 bt676.2.1).bind fun t693 => ((bound_Div.f k a0_1 bt676.1).bind fun t694 => ((bound_Div.f k a0_1 bt676.2.1).bind fun t695 => ((itv_hull.f t692 t693 t694 t695).bind fun bt696 => ((itv_Join.f t673 t674 bt696.1 bt696.2).bind fun bt698 => ((itv_None.f bt676.2.2.1 bt676.2.2.2).bind fun t701 => (if t701 = true then (some (bt698.1, bt698.2)) else ((bound_Div.f k a0_0 bt676.2.2.1).bind fun t702 => ((bound_Div.f k a0_0 bt676.2.2.2).bind fun t703 => ((bound_Div.f k a0_1 bt676.2.2.1).bind fun t704 => ((bound_Div.f k a0_1 bt676.2.2.2).bind fun t705 => ((itv_hull.f t702 t703 t704 t705).bind fun bt706 => ((itv_Join.f bt698.1 bt698.2 bt706.1 bt706.2).bind fun bt708 => (some (bt708.1, bt708.2))))))))))))))))))) = some (r1, r2) := H
  have A3 := Aside0.mk A30
  clear A30
  replace H := Option.bind_eq_some_iff.mp H
  obtain ⟨⟨t676, t677, t678, t679⟩, A40, H⟩ := H
  replace H : ((itv_None.f t676 t677).bind fun t681 => (if t681 = true then ((itv_None.f t678 t679).bind fun t683 => (if t683 = true then (some (t673, t674)) else ((bound_Div.f k a0_0 t678).bind fun t684 => ((bound_Div.f k a0_0 t679).bind fun t685 => ((bound_Div.f k a0_1 t678).bind fun t686 => ((bound_Div.f k a0_1 t679).bind fun t687 => ((itv_hull.f t684 t685 t686 t687).bind fun bt688 => ((itv_Join.f t673 t674 bt688.1 bt688.2).bind fun bt690 => (some (bt690.1, bt690.2)))))))))) else ((bound_Div.f k a0_0 t676).bind fun t692 => ((bound_Div.f k a0_0 t677).bind fun t693 => ((bound_Div.f k a0_1 t676).bind fun t694 => ((bound_Div.f k a0_1 t677).bind fun t695 => ((itv_hull.f t692 t693 t694 t695).bind fun bt696 => ((itv_Join.f t673 t674 bt696.1 bt696.2).bind fun bt698 => ((itv_None.f t678 t679).bind fun t701 => (if t701 = true then (some (bt698.1, bt698.2)) else ((bound_Div.f k a0_0 t678).bind fun t702 => ((bound_Div.f k a0_0 t679).bind fun t703 => ((bound_Div.f k a0_1 t678).bind fun t704 => ((bound_Div.f k a0_1 t679).bind fun t705 => ((itv_hull.f t702 t703 t704 t705).bind fun bt706 => ((itv_Join.f bt698.1 bt698.2 bt706.1 bt706.2).bind fun bt708 => (some (bt708.1, bt708.2)))))))))))))))))) = some (r1, r2) := H
  have A4 := Aside0.mk A40
  clear A40
  have HC5 := Aside0.mk H
  clear H
  go_enter Try.func82, Try.ntmps82
  go_wp2_with (first | ((with_reducible refine gate_dst (N := 2) rfl ?_); refine box_event ?hg (N := 2) ?hd (cs := #[.int .i64 a0_0, .int .i64 a0_1]) (t := 23) ?hr ?_; (case hd => rfl); (case hg => rfl); (case hr => first | (go_simp; done) | (go_simp; rfl)); intro gb670 hg w6 hbox hb; have n0_ := bst HB hb; have n1_ := Aside0.mk (hbox); have n2_ := bsz HB hg; have n3_ := bsz HB hg; clear HB; have HB := n0_; have BK670 := n1_; have GW670 := n2_; have GE670 := n3_; clear n0_ n1_ n2_ n3_; clear hb hbox hg) | ((with_reducible refine gate_dst (N := 3) rfl ?_); refine box_event ?hg (N := 3) ?hd (cs := #[.int .i64 a1_0, .int .i64 a1_1]) (t := 23) ?hr ?_; (case hd => rfl); (case hg => rfl); (case hr => first | (go_simp; done) | (go_simp; rfl)); intro gb671 hg w7 hbox hb; have n0_ := bst HB hb; have n1_ := Aside0.mk (hbox); have n2_ := bsz HB hg; have n3_ := bsz HB hg; have n4_ := bn1 BK670 hg; have n5_ := bn2 BK670 hg; replace BK670 := bbw BK670 hb; clear HB; have HB := n0_; have BK671 := n1_; have GW671 := n2_; have GE671 := n3_; have NB670_671 := n4_; have NB671_670 := n5_; clear n0_ n1_ n2_ n3_ n4_ n5_; clear hb hbox hg) | ((with_reducible refine gate_dst (N := 4) rfl ?_); refine box_event ?hg (N := 4) ?hd (cs := #[.int .i64 0, .int .i64 0]) (t := 23) ?hr ?_; (case hd => rfl); (case hg => rfl); (case hr => first | (go_simp; done) | (go_simp; rfl)); intro gb672 hg w8 hbox hb; have n0_ := bst HB hb; have n1_ := Aside0.mk (hbox); have n2_ := bsz HB hg; have n3_ := bsz HB hg; have n4_ := bn1 BK670 hg; have n5_ := bn2 BK670 hg; have n6_ := bn1 BK671 hg; have n7_ := bn2 BK671 hg; replace BK670 := bbw BK670 hb; replace BK671 := bbw BK671 hb; clear HB; have HB := n0_; have BK672 := n1_; have GW672 := n2_; have GE672 := n3_; have NB670_672 := n4_; have NB672_670 := n5_; have NB671_672 := n6_; have NB672_671 := n7_; clear n0_ n1_ n2_ n3_ n4_ n5_ n6_ n7_; clear hb hbox hg) | ((with_reducible refine gate_callee (f := 15) rfl ?_); refine goesL_ (some 8) rfl rfl Try.func15 (by kernel_rfl) rfl #[] rfl (by (try simp only [List.map_toArray, List.map_cons, List.map_nil]); first | done | rfl | (simp only [List.length_drop, List.length_take]; rfl)) ?_; (with_reducible refine (itv_Empty.calls  t673 t674 _ A3.out).mono ?_); rintro e w9 ⟨rfl, hb⟩; refine ⟨_, rfl, ?_⟩; have n0_ := bst HB hb; replace BK670 := bbw BK670 hb; replace BK671 := bbw BK671 hb; replace BK672 := bbw BK672 hb; clear HB; have HB := n0_; clear n0_; (try clear hb); (try clear hb2); (try clear hk); (try clear hi)) | ((with_reducible refine gate_dst (N := 5) rfl ?_); refine box_event ?hg (N := 5) ?hd (cs := #[.int .i64 0, .int .i64 0]) (t := 23) ?hr ?_; (case hd => rfl); (case hg => rfl); (case hr => first | (go_simp; done) | (go_simp; rfl)); intro gb675 hg w10 hbox hb; have n0_ := bst HB hb; have n1_ := Aside0.mk (hbox); have n2_ := bsz HB hg; have n3_ := bsz HB hg; have n4_ := bn1 BK670 hg; have n5_ := bn2 BK670 hg; have n6_ := bn1 BK671 hg; have n7_ := bn2 BK671 hg; have n8_ := bn1 BK672 hg; have n9_ := bn2 BK672 hg; replace BK670 := bbw BK670 hb; replace BK671 := bbw BK671 hb; replace BK672 := bbw BK672 hb; clear HB; have HB := n0_; have BK675 := n1_; have GW675 := n2_; have GE675 := n3_; have NB670_675 := n4_; have NB675_670 := n5_; have NB671_675 := n6_; have NB675_671 := n7_; have NB672_675 := n8_; have NB675_672 := n9_; clear n0_ n1_ n2_ n3_ n4_ n5_ n6_ n7_ n8_ n9_; clear hb hbox hg; have hnb11 := NB675_670.out; have hnc11 := NB670_675.out; have hnb12 := NB675_671.out; have hnc12 := NB671_675.out; have hnb13 := NB675_672.out; have hnc13 := NB672_675.out; have hcz14_0 := hcz BK675 0; have hcz14_1 := hcz BK675 1; have hfz14_0 := blk_frozen BK675.out 0; have hfz14_1 := blk_frozen BK675.out 1; have hnb15 := NB671_670.out; have hnc15 := NB670_671.out; have hnb16 := NB671_672.out; have hnc16 := NB672_671.out; have hcz17_0 := hcz BK671 0; have hcz17_1 := hcz BK671 1; have hfz17_0 := blk_frozen BK671.out 0; have hfz17_1 := blk_frozen BK671.out 1) | ((with_reducible refine gate_callee (f := 83) rfl ?_); refine goesL_ (some 10) rfl rfl Try.func83 (by kernel_rfl) rfl #[.agg #[.int .i64 a1_0, .int .i64 a1_1]] rfl (by (try simp only [List.map_toArray, List.map_cons, List.map_nil]); first | done | rfl | (simp only [List.length_drop, List.length_take]; rfl)) ?_; (with_reducible refine (itv_signs.calls k a1_0 a1_1 t676 t677 t678 t679 _ A4.out).mono ?_); rintro e w18 ⟨rfl, hb⟩; refine ⟨_, rfl, ?_⟩; have n0_ := Aside0.mk (blk_below (g := gb670) (o := .cells #[.int .i64 a0_0, .int .i64 a0_1] 23 (0, 0)) (by refine pkB ?_; refine blk_far ?_ NB670_675.out _; refine pkB ?_; refine blk_far ?_ NB670_675.out _; refine pkB ?_; exact BK670.out) hb); have n1_ := Aside0.mk (blk_below (g := gb671) (o := .cells #[.int .i64 a1_0, .int .i64 a1_1] 23 (0, 0)) (by refine pkB ?_; refine blk_far ?_ NB671_675.out _; refine pkB ?_; refine blk_far ?_ NB671_675.out _; refine pkB ?_; exact BK671.out) hb); have n2_ := Aside0.mk (blk_below (g := gb672) (o := .cells #[.int .i64 0, .int .i64 0] 23 (0, 0)) (by refine pkB ?_; refine blk_far ?_ NB672_675.out _; refine pkB ?_; refine blk_far ?_ NB672_675.out _; refine pkB ?_; exact BK672.out) hb); have n3_ := Aside0.mk (blk_below (g := gb675) (o := .cells #[.int .i64 t673, .int .i64 t674] 23 (0, 0)) (by refine pkB ?_; refine blk_put (cs := #[.int .i64 t673, .int .i64 0]) ?_ 1 _ (by first | rfl | (subst_vars; rfl)); refine pkB ?_; refine blk_put (cs := #[.int .i64 0, .int .i64 0]) ?_ 0 _ (by first | rfl | (subst_vars; rfl)); refine pkB ?_; exact BK675.out) hb); have n4_ := bst HB hb; clear BK670; clear BK671; clear BK672; clear BK675; clear HB; have BK670 := n0_; have BK671 := n1_; have BK672 := n2_; have BK675 := n3_; have HB := n4_; clear n0_ n1_ n2_ n3_ n4_; (try clear hb); (try clear hb2); (try clear hk); (try clear hi)))
  refine loop_looped ?_
  refine looped_round (fun K_ hK_ => ?_)
  have H := HC5.out
  clear HC5
  try clear c1
  try clear p2
  try clear c8
  try clear c11
  try clear c12
  try clear c13
  try clear c15
  try clear c16
  try clear hcz14_0
  try clear hcz14_1
  try clear hcz17_0
  try clear hcz17_1
  try clear hfz14_0
  try clear hfz14_1
  try clear hfz17_0
  try clear hfz17_1
  replace H := Option.bind_eq_some_iff.mp H
  obtain ⟨t681, A190, H⟩ := H
  replace H : (if t681 = true then ((itv_None.f t678 t679).bind fun t683 => (if t683 = true then (some (t673, t674)) else ((bound_Div.f k a0_0 t678).bind fun t684 => ((bound_Div.f k a0_0 t679).bind fun t685 => ((bound_Div.f k a0_1 t678).bind fun t686 => ((bound_Div.f k a0_1 t679).bind fun t687 => ((itv_hull.f t684 t685 t686 t687).bind fun bt688 => ((itv_Join.f t673 t674 bt688.1 bt688.2).bind fun bt690 => (some (bt690.1, bt690.2)))))))))) else ((bound_Div.f k a0_0 t676).bind fun t692 => ((bound_Div.f k a0_0 t677).bind fun t693 => ((bound_Div.f k a0_1 t676).bind fun t694 => ((bound_Div.f k a0_1 t677).bind fun t695 => ((itv_hull.f t692 t693 t694 t695).bind fun bt696 => ((itv_Join.f t673 t674 bt696.1 bt696.2).bind fun bt698 => ((itv_None.f t678 t679).bind fun t701 => (if t701 = true then (some (bt698.1, bt698.2)) else ((bound_Div.f k a0_0 t678).bind fun t702 => ((bound_Div.f k a0_0 t679).bind fun t703 => ((bound_Div.f k a0_1 t678).bind fun t704 => ((bound_Div.f k a0_1 t679).bind fun t705 => ((itv_hull.f t702 t703 t704 t705).bind fun bt706 => ((itv_Join.f bt698.1 bt698.2 bt706.1 bt706.2).bind fun bt708 => (some (bt708.1, bt708.2))))))))))))))))) = some (r1, r2) := H
  have A19 := Aside0.mk A190
  clear A190
  by_cases c20 : t681 = true
  ·
   subst c20
   have H1 : ((itv_None.f t678 t679).bind fun t683 => (if t683 = true then (some (t673, t674)) else ((bound_Div.f k a0_0 t678).bind fun t684 => ((bound_Div.f k a0_0 t679).bind fun t685 => ((bound_Div.f k a0_1 t678).bind fun t686 => ((bound_Div.f k a0_1 t679).bind fun t687 => ((itv_hull.f t684 t685 t686 t687).bind fun bt688 => ((itv_Join.f t673 t674 bt688.1 bt688.2).bind fun bt690 => (some (bt690.1, bt690.2)))))))))) = some (r1, r2) := by rw [if_pos rfl] at H; exact H
   clear H
   have H := H1
   clear H1
   have HC21 := Aside0.mk H
   clear H
   go_wp2_with (first | ((with_reducible refine gate_dst (N := 7) rfl ?_); refine box_event ?hg (N := 7) ?hd (cs := #[.int .i64 0, .int .i64 0]) (t := 23) ?hr ?_; (case hd => rfl); (case hg => rfl); (case hr => first | (go_simp; done) | (go_simp; rfl)); intro gb680 hg w22 hbox hb; have n0_ := bst HB hb; have n1_ := Aside0.mk (hbox); have n2_ := bsz HB hg; have n3_ := bsz HB hg; have n4_ := bn1 BK670 hg; have n5_ := bn2 BK670 hg; have n6_ := bn1 BK671 hg; have n7_ := bn2 BK671 hg; have n8_ := bn1 BK672 hg; have n9_ := bn2 BK672 hg; have n10_ := bn1 BK675 hg; have n11_ := bn2 BK675 hg; replace BK670 := bbw BK670 hb; replace BK671 := bbw BK671 hb; replace BK672 := bbw BK672 hb; replace BK675 := bbw BK675 hb; clear HB; have HB := n0_; have BK680 := n1_; have GW680 := n2_; have GE680 := n3_; have NB670_680 := n4_; have NB680_670 := n5_; have NB671_680 := n6_; have NB680_671 := n7_; have NB672_680 := n8_; have NB680_672 := n9_; have NB675_680 := n10_; have NB680_675 := n11_; clear n0_ n1_ n2_ n3_ n4_ n5_ n6_ n7_ n8_ n9_ n10_ n11_; clear hb hbox hg; have hnb23 := NB680_670.out; have hnc23 := NB670_680.out; have hnb24 := NB680_671.out; have hnc24 := NB671_680.out; have hnb25 := NB680_672.out; have hnc25 := NB672_680.out; have hnb26 := NB680_675.out; have hnc26 := NB675_680.out; have hcz27_0 := hcz BK680 0; have hcz27_1 := hcz BK680 1; have hfz27_0 := blk_frozen BK680.out 0; have hfz27_1 := blk_frozen BK680.out 1) | ((with_reducible refine gate_callee (f := 21) rfl ?_); refine goesL_ (some 15) rfl rfl Try.func21 (by kernel_rfl) rfl #[.agg #[.int .i64 t676, .int .i64 t677]] rfl (by (try simp only [List.map_toArray, List.map_cons, List.map_nil]); first | done | rfl | (simp only [List.length_drop, List.length_take]; rfl)) ?_; (with_reducible refine (itv_None.calls t676 t677 true _ A19.out).mono ?_); rintro e w28 ⟨rfl, hb⟩; refine ⟨_, rfl, ?_⟩; have n0_ := Aside0.mk (blk_below (g := gb670) (o := .cells #[.int .i64 a0_0, .int .i64 a0_1] 23 (0, 0)) (by refine pkB ?_; refine blk_far ?_ NB670_680.out _; refine pkB ?_; refine blk_far ?_ NB670_680.out _; refine pkB ?_; exact BK670.out) hb); have n1_ := Aside0.mk (blk_below (g := gb671) (o := .cells #[.int .i64 a1_0, .int .i64 a1_1] 23 (0, 0)) (by refine pkB ?_; refine blk_far ?_ NB671_680.out _; refine pkB ?_; refine blk_far ?_ NB671_680.out _; refine pkB ?_; exact BK671.out) hb); have n2_ := Aside0.mk (blk_below (g := gb672) (o := .cells #[.int .i64 0, .int .i64 0] 23 (0, 0)) (by refine pkB ?_; refine blk_far ?_ NB672_680.out _; refine pkB ?_; refine blk_far ?_ NB672_680.out _; refine pkB ?_; exact BK672.out) hb); have n3_ := Aside0.mk (blk_below (g := gb675) (o := .cells #[.int .i64 t673, .int .i64 t674] 23 (0, 0)) (by refine pkB ?_; refine blk_far ?_ NB675_680.out _; refine pkB ?_; refine blk_far ?_ NB675_680.out _; refine pkB ?_; exact BK675.out) hb); have n4_ := Aside0.mk (blk_below (g := gb680) (o := .cells #[.int .i64 t676, .int .i64 t677] 23 (0, 0)) (by refine pkB ?_; refine blk_put (cs := #[.int .i64 t676, .int .i64 0]) ?_ 1 _ (by first | rfl | (subst_vars; rfl)); refine pkB ?_; refine blk_put (cs := #[.int .i64 0, .int .i64 0]) ?_ 0 _ (by first | rfl | (subst_vars; rfl)); refine pkB ?_; exact BK680.out) hb); have n5_ := bst HB hb; clear BK670; clear BK671; clear BK672; clear BK675; clear BK680; clear HB; have BK670 := n0_; have BK671 := n1_; have BK672 := n2_; have BK675 := n3_; have BK680 := n4_; have HB := n5_; clear n0_ n1_ n2_ n3_ n4_ n5_; (try clear hb); (try clear hb2); (try clear hk); (try clear hi)))
   refine looped_round (fun K_ hK_ => ?_)
   have H := HC21.out
   clear HC21
   try clear c1
   try clear c2
   try clear p2
   try clear c8
   try clear c11
   try clear c12
   try clear c13
   try clear c15
   try clear c16
   try clear c20
   try clear c21
   try clear c23
   try clear c24
   try clear c25
   try clear c26
   try clear hcz14_0
   try clear hcz14_1
   try clear hcz17_0
   try clear hcz17_1
   try clear hcz27_0
   try clear hcz27_1
   try clear hfz14_0
   try clear hfz14_1
   try clear hfz17_0
   try clear hfz17_1
   try clear hfz27_0
   try clear hfz27_1
   try clear p2
   replace H := Option.bind_eq_some_iff.mp H
   obtain ⟨t683, A290, H⟩ := H
   replace H : (if t683 = true then (some (t673, t674)) else ((bound_Div.f k a0_0 t678).bind fun t684 => ((bound_Div.f k a0_0 t679).bind fun t685 => ((bound_Div.f k a0_1 t678).bind fun t686 => ((bound_Div.f k a0_1 t679).bind fun t687 => ((itv_hull.f t684 t685 t686 t687).bind fun bt688 => ((itv_Join.f t673 t674 bt688.1 bt688.2).bind fun bt690 => (some (bt690.1, bt690.2))))))))) = some (r1, r2) := H
   have A29 := Aside0.mk A290
   clear A290
   by_cases c30 : t683 = true
   ·
    subst c30
    have H1 : (some (t673, t674)) = some (r1, r2) := by rw [if_pos rfl] at H; exact H
    clear H
    have H := H1
    clear H1
    have HC31 := Aside0.mk H
    clear H
    go_wp2_with (first | ((with_reducible refine gate_dst (N := 7) rfl ?_); refine box_event ?hg (N := 7) ?hd (cs := #[.int .i64 0, .int .i64 0]) (t := 23) ?hr ?_; (case hd => rfl); (case hg => rfl); (case hr => first | (go_simp; done) | (go_simp; rfl)); intro gb682 hg w32 hbox hb; have n0_ := bst HB hb; have n1_ := Aside0.mk (hbox); have n2_ := bsz HB hg; have n3_ := bsz HB hg; have n4_ := bn1 BK670 hg; have n5_ := bn2 BK670 hg; have n6_ := bn1 BK671 hg; have n7_ := bn2 BK671 hg; have n8_ := bn1 BK672 hg; have n9_ := bn2 BK672 hg; have n10_ := bn1 BK675 hg; have n11_ := bn2 BK675 hg; have n12_ := bn1 BK680 hg; have n13_ := bn2 BK680 hg; replace BK670 := bbw BK670 hb; replace BK671 := bbw BK671 hb; replace BK672 := bbw BK672 hb; replace BK675 := bbw BK675 hb; replace BK680 := bbw BK680 hb; clear HB; have HB := n0_; have BK682 := n1_; have GW682 := n2_; have GE682 := n3_; have NB670_682 := n4_; have NB682_670 := n5_; have NB671_682 := n6_; have NB682_671 := n7_; have NB672_682 := n8_; have NB682_672 := n9_; have NB675_682 := n10_; have NB682_675 := n11_; have NB680_682 := n12_; have NB682_680 := n13_; clear n0_ n1_ n2_ n3_ n4_ n5_ n6_ n7_ n8_ n9_ n10_ n11_ n12_ n13_; clear hb hbox hg; have hnb33 := NB682_670.out; have hnc33 := NB670_682.out; have hnb34 := NB682_671.out; have hnc34 := NB671_682.out; have hnb35 := NB682_672.out; have hnc35 := NB672_682.out; have hnb36 := NB682_675.out; have hnc36 := NB675_682.out; have hnb37 := NB682_680.out; have hnc37 := NB680_682.out; have hcz38_0 := hcz BK682 0; have hcz38_1 := hcz BK682 1; have hfz38_0 := blk_frozen BK682.out 0; have hfz38_1 := blk_frozen BK682.out 1) | ((with_reducible refine gate_callee (f := 21) rfl ?_); refine goesL_ (some 15) rfl rfl Try.func21 (by kernel_rfl) rfl #[.agg #[.int .i64 t678, .int .i64 t679]] rfl (by (try simp only [List.map_toArray, List.map_cons, List.map_nil]); first | done | rfl | (simp only [List.length_drop, List.length_take]; rfl)) ?_; (with_reducible refine (itv_None.calls t678 t679 true _ A29.out).mono ?_); rintro e w39 ⟨rfl, hb⟩; refine ⟨_, rfl, ?_⟩; have n0_ := Aside0.mk (blk_below (g := gb670) (o := .cells #[.int .i64 a0_0, .int .i64 a0_1] 23 (0, 0)) (by refine pkB ?_; refine blk_far ?_ NB670_682.out _; refine pkB ?_; refine blk_far ?_ NB670_682.out _; refine pkB ?_; exact BK670.out) hb); have n1_ := Aside0.mk (blk_below (g := gb671) (o := .cells #[.int .i64 a1_0, .int .i64 a1_1] 23 (0, 0)) (by refine pkB ?_; refine blk_far ?_ NB671_682.out _; refine pkB ?_; refine blk_far ?_ NB671_682.out _; refine pkB ?_; exact BK671.out) hb); have n2_ := Aside0.mk (blk_below (g := gb672) (o := .cells #[.int .i64 0, .int .i64 0] 23 (0, 0)) (by refine pkB ?_; refine blk_far ?_ NB672_682.out _; refine pkB ?_; refine blk_far ?_ NB672_682.out _; refine pkB ?_; exact BK672.out) hb); have n3_ := Aside0.mk (blk_below (g := gb675) (o := .cells #[.int .i64 t673, .int .i64 t674] 23 (0, 0)) (by refine pkB ?_; refine blk_far ?_ NB675_682.out _; refine pkB ?_; refine blk_far ?_ NB675_682.out _; refine pkB ?_; exact BK675.out) hb); have n4_ := Aside0.mk (blk_below (g := gb680) (o := .cells #[.int .i64 t676, .int .i64 t677] 23 (0, 0)) (by refine pkB ?_; refine blk_far ?_ NB680_682.out _; refine pkB ?_; refine blk_far ?_ NB680_682.out _; refine pkB ?_; exact BK680.out) hb); have n5_ := Aside0.mk (blk_below (g := gb682) (o := .cells #[.int .i64 t678, .int .i64 t679] 23 (0, 0)) (by refine pkB ?_; refine blk_put (cs := #[.int .i64 t678, .int .i64 0]) ?_ 1 _ (by first | rfl | (subst_vars; rfl)); refine pkB ?_; refine blk_put (cs := #[.int .i64 0, .int .i64 0]) ?_ 0 _ (by first | rfl | (subst_vars; rfl)); refine pkB ?_; exact BK682.out) hb); have n6_ := bst HB hb; clear BK670; clear BK671; clear BK672; clear BK675; clear BK680; clear BK682; clear HB; have BK670 := n0_; have BK671 := n1_; have BK672 := n2_; have BK675 := n3_; have BK680 := n4_; have BK682 := n5_; have HB := n6_; clear n0_ n1_ n2_ n3_ n4_ n5_ n6_; (try clear hb); (try clear hb2); (try clear hk); (try clear hi)))
    refine looped_round (fun K_ hK_ => ?_)
    have H := HC31.out
    clear HC31
    try clear c1
    try clear c2
    try clear p2
    try clear c3
    try clear c8
    try clear c11
    try clear c12
    try clear c13
    try clear c15
    try clear c16
    try clear c20
    try clear c21
    try clear c23
    try clear c24
    try clear c25
    try clear c26
    try clear c30
    try clear c33
    try clear c34
    try clear c35
    try clear c36
    try clear c37
    try clear hcz14_0
    try clear hcz14_1
    try clear hcz17_0
    try clear hcz17_1
    try clear hcz27_0
    try clear hcz27_1
    try clear hcz38_0
    try clear hcz38_1
    try clear hfz14_0
    try clear hfz14_1
    try clear hfz17_0
    try clear hfz17_1
    try clear hfz27_0
    try clear hfz27_1
    try clear hfz38_0
    try clear hfz38_1
    try clear p2
    simp only [Option.some.injEq, Prod.mk.injEq] at H
    obtain ⟨rfl, rfl⟩ := H
    have hnb40 := NB675_670.out
    have hnc40 := NB670_675.out
    have hnb41 := NB675_671.out
    have hnc41 := NB671_675.out
    have hnb42 := NB675_672.out
    have hnc42 := NB672_675.out
    have hnb43 := NB675_680.out
    have hnc43 := NB680_675.out
    have hnb44 := NB675_682.out
    have hnc44 := NB682_675.out
    have hcz45_0 := hcz BK675 0
    have hcz45_1 := hcz BK675 1
    have hfz45_0 := blk_frozen BK675.out 0
    have hfz45_1 := blk_frozen BK675.out 1
    have hnb46 := NB672_670.out
    have hnc46 := NB670_672.out
    have hnb47 := NB672_671.out
    have hnc47 := NB671_672.out
    have hnb48 := NB672_680.out
    have hnc48 := NB680_672.out
    have hnb49 := NB672_682.out
    have hnc49 := NB682_672.out
    have hcz50_0 := hcz BK672 0
    have hcz50_1 := hcz BK672 1
    have hfz50_0 := blk_frozen BK672.out 0
    have hfz50_1 := blk_frozen BK672.out 1
    go_wp2
    refine bodyPost_ret (results_cell_row rfl _ _ gb672 23 #[.int .i64 t673, .int .i64 t674] (0, 0) _ rfl (by refine pkB ?_; refine blk_put (cs := #[.int .i64 t673, .int .i64 0]) ?_ 1 _ (by first | rfl | (subst_vars; rfl)); refine pkB ?_; refine blk_put (cs := #[.int .i64 0, .int .i64 0]) ?_ 0 _ (by first | rfl | (subst_vars; rfl)); refine pkB ?_; exact BK672.out) Try.underlying23 rfl (by kernel_rfl)) rfl ?_
    exact ⟨by first | rfl | (simp [errW_none, errW_some] <;> rfl) | (simp [*, errW_none, errW_some] <;> rfl) | kernel_rfl, by repeat (first | (with_reducible first | exact HB.out | apply below_alloc | apply pw_below_drewN | apply below_drew1 | refine below_set ?_ GE670.out | refine below_set ?_ GE671.out | refine below_set ?_ GE672.out | refine below_set ?_ GE675.out | refine below_set ?_ GE680.out | refine below_set ?_ GE682.out) | exact HB.out)⟩
   ·
    replace c30 := Bool.eq_false_iff.mpr c30
    subst c30
    have H1 : ((bound_Div.f k a0_0 t678).bind fun t684 => ((bound_Div.f k a0_0 t679).bind fun t685 => ((bound_Div.f k a0_1 t678).bind fun t686 => ((bound_Div.f k a0_1 t679).bind fun t687 => ((itv_hull.f t684 t685 t686 t687).bind fun bt688 => ((itv_Join.f t673 t674 bt688.1 bt688.2).bind fun bt690 => (some (bt690.1, bt690.2)))))))) = some (r1, r2) := by rw [if_neg (show ¬ (false = true) by decide)] at H; exact H
    clear H
    have H := H1
    clear H1
    replace H := Option.bind_eq_some_iff.mp H
    obtain ⟨t684, A510, H⟩ := H
    replace H : ((bound_Div.f k a0_0 t679).bind fun t685 => ((bound_Div.f k a0_1 t678).bind fun t686 => ((bound_Div.f k a0_1 t679).bind fun t687 => ((itv_hull.f t684 t685 t686 t687).bind fun bt688 => ((itv_Join.f t673 t674 bt688.1 bt688.2).bind fun bt690 => (some (bt690.1, bt690.2))))))) = some (r1, r2) := H
    have A51 := Aside0.mk A510
    clear A510
    replace H := Option.bind_eq_some_iff.mp H
    obtain ⟨t685, A520, H⟩ := H
    replace H : ((bound_Div.f k a0_1 t678).bind fun t686 => ((bound_Div.f k a0_1 t679).bind fun t687 => ((itv_hull.f t684 t685 t686 t687).bind fun bt688 => ((itv_Join.f t673 t674 bt688.1 bt688.2).bind fun bt690 => (some (bt690.1, bt690.2)))))) = some (r1, r2) := H
    have A52 := Aside0.mk A520
    clear A520
    replace H := Option.bind_eq_some_iff.mp H
    obtain ⟨t686, A530, H⟩ := H
    replace H : ((bound_Div.f k a0_1 t679).bind fun t687 => ((itv_hull.f t684 t685 t686 t687).bind fun bt688 => ((itv_Join.f t673 t674 bt688.1 bt688.2).bind fun bt690 => (some (bt690.1, bt690.2))))) = some (r1, r2) := H
    have A53 := Aside0.mk A530
    clear A530
    replace H := Option.bind_eq_some_iff.mp H
    obtain ⟨t687, A540, H⟩ := H
    replace H : ((itv_hull.f t684 t685 t686 t687).bind fun bt688 => ((itv_Join.f t673 t674 bt688.1 bt688.2).bind fun bt690 => (some (bt690.1, bt690.2)))) = some (r1, r2) := H
    have A54 := Aside0.mk A540
    clear A540
    replace H := Option.bind_eq_some_iff.mp H
    obtain ⟨⟨t688, t689⟩, A550, H⟩ := H
    replace H : ((itv_Join.f t673 t674 t688 t689).bind fun bt690 => (some (bt690.1, bt690.2))) = some (r1, r2) := H
    have A55 := Aside0.mk A550
    clear A550
    replace H := Option.bind_eq_some_iff.mp H
    obtain ⟨⟨t690, t691⟩, A560, H⟩ := H
    replace H : (some (t690, t691)) = some (r1, r2) := H
    have A56 := Aside0.mk A560
    clear A560
    have HC57 := Aside0.mk H
    clear H
    try go_wp2_with (first | ((with_reducible refine gate_dst (N := 7) rfl ?_); refine box_event ?hg (N := 7) ?hd (cs := #[.int .i64 0, .int .i64 0]) (t := 23) ?hr ?_; (case hd => rfl); (case hg => rfl); (case hr => first | (go_simp; done) | (go_simp; rfl)); intro gb682 hg w58 hbox hb; have n0_ := bst HB hb; have n1_ := Aside0.mk (hbox); have n2_ := bsz HB hg; have n3_ := bsz HB hg; have n4_ := bn1 BK670 hg; have n5_ := bn2 BK670 hg; have n6_ := bn1 BK671 hg; have n7_ := bn2 BK671 hg; have n8_ := bn1 BK672 hg; have n9_ := bn2 BK672 hg; have n10_ := bn1 BK675 hg; have n11_ := bn2 BK675 hg; have n12_ := bn1 BK680 hg; have n13_ := bn2 BK680 hg; replace BK670 := bbw BK670 hb; replace BK671 := bbw BK671 hb; replace BK672 := bbw BK672 hb; replace BK675 := bbw BK675 hb; replace BK680 := bbw BK680 hb; clear HB; have HB := n0_; have BK682 := n1_; have GW682 := n2_; have GE682 := n3_; have NB670_682 := n4_; have NB682_670 := n5_; have NB671_682 := n6_; have NB682_671 := n7_; have NB672_682 := n8_; have NB682_672 := n9_; have NB675_682 := n10_; have NB682_675 := n11_; have NB680_682 := n12_; have NB682_680 := n13_; clear n0_ n1_ n2_ n3_ n4_ n5_ n6_ n7_ n8_ n9_ n10_ n11_ n12_ n13_; clear hb hbox hg; have hnb59 := NB682_670.out; have hnc59 := NB670_682.out; have hnb60 := NB682_671.out; have hnc60 := NB671_682.out; have hnb61 := NB682_672.out; have hnc61 := NB672_682.out; have hnb62 := NB682_675.out; have hnc62 := NB675_682.out; have hnb63 := NB682_680.out; have hnc63 := NB680_682.out; have hcz64_0 := hcz BK682 0; have hcz64_1 := hcz BK682 1; have hfz64_0 := blk_frozen BK682.out 0; have hfz64_1 := blk_frozen BK682.out 1) | ((with_reducible refine gate_callee (f := 21) rfl ?_); refine goesL_ (some 15) rfl rfl Try.func21 (by kernel_rfl) rfl #[.agg #[.int .i64 t678, .int .i64 t679]] rfl (by (try simp only [List.map_toArray, List.map_cons, List.map_nil]); first | done | rfl | (simp only [List.length_drop, List.length_take]; rfl)) ?_; (with_reducible refine (itv_None.calls t678 t679 false _ A29.out).mono ?_); rintro e w65 ⟨rfl, hb⟩; refine ⟨_, rfl, ?_⟩; have n0_ := Aside0.mk (blk_below (g := gb670) (o := .cells #[.int .i64 a0_0, .int .i64 a0_1] 23 (0, 0)) (by refine pkB ?_; refine blk_far ?_ NB670_682.out _; refine pkB ?_; refine blk_far ?_ NB670_682.out _; refine pkB ?_; exact BK670.out) hb); have n1_ := Aside0.mk (blk_below (g := gb671) (o := .cells #[.int .i64 a1_0, .int .i64 a1_1] 23 (0, 0)) (by refine pkB ?_; refine blk_far ?_ NB671_682.out _; refine pkB ?_; refine blk_far ?_ NB671_682.out _; refine pkB ?_; exact BK671.out) hb); have n2_ := Aside0.mk (blk_below (g := gb672) (o := .cells #[.int .i64 0, .int .i64 0] 23 (0, 0)) (by refine pkB ?_; refine blk_far ?_ NB672_682.out _; refine pkB ?_; refine blk_far ?_ NB672_682.out _; refine pkB ?_; exact BK672.out) hb); have n3_ := Aside0.mk (blk_below (g := gb675) (o := .cells #[.int .i64 t673, .int .i64 t674] 23 (0, 0)) (by refine pkB ?_; refine blk_far ?_ NB675_682.out _; refine pkB ?_; refine blk_far ?_ NB675_682.out _; refine pkB ?_; exact BK675.out) hb); have n4_ := Aside0.mk (blk_below (g := gb680) (o := .cells #[.int .i64 t676, .int .i64 t677] 23 (0, 0)) (by refine pkB ?_; refine blk_far ?_ NB680_682.out _; refine pkB ?_; refine blk_far ?_ NB680_682.out _; refine pkB ?_; exact BK680.out) hb); have n5_ := Aside0.mk (blk_below (g := gb682) (o := .cells #[.int .i64 t678, .int .i64 t679] 23 (0, 0)) (by refine pkB ?_; refine blk_put (cs := #[.int .i64 t678, .int .i64 0]) ?_ 1 _ (by first | rfl | (subst_vars; rfl)); refine pkB ?_; refine blk_put (cs := #[.int .i64 0, .int .i64 0]) ?_ 0 _ (by first | rfl | (subst_vars; rfl)); refine pkB ?_; exact BK682.out) hb); have n6_ := bst HB hb; clear BK670; clear BK671; clear BK672; clear BK675; clear BK680; clear BK682; clear HB; have BK670 := n0_; have BK671 := n1_; have BK672 := n2_; have BK675 := n3_; have BK680 := n4_; have BK682 := n5_; have HB := n6_; clear n0_ n1_ n2_ n3_ n4_ n5_ n6_; (try clear hb); (try clear hb2); (try clear hk); (try clear hi)))
    have n0_ := Aside0.mk (blk_drew BK670.out)
    have n1_ := Aside0.mk (blk_drew BK671.out)
    have n2_ := Aside0.mk (blk_drew BK672.out)
    have n3_ := Aside0.mk (blk_drew BK675.out)
    have n4_ := Aside0.mk (blk_drew BK680.out)
    have n5_ := Aside0.mk (blk_drew BK682.out)
    have n6_ := Aside0.mk (below_drew1 HB.out)
    clear BK670
    clear BK671
    clear BK672
    clear BK675
    clear BK680
    clear BK682
    clear HB
    have BK670 := n0_
    have BK671 := n1_
    have BK672 := n2_
    have BK675 := n3_
    have BK680 := n4_
    have BK682 := n5_
    have HB := n6_
    clear n0_ n1_ n2_ n3_ n4_ n5_ n6_
    refine start_ (n := 25) (S := fun w' => w'.cell? ⟨gb675, 0, none⟩ = some (.int .i64 t673) ∧ w'.cell? ⟨gb675, 1, none⟩ = some (.int .i64 t674) ∧ w'.cell? ⟨gb670, 0, none⟩ = some (.int .i64 a0_0) ∧ w'.cell? ⟨gb670, 1, none⟩ = some (.int .i64 a0_1) ∧ w'.cell? ⟨gb682, 0, none⟩ = some (.int .i64 t678) ∧ w'.cell? ⟨gb682, 1, none⟩ = some (.int .i64 t679)) (ds := [24]) #[false, false, false, false, false, false, false, false, false, false, false, false, false, false, false, false, false, false, false, false, false, false, false, false, false] (by kernel_rfl) rfl rfl ⟨hcz BK675 0, hcz BK675 1, hcz BK670 0, hcz BK670 1, hcz BK682 0, hcz BK682 1⟩ (fun hHeld => ?_); refine with_tabW itv_Div_1.tab6 itv_Div_1.bits6 (fun HT_ HW_ => ?_)
    generalize w65.drew = w66 at BK670 BK671 BK672 BK675 BK680 BK682 HB hHeld ⊢
    refine pureQ 1 18 HT_.out ?_
    refine pureQ 3 20 HT_.out ?_
    refine pureQ 6 23 HT_.out ?_
    refine pureQ 8 25 HT_.out ?_
    refine pureQ 11 28 HT_.out ?_
    refine pureQ 13 30 HT_.out ?_
    refine pureQ 16 33 HT_.out ?_
    refine pureQ 18 35 HT_.out ?_
    refine takeQ 0 17 HT_.out HW_.out hHeld ?_
    refine takeQ 2 19 HT_.out HW_.out hHeld ?_
    refine takeQ 4 21 HT_.out HW_.out hHeld ?_
    refine takeQ 7 24 HT_.out HW_.out hHeld ?_
    refine takeQ 9 26 HT_.out HW_.out hHeld ?_
    refine takeQ 12 29 HT_.out HW_.out hHeld ?_
    refine takeQ 14 31 HT_.out HW_.out hHeld ?_
    refine takeQ 17 34 HT_.out HW_.out hHeld ?_
    refine takeQ 19 36 HT_.out HW_.out hHeld ?_
    refine oneQ 5 22 HT_.out (fun K hK => ?_)
    refine goesQ Try.func84 #[.int .i64 a0_0, .int .i64 t678] ?_
    with_reducible refine (bound_Div.calls k a0_0 t678 t684 _ A51.out).mono ?_
    rintro e w67 ⟨rfl, hb⟩
    refine ⟨_, rfl, ?_⟩
    have n0_ := bst HB hb
    replace BK670 := bbw BK670 hb
    replace BK671 := bbw BK671 hb
    replace BK672 := bbw BK672 hb
    replace BK675 := bbw BK675 hb
    replace BK680 := bbw BK680 hb
    replace BK682 := bbw BK682 hb
    clear HB
    have HB := n0_
    clear n0_
    (try clear hb)
    (try clear hb2)
    (try clear hk)
    (try clear hi)
    refine hK.out _ _ ⟨hcz BK675 0, hcz BK675 1, hcz BK670 0, hcz BK670 1, hcz BK682 0, hcz BK682 1⟩ (fun hHeld => ?_)
    clear hK K
    refine normQ (N := 22) ?_
    refine oneQ 10 27 HT_.out (fun K hK => ?_)
    refine goesQ Try.func84 #[.int .i64 a0_0, .int .i64 t679] ?_
    with_reducible refine (bound_Div.calls k a0_0 t679 t685 _ A52.out).mono ?_
    rintro e w68 ⟨rfl, hb⟩
    refine ⟨_, rfl, ?_⟩
    have n0_ := bst HB hb
    replace BK670 := bbw BK670 hb
    replace BK671 := bbw BK671 hb
    replace BK672 := bbw BK672 hb
    replace BK675 := bbw BK675 hb
    replace BK680 := bbw BK680 hb
    replace BK682 := bbw BK682 hb
    clear HB
    have HB := n0_
    clear n0_
    (try clear hb)
    (try clear hb2)
    (try clear hk)
    (try clear hi)
    refine hK.out _ _ ⟨hcz BK675 0, hcz BK675 1, hcz BK670 0, hcz BK670 1, hcz BK682 0, hcz BK682 1⟩ (fun hHeld => ?_)
    clear hK K
    refine normQ (N := 27) ?_
    refine oneQ 15 32 HT_.out (fun K hK => ?_)
    refine goesQ Try.func84 #[.int .i64 a0_1, .int .i64 t678] ?_
    with_reducible refine (bound_Div.calls k a0_1 t678 t686 _ A53.out).mono ?_
    rintro e w69 ⟨rfl, hb⟩
    refine ⟨_, rfl, ?_⟩
    have n0_ := bst HB hb
    replace BK670 := bbw BK670 hb
    replace BK671 := bbw BK671 hb
    replace BK672 := bbw BK672 hb
    replace BK675 := bbw BK675 hb
    replace BK680 := bbw BK680 hb
    replace BK682 := bbw BK682 hb
    clear HB
    have HB := n0_
    clear n0_
    (try clear hb)
    (try clear hb2)
    (try clear hk)
    (try clear hi)
    refine hK.out _ _ ⟨hcz BK675 0, hcz BK675 1, hcz BK670 0, hcz BK670 1, hcz BK682 0, hcz BK682 1⟩ (fun hHeld => ?_)
    clear hK K
    refine normQ (N := 32) ?_
    refine oneQ 20 37 HT_.out (fun K hK => ?_)
    refine goesQ Try.func84 #[.int .i64 a0_1, .int .i64 t679] ?_
    with_reducible refine (bound_Div.calls k a0_1 t679 t687 _ A54.out).mono ?_
    rintro e w70 ⟨rfl, hb⟩
    refine ⟨_, rfl, ?_⟩
    have n0_ := bst HB hb
    replace BK670 := bbw BK670 hb
    replace BK671 := bbw BK671 hb
    replace BK672 := bbw BK672 hb
    replace BK675 := bbw BK675 hb
    replace BK680 := bbw BK680 hb
    replace BK682 := bbw BK682 hb
    clear HB
    have HB := n0_
    clear n0_
    (try clear hb)
    (try clear hb2)
    (try clear hk)
    (try clear hi)
    refine hK.out _ _ ⟨hcz BK675 0, hcz BK675 1, hcz BK670 0, hcz BK670 1, hcz BK682 0, hcz BK682 1⟩ (fun hHeld => ?_)
    clear hK K
    refine normQ (N := 37) ?_
    refine pureQ 21 38 HT_.out ?_
    refine oneQ 22 39 HT_.out (fun K hK => ?_)
    refine goesQ Try.func78 #[.agg #[.int .i64 t684, .int .i64 t685, .int .i64 t686, .int .i64 t687]] ?_
    with_reducible refine (itv_hull.calls t684 t685 t686 t687 t688 t689 _ A55.out).mono ?_
    rintro e w71 ⟨rfl, hb⟩
    refine ⟨_, rfl, ?_⟩
    have n0_ := bst HB hb
    replace BK670 := bbw BK670 hb
    replace BK671 := bbw BK671 hb
    replace BK672 := bbw BK672 hb
    replace BK675 := bbw BK675 hb
    replace BK680 := bbw BK680 hb
    replace BK682 := bbw BK682 hb
    clear HB
    have HB := n0_
    clear n0_
    (try clear hb)
    (try clear hb2)
    (try clear hk)
    (try clear hi)
    refine hK.out _ _ ⟨hcz BK675 0, hcz BK675 1, hcz BK670 0, hcz BK670 1, hcz BK682 0, hcz BK682 1⟩ (fun hHeld => ?_)
    clear hK K
    refine normQ (N := 39) ?_
    refine oneQ 23 40 HT_.out (fun K hK => ?_)
    refine goesQ Try.func26 #[.agg #[.int .i64 t673, .int .i64 t674], .agg #[.int .i64 t688, .int .i64 t689]] ?_
    with_reducible refine (itv_Join.calls t673 t674 t688 t689 t690 t691 _ A56.out).mono ?_
    rintro e w72 ⟨rfl, hb⟩
    refine ⟨_, rfl, ?_⟩
    have n0_ := bst HB hb
    replace BK670 := bbw BK670 hb
    replace BK671 := bbw BK671 hb
    replace BK672 := bbw BK672 hb
    replace BK675 := bbw BK675 hb
    replace BK680 := bbw BK680 hb
    replace BK682 := bbw BK682 hb
    clear HB
    have HB := n0_
    clear n0_
    (try clear hb)
    (try clear hb2)
    (try clear hk)
    (try clear hi)
    refine hK.out _ _ ⟨hcz BK675 0, hcz BK675 1, hcz BK670 0, hcz BK670 1, hcz BK682 0, hcz BK682 1⟩ (fun hHeld => ?_)
    clear hK K
    refine normQ (N := 40) ?_
    refine last_ (i := 24) (N := none) #[true, true, true, true, true, true, true, true, true, true, true, true, true, true, true, true, true, true, true, true, true, true, true, true, true] rfl rfl (one_of HT_.out (by kernel_rfl)) (by decide) (fun K hK => ?_)
    have hs73 : w72.cell? ⟨gb675, 0, none⟩ = some (.int .i64 t673) := hcz BK675 0
    have hfs73 := blk_frozen BK675.out 0
    have hns73_0 := NB670_675.out
    have hns73_1 := NB671_675.out
    have hns73_2 := NB672_675.out
    have hns73_4 := NB680_675.out
    have hns73_5 := NB682_675.out
    have hms73_0 := NB675_670.out
    have hms73_1 := NB675_671.out
    have hms73_2 := NB675_672.out
    have hms73_4 := NB675_680.out
    have hms73_5 := NB675_682.out
    have hs74 : w72.cell? ⟨gb675, 1, none⟩ = some (.int .i64 t674) := hcz BK675 1
    have hfs74 := blk_frozen BK675.out 1
    have hns74_0 := NB670_675.out
    have hns74_1 := NB671_675.out
    have hns74_2 := NB672_675.out
    have hns74_4 := NB680_675.out
    have hns74_5 := NB682_675.out
    have hms74_0 := NB675_670.out
    have hms74_1 := NB675_671.out
    have hms74_2 := NB675_672.out
    have hms74_4 := NB675_680.out
    have hms74_5 := NB675_682.out
    refine skip_ (w1 := ?_) (by rfl) rfl ?_ ?_
    rotate_left
    ·
     go_simp
     rfl
    refine hK.out _ _ ?_
    clear hK K
    refine done_ (done_of HT_.out (by kernel_rfl)) ?_
    try go_wp2
    refine looped_round (fun K_ hK_ => ?_)
    have H := HC57.out
    clear HC57
    try clear c1
    try clear c2
    try clear p2
    try clear c3
    try clear c4
    try clear c5
    try clear c6
    try clear c7
    try clear c8
    try clear c11
    try clear c12
    try clear c13
    try clear c15
    try clear c16
    try clear c20
    try clear c21
    try clear c23
    try clear c24
    try clear c25
    try clear c26
    try clear c30
    try clear c33
    try clear c34
    try clear c35
    try clear c36
    try clear c37
    try clear c40
    try clear c41
    try clear c42
    try clear c43
    try clear c44
    try clear c46
    try clear c47
    try clear c48
    try clear c49
    try clear c59
    try clear c60
    try clear c61
    try clear c62
    try clear c63
    try clear hcz14_0
    try clear hcz14_1
    try clear hcz17_0
    try clear hcz17_1
    try clear hcz27_0
    try clear hcz27_1
    try clear hcz38_0
    try clear hcz38_1
    try clear hcz45_0
    try clear hcz45_1
    try clear hcz50_0
    try clear hcz50_1
    try clear hcz64_0
    try clear hcz64_1
    try clear hfz14_0
    try clear hfz14_1
    try clear hfz17_0
    try clear hfz17_1
    try clear hfz27_0
    try clear hfz27_1
    try clear hfz38_0
    try clear hfz38_1
    try clear hfz45_0
    try clear hfz45_1
    try clear hfz50_0
    try clear hfz50_1
    try clear hfz64_0
    try clear hfz64_1
    try clear p2
    simp only [Option.some.injEq, Prod.mk.injEq] at H
    obtain ⟨rfl, rfl⟩ := H
    have hnb75 := NB675_670.out
    have hnc75 := NB670_675.out
    have hnb76 := NB675_671.out
    have hnc76 := NB671_675.out
    have hnb77 := NB675_672.out
    have hnc77 := NB672_675.out
    have hnb78 := NB675_680.out
    have hnc78 := NB680_675.out
    have hnb79 := NB675_682.out
    have hnc79 := NB682_675.out
    have hcz80_0 := hcz BK675 0
    have hcz80_1 := hcz BK675 1
    have hfz80_0 := blk_frozen BK675.out 0
    have hfz80_1 := blk_frozen BK675.out 1
    have hnb81 := NB672_670.out
    have hnc81 := NB670_672.out
    have hnb82 := NB672_671.out
    have hnc82 := NB671_672.out
    have hnb83 := NB672_680.out
    have hnc83 := NB680_672.out
    have hnb84 := NB672_682.out
    have hnc84 := NB682_672.out
    have hcz85_0 := hcz BK672 0
    have hcz85_1 := hcz BK672 1
    have hfz85_0 := blk_frozen BK672.out 0
    have hfz85_1 := blk_frozen BK672.out 1
    go_wp2
    refine bodyPost_ret (results_cell_row rfl _ _ gb672 23 #[.int .i64 t690, .int .i64 t691] (0, 0) _ rfl (by refine pkB ?_; refine blk_put (cs := #[.int .i64 t690, .int .i64 0]) ?_ 1 _ (by first | rfl | (subst_vars; rfl)); refine pkB ?_; refine blk_put (cs := #[.int .i64 0, .int .i64 0]) ?_ 0 _ (by first | rfl | (subst_vars; rfl)); refine pkB ?_; refine blk_far ?_ NB672_675.out _; refine pkB ?_; refine blk_far ?_ NB672_675.out _; refine pkB ?_; exact BK672.out) Try.underlying23 rfl (by kernel_rfl)) rfl ?_
    exact ⟨by first | rfl | (simp [errW_none, errW_some] <;> rfl) | (simp [*, errW_none, errW_some] <;> rfl) | kernel_rfl, by repeat (first | (with_reducible first | exact HB.out | apply below_alloc | apply pw_below_drewN | apply below_drew1 | refine below_set ?_ GE670.out | refine below_set ?_ GE671.out | refine below_set ?_ GE672.out | refine below_set ?_ GE675.out | refine below_set ?_ GE680.out | refine below_set ?_ GE682.out) | exact HB.out)⟩
  ·
   replace c20 := Bool.eq_false_iff.mpr c20
   subst c20
   have H1 : ((bound_Div.f k a0_0 t676).bind fun t692 => ((bound_Div.f k a0_0 t677).bind fun t693 => ((bound_Div.f k a0_1 t676).bind fun t694 => ((bound_Div.f k a0_1 t677).bind fun t695 => ((itv_hull.f t692 t693 t694 t695).bind fun bt696 => ((itv_Join.f t673 t674 bt696.1 bt696.2).bind fun bt698 => ((itv_None.f t678 t679).bind fun t701 => (if t701 = true then (some (bt698.1, bt698.2)) else ((bound_Div.f k a0_0 t678).bind fun t702 => ((bound_Div.f k a0_0 t679).bind fun t703 => ((bound_Div.f k a0_1 t678).bind fun t704 => ((bound_Div.f k a0_1 t679).bind fun t705 => ((itv_hull.f t702 t703 t704 t705).bind fun bt706 => ((itv_Join.f bt698.1 bt698.2 bt706.1 bt706.2).bind fun bt708 => (some (bt708.1, bt708.2)))))))))))))))) = some (r1, r2) := by rw [if_neg (show ¬ (false = true) by decide)] at H; exact H
   clear H
   have H := H1
   clear H1
   replace H := Option.bind_eq_some_iff.mp H
   obtain ⟨t692, A860, H⟩ := H
   replace H : ((bound_Div.f k a0_0 t677).bind fun t693 => ((bound_Div.f k a0_1 t676).bind fun t694 => ((bound_Div.f k a0_1 t677).bind fun t695 => ((itv_hull.f t692 t693 t694 t695).bind fun bt696 => ((itv_Join.f t673 t674 bt696.1 bt696.2).bind fun bt698 => ((itv_None.f t678 t679).bind fun t701 => (if t701 = true then (some (bt698.1, bt698.2)) else ((bound_Div.f k a0_0 t678).bind fun t702 => ((bound_Div.f k a0_0 t679).bind fun t703 => ((bound_Div.f k a0_1 t678).bind fun t704 => ((bound_Div.f k a0_1 t679).bind fun t705 => ((itv_hull.f t702 t703 t704 t705).bind fun bt706 => ((itv_Join.f bt698.1 bt698.2 bt706.1 bt706.2).bind fun bt708 => (some (bt708.1, bt708.2))))))))))))))) = some (r1, r2) := H
   have A86 := Aside0.mk A860
   clear A860
   replace H := Option.bind_eq_some_iff.mp H
   obtain ⟨t693, A870, H⟩ := H
   replace H : ((bound_Div.f k a0_1 t676).bind fun t694 => ((bound_Div.f k a0_1 t677).bind fun t695 => ((itv_hull.f t692 t693 t694 t695).bind fun bt696 => ((itv_Join.f t673 t674 bt696.1 bt696.2).bind fun bt698 => ((itv_None.f t678 t679).bind fun t701 => (if t701 = true then (some (bt698.1, bt698.2)) else ((bound_Div.f k a0_0 t678).bind fun t702 => ((bound_Div.f k a0_0 t679).bind fun t703 => ((bound_Div.f k a0_1 t678).bind fun t704 => ((bound_Div.f k a0_1 t679).bind fun t705 => ((itv_hull.f t702 t703 t704 t705).bind fun bt706 => ((itv_Join.f bt698.1 bt698.2 bt706.1 bt706.2).bind fun bt708 => (some (bt708.1, bt708.2)))))))))))))) = some (r1, r2) := H
   have A87 := Aside0.mk A870
   clear A870
   replace H := Option.bind_eq_some_iff.mp H
   obtain ⟨t694, A880, H⟩ := H
   replace H : ((bound_Div.f k a0_1 t677).bind fun t695 => ((itv_hull.f t692 t693 t694 t695).bind fun bt696 => ((itv_Join.f t673 t674 bt696.1 bt696.2).bind fun bt698 => ((itv_None.f t678 t679).bind fun t701 => (if t701 = true then (some (bt698.1, bt698.2)) else ((bound_Div.f k a0_0 t678).bind fun t702 => ((bound_Div.f k a0_0 t679).bind fun t703 => ((bound_Div.f k a0_1 t678).bind fun t704 => ((bound_Div.f k a0_1 t679).bind fun t705 => ((itv_hull.f t702 t703 t704 t705).bind fun bt706 => ((itv_Join.f bt698.1 bt698.2 bt706.1 bt706.2).bind fun bt708 => (some (bt708.1, bt708.2))))))))))))) = some (r1, r2) := H
   have A88 := Aside0.mk A880
   clear A880
   replace H := Option.bind_eq_some_iff.mp H
   obtain ⟨t695, A890, H⟩ := H
   replace H : ((itv_hull.f t692 t693 t694 t695).bind fun bt696 => ((itv_Join.f t673 t674 bt696.1 bt696.2).bind fun bt698 => ((itv_None.f t678 t679).bind fun t701 => (if t701 = true then (some (bt698.1, bt698.2)) else ((bound_Div.f k a0_0 t678).bind fun t702 => ((bound_Div.f k a0_0 t679).bind fun t703 => ((bound_Div.f k a0_1 t678).bind fun t704 => ((bound_Div.f k a0_1 t679).bind fun t705 => ((itv_hull.f t702 t703 t704 t705).bind fun bt706 => ((itv_Join.f bt698.1 bt698.2 bt706.1 bt706.2).bind fun bt708 => (some (bt708.1, bt708.2)))))))))))) = some (r1, r2) := H
   have A89 := Aside0.mk A890
   clear A890
   replace H := Option.bind_eq_some_iff.mp H
   obtain ⟨⟨t696, t697⟩, A900, H⟩ := H
   replace H : ((itv_Join.f t673 t674 t696 t697).bind fun bt698 => ((itv_None.f t678 t679).bind fun t701 => (if t701 = true then (some (bt698.1, bt698.2)) else ((bound_Div.f k a0_0 t678).bind fun t702 => ((bound_Div.f k a0_0 t679).bind fun t703 => ((bound_Div.f k a0_1 t678).bind fun t704 => ((bound_Div.f k a0_1 t679).bind fun t705 => ((itv_hull.f t702 t703 t704 t705).bind fun bt706 => ((itv_Join.f bt698.1 bt698.2 bt706.1 bt706.2).bind fun bt708 => (some (bt708.1, bt708.2))))))))))) = some (r1, r2) := H
   have A90 := Aside0.mk A900
   clear A900
   replace H := Option.bind_eq_some_iff.mp H
   obtain ⟨⟨t698, t699⟩, A910, H⟩ := H
   replace H : ((itv_None.f t678 t679).bind fun t701 => (if t701 = true then (some (t698, t699)) else ((bound_Div.f k a0_0 t678).bind fun t702 => ((bound_Div.f k a0_0 t679).bind fun t703 => ((bound_Div.f k a0_1 t678).bind fun t704 => ((bound_Div.f k a0_1 t679).bind fun t705 => ((itv_hull.f t702 t703 t704 t705).bind fun bt706 => ((itv_Join.f t698 t699 bt706.1 bt706.2).bind fun bt708 => (some (bt708.1, bt708.2)))))))))) = some (r1, r2) := H
   have A91 := Aside0.mk A910
   clear A910
   have HC92 := Aside0.mk H
   clear H
   try go_wp2_with (first | ((with_reducible refine gate_dst (N := 7) rfl ?_); refine box_event ?hg (N := 7) ?hd (cs := #[.int .i64 0, .int .i64 0]) (t := 23) ?hr ?_; (case hd => rfl); (case hg => rfl); (case hr => first | (go_simp; done) | (go_simp; rfl)); intro gb680 hg w93 hbox hb; have n0_ := bst HB hb; have n1_ := Aside0.mk (hbox); have n2_ := bsz HB hg; have n3_ := bsz HB hg; have n4_ := bn1 BK670 hg; have n5_ := bn2 BK670 hg; have n6_ := bn1 BK671 hg; have n7_ := bn2 BK671 hg; have n8_ := bn1 BK672 hg; have n9_ := bn2 BK672 hg; have n10_ := bn1 BK675 hg; have n11_ := bn2 BK675 hg; replace BK670 := bbw BK670 hb; replace BK671 := bbw BK671 hb; replace BK672 := bbw BK672 hb; replace BK675 := bbw BK675 hb; clear HB; have HB := n0_; have BK680 := n1_; have GW680 := n2_; have GE680 := n3_; have NB670_680 := n4_; have NB680_670 := n5_; have NB671_680 := n6_; have NB680_671 := n7_; have NB672_680 := n8_; have NB680_672 := n9_; have NB675_680 := n10_; have NB680_675 := n11_; clear n0_ n1_ n2_ n3_ n4_ n5_ n6_ n7_ n8_ n9_ n10_ n11_; clear hb hbox hg; have hnb94 := NB680_670.out; have hnc94 := NB670_680.out; have hnb95 := NB680_671.out; have hnc95 := NB671_680.out; have hnb96 := NB680_672.out; have hnc96 := NB672_680.out; have hnb97 := NB680_675.out; have hnc97 := NB675_680.out; have hcz98_0 := hcz BK680 0; have hcz98_1 := hcz BK680 1; have hfz98_0 := blk_frozen BK680.out 0; have hfz98_1 := blk_frozen BK680.out 1) | ((with_reducible refine gate_callee (f := 21) rfl ?_); refine goesL_ (some 15) rfl rfl Try.func21 (by kernel_rfl) rfl #[.agg #[.int .i64 t676, .int .i64 t677]] rfl (by (try simp only [List.map_toArray, List.map_cons, List.map_nil]); first | done | rfl | (simp only [List.length_drop, List.length_take]; rfl)) ?_; (with_reducible refine (itv_None.calls t676 t677 false _ A19.out).mono ?_); rintro e w99 ⟨rfl, hb⟩; refine ⟨_, rfl, ?_⟩; have n0_ := Aside0.mk (blk_below (g := gb670) (o := .cells #[.int .i64 a0_0, .int .i64 a0_1] 23 (0, 0)) (by refine pkB ?_; refine blk_far ?_ NB670_680.out _; refine pkB ?_; refine blk_far ?_ NB670_680.out _; refine pkB ?_; exact BK670.out) hb); have n1_ := Aside0.mk (blk_below (g := gb671) (o := .cells #[.int .i64 a1_0, .int .i64 a1_1] 23 (0, 0)) (by refine pkB ?_; refine blk_far ?_ NB671_680.out _; refine pkB ?_; refine blk_far ?_ NB671_680.out _; refine pkB ?_; exact BK671.out) hb); have n2_ := Aside0.mk (blk_below (g := gb672) (o := .cells #[.int .i64 0, .int .i64 0] 23 (0, 0)) (by refine pkB ?_; refine blk_far ?_ NB672_680.out _; refine pkB ?_; refine blk_far ?_ NB672_680.out _; refine pkB ?_; exact BK672.out) hb); have n3_ := Aside0.mk (blk_below (g := gb675) (o := .cells #[.int .i64 t673, .int .i64 t674] 23 (0, 0)) (by refine pkB ?_; refine blk_far ?_ NB675_680.out _; refine pkB ?_; refine blk_far ?_ NB675_680.out _; refine pkB ?_; exact BK675.out) hb); have n4_ := Aside0.mk (blk_below (g := gb680) (o := .cells #[.int .i64 t676, .int .i64 t677] 23 (0, 0)) (by refine pkB ?_; refine blk_put (cs := #[.int .i64 t676, .int .i64 0]) ?_ 1 _ (by first | rfl | (subst_vars; rfl)); refine pkB ?_; refine blk_put (cs := #[.int .i64 0, .int .i64 0]) ?_ 0 _ (by first | rfl | (subst_vars; rfl)); refine pkB ?_; exact BK680.out) hb); have n5_ := bst HB hb; clear BK670; clear BK671; clear BK672; clear BK675; clear BK680; clear HB; have BK670 := n0_; have BK671 := n1_; have BK672 := n2_; have BK675 := n3_; have BK680 := n4_; have HB := n5_; clear n0_ n1_ n2_ n3_ n4_ n5_; (try clear hb); (try clear hb2); (try clear hk); (try clear hi)))
   have n0_ := Aside0.mk (blk_drew BK670.out)
   have n1_ := Aside0.mk (blk_drew BK671.out)
   have n2_ := Aside0.mk (blk_drew BK672.out)
   have n3_ := Aside0.mk (blk_drew BK675.out)
   have n4_ := Aside0.mk (blk_drew BK680.out)
   have n5_ := Aside0.mk (below_drew1 HB.out)
   clear BK670
   clear BK671
   clear BK672
   clear BK675
   clear BK680
   clear HB
   have BK670 := n0_
   have BK671 := n1_
   have BK672 := n2_
   have BK675 := n3_
   have BK680 := n4_
   have HB := n5_
   clear n0_ n1_ n2_ n3_ n4_ n5_
   refine start_ (n := 25) (S := fun w' => w'.cell? ⟨gb675, 0, none⟩ = some (.int .i64 t673) ∧ w'.cell? ⟨gb675, 1, none⟩ = some (.int .i64 t674) ∧ w'.cell? ⟨gb670, 0, none⟩ = some (.int .i64 a0_0) ∧ w'.cell? ⟨gb670, 1, none⟩ = some (.int .i64 a0_1) ∧ w'.cell? ⟨gb680, 0, none⟩ = some (.int .i64 t676) ∧ w'.cell? ⟨gb680, 1, none⟩ = some (.int .i64 t677)) (ds := [24]) #[false, false, false, false, false, false, false, false, false, false, false, false, false, false, false, false, false, false, false, false, false, false, false, false, false] (by kernel_rfl) rfl rfl ⟨hcz BK675 0, hcz BK675 1, hcz BK670 0, hcz BK670 1, hcz BK680 0, hcz BK680 1⟩ (fun hHeld => ?_); refine with_tabW itv_Div_1.tab6 itv_Div_1.bits6 (fun HT_ HW_ => ?_)
   generalize w99.drew = w100 at BK670 BK671 BK672 BK675 BK680 HB hHeld ⊢
   refine pureQ 1 18 HT_.out ?_
   refine pureQ 3 20 HT_.out ?_
   refine pureQ 6 23 HT_.out ?_
   refine pureQ 8 25 HT_.out ?_
   refine pureQ 11 28 HT_.out ?_
   refine pureQ 13 30 HT_.out ?_
   refine pureQ 16 33 HT_.out ?_
   refine pureQ 18 35 HT_.out ?_
   refine takeQ 0 17 HT_.out HW_.out hHeld ?_
   refine takeQ 2 19 HT_.out HW_.out hHeld ?_
   refine takeQ 4 21 HT_.out HW_.out hHeld ?_
   refine takeQ 7 24 HT_.out HW_.out hHeld ?_
   refine takeQ 9 26 HT_.out HW_.out hHeld ?_
   refine takeQ 12 29 HT_.out HW_.out hHeld ?_
   refine takeQ 14 31 HT_.out HW_.out hHeld ?_
   refine takeQ 17 34 HT_.out HW_.out hHeld ?_
   refine takeQ 19 36 HT_.out HW_.out hHeld ?_
   refine oneQ 5 22 HT_.out (fun K hK => ?_)
   refine goesQ Try.func84 #[.int .i64 a0_0, .int .i64 t676] ?_
   with_reducible refine (bound_Div.calls k a0_0 t676 t692 _ A86.out).mono ?_
   rintro e w101 ⟨rfl, hb⟩
   refine ⟨_, rfl, ?_⟩
   have n0_ := bst HB hb
   replace BK670 := bbw BK670 hb
   replace BK671 := bbw BK671 hb
   replace BK672 := bbw BK672 hb
   replace BK675 := bbw BK675 hb
   replace BK680 := bbw BK680 hb
   clear HB
   have HB := n0_
   clear n0_
   (try clear hb)
   (try clear hb2)
   (try clear hk)
   (try clear hi)
   refine hK.out _ _ ⟨hcz BK675 0, hcz BK675 1, hcz BK670 0, hcz BK670 1, hcz BK680 0, hcz BK680 1⟩ (fun hHeld => ?_)
   clear hK K
   refine normQ (N := 22) ?_
   refine oneQ 10 27 HT_.out (fun K hK => ?_)
   refine goesQ Try.func84 #[.int .i64 a0_0, .int .i64 t677] ?_
   with_reducible refine (bound_Div.calls k a0_0 t677 t693 _ A87.out).mono ?_
   rintro e w102 ⟨rfl, hb⟩
   refine ⟨_, rfl, ?_⟩
   have n0_ := bst HB hb
   replace BK670 := bbw BK670 hb
   replace BK671 := bbw BK671 hb
   replace BK672 := bbw BK672 hb
   replace BK675 := bbw BK675 hb
   replace BK680 := bbw BK680 hb
   clear HB
   have HB := n0_
   clear n0_
   (try clear hb)
   (try clear hb2)
   (try clear hk)
   (try clear hi)
   refine hK.out _ _ ⟨hcz BK675 0, hcz BK675 1, hcz BK670 0, hcz BK670 1, hcz BK680 0, hcz BK680 1⟩ (fun hHeld => ?_)
   clear hK K
   refine normQ (N := 27) ?_
   refine oneQ 15 32 HT_.out (fun K hK => ?_)
   refine goesQ Try.func84 #[.int .i64 a0_1, .int .i64 t676] ?_
   with_reducible refine (bound_Div.calls k a0_1 t676 t694 _ A88.out).mono ?_
   rintro e w103 ⟨rfl, hb⟩
   refine ⟨_, rfl, ?_⟩
   have n0_ := bst HB hb
   replace BK670 := bbw BK670 hb
   replace BK671 := bbw BK671 hb
   replace BK672 := bbw BK672 hb
   replace BK675 := bbw BK675 hb
   replace BK680 := bbw BK680 hb
   clear HB
   have HB := n0_
   clear n0_
   (try clear hb)
   (try clear hb2)
   (try clear hk)
   (try clear hi)
   refine hK.out _ _ ⟨hcz BK675 0, hcz BK675 1, hcz BK670 0, hcz BK670 1, hcz BK680 0, hcz BK680 1⟩ (fun hHeld => ?_)
   clear hK K
   refine normQ (N := 32) ?_
   refine oneQ 20 37 HT_.out (fun K hK => ?_)
   refine goesQ Try.func84 #[.int .i64 a0_1, .int .i64 t677] ?_
   with_reducible refine (bound_Div.calls k a0_1 t677 t695 _ A89.out).mono ?_
   rintro e w104 ⟨rfl, hb⟩
   refine ⟨_, rfl, ?_⟩
   have n0_ := bst HB hb
   replace BK670 := bbw BK670 hb
   replace BK671 := bbw BK671 hb
   replace BK672 := bbw BK672 hb
   replace BK675 := bbw BK675 hb
   replace BK680 := bbw BK680 hb
   clear HB
   have HB := n0_
   clear n0_
   (try clear hb)
   (try clear hb2)
   (try clear hk)
   (try clear hi)
   refine hK.out _ _ ⟨hcz BK675 0, hcz BK675 1, hcz BK670 0, hcz BK670 1, hcz BK680 0, hcz BK680 1⟩ (fun hHeld => ?_)
   clear hK K
   refine normQ (N := 37) ?_
   refine pureQ 21 38 HT_.out ?_
   refine oneQ 22 39 HT_.out (fun K hK => ?_)
   refine goesQ Try.func78 #[.agg #[.int .i64 t692, .int .i64 t693, .int .i64 t694, .int .i64 t695]] ?_
   with_reducible refine (itv_hull.calls t692 t693 t694 t695 t696 t697 _ A90.out).mono ?_
   rintro e w105 ⟨rfl, hb⟩
   refine ⟨_, rfl, ?_⟩
   have n0_ := bst HB hb
   replace BK670 := bbw BK670 hb
   replace BK671 := bbw BK671 hb
   replace BK672 := bbw BK672 hb
   replace BK675 := bbw BK675 hb
   replace BK680 := bbw BK680 hb
   clear HB
   have HB := n0_
   clear n0_
   (try clear hb)
   (try clear hb2)
   (try clear hk)
   (try clear hi)
   refine hK.out _ _ ⟨hcz BK675 0, hcz BK675 1, hcz BK670 0, hcz BK670 1, hcz BK680 0, hcz BK680 1⟩ (fun hHeld => ?_)
   clear hK K
   refine normQ (N := 39) ?_
   refine oneQ 23 40 HT_.out (fun K hK => ?_)
   refine goesQ Try.func26 #[.agg #[.int .i64 t673, .int .i64 t674], .agg #[.int .i64 t696, .int .i64 t697]] ?_
   with_reducible refine (itv_Join.calls t673 t674 t696 t697 t698 t699 _ A91.out).mono ?_
   rintro e w106 ⟨rfl, hb⟩
   refine ⟨_, rfl, ?_⟩
   have n0_ := bst HB hb
   replace BK670 := bbw BK670 hb
   replace BK671 := bbw BK671 hb
   replace BK672 := bbw BK672 hb
   replace BK675 := bbw BK675 hb
   replace BK680 := bbw BK680 hb
   clear HB
   have HB := n0_
   clear n0_
   (try clear hb)
   (try clear hb2)
   (try clear hk)
   (try clear hi)
   refine hK.out _ _ ⟨hcz BK675 0, hcz BK675 1, hcz BK670 0, hcz BK670 1, hcz BK680 0, hcz BK680 1⟩ (fun hHeld => ?_)
   clear hK K
   refine normQ (N := 40) ?_
   refine last_ (i := 24) (N := none) #[true, true, true, true, true, true, true, true, true, true, true, true, true, true, true, true, true, true, true, true, true, true, true, true, true] rfl rfl (one_of HT_.out (by kernel_rfl)) (by decide) (fun K hK => ?_)
   have hs107 : w106.cell? ⟨gb675, 0, none⟩ = some (.int .i64 t673) := hcz BK675 0
   have hfs107 := blk_frozen BK675.out 0
   have hns107_0 := NB670_675.out
   have hns107_1 := NB671_675.out
   have hns107_2 := NB672_675.out
   have hns107_4 := NB680_675.out
   have hms107_0 := NB675_670.out
   have hms107_1 := NB675_671.out
   have hms107_2 := NB675_672.out
   have hms107_4 := NB675_680.out
   have hs108 : w106.cell? ⟨gb675, 1, none⟩ = some (.int .i64 t674) := hcz BK675 1
   have hfs108 := blk_frozen BK675.out 1
   have hns108_0 := NB670_675.out
   have hns108_1 := NB671_675.out
   have hns108_2 := NB672_675.out
   have hns108_4 := NB680_675.out
   have hms108_0 := NB675_670.out
   have hms108_1 := NB675_671.out
   have hms108_2 := NB675_672.out
   have hms108_4 := NB675_680.out
   refine skip_ (w1 := ?_) (by rfl) rfl ?_ ?_
   rotate_left
   ·
    go_simp
    rfl
   refine hK.out _ _ ?_
   clear hK K
   refine done_ (done_of HT_.out (by kernel_rfl)) ?_
   try go_wp2
   refine looped_round (fun K_ hK_ => ?_)
   have H := HC92.out
   clear HC92
   try clear c1
   try clear c2
   try clear p2
   try clear c3
   try clear c4
   try clear c5
   try clear c6
   try clear c7
   try clear c8
   try clear c9
   try clear c11
   try clear c12
   try clear c13
   try clear c15
   try clear c16
   try clear c20
   try clear c21
   try clear c23
   try clear c24
   try clear c25
   try clear c26
   try clear c30
   try clear c33
   try clear c34
   try clear c35
   try clear c36
   try clear c37
   try clear c40
   try clear c41
   try clear c42
   try clear c43
   try clear c44
   try clear c46
   try clear c47
   try clear c48
   try clear c49
   try clear c59
   try clear c60
   try clear c61
   try clear c62
   try clear c63
   try clear c75
   try clear c76
   try clear c77
   try clear c78
   try clear c79
   try clear c81
   try clear c82
   try clear c83
   try clear c84
   try clear c94
   try clear c95
   try clear c96
   try clear c97
   try clear hcz14_0
   try clear hcz14_1
   try clear hcz17_0
   try clear hcz17_1
   try clear hcz27_0
   try clear hcz27_1
   try clear hcz38_0
   try clear hcz38_1
   try clear hcz45_0
   try clear hcz45_1
   try clear hcz50_0
   try clear hcz50_1
   try clear hcz64_0
   try clear hcz64_1
   try clear hcz80_0
   try clear hcz80_1
   try clear hcz85_0
   try clear hcz85_1
   try clear hcz98_0
   try clear hcz98_1
   try clear hfz14_0
   try clear hfz14_1
   try clear hfz17_0
   try clear hfz17_1
   try clear hfz27_0
   try clear hfz27_1
   try clear hfz38_0
   try clear hfz38_1
   try clear hfz45_0
   try clear hfz45_1
   try clear hfz50_0
   try clear hfz50_1
   try clear hfz64_0
   try clear hfz64_1
   try clear hfz80_0
   try clear hfz80_1
   try clear hfz85_0
   try clear hfz85_1
   try clear hfz98_0
   try clear hfz98_1
   try clear p2
   replace H := Option.bind_eq_some_iff.mp H
   obtain ⟨t701, A1090, H⟩ := H
   replace H : (if t701 = true then (some (t698, t699)) else ((bound_Div.f k a0_0 t678).bind fun t702 => ((bound_Div.f k a0_0 t679).bind fun t703 => ((bound_Div.f k a0_1 t678).bind fun t704 => ((bound_Div.f k a0_1 t679).bind fun t705 => ((itv_hull.f t702 t703 t704 t705).bind fun bt706 => ((itv_Join.f t698 t699 bt706.1 bt706.2).bind fun bt708 => (some (bt708.1, bt708.2))))))))) = some (r1, r2) := H
   have A109 := Aside0.mk A1090
   clear A1090
   by_cases c110 : t701 = true
   ·
    subst c110
    have H1 : (some (t698, t699)) = some (r1, r2) := by rw [if_pos rfl] at H; exact H
    clear H
    have H := H1
    clear H1
    have HC111 := Aside0.mk H
    clear H
    go_wp2_with (first | ((with_reducible refine gate_dst (N := 7) rfl ?_); refine box_event ?hg (N := 7) ?hd (cs := #[.int .i64 0, .int .i64 0]) (t := 23) ?hr ?_; (case hd => rfl); (case hg => rfl); (case hr => first | (go_simp; done) | (go_simp; rfl)); intro gb700 hg w112 hbox hb; have n0_ := Aside0.mk (blk_below (g := gb670) (o := .cells #[.int .i64 a0_0, .int .i64 a0_1] 23 (0, 0)) (by refine pkB ?_; refine blk_far ?_ NB670_675.out _; refine pkB ?_; refine blk_far ?_ NB670_675.out _; refine pkB ?_; exact BK670.out) hb); have n1_ := Aside0.mk (blk_below (g := gb671) (o := .cells #[.int .i64 a1_0, .int .i64 a1_1] 23 (0, 0)) (by refine pkB ?_; refine blk_far ?_ NB671_675.out _; refine pkB ?_; refine blk_far ?_ NB671_675.out _; refine pkB ?_; exact BK671.out) hb); have n2_ := Aside0.mk (blk_below (g := gb672) (o := .cells #[.int .i64 0, .int .i64 0] 23 (0, 0)) (by refine pkB ?_; refine blk_far ?_ NB672_675.out _; refine pkB ?_; refine blk_far ?_ NB672_675.out _; refine pkB ?_; exact BK672.out) hb); have n3_ := Aside0.mk (blk_below (g := gb675) (o := .cells #[.int .i64 t698, .int .i64 t699] 23 (0, 0)) (by refine pkB ?_; refine blk_put (cs := #[.int .i64 t698, .int .i64 t674]) ?_ 1 _ (by first | rfl | (subst_vars; rfl)); refine pkB ?_; refine blk_put (cs := #[.int .i64 t673, .int .i64 t674]) ?_ 0 _ (by first | rfl | (subst_vars; rfl)); refine pkB ?_; exact BK675.out) hb); have n4_ := Aside0.mk (blk_below (g := gb680) (o := .cells #[.int .i64 t676, .int .i64 t677] 23 (0, 0)) (by refine pkB ?_; refine blk_far ?_ NB680_675.out _; refine pkB ?_; refine blk_far ?_ NB680_675.out _; refine pkB ?_; exact BK680.out) hb); have n5_ := bst HB hb; have n6_ := Aside0.mk (hbox); have n7_ := bsz HB hg; have n8_ := bsz HB hg; have n9_ := Aside0.mk ((by rw [hg]; exact Nat.ne_of_lt (blk_lt (g := gb670) (o := .cells #[.int .i64 a0_0, .int .i64 a0_1] 23 (0, 0)) (by refine pkB ?_; refine blk_far ?_ NB670_675.out _; refine pkB ?_; refine blk_far ?_ NB670_675.out _; refine pkB ?_; exact BK670.out)) : gb670 ≠ gb700)); have n10_ := Aside0.mk ((by rw [hg]; exact Nat.ne_of_gt (blk_lt (g := gb670) (o := .cells #[.int .i64 a0_0, .int .i64 a0_1] 23 (0, 0)) (by refine pkB ?_; refine blk_far ?_ NB670_675.out _; refine pkB ?_; refine blk_far ?_ NB670_675.out _; refine pkB ?_; exact BK670.out)) : gb700 ≠ gb670)); have n11_ := Aside0.mk ((by rw [hg]; exact Nat.ne_of_lt (blk_lt (g := gb671) (o := .cells #[.int .i64 a1_0, .int .i64 a1_1] 23 (0, 0)) (by refine pkB ?_; refine blk_far ?_ NB671_675.out _; refine pkB ?_; refine blk_far ?_ NB671_675.out _; refine pkB ?_; exact BK671.out)) : gb671 ≠ gb700)); have n12_ := Aside0.mk ((by rw [hg]; exact Nat.ne_of_gt (blk_lt (g := gb671) (o := .cells #[.int .i64 a1_0, .int .i64 a1_1] 23 (0, 0)) (by refine pkB ?_; refine blk_far ?_ NB671_675.out _; refine pkB ?_; refine blk_far ?_ NB671_675.out _; refine pkB ?_; exact BK671.out)) : gb700 ≠ gb671)); have n13_ := Aside0.mk ((by rw [hg]; exact Nat.ne_of_lt (blk_lt (g := gb672) (o := .cells #[.int .i64 0, .int .i64 0] 23 (0, 0)) (by refine pkB ?_; refine blk_far ?_ NB672_675.out _; refine pkB ?_; refine blk_far ?_ NB672_675.out _; refine pkB ?_; exact BK672.out)) : gb672 ≠ gb700)); have n14_ := Aside0.mk ((by rw [hg]; exact Nat.ne_of_gt (blk_lt (g := gb672) (o := .cells #[.int .i64 0, .int .i64 0] 23 (0, 0)) (by refine pkB ?_; refine blk_far ?_ NB672_675.out _; refine pkB ?_; refine blk_far ?_ NB672_675.out _; refine pkB ?_; exact BK672.out)) : gb700 ≠ gb672)); have n15_ := Aside0.mk ((by rw [hg]; exact Nat.ne_of_lt (blk_lt (g := gb675) (o := .cells #[.int .i64 t698, .int .i64 t699] 23 (0, 0)) (by refine pkB ?_; refine blk_put (cs := #[.int .i64 t698, .int .i64 t674]) ?_ 1 _ (by first | rfl | (subst_vars; rfl)); refine pkB ?_; refine blk_put (cs := #[.int .i64 t673, .int .i64 t674]) ?_ 0 _ (by first | rfl | (subst_vars; rfl)); refine pkB ?_; exact BK675.out)) : gb675 ≠ gb700)); have n16_ := Aside0.mk ((by rw [hg]; exact Nat.ne_of_gt (blk_lt (g := gb675) (o := .cells #[.int .i64 t698, .int .i64 t699] 23 (0, 0)) (by refine pkB ?_; refine blk_put (cs := #[.int .i64 t698, .int .i64 t674]) ?_ 1 _ (by first | rfl | (subst_vars; rfl)); refine pkB ?_; refine blk_put (cs := #[.int .i64 t673, .int .i64 t674]) ?_ 0 _ (by first | rfl | (subst_vars; rfl)); refine pkB ?_; exact BK675.out)) : gb700 ≠ gb675)); have n17_ := Aside0.mk ((by rw [hg]; exact Nat.ne_of_lt (blk_lt (g := gb680) (o := .cells #[.int .i64 t676, .int .i64 t677] 23 (0, 0)) (by refine pkB ?_; refine blk_far ?_ NB680_675.out _; refine pkB ?_; refine blk_far ?_ NB680_675.out _; refine pkB ?_; exact BK680.out)) : gb680 ≠ gb700)); have n18_ := Aside0.mk ((by rw [hg]; exact Nat.ne_of_gt (blk_lt (g := gb680) (o := .cells #[.int .i64 t676, .int .i64 t677] 23 (0, 0)) (by refine pkB ?_; refine blk_far ?_ NB680_675.out _; refine pkB ?_; refine blk_far ?_ NB680_675.out _; refine pkB ?_; exact BK680.out)) : gb700 ≠ gb680)); clear BK670; clear BK671; clear BK672; clear BK675; clear BK680; clear HB; have BK670 := n0_; have BK671 := n1_; have BK672 := n2_; have BK675 := n3_; have BK680 := n4_; have HB := n5_; have BK700 := n6_; have GW700 := n7_; have GE700 := n8_; have NB670_700 := n9_; have NB700_670 := n10_; have NB671_700 := n11_; have NB700_671 := n12_; have NB672_700 := n13_; have NB700_672 := n14_; have NB675_700 := n15_; have NB700_675 := n16_; have NB680_700 := n17_; have NB700_680 := n18_; clear n0_ n1_ n2_ n3_ n4_ n5_ n6_ n7_ n8_ n9_ n10_ n11_ n12_ n13_ n14_ n15_ n16_ n17_ n18_; clear hb hbox hg; have hnb113 := NB700_670.out; have hnc113 := NB670_700.out; have hnb114 := NB700_671.out; have hnc114 := NB671_700.out; have hnb115 := NB700_672.out; have hnc115 := NB672_700.out; have hnb116 := NB700_675.out; have hnc116 := NB675_700.out; have hnb117 := NB700_680.out; have hnc117 := NB680_700.out; have hcz118_0 := hcz BK700 0; have hcz118_1 := hcz BK700 1; have hfz118_0 := blk_frozen BK700.out 0; have hfz118_1 := blk_frozen BK700.out 1) | ((with_reducible refine gate_callee (f := 21) rfl ?_); refine goesL_ (some 15) rfl rfl Try.func21 (by kernel_rfl) rfl #[.agg #[.int .i64 t678, .int .i64 t679]] rfl (by (try simp only [List.map_toArray, List.map_cons, List.map_nil]); first | done | rfl | (simp only [List.length_drop, List.length_take]; rfl)) ?_; (with_reducible refine (itv_None.calls t678 t679 true _ A109.out).mono ?_); rintro e w119 ⟨rfl, hb⟩; refine ⟨_, rfl, ?_⟩; have n0_ := Aside0.mk (blk_below (g := gb670) (o := .cells #[.int .i64 a0_0, .int .i64 a0_1] 23 (0, 0)) (by refine pkB ?_; refine blk_far ?_ NB670_700.out _; refine pkB ?_; refine blk_far ?_ NB670_700.out _; refine pkB ?_; exact BK670.out) hb); have n1_ := Aside0.mk (blk_below (g := gb671) (o := .cells #[.int .i64 a1_0, .int .i64 a1_1] 23 (0, 0)) (by refine pkB ?_; refine blk_far ?_ NB671_700.out _; refine pkB ?_; refine blk_far ?_ NB671_700.out _; refine pkB ?_; exact BK671.out) hb); have n2_ := Aside0.mk (blk_below (g := gb672) (o := .cells #[.int .i64 0, .int .i64 0] 23 (0, 0)) (by refine pkB ?_; refine blk_far ?_ NB672_700.out _; refine pkB ?_; refine blk_far ?_ NB672_700.out _; refine pkB ?_; exact BK672.out) hb); have n3_ := Aside0.mk (blk_below (g := gb675) (o := .cells #[.int .i64 t698, .int .i64 t699] 23 (0, 0)) (by refine pkB ?_; refine blk_far ?_ NB675_700.out _; refine pkB ?_; refine blk_far ?_ NB675_700.out _; refine pkB ?_; exact BK675.out) hb); have n4_ := Aside0.mk (blk_below (g := gb680) (o := .cells #[.int .i64 t676, .int .i64 t677] 23 (0, 0)) (by refine pkB ?_; refine blk_far ?_ NB680_700.out _; refine pkB ?_; refine blk_far ?_ NB680_700.out _; refine pkB ?_; exact BK680.out) hb); have n5_ := Aside0.mk (blk_below (g := gb700) (o := .cells #[.int .i64 t678, .int .i64 t679] 23 (0, 0)) (by refine pkB ?_; refine blk_put (cs := #[.int .i64 t678, .int .i64 0]) ?_ 1 _ (by first | rfl | (subst_vars; rfl)); refine pkB ?_; refine blk_put (cs := #[.int .i64 0, .int .i64 0]) ?_ 0 _ (by first | rfl | (subst_vars; rfl)); refine pkB ?_; exact BK700.out) hb); have n6_ := bst HB hb; clear BK670; clear BK671; clear BK672; clear BK675; clear BK680; clear BK700; clear HB; have BK670 := n0_; have BK671 := n1_; have BK672 := n2_; have BK675 := n3_; have BK680 := n4_; have BK700 := n5_; have HB := n6_; clear n0_ n1_ n2_ n3_ n4_ n5_ n6_; (try clear hb); (try clear hb2); (try clear hk); (try clear hi)))
    refine looped_round (fun K_ hK_ => ?_)
    have H := HC111.out
    clear HC111
    try clear c1
    try clear c2
    try clear p2
    try clear c3
    try clear c4
    try clear c5
    try clear c6
    try clear c7
    try clear c8
    try clear c9
    try clear c11
    try clear c12
    try clear c13
    try clear c15
    try clear c16
    try clear c20
    try clear c21
    try clear c23
    try clear c24
    try clear c25
    try clear c26
    try clear c30
    try clear c33
    try clear c34
    try clear c35
    try clear c36
    try clear c37
    try clear c40
    try clear c41
    try clear c42
    try clear c43
    try clear c44
    try clear c46
    try clear c47
    try clear c48
    try clear c49
    try clear c59
    try clear c60
    try clear c61
    try clear c62
    try clear c63
    try clear c75
    try clear c76
    try clear c77
    try clear c78
    try clear c79
    try clear c81
    try clear c82
    try clear c83
    try clear c84
    try clear c94
    try clear c95
    try clear c96
    try clear c97
    try clear c110
    try clear c113
    try clear c114
    try clear c115
    try clear c116
    try clear c117
    try clear hcz118_0
    try clear hcz118_1
    try clear hcz14_0
    try clear hcz14_1
    try clear hcz17_0
    try clear hcz17_1
    try clear hcz27_0
    try clear hcz27_1
    try clear hcz38_0
    try clear hcz38_1
    try clear hcz45_0
    try clear hcz45_1
    try clear hcz50_0
    try clear hcz50_1
    try clear hcz64_0
    try clear hcz64_1
    try clear hcz80_0
    try clear hcz80_1
    try clear hcz85_0
    try clear hcz85_1
    try clear hcz98_0
    try clear hcz98_1
    try clear hfz118_0
    try clear hfz118_1
    try clear hfz14_0
    try clear hfz14_1
    try clear hfz17_0
    try clear hfz17_1
    try clear hfz27_0
    try clear hfz27_1
    try clear hfz38_0
    try clear hfz38_1
    try clear hfz45_0
    try clear hfz45_1
    try clear hfz50_0
    try clear hfz50_1
    try clear hfz64_0
    try clear hfz64_1
    try clear hfz80_0
    try clear hfz80_1
    try clear hfz85_0
    try clear hfz85_1
    try clear hfz98_0
    try clear hfz98_1
    try clear p2
    simp only [Option.some.injEq, Prod.mk.injEq] at H
    obtain ⟨rfl, rfl⟩ := H
    have hnb120 := NB675_670.out
    have hnc120 := NB670_675.out
    have hnb121 := NB675_671.out
    have hnc121 := NB671_675.out
    have hnb122 := NB675_672.out
    have hnc122 := NB672_675.out
    have hnb123 := NB675_680.out
    have hnc123 := NB680_675.out
    have hnb124 := NB675_700.out
    have hnc124 := NB700_675.out
    have hcz125_0 := hcz BK675 0
    have hcz125_1 := hcz BK675 1
    have hfz125_0 := blk_frozen BK675.out 0
    have hfz125_1 := blk_frozen BK675.out 1
    have hnb126 := NB672_670.out
    have hnc126 := NB670_672.out
    have hnb127 := NB672_671.out
    have hnc127 := NB671_672.out
    have hnb128 := NB672_680.out
    have hnc128 := NB680_672.out
    have hnb129 := NB672_700.out
    have hnc129 := NB700_672.out
    have hcz130_0 := hcz BK672 0
    have hcz130_1 := hcz BK672 1
    have hfz130_0 := blk_frozen BK672.out 0
    have hfz130_1 := blk_frozen BK672.out 1
    go_wp2
    refine bodyPost_ret (results_cell_row rfl _ _ gb672 23 #[.int .i64 t698, .int .i64 t699] (0, 0) _ rfl (by refine pkB ?_; refine blk_put (cs := #[.int .i64 t698, .int .i64 0]) ?_ 1 _ (by first | rfl | (subst_vars; rfl)); refine pkB ?_; refine blk_put (cs := #[.int .i64 0, .int .i64 0]) ?_ 0 _ (by first | rfl | (subst_vars; rfl)); refine pkB ?_; exact BK672.out) Try.underlying23 rfl (by kernel_rfl)) rfl ?_
    exact ⟨by first | rfl | (simp [errW_none, errW_some] <;> rfl) | (simp [*, errW_none, errW_some] <;> rfl) | kernel_rfl, by repeat (first | (with_reducible first | exact HB.out | apply below_alloc | apply pw_below_drewN | apply below_drew1 | refine below_set ?_ GE670.out | refine below_set ?_ GE671.out | refine below_set ?_ GE672.out | refine below_set ?_ GE675.out | refine below_set ?_ GE680.out | refine below_set ?_ GE700.out) | exact HB.out)⟩
   ·
    replace c110 := Bool.eq_false_iff.mpr c110
    subst c110
    have H1 : ((bound_Div.f k a0_0 t678).bind fun t702 => ((bound_Div.f k a0_0 t679).bind fun t703 => ((bound_Div.f k a0_1 t678).bind fun t704 => ((bound_Div.f k a0_1 t679).bind fun t705 => ((itv_hull.f t702 t703 t704 t705).bind fun bt706 => ((itv_Join.f t698 t699 bt706.1 bt706.2).bind fun bt708 => (some (bt708.1, bt708.2)))))))) = some (r1, r2) := by rw [if_neg (show ¬ (false = true) by decide)] at H; exact H
    clear H
    have H := H1
    clear H1
    replace H := Option.bind_eq_some_iff.mp H
    obtain ⟨t702, A1310, H⟩ := H
    replace H : ((bound_Div.f k a0_0 t679).bind fun t703 => ((bound_Div.f k a0_1 t678).bind fun t704 => ((bound_Div.f k a0_1 t679).bind fun t705 => ((itv_hull.f t702 t703 t704 t705).bind fun bt706 => ((itv_Join.f t698 t699 bt706.1 bt706.2).bind fun bt708 => (some (bt708.1, bt708.2))))))) = some (r1, r2) := H
    have A131 := Aside0.mk A1310
    clear A1310
    replace H := Option.bind_eq_some_iff.mp H
    obtain ⟨t703, A1320, H⟩ := H
    replace H : ((bound_Div.f k a0_1 t678).bind fun t704 => ((bound_Div.f k a0_1 t679).bind fun t705 => ((itv_hull.f t702 t703 t704 t705).bind fun bt706 => ((itv_Join.f t698 t699 bt706.1 bt706.2).bind fun bt708 => (some (bt708.1, bt708.2)))))) = some (r1, r2) := H
    have A132 := Aside0.mk A1320
    clear A1320
    replace H := Option.bind_eq_some_iff.mp H
    obtain ⟨t704, A1330, H⟩ := H
    replace H : ((bound_Div.f k a0_1 t679).bind fun t705 => ((itv_hull.f t702 t703 t704 t705).bind fun bt706 => ((itv_Join.f t698 t699 bt706.1 bt706.2).bind fun bt708 => (some (bt708.1, bt708.2))))) = some (r1, r2) := H
    have A133 := Aside0.mk A1330
    clear A1330
    replace H := Option.bind_eq_some_iff.mp H
    obtain ⟨t705, A1340, H⟩ := H
    replace H : ((itv_hull.f t702 t703 t704 t705).bind fun bt706 => ((itv_Join.f t698 t699 bt706.1 bt706.2).bind fun bt708 => (some (bt708.1, bt708.2)))) = some (r1, r2) := H
    have A134 := Aside0.mk A1340
    clear A1340
    replace H := Option.bind_eq_some_iff.mp H
    obtain ⟨⟨t706, t707⟩, A1350, H⟩ := H
    replace H : ((itv_Join.f t698 t699 t706 t707).bind fun bt708 => (some (bt708.1, bt708.2))) = some (r1, r2) := H
    have A135 := Aside0.mk A1350
    clear A1350
    replace H := Option.bind_eq_some_iff.mp H
    obtain ⟨⟨t708, t709⟩, A1360, H⟩ := H
    replace H : (some (t708, t709)) = some (r1, r2) := H
    have A136 := Aside0.mk A1360
    clear A1360
    have HC137 := Aside0.mk H
    clear H
    try go_wp2_with (first | ((with_reducible refine gate_dst (N := 7) rfl ?_); refine box_event ?hg (N := 7) ?hd (cs := #[.int .i64 0, .int .i64 0]) (t := 23) ?hr ?_; (case hd => rfl); (case hg => rfl); (case hr => first | (go_simp; done) | (go_simp; rfl)); intro gb700 hg w138 hbox hb; have n0_ := Aside0.mk (blk_below (g := gb670) (o := .cells #[.int .i64 a0_0, .int .i64 a0_1] 23 (0, 0)) (by refine pkB ?_; refine blk_far ?_ NB670_675.out _; refine pkB ?_; refine blk_far ?_ NB670_675.out _; refine pkB ?_; exact BK670.out) hb); have n1_ := Aside0.mk (blk_below (g := gb671) (o := .cells #[.int .i64 a1_0, .int .i64 a1_1] 23 (0, 0)) (by refine pkB ?_; refine blk_far ?_ NB671_675.out _; refine pkB ?_; refine blk_far ?_ NB671_675.out _; refine pkB ?_; exact BK671.out) hb); have n2_ := Aside0.mk (blk_below (g := gb672) (o := .cells #[.int .i64 0, .int .i64 0] 23 (0, 0)) (by refine pkB ?_; refine blk_far ?_ NB672_675.out _; refine pkB ?_; refine blk_far ?_ NB672_675.out _; refine pkB ?_; exact BK672.out) hb); have n3_ := Aside0.mk (blk_below (g := gb675) (o := .cells #[.int .i64 t698, .int .i64 t699] 23 (0, 0)) (by refine pkB ?_; refine blk_put (cs := #[.int .i64 t698, .int .i64 t674]) ?_ 1 _ (by first | rfl | (subst_vars; rfl)); refine pkB ?_; refine blk_put (cs := #[.int .i64 t673, .int .i64 t674]) ?_ 0 _ (by first | rfl | (subst_vars; rfl)); refine pkB ?_; exact BK675.out) hb); have n4_ := Aside0.mk (blk_below (g := gb680) (o := .cells #[.int .i64 t676, .int .i64 t677] 23 (0, 0)) (by refine pkB ?_; refine blk_far ?_ NB680_675.out _; refine pkB ?_; refine blk_far ?_ NB680_675.out _; refine pkB ?_; exact BK680.out) hb); have n5_ := bst HB hb; have n6_ := Aside0.mk (hbox); have n7_ := bsz HB hg; have n8_ := bsz HB hg; have n9_ := Aside0.mk ((by rw [hg]; exact Nat.ne_of_lt (blk_lt (g := gb670) (o := .cells #[.int .i64 a0_0, .int .i64 a0_1] 23 (0, 0)) (by refine pkB ?_; refine blk_far ?_ NB670_675.out _; refine pkB ?_; refine blk_far ?_ NB670_675.out _; refine pkB ?_; exact BK670.out)) : gb670 ≠ gb700)); have n10_ := Aside0.mk ((by rw [hg]; exact Nat.ne_of_gt (blk_lt (g := gb670) (o := .cells #[.int .i64 a0_0, .int .i64 a0_1] 23 (0, 0)) (by refine pkB ?_; refine blk_far ?_ NB670_675.out _; refine pkB ?_; refine blk_far ?_ NB670_675.out _; refine pkB ?_; exact BK670.out)) : gb700 ≠ gb670)); have n11_ := Aside0.mk ((by rw [hg]; exact Nat.ne_of_lt (blk_lt (g := gb671) (o := .cells #[.int .i64 a1_0, .int .i64 a1_1] 23 (0, 0)) (by refine pkB ?_; refine blk_far ?_ NB671_675.out _; refine pkB ?_; refine blk_far ?_ NB671_675.out _; refine pkB ?_; exact BK671.out)) : gb671 ≠ gb700)); have n12_ := Aside0.mk ((by rw [hg]; exact Nat.ne_of_gt (blk_lt (g := gb671) (o := .cells #[.int .i64 a1_0, .int .i64 a1_1] 23 (0, 0)) (by refine pkB ?_; refine blk_far ?_ NB671_675.out _; refine pkB ?_; refine blk_far ?_ NB671_675.out _; refine pkB ?_; exact BK671.out)) : gb700 ≠ gb671)); have n13_ := Aside0.mk ((by rw [hg]; exact Nat.ne_of_lt (blk_lt (g := gb672) (o := .cells #[.int .i64 0, .int .i64 0] 23 (0, 0)) (by refine pkB ?_; refine blk_far ?_ NB672_675.out _; refine pkB ?_; refine blk_far ?_ NB672_675.out _; refine pkB ?_; exact BK672.out)) : gb672 ≠ gb700)); have n14_ := Aside0.mk ((by rw [hg]; exact Nat.ne_of_gt (blk_lt (g := gb672) (o := .cells #[.int .i64 0, .int .i64 0] 23 (0, 0)) (by refine pkB ?_; refine blk_far ?_ NB672_675.out _; refine pkB ?_; refine blk_far ?_ NB672_675.out _; refine pkB ?_; exact BK672.out)) : gb700 ≠ gb672)); have n15_ := Aside0.mk ((by rw [hg]; exact Nat.ne_of_lt (blk_lt (g := gb675) (o := .cells #[.int .i64 t698, .int .i64 t699] 23 (0, 0)) (by refine pkB ?_; refine blk_put (cs := #[.int .i64 t698, .int .i64 t674]) ?_ 1 _ (by first | rfl | (subst_vars; rfl)); refine pkB ?_; refine blk_put (cs := #[.int .i64 t673, .int .i64 t674]) ?_ 0 _ (by first | rfl | (subst_vars; rfl)); refine pkB ?_; exact BK675.out)) : gb675 ≠ gb700)); have n16_ := Aside0.mk ((by rw [hg]; exact Nat.ne_of_gt (blk_lt (g := gb675) (o := .cells #[.int .i64 t698, .int .i64 t699] 23 (0, 0)) (by refine pkB ?_; refine blk_put (cs := #[.int .i64 t698, .int .i64 t674]) ?_ 1 _ (by first | rfl | (subst_vars; rfl)); refine pkB ?_; refine blk_put (cs := #[.int .i64 t673, .int .i64 t674]) ?_ 0 _ (by first | rfl | (subst_vars; rfl)); refine pkB ?_; exact BK675.out)) : gb700 ≠ gb675)); have n17_ := Aside0.mk ((by rw [hg]; exact Nat.ne_of_lt (blk_lt (g := gb680) (o := .cells #[.int .i64 t676, .int .i64 t677] 23 (0, 0)) (by refine pkB ?_; refine blk_far ?_ NB680_675.out _; refine pkB ?_; refine blk_far ?_ NB680_675.out _; refine pkB ?_; exact BK680.out)) : gb680 ≠ gb700)); have n18_ := Aside0.mk ((by rw [hg]; exact Nat.ne_of_gt (blk_lt (g := gb680) (o := .cells #[.int .i64 t676, .int .i64 t677] 23 (0, 0)) (by refine pkB ?_; refine blk_far ?_ NB680_675.out _; refine pkB ?_; refine blk_far ?_ NB680_675.out _; refine pkB ?_; exact BK680.out)) : gb700 ≠ gb680)); clear BK670; clear BK671; clear BK672; clear BK675; clear BK680; clear HB; have BK670 := n0_; have BK671 := n1_; have BK672 := n2_; have BK675 := n3_; have BK680 := n4_; have HB := n5_; have BK700 := n6_; have GW700 := n7_; have GE700 := n8_; have NB670_700 := n9_; have NB700_670 := n10_; have NB671_700 := n11_; have NB700_671 := n12_; have NB672_700 := n13_; have NB700_672 := n14_; have NB675_700 := n15_; have NB700_675 := n16_; have NB680_700 := n17_; have NB700_680 := n18_; clear n0_ n1_ n2_ n3_ n4_ n5_ n6_ n7_ n8_ n9_ n10_ n11_ n12_ n13_ n14_ n15_ n16_ n17_ n18_; clear hb hbox hg; have hnb139 := NB700_670.out; have hnc139 := NB670_700.out; have hnb140 := NB700_671.out; have hnc140 := NB671_700.out; have hnb141 := NB700_672.out; have hnc141 := NB672_700.out; have hnb142 := NB700_675.out; have hnc142 := NB675_700.out; have hnb143 := NB700_680.out; have hnc143 := NB680_700.out; have hcz144_0 := hcz BK700 0; have hcz144_1 := hcz BK700 1; have hfz144_0 := blk_frozen BK700.out 0; have hfz144_1 := blk_frozen BK700.out 1) | ((with_reducible refine gate_callee (f := 21) rfl ?_); refine goesL_ (some 15) rfl rfl Try.func21 (by kernel_rfl) rfl #[.agg #[.int .i64 t678, .int .i64 t679]] rfl (by (try simp only [List.map_toArray, List.map_cons, List.map_nil]); first | done | rfl | (simp only [List.length_drop, List.length_take]; rfl)) ?_; (with_reducible refine (itv_None.calls t678 t679 false _ A109.out).mono ?_); rintro e w145 ⟨rfl, hb⟩; refine ⟨_, rfl, ?_⟩; have n0_ := Aside0.mk (blk_below (g := gb670) (o := .cells #[.int .i64 a0_0, .int .i64 a0_1] 23 (0, 0)) (by refine pkB ?_; refine blk_far ?_ NB670_700.out _; refine pkB ?_; refine blk_far ?_ NB670_700.out _; refine pkB ?_; exact BK670.out) hb); have n1_ := Aside0.mk (blk_below (g := gb671) (o := .cells #[.int .i64 a1_0, .int .i64 a1_1] 23 (0, 0)) (by refine pkB ?_; refine blk_far ?_ NB671_700.out _; refine pkB ?_; refine blk_far ?_ NB671_700.out _; refine pkB ?_; exact BK671.out) hb); have n2_ := Aside0.mk (blk_below (g := gb672) (o := .cells #[.int .i64 0, .int .i64 0] 23 (0, 0)) (by refine pkB ?_; refine blk_far ?_ NB672_700.out _; refine pkB ?_; refine blk_far ?_ NB672_700.out _; refine pkB ?_; exact BK672.out) hb); have n3_ := Aside0.mk (blk_below (g := gb675) (o := .cells #[.int .i64 t698, .int .i64 t699] 23 (0, 0)) (by refine pkB ?_; refine blk_far ?_ NB675_700.out _; refine pkB ?_; refine blk_far ?_ NB675_700.out _; refine pkB ?_; exact BK675.out) hb); have n4_ := Aside0.mk (blk_below (g := gb680) (o := .cells #[.int .i64 t676, .int .i64 t677] 23 (0, 0)) (by refine pkB ?_; refine blk_far ?_ NB680_700.out _; refine pkB ?_; refine blk_far ?_ NB680_700.out _; refine pkB ?_; exact BK680.out) hb); have n5_ := Aside0.mk (blk_below (g := gb700) (o := .cells #[.int .i64 t678, .int .i64 t679] 23 (0, 0)) (by refine pkB ?_; refine blk_put (cs := #[.int .i64 t678, .int .i64 0]) ?_ 1 _ (by first | rfl | (subst_vars; rfl)); refine pkB ?_; refine blk_put (cs := #[.int .i64 0, .int .i64 0]) ?_ 0 _ (by first | rfl | (subst_vars; rfl)); refine pkB ?_; exact BK700.out) hb); have n6_ := bst HB hb; clear BK670; clear BK671; clear BK672; clear BK675; clear BK680; clear BK700; clear HB; have BK670 := n0_; have BK671 := n1_; have BK672 := n2_; have BK675 := n3_; have BK680 := n4_; have BK700 := n5_; have HB := n6_; clear n0_ n1_ n2_ n3_ n4_ n5_ n6_; (try clear hb); (try clear hb2); (try clear hk); (try clear hi)))
    have n0_ := Aside0.mk (blk_drew BK670.out)
    have n1_ := Aside0.mk (blk_drew BK671.out)
    have n2_ := Aside0.mk (blk_drew BK672.out)
    have n3_ := Aside0.mk (blk_drew BK675.out)
    have n4_ := Aside0.mk (blk_drew BK680.out)
    have n5_ := Aside0.mk (blk_drew BK700.out)
    have n6_ := Aside0.mk (below_drew1 HB.out)
    clear BK670
    clear BK671
    clear BK672
    clear BK675
    clear BK680
    clear BK700
    clear HB
    have BK670 := n0_
    have BK671 := n1_
    have BK672 := n2_
    have BK675 := n3_
    have BK680 := n4_
    have BK700 := n5_
    have HB := n6_
    clear n0_ n1_ n2_ n3_ n4_ n5_ n6_
    refine start_ (n := 25) (S := fun w' => w'.cell? ⟨gb675, 0, none⟩ = some (.int .i64 t698) ∧ w'.cell? ⟨gb675, 1, none⟩ = some (.int .i64 t699) ∧ w'.cell? ⟨gb670, 0, none⟩ = some (.int .i64 a0_0) ∧ w'.cell? ⟨gb670, 1, none⟩ = some (.int .i64 a0_1) ∧ w'.cell? ⟨gb700, 0, none⟩ = some (.int .i64 t678) ∧ w'.cell? ⟨gb700, 1, none⟩ = some (.int .i64 t679)) (ds := [24]) #[false, false, false, false, false, false, false, false, false, false, false, false, false, false, false, false, false, false, false, false, false, false, false, false, false] (by kernel_rfl) rfl rfl ⟨hcz BK675 0, hcz BK675 1, hcz BK670 0, hcz BK670 1, hcz BK700 0, hcz BK700 1⟩ (fun hHeld => ?_); refine with_tabW itv_Div_1.tab6 itv_Div_1.bits6 (fun HT_ HW_ => ?_)
    generalize w145.drew = w146 at BK670 BK671 BK672 BK675 BK680 BK700 HB hHeld ⊢
    refine pureQ 1 18 HT_.out ?_
    refine pureQ 3 20 HT_.out ?_
    refine pureQ 6 23 HT_.out ?_
    refine pureQ 8 25 HT_.out ?_
    refine pureQ 11 28 HT_.out ?_
    refine pureQ 13 30 HT_.out ?_
    refine pureQ 16 33 HT_.out ?_
    refine pureQ 18 35 HT_.out ?_
    refine takeQ 0 17 HT_.out HW_.out hHeld ?_
    refine takeQ 2 19 HT_.out HW_.out hHeld ?_
    refine takeQ 4 21 HT_.out HW_.out hHeld ?_
    refine takeQ 7 24 HT_.out HW_.out hHeld ?_
    refine takeQ 9 26 HT_.out HW_.out hHeld ?_
    refine takeQ 12 29 HT_.out HW_.out hHeld ?_
    refine takeQ 14 31 HT_.out HW_.out hHeld ?_
    refine takeQ 17 34 HT_.out HW_.out hHeld ?_
    refine takeQ 19 36 HT_.out HW_.out hHeld ?_
    refine oneQ 5 22 HT_.out (fun K hK => ?_)
    refine goesQ Try.func84 #[.int .i64 a0_0, .int .i64 t678] ?_
    with_reducible refine (bound_Div.calls k a0_0 t678 t702 _ A131.out).mono ?_
    rintro e w147 ⟨rfl, hb⟩
    refine ⟨_, rfl, ?_⟩
    have n0_ := bst HB hb
    replace BK670 := bbw BK670 hb
    replace BK671 := bbw BK671 hb
    replace BK672 := bbw BK672 hb
    replace BK675 := bbw BK675 hb
    replace BK680 := bbw BK680 hb
    replace BK700 := bbw BK700 hb
    clear HB
    have HB := n0_
    clear n0_
    (try clear hb)
    (try clear hb2)
    (try clear hk)
    (try clear hi)
    refine hK.out _ _ ⟨hcz BK675 0, hcz BK675 1, hcz BK670 0, hcz BK670 1, hcz BK700 0, hcz BK700 1⟩ (fun hHeld => ?_)
    clear hK K
    refine normQ (N := 22) ?_
    refine oneQ 10 27 HT_.out (fun K hK => ?_)
    refine goesQ Try.func84 #[.int .i64 a0_0, .int .i64 t679] ?_
    with_reducible refine (bound_Div.calls k a0_0 t679 t703 _ A132.out).mono ?_
    rintro e w148 ⟨rfl, hb⟩
    refine ⟨_, rfl, ?_⟩
    have n0_ := bst HB hb
    replace BK670 := bbw BK670 hb
    replace BK671 := bbw BK671 hb
    replace BK672 := bbw BK672 hb
    replace BK675 := bbw BK675 hb
    replace BK680 := bbw BK680 hb
    replace BK700 := bbw BK700 hb
    clear HB
    have HB := n0_
    clear n0_
    (try clear hb)
    (try clear hb2)
    (try clear hk)
    (try clear hi)
    refine hK.out _ _ ⟨hcz BK675 0, hcz BK675 1, hcz BK670 0, hcz BK670 1, hcz BK700 0, hcz BK700 1⟩ (fun hHeld => ?_)
    clear hK K
    refine normQ (N := 27) ?_
    refine oneQ 15 32 HT_.out (fun K hK => ?_)
    refine goesQ Try.func84 #[.int .i64 a0_1, .int .i64 t678] ?_
    with_reducible refine (bound_Div.calls k a0_1 t678 t704 _ A133.out).mono ?_
    rintro e w149 ⟨rfl, hb⟩
    refine ⟨_, rfl, ?_⟩
    have n0_ := bst HB hb
    replace BK670 := bbw BK670 hb
    replace BK671 := bbw BK671 hb
    replace BK672 := bbw BK672 hb
    replace BK675 := bbw BK675 hb
    replace BK680 := bbw BK680 hb
    replace BK700 := bbw BK700 hb
    clear HB
    have HB := n0_
    clear n0_
    (try clear hb)
    (try clear hb2)
    (try clear hk)
    (try clear hi)
    refine hK.out _ _ ⟨hcz BK675 0, hcz BK675 1, hcz BK670 0, hcz BK670 1, hcz BK700 0, hcz BK700 1⟩ (fun hHeld => ?_)
    clear hK K
    refine normQ (N := 32) ?_
    refine oneQ 20 37 HT_.out (fun K hK => ?_)
    refine goesQ Try.func84 #[.int .i64 a0_1, .int .i64 t679] ?_
    with_reducible refine (bound_Div.calls k a0_1 t679 t705 _ A134.out).mono ?_
    rintro e w150 ⟨rfl, hb⟩
    refine ⟨_, rfl, ?_⟩
    have n0_ := bst HB hb
    replace BK670 := bbw BK670 hb
    replace BK671 := bbw BK671 hb
    replace BK672 := bbw BK672 hb
    replace BK675 := bbw BK675 hb
    replace BK680 := bbw BK680 hb
    replace BK700 := bbw BK700 hb
    clear HB
    have HB := n0_
    clear n0_
    (try clear hb)
    (try clear hb2)
    (try clear hk)
    (try clear hi)
    refine hK.out _ _ ⟨hcz BK675 0, hcz BK675 1, hcz BK670 0, hcz BK670 1, hcz BK700 0, hcz BK700 1⟩ (fun hHeld => ?_)
    clear hK K
    refine normQ (N := 37) ?_
    refine pureQ 21 38 HT_.out ?_
    refine oneQ 22 39 HT_.out (fun K hK => ?_)
    refine goesQ Try.func78 #[.agg #[.int .i64 t702, .int .i64 t703, .int .i64 t704, .int .i64 t705]] ?_
    with_reducible refine (itv_hull.calls t702 t703 t704 t705 t706 t707 _ A135.out).mono ?_
    rintro e w151 ⟨rfl, hb⟩
    refine ⟨_, rfl, ?_⟩
    have n0_ := bst HB hb
    replace BK670 := bbw BK670 hb
    replace BK671 := bbw BK671 hb
    replace BK672 := bbw BK672 hb
    replace BK675 := bbw BK675 hb
    replace BK680 := bbw BK680 hb
    replace BK700 := bbw BK700 hb
    clear HB
    have HB := n0_
    clear n0_
    (try clear hb)
    (try clear hb2)
    (try clear hk)
    (try clear hi)
    refine hK.out _ _ ⟨hcz BK675 0, hcz BK675 1, hcz BK670 0, hcz BK670 1, hcz BK700 0, hcz BK700 1⟩ (fun hHeld => ?_)
    clear hK K
    refine normQ (N := 39) ?_
    refine oneQ 23 40 HT_.out (fun K hK => ?_)
    refine goesQ Try.func26 #[.agg #[.int .i64 t698, .int .i64 t699], .agg #[.int .i64 t706, .int .i64 t707]] ?_
    with_reducible refine (itv_Join.calls t698 t699 t706 t707 t708 t709 _ A136.out).mono ?_
    rintro e w152 ⟨rfl, hb⟩
    refine ⟨_, rfl, ?_⟩
    have n0_ := bst HB hb
    replace BK670 := bbw BK670 hb
    replace BK671 := bbw BK671 hb
    replace BK672 := bbw BK672 hb
    replace BK675 := bbw BK675 hb
    replace BK680 := bbw BK680 hb
    replace BK700 := bbw BK700 hb
    clear HB
    have HB := n0_
    clear n0_
    (try clear hb)
    (try clear hb2)
    (try clear hk)
    (try clear hi)
    refine hK.out _ _ ⟨hcz BK675 0, hcz BK675 1, hcz BK670 0, hcz BK670 1, hcz BK700 0, hcz BK700 1⟩ (fun hHeld => ?_)
    clear hK K
    refine normQ (N := 40) ?_
    refine last_ (i := 24) (N := none) #[true, true, true, true, true, true, true, true, true, true, true, true, true, true, true, true, true, true, true, true, true, true, true, true, true] rfl rfl (one_of HT_.out (by kernel_rfl)) (by decide) (fun K hK => ?_)
    have hs153 : w152.cell? ⟨gb675, 0, none⟩ = some (.int .i64 t698) := hcz BK675 0
    have hfs153 := blk_frozen BK675.out 0
    have hns153_0 := NB670_675.out
    have hns153_1 := NB671_675.out
    have hns153_2 := NB672_675.out
    have hns153_4 := NB680_675.out
    have hns153_5 := NB700_675.out
    have hms153_0 := NB675_670.out
    have hms153_1 := NB675_671.out
    have hms153_2 := NB675_672.out
    have hms153_4 := NB675_680.out
    have hms153_5 := NB675_700.out
    have hs154 : w152.cell? ⟨gb675, 1, none⟩ = some (.int .i64 t699) := hcz BK675 1
    have hfs154 := blk_frozen BK675.out 1
    have hns154_0 := NB670_675.out
    have hns154_1 := NB671_675.out
    have hns154_2 := NB672_675.out
    have hns154_4 := NB680_675.out
    have hns154_5 := NB700_675.out
    have hms154_0 := NB675_670.out
    have hms154_1 := NB675_671.out
    have hms154_2 := NB675_672.out
    have hms154_4 := NB675_680.out
    have hms154_5 := NB675_700.out
    refine skip_ (w1 := ?_) (by rfl) rfl ?_ ?_
    rotate_left
    ·
     go_simp
     rfl
    refine hK.out _ _ ?_
    clear hK K
    refine done_ (done_of HT_.out (by kernel_rfl)) ?_
    try go_wp2
    refine looped_round (fun K_ hK_ => ?_)
    have H := HC137.out
    clear HC137
    try clear c1
    try clear c2
    try clear p2
    try clear c3
    try clear c4
    try clear c5
    try clear c6
    try clear c7
    try clear c8
    try clear c9
    try clear c11
    try clear c12
    try clear c13
    try clear c14
    try clear c15
    try clear c16
    try clear c20
    try clear c21
    try clear c23
    try clear c24
    try clear c25
    try clear c26
    try clear c30
    try clear c33
    try clear c34
    try clear c35
    try clear c36
    try clear c37
    try clear c40
    try clear c41
    try clear c42
    try clear c43
    try clear c44
    try clear c46
    try clear c47
    try clear c48
    try clear c49
    try clear c59
    try clear c60
    try clear c61
    try clear c62
    try clear c63
    try clear c75
    try clear c76
    try clear c77
    try clear c78
    try clear c79
    try clear c81
    try clear c82
    try clear c83
    try clear c84
    try clear c94
    try clear c95
    try clear c96
    try clear c97
    try clear c110
    try clear c113
    try clear c114
    try clear c115
    try clear c116
    try clear c117
    try clear c120
    try clear c121
    try clear c122
    try clear c123
    try clear c124
    try clear c126
    try clear c127
    try clear c128
    try clear c129
    try clear c139
    try clear c140
    try clear c141
    try clear c142
    try clear c143
    try clear hcz118_0
    try clear hcz118_1
    try clear hcz125_0
    try clear hcz125_1
    try clear hcz130_0
    try clear hcz130_1
    try clear hcz144_0
    try clear hcz144_1
    try clear hcz14_0
    try clear hcz14_1
    try clear hcz17_0
    try clear hcz17_1
    try clear hcz27_0
    try clear hcz27_1
    try clear hcz38_0
    try clear hcz38_1
    try clear hcz45_0
    try clear hcz45_1
    try clear hcz50_0
    try clear hcz50_1
    try clear hcz64_0
    try clear hcz64_1
    try clear hcz80_0
    try clear hcz80_1
    try clear hcz85_0
    try clear hcz85_1
    try clear hcz98_0
    try clear hcz98_1
    try clear hfz118_0
    try clear hfz118_1
    try clear hfz125_0
    try clear hfz125_1
    try clear hfz130_0
    try clear hfz130_1
    try clear hfz144_0
    try clear hfz144_1
    try clear hfz14_0
    try clear hfz14_1
    try clear hfz17_0
    try clear hfz17_1
    try clear hfz27_0
    try clear hfz27_1
    try clear hfz38_0
    try clear hfz38_1
    try clear hfz45_0
    try clear hfz45_1
    try clear hfz50_0
    try clear hfz50_1
    try clear hfz64_0
    try clear hfz64_1
    try clear hfz80_0
    try clear hfz80_1
    try clear hfz85_0
    try clear hfz85_1
    try clear hfz98_0
    try clear hfz98_1
    try clear p2
    simp only [Option.some.injEq, Prod.mk.injEq] at H
    obtain ⟨rfl, rfl⟩ := H
    have hnb155 := NB675_670.out
    have hnc155 := NB670_675.out
    have hnb156 := NB675_671.out
    have hnc156 := NB671_675.out
    have hnb157 := NB675_672.out
    have hnc157 := NB672_675.out
    have hnb158 := NB675_680.out
    have hnc158 := NB680_675.out
    have hnb159 := NB675_700.out
    have hnc159 := NB700_675.out
    have hcz160_0 := hcz BK675 0
    have hcz160_1 := hcz BK675 1
    have hfz160_0 := blk_frozen BK675.out 0
    have hfz160_1 := blk_frozen BK675.out 1
    have hnb161 := NB672_670.out
    have hnc161 := NB670_672.out
    have hnb162 := NB672_671.out
    have hnc162 := NB671_672.out
    have hnb163 := NB672_680.out
    have hnc163 := NB680_672.out
    have hnb164 := NB672_700.out
    have hnc164 := NB700_672.out
    have hcz165_0 := hcz BK672 0
    have hcz165_1 := hcz BK672 1
    have hfz165_0 := blk_frozen BK672.out 0
    have hfz165_1 := blk_frozen BK672.out 1
    go_wp2
    refine bodyPost_ret (results_cell_row rfl _ _ gb672 23 #[.int .i64 t708, .int .i64 t709] (0, 0) _ rfl (by refine pkB ?_; refine blk_put (cs := #[.int .i64 t708, .int .i64 0]) ?_ 1 _ (by first | rfl | (subst_vars; rfl)); refine pkB ?_; refine blk_put (cs := #[.int .i64 0, .int .i64 0]) ?_ 0 _ (by first | rfl | (subst_vars; rfl)); refine pkB ?_; refine blk_far ?_ NB672_675.out _; refine pkB ?_; refine blk_far ?_ NB672_675.out _; refine pkB ?_; exact BK672.out) Try.underlying23 rfl (by kernel_rfl)) rfl ?_
    exact ⟨by first | rfl | (simp [errW_none, errW_some] <;> rfl) | (simp [*, errW_none, errW_some] <;> rfl) | kernel_rfl, by repeat (first | (with_reducible first | exact HB.out | apply below_alloc | apply pw_below_drewN | apply below_drew1 | refine below_set ?_ GE670.out | refine below_set ?_ GE671.out | refine below_set ?_ GE672.out | refine below_set ?_ GE675.out | refine below_set ?_ GE680.out | refine below_set ?_ GE700.out) | exact HB.out)⟩
end Go.Proofs.Ytbbnpipmjadpoaa.P
