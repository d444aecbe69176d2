/- What the law's proof needs of Px47. -/
import Derived.Test.YtbbnpipmjadpoaaTrGU3
import Derived.Test.YtbbnpipmjadpoaaTrGU
import Derived.Test.YtbbnpipmjadpoaaTrGPx0
import Derived.Test.YtbbnpipmjadpoaaTrGPx3
import Derived.Test.YtbbnpipmjadpoaaTrGPx32
import Derived.Test.YtbbnpipmjadpoaaTrGPx35
-- PRINTED by print.py (a twelfth state) out of the translation. Not trusted: Lean checks it.
namespace Go.Proofs.Ytbbnpipmjadpoaa.P
open Go.RowKit Go.Proofs.YtbbnpipmjadpoaaW.PrintWords Go.Proofs.YtbbnpipmjadpoaaW.PrintLast Go.Proofs.YtbbnpipmjadpoaaW.PrintMore Go.Proofs.YtbbnpipmjadpoaaO
attribute [local go_sem] max2_int min2_int max_two min_two max_three min_three max_four min_four   -- for this text's walks alone
set_option linter.unusedVariables false
set_option linter.unusedSimpArgs false
def itv_sizes.f (k : Nat) (a0_0 : Int) (a0_1 : Int) : Option (Int × Int × Bool) := (itv_signs.f k a0_0 a0_1).bind fun bt1039 => ((itv_None.f bt1039.1 bt1039.2.1).bind fun t1044 => (if t1044 = true then ((itv_None.f bt1039.2.2.1 bt1039.2.2.2).bind fun t1046 => (if t1046 = true then (some (4611686018427387904, 0, false)) else ((itv_Abs.f k bt1039.2.2.1 bt1039.2.2.2).bind fun bt1047 => (some (mn 4611686018427387904 bt1047.1, mx 0 bt1047.2, true))))) else ((itv_Abs.f k bt1039.1 bt1039.2.1).bind fun bt1050 => ((itv_None.f bt1039.2.2.1 bt1039.2.2.2).bind fun t1054 => (if t1054 = true then (some (mn 4611686018427387904 bt1050.1, mx 0 bt1050.2, true)) else ((itv_Abs.f k bt1039.2.2.1 bt1039.2.2.2).bind fun bt1055 => (some (mn (mn 4611686018427387904 bt1050.1) bt1055.1, mx (mx 0 bt1050.2) bt1055.2, true))))))))
set_option maxHeartbeats 8000000 in
set_option maxRecDepth 100000 in
theorem itv_sizes.calls (k : Nat) (a0_0 : Int) (a0_1 : Int) (r1 : Int) (r2 : Int) (r3 : Bool) (w : World) (h : itv_sizes.f k a0_0 a0_1 = some (r1, r2, r3)) :
    Calls Try.prog 92 #[.agg #[.int .i64 a0_0, .int .i64 a0_1]] w fun e w' => e = .returned (.tuple #[.int .i64 r1, .int .i64 r2, .bool r3]) ∧ Below w.heap.size w w' := by
  have hu23 := Try.underlying23
  have hix61_0 : ∀ (y0_ : Int) (y1_ : Int) (y2_ : Int) (y3_ : Int) (W : World), (Instr.index 61 (.agg #[.int .i64 y0_, .int .i64 y1_, .int .i64 y2_, .int .i64 y3_]) (.int .i64 0)).run Try.prog W = .ok (.agg #[.int .i64 y0_, .int .i64 y1_]) W := fun _ _ _ _ _ => by kernel_rfl
  have hix61_1 : ∀ (y0_ : Int) (y1_ : Int) (y2_ : Int) (y3_ : Int) (W : World), (Instr.index 61 (.agg #[.int .i64 y0_, .int .i64 y1_, .int .i64 y2_, .int .i64 y3_]) (.int .i64 1)).run Try.prog W = .ok (.agg #[.int .i64 y2_, .int .i64 y3_]) W := fun _ _ _ _ _ => by kernel_rfl
  have HB := Aside0.mk (Below.refl w.heap.size w)
  have H : ((itv_signs.f k a0_0 a0_1).bind fun bt1039 => ((itv_None.f bt1039.1 bt1039.2.1).bind fun t1044 => (if t1044 = true then ((itv_None.f bt1039.2.2.1 bt1039.2.2.2).bind fun t1046 => (if t1046 = true then (some (4611686018427387904, 0, false)) else ((itv_Abs.f k bt1039.2.2.1 bt1039.2.2.2).bind fun bt1047 => (some (mn 4611686018427387904 bt1047.1, mx 0 bt1047.2, true))))) else ((itv_Abs.f k bt1039.1 bt1039.2.1).bind fun bt1050 => ((itv_None.f bt1039.2.2.1 bt1039.2.2.2).bind fun t1054 => (if t1054 = true then (some (mn 4611686018427387904 bt1050.1, mx 0 bt1050.2, true)) else ((itv_Abs.f k bt1039.2.2.1 bt1039.2.2.2).bind fun bt1055 => (some (mn (mn 4611686018427387904 bt1050.1) bt1055.1, mx (mx 0 bt1050.2) bt1055.2, true))))))))) = some (r1, r2, r3) := h
  clear h
  replace H := bnH H
  obtain ⟨⟨t1039, t1040, t1041, t1042⟩, A20, H⟩ := H
  replace H : ((itv_None.f t1039 t1040).bind fun t1044 => (if t1044 = true then ((itv_None.f t1041 t1042).bind fun t1046 => (if t1046 = true then (some (4611686018427387904, 0, false)) else ((itv_Abs.f k t1041 t1042).bind fun bt1047 => (some (mn 4611686018427387904 bt1047.1, mx 0 bt1047.2, true))))) else ((itv_Abs.f k t1039 t1040).bind fun bt1050 => ((itv_None.f t1041 t1042).bind fun t1054 => (if t1054 = true then (some (mn 4611686018427387904 bt1050.1, mx 0 bt1050.2, true)) else ((itv_Abs.f k t1041 t1042).bind fun bt1055 => (some (mn (mn 4611686018427387904 bt1050.1) bt1055.1, mx (mx 0 bt1050.2) bt1055.2, true)))))))) = some (r1, r2, r3) := H
  have A2 := Aside0.mk A20
  clear A20
  have HC3 := Aside0.mk H
  clear H
  go_enter Try.func92, Try.ntmps92
  go_wp2_with (first | ((with_reducible refine gate_dst (N := 1) rfl ?_); refine box_event ?hg (N := 1) ?hd (cs := #[.int .i64 a0_0, .int .i64 a0_1]) (t := 23) ?hr ?_; (case hd => rfl); (case hg => rfl); (case hr => first | (go_simp; done) | (go_simp; rfl)); intro gb1038 hg w4 hbox hb; have n0_ := bst HB hb; have n1_ := Aside0.mk (hbox); have n2_ := bsz HB hg; have n3_ := bsz HB hg; clear HB; have HB := n0_; have BK1038 := n1_; have GW1038 := n2_; have GE1038 := n3_; clear n0_ n1_ n2_ n3_; clear hb hbox hg; have hcz5_0 := hcz BK1038 0; have hcz5_1 := hcz BK1038 1; have hfz5_0 := bfz BK1038 0; have hfz5_1 := bfz BK1038 1) | (go_at_call 83; (with_reducible refine (itv_signs.calls k a0_0 a0_1 t1039 t1040 t1041 t1042 _ A2.out).mono ?_); rintro e w6 ⟨rfl, hb⟩; have n0_ := bst HB hb; replace BK1038 := bbw BK1038 hb; clear HB; have HB := n0_; clear n0_; (try clear hb)))
  repeat (go_quiet (first | ((with_reducible refine gate_dst (N := 1) rfl ?_); refine box_event ?hg (N := 1) ?hd (cs := #[.int .i64 a0_0, .int .i64 a0_1]) (t := 23) ?hr ?_; (case hd => rfl); (case hg => rfl); (case hr => first | (go_simp; done) | (go_simp; rfl)); intro gb1038 hg w4 hbox hb; have n0_ := bst HB hb; have n1_ := Aside0.mk (hbox); have n2_ := bsz HB hg; have n3_ := bsz HB hg; clear HB; have HB := n0_; have BK1038 := n1_; have GW1038 := n2_; have GE1038 := n3_; clear n0_ n1_ n2_ n3_; clear hb hbox hg; have hcz5_0 := hcz BK1038 0; have hcz5_1 := hcz BK1038 1; have hfz5_0 := bfz BK1038 0; have hfz5_1 := bfz BK1038 1) | (go_at_call 83; (with_reducible refine (itv_signs.calls k a0_0 a0_1 t1039 t1040 t1041 t1042 _ A2.out).mono ?_); rintro e w6 ⟨rfl, hb⟩; have n0_ := bst HB hb; replace BK1038 := bbw BK1038 hb; clear HB; have HB := n0_; clear n0_; (try clear hb))); try go_wp2_with (first | ((with_reducible refine gate_dst (N := 1) rfl ?_); refine box_event ?hg (N := 1) ?hd (cs := #[.int .i64 a0_0, .int .i64 a0_1]) (t := 23) ?hr ?_; (case hd => rfl); (case hg => rfl); (case hr => first | (go_simp; done) | (go_simp; rfl)); intro gb1038 hg w4 hbox hb; have n0_ := bst HB hb; have n1_ := Aside0.mk (hbox); have n2_ := bsz HB hg; have n3_ := bsz HB hg; clear HB; have HB := n0_; have BK1038 := n1_; have GW1038 := n2_; have GE1038 := n3_; clear n0_ n1_ n2_ n3_; clear hb hbox hg; have hcz5_0 := hcz BK1038 0; have hcz5_1 := hcz BK1038 1; have hfz5_0 := bfz BK1038 0; have hfz5_1 := bfz BK1038 1) | (go_at_call 83; (with_reducible refine (itv_signs.calls k a0_0 a0_1 t1039 t1040 t1041 t1042 _ A2.out).mono ?_); rintro e w6 ⟨rfl, hb⟩; have n0_ := bst HB hb; replace BK1038 := bbw BK1038 hb; clear HB; have HB := n0_; clear n0_; (try clear hb))))
  refine loop_looped ?_
  refine looped_round (fun K_ hK_ => ?_)
  have H := HC3.out
  clear HC3
  try clear p2
  try clear hcz5_0
  try clear hcz5_1
  try clear hfz5_0
  try clear hfz5_1
  replace H := bnH H
  obtain ⟨t1044, A70, H⟩ := H
  replace H : (if t1044 = true then ((itv_None.f t1041 t1042).bind fun t1046 => (if t1046 = true then (some (4611686018427387904, 0, false)) else ((itv_Abs.f k t1041 t1042).bind fun bt1047 => (some (mn 4611686018427387904 bt1047.1, mx 0 bt1047.2, true))))) else ((itv_Abs.f k t1039 t1040).bind fun bt1050 => ((itv_None.f t1041 t1042).bind fun t1054 => (if t1054 = true then (some (mn 4611686018427387904 bt1050.1, mx 0 bt1050.2, true)) else ((itv_Abs.f k t1041 t1042).bind fun bt1055 => (some (mn (mn 4611686018427387904 bt1050.1) bt1055.1, mx (mx 0 bt1050.2) bt1055.2, true))))))) = some (r1, r2, r3) := H
  have A7 := Aside0.mk A70
  clear A70
  by_cases c8 : t1044 = true
  ·
   subst c8
   have H1 : ((itv_None.f t1041 t1042).bind fun t1046 => (if t1046 = true then (some (4611686018427387904, 0, false)) else ((itv_Abs.f k t1041 t1042).bind fun bt1047 => (some (mn 4611686018427387904 bt1047.1, mx 0 bt1047.2, true))))) = some (r1, r2, r3) := by rw [if_pos rfl] at H; exact H
   clear H
   have H := H1
   clear H1
   have HC9 := Aside0.mk H
   clear H
   go_wp2_with (first | ((with_reducible refine gate_dst (N := 9) rfl ?_); refine box_event ?hg (N := 9) ?hd (cs := #[.int .i64 0, .int .i64 0]) (t := 23) ?hr ?_; (case hd => rfl); (case hg => rfl); (case hr => first | (go_simp; done) | (go_simp; rfl)); intro gb1043 hg w10 hbox hb; have n0_ := bst HB hb; have n1_ := Aside0.mk (hbox); have n2_ := bsz HB hg; have n3_ := bsz HB hg; have n4_ := bn1 BK1038 hg; have n5_ := bn2 BK1038 hg; replace BK1038 := bbw BK1038 hb; clear HB; have HB := n0_; have BK1043 := n1_; have GW1043 := n2_; have GE1043 := n3_; have NB1038_1043 := n4_; have NB1043_1038 := n5_; clear n0_ n1_ n2_ n3_ n4_ n5_; clear hb hbox hg; have hnb11 := nn NB1043_1038 NB1038_1043; have hcz12_0 := hcz BK1043 0; have hcz12_1 := hcz BK1043 1; have hfz12_0 := bfz BK1043 0; have hfz12_1 := bfz BK1043 1) | (go_at_call 21; (with_reducible refine (itv_None.calls t1039 t1040 true _ A7.out).mono ?_); rintro e w13 ⟨rfl, hb⟩; have n0_ := bbF BK1038 hb; have n1_ := Aside0.mk (blk_below (g := gb1043) (o := .cells #[.int .i64 t1039, .int .i64 t1040] 23 (0, 0)) (by refine pkB ?_; refine bput (cs := #[.int .i64 t1039, .int .i64 0]) 1 ?_; refine bput (cs := #[.int .i64 0, .int .i64 0]) 0 ?_; exact BK1043.out) hb); have n2_ := bst HB hb; clear BK1038; clear BK1043; clear HB; have BK1038 := n0_; have BK1043 := n1_; have HB := n2_; clear n0_ n1_ n2_; (try clear hb)))
   repeat (go_quiet (first | ((with_reducible refine gate_dst (N := 9) rfl ?_); refine box_event ?hg (N := 9) ?hd (cs := #[.int .i64 0, .int .i64 0]) (t := 23) ?hr ?_; (case hd => rfl); (case hg => rfl); (case hr => first | (go_simp; done) | (go_simp; rfl)); intro gb1043 hg w10 hbox hb; have n0_ := bst HB hb; have n1_ := Aside0.mk (hbox); have n2_ := bsz HB hg; have n3_ := bsz HB hg; have n4_ := bn1 BK1038 hg; have n5_ := bn2 BK1038 hg; replace BK1038 := bbw BK1038 hb; clear HB; have HB := n0_; have BK1043 := n1_; have GW1043 := n2_; have GE1043 := n3_; have NB1038_1043 := n4_; have NB1043_1038 := n5_; clear n0_ n1_ n2_ n3_ n4_ n5_; clear hb hbox hg; have hnb11 := nn NB1043_1038 NB1038_1043; have hcz12_0 := hcz BK1043 0; have hcz12_1 := hcz BK1043 1; have hfz12_0 := bfz BK1043 0; have hfz12_1 := bfz BK1043 1) | (go_at_call 21; (with_reducible refine (itv_None.calls t1039 t1040 true _ A7.out).mono ?_); rintro e w13 ⟨rfl, hb⟩; have n0_ := bbF BK1038 hb; have n1_ := Aside0.mk (blk_below (g := gb1043) (o := .cells #[.int .i64 t1039, .int .i64 t1040] 23 (0, 0)) (by refine pkB ?_; refine bput (cs := #[.int .i64 t1039, .int .i64 0]) 1 ?_; refine bput (cs := #[.int .i64 0, .int .i64 0]) 0 ?_; exact BK1043.out) hb); have n2_ := bst HB hb; clear BK1038; clear BK1043; clear HB; have BK1038 := n0_; have BK1043 := n1_; have HB := n2_; clear n0_ n1_ n2_; (try clear hb))); try go_wp2_with (first | ((with_reducible refine gate_dst (N := 9) rfl ?_); refine box_event ?hg (N := 9) ?hd (cs := #[.int .i64 0, .int .i64 0]) (t := 23) ?hr ?_; (case hd => rfl); (case hg => rfl); (case hr => first | (go_simp; done) | (go_simp; rfl)); intro gb1043 hg w10 hbox hb; have n0_ := bst HB hb; have n1_ := Aside0.mk (hbox); have n2_ := bsz HB hg; have n3_ := bsz HB hg; have n4_ := bn1 BK1038 hg; have n5_ := bn2 BK1038 hg; replace BK1038 := bbw BK1038 hb; clear HB; have HB := n0_; have BK1043 := n1_; have GW1043 := n2_; have GE1043 := n3_; have NB1038_1043 := n4_; have NB1043_1038 := n5_; clear n0_ n1_ n2_ n3_ n4_ n5_; clear hb hbox hg; have hnb11 := nn NB1043_1038 NB1038_1043; have hcz12_0 := hcz BK1043 0; have hcz12_1 := hcz BK1043 1; have hfz12_0 := bfz BK1043 0; have hfz12_1 := bfz BK1043 1) | (go_at_call 21; (with_reducible refine (itv_None.calls t1039 t1040 true _ A7.out).mono ?_); rintro e w13 ⟨rfl, hb⟩; have n0_ := bbF BK1038 hb; have n1_ := Aside0.mk (blk_below (g := gb1043) (o := .cells #[.int .i64 t1039, .int .i64 t1040] 23 (0, 0)) (by refine pkB ?_; refine bput (cs := #[.int .i64 t1039, .int .i64 0]) 1 ?_; refine bput (cs := #[.int .i64 0, .int .i64 0]) 0 ?_; exact BK1043.out) hb); have n2_ := bst HB hb; clear BK1038; clear BK1043; clear HB; have BK1038 := n0_; have BK1043 := n1_; have HB := n2_; clear n0_ n1_ n2_; (try clear hb))))
   refine looped_round (fun K_ hK_ => ?_)
   have H := HC9.out
   clear HC9
   try clear c1
   try clear p2
   try clear c8
   try clear c9
   try clear c11
   try clear hcz12_0
   try clear hcz12_1
   try clear hcz5_0
   try clear hcz5_1
   try clear hfz12_0
   try clear hfz12_1
   try clear hfz5_0
   try clear hfz5_1
   try clear p2
   replace H := bnH H
   obtain ⟨t1046, A140, H⟩ := H
   replace H : (if t1046 = true then (some (4611686018427387904, 0, false)) else ((itv_Abs.f k t1041 t1042).bind fun bt1047 => (some (mn 4611686018427387904 bt1047.1, mx 0 bt1047.2, true)))) = some (r1, r2, r3) := H
   have A14 := Aside0.mk A140
   clear A140
   by_cases c15 : t1046 = true
   ·
    subst c15
    have H1 : (some (4611686018427387904, 0, false)) = some (r1, r2, r3) := by rw [if_pos rfl] at H; exact H
    clear H
    have H := H1
    clear H1
    have HC16 := Aside0.mk H
    clear H
    go_wp2_with (first | ((with_reducible refine gate_dst (N := 9) rfl ?_); refine box_event ?hg (N := 9) ?hd (cs := #[.int .i64 0, .int .i64 0]) (t := 23) ?hr ?_; (case hd => rfl); (case hg => rfl); (case hr => first | (go_simp; done) | (go_simp; rfl)); intro gb1045 hg w17 hbox hb; have n0_ := bst HB hb; have n1_ := Aside0.mk (hbox); have n2_ := bsz HB hg; have n3_ := bsz HB hg; have n4_ := bn1 BK1038 hg; have n5_ := bn2 BK1038 hg; have n6_ := bn1 BK1043 hg; have n7_ := bn2 BK1043 hg; replace BK1038 := bbw BK1038 hb; replace BK1043 := bbw BK1043 hb; clear HB; have HB := n0_; have BK1045 := n1_; have GW1045 := n2_; have GE1045 := n3_; have NB1038_1045 := n4_; have NB1045_1038 := n5_; have NB1043_1045 := n6_; have NB1045_1043 := n7_; clear n0_ n1_ n2_ n3_ n4_ n5_ n6_ n7_; clear hb hbox hg; have hnb18 := nn NB1045_1038 NB1038_1045; have hnb19 := nn NB1045_1043 NB1043_1045; have hcz20_0 := hcz BK1045 0; have hcz20_1 := hcz BK1045 1; have hfz20_0 := bfz BK1045 0; have hfz20_1 := bfz BK1045 1) | (go_at_call 21; (with_reducible refine (itv_None.calls t1041 t1042 true _ A14.out).mono ?_); rintro e w21 ⟨rfl, hb⟩; have n0_ := bbF BK1038 hb; have n1_ := bbF BK1043 hb; have n2_ := Aside0.mk (blk_below (g := gb1045) (o := .cells #[.int .i64 t1041, .int .i64 t1042] 23 (0, 0)) (by refine pkB ?_; refine bput (cs := #[.int .i64 t1041, .int .i64 0]) 1 ?_; refine bput (cs := #[.int .i64 0, .int .i64 0]) 0 ?_; exact BK1045.out) hb); have n3_ := bst HB hb; clear BK1038; clear BK1043; clear BK1045; clear HB; have BK1038 := n0_; have BK1043 := n1_; have BK1045 := n2_; have HB := n3_; clear n0_ n1_ n2_ n3_; (try clear hb)))
    repeat (go_quiet (first | ((with_reducible refine gate_dst (N := 9) rfl ?_); refine box_event ?hg (N := 9) ?hd (cs := #[.int .i64 0, .int .i64 0]) (t := 23) ?hr ?_; (case hd => rfl); (case hg => rfl); (case hr => first | (go_simp; done) | (go_simp; rfl)); intro gb1045 hg w17 hbox hb; have n0_ := bst HB hb; have n1_ := Aside0.mk (hbox); have n2_ := bsz HB hg; have n3_ := bsz HB hg; have n4_ := bn1 BK1038 hg; have n5_ := bn2 BK1038 hg; have n6_ := bn1 BK1043 hg; have n7_ := bn2 BK1043 hg; replace BK1038 := bbw BK1038 hb; replace BK1043 := bbw BK1043 hb; clear HB; have HB := n0_; have BK1045 := n1_; have GW1045 := n2_; have GE1045 := n3_; have NB1038_1045 := n4_; have NB1045_1038 := n5_; have NB1043_1045 := n6_; have NB1045_1043 := n7_; clear n0_ n1_ n2_ n3_ n4_ n5_ n6_ n7_; clear hb hbox hg; have hnb18 := nn NB1045_1038 NB1038_1045; have hnb19 := nn NB1045_1043 NB1043_1045; have hcz20_0 := hcz BK1045 0; have hcz20_1 := hcz BK1045 1; have hfz20_0 := bfz BK1045 0; have hfz20_1 := bfz BK1045 1) | (go_at_call 21; (with_reducible refine (itv_None.calls t1041 t1042 true _ A14.out).mono ?_); rintro e w21 ⟨rfl, hb⟩; have n0_ := bbF BK1038 hb; have n1_ := bbF BK1043 hb; have n2_ := Aside0.mk (blk_below (g := gb1045) (o := .cells #[.int .i64 t1041, .int .i64 t1042] 23 (0, 0)) (by refine pkB ?_; refine bput (cs := #[.int .i64 t1041, .int .i64 0]) 1 ?_; refine bput (cs := #[.int .i64 0, .int .i64 0]) 0 ?_; exact BK1045.out) hb); have n3_ := bst HB hb; clear BK1038; clear BK1043; clear BK1045; clear HB; have BK1038 := n0_; have BK1043 := n1_; have BK1045 := n2_; have HB := n3_; clear n0_ n1_ n2_ n3_; (try clear hb))); try go_wp2_with (first | ((with_reducible refine gate_dst (N := 9) rfl ?_); refine box_event ?hg (N := 9) ?hd (cs := #[.int .i64 0, .int .i64 0]) (t := 23) ?hr ?_; (case hd => rfl); (case hg => rfl); (case hr => first | (go_simp; done) | (go_simp; rfl)); intro gb1045 hg w17 hbox hb; have n0_ := bst HB hb; have n1_ := Aside0.mk (hbox); have n2_ := bsz HB hg; have n3_ := bsz HB hg; have n4_ := bn1 BK1038 hg; have n5_ := bn2 BK1038 hg; have n6_ := bn1 BK1043 hg; have n7_ := bn2 BK1043 hg; replace BK1038 := bbw BK1038 hb; replace BK1043 := bbw BK1043 hb; clear HB; have HB := n0_; have BK1045 := n1_; have GW1045 := n2_; have GE1045 := n3_; have NB1038_1045 := n4_; have NB1045_1038 := n5_; have NB1043_1045 := n6_; have NB1045_1043 := n7_; clear n0_ n1_ n2_ n3_ n4_ n5_ n6_ n7_; clear hb hbox hg; have hnb18 := nn NB1045_1038 NB1038_1045; have hnb19 := nn NB1045_1043 NB1043_1045; have hcz20_0 := hcz BK1045 0; have hcz20_1 := hcz BK1045 1; have hfz20_0 := bfz BK1045 0; have hfz20_1 := bfz BK1045 1) | (go_at_call 21; (with_reducible refine (itv_None.calls t1041 t1042 true _ A14.out).mono ?_); rintro e w21 ⟨rfl, hb⟩; have n0_ := bbF BK1038 hb; have n1_ := bbF BK1043 hb; have n2_ := Aside0.mk (blk_below (g := gb1045) (o := .cells #[.int .i64 t1041, .int .i64 t1042] 23 (0, 0)) (by refine pkB ?_; refine bput (cs := #[.int .i64 t1041, .int .i64 0]) 1 ?_; refine bput (cs := #[.int .i64 0, .int .i64 0]) 0 ?_; exact BK1045.out) hb); have n3_ := bst HB hb; clear BK1038; clear BK1043; clear BK1045; clear HB; have BK1038 := n0_; have BK1043 := n1_; have BK1045 := n2_; have HB := n3_; clear n0_ n1_ n2_ n3_; (try clear hb))))
    refine looped_round (fun K_ hK_ => ?_)
    have H := HC16.out
    clear HC16
    try clear c1
    try clear p2
    try clear c8
    try clear c9
    try clear c11
    try clear c15
    try clear c18
    try clear c19
    try clear hcz12_0
    try clear hcz12_1
    try clear hcz20_0
    try clear hcz20_1
    try clear hcz5_0
    try clear hcz5_1
    try clear hfz12_0
    try clear hfz12_1
    try clear hfz20_0
    try clear hfz20_1
    try clear hfz5_0
    try clear hfz5_1
    try clear p2
    simp only [Option.some.injEq, Prod.mk.injEq] at H
    obtain ⟨rfl, rfl, rfl⟩ := H
    go_wp2
    repeat (go_quiet (fail); try go_wp2)
    go_ret3
    exact ⟨by first | rfl | (simp [errW_none, errW_some] <;> rfl) | (simp [*, errW_none, errW_some] <;> rfl) | kernel_rfl, (bpk HB).out⟩
   ·
    replace c15 := Bool.eq_false_iff.mpr c15
    subst c15
    have H1 : ((itv_Abs.f k t1041 t1042).bind fun bt1047 => (some (mn 4611686018427387904 bt1047.1, mx 0 bt1047.2, true))) = some (r1, r2, r3) := by rw [if_neg (show ¬ (false = true) by decide)] at H; exact H
    clear H
    have H := H1
    clear H1
    replace H := bnH H
    obtain ⟨⟨t1047, t1048⟩, A220, H⟩ := H
    replace H : (some (mn 4611686018427387904 t1047, mx 0 t1048, true)) = some (r1, r2, r3) := H
    have A22 := Aside0.mk A220
    clear A220
    obtain ⟨ji23, hji23⟩ : ∃ j_ : Int, (mn 4611686018427387904 t1047) = j_ := ⟨_, rfl⟩
    replace H : (some (ji23, mx 0 t1048, true)) = some (r1, r2, r3) := by first | (rw [hji23] at H; exact H) | (simp only [hji23] at H ⊢; exact H)
    (try rw [hji23] at A14)
    (try rw [hji23] at A22)
    (try (have hji23h : ji23 ≤ 4611686018427387904 := by (rw [← hji23]; unfold mn; (repeat' split) <;> omega)))
    (try (have hji23g : ji23 ≤ 64 := by omega))
    have hji23_ : (if t1047 < 4611686018427387904 then t1047 else 4611686018427387904) = ji23 := hji23
    obtain ⟨ji24, hji24⟩ : ∃ j_ : Int, (mx 0 t1048) = j_ := ⟨_, rfl⟩
    replace H : (some (ji23, ji24, true)) = some (r1, r2, r3) := by first | (rw [hji24] at H; exact H) | (simp only [hji24] at H ⊢; exact H)
    (try rw [hji24] at A14)
    (try rw [hji24] at A22)
    (try (have hji24l : 0 ≤ ji24 := by (rw [← hji24]; unfold mx; (repeat' split) <;> omega)))
    (try (have hji24m : 0 ≤ ji24 := by omega))
    have hji24_ : (if 0 < t1048 then t1048 else 0) = ji24 := hji24
    have HC25 := Aside0.mk H
    clear H
    go_wp2_with (first | ((with_reducible refine gate_dst (N := 9) rfl ?_); refine box_event ?hg (N := 9) ?hd (cs := #[.int .i64 0, .int .i64 0]) (t := 23) ?hr ?_; (case hd => rfl); (case hg => rfl); (case hr => first | (go_simp; done) | (go_simp; rfl)); intro gb1045 hg w26 hbox hb; have n0_ := bst HB hb; have n1_ := Aside0.mk (hbox); have n2_ := bsz HB hg; have n3_ := bsz HB hg; have n4_ := bn1 BK1038 hg; have n5_ := bn2 BK1038 hg; have n6_ := bn1 BK1043 hg; have n7_ := bn2 BK1043 hg; replace BK1038 := bbw BK1038 hb; replace BK1043 := bbw BK1043 hb; clear HB; have HB := n0_; have BK1045 := n1_; have GW1045 := n2_; have GE1045 := n3_; have NB1038_1045 := n4_; have NB1045_1038 := n5_; have NB1043_1045 := n6_; have NB1045_1043 := n7_; clear n0_ n1_ n2_ n3_ n4_ n5_ n6_ n7_; clear hb hbox hg; have hnb27 := nn NB1045_1038 NB1038_1045; have hnb28 := nn NB1045_1043 NB1043_1045; have hcz29_0 := hcz BK1045 0; have hcz29_1 := hcz BK1045 1; have hfz29_0 := bfz BK1045 0; have hfz29_1 := bfz BK1045 1) | (go_at_call 21; (with_reducible refine (itv_None.calls t1041 t1042 false _ A14.out).mono ?_); rintro e w30 ⟨rfl, hb⟩; have n0_ := bbF BK1038 hb; have n1_ := bbF BK1043 hb; have n2_ := Aside0.mk (blk_below (g := gb1045) (o := .cells #[.int .i64 t1041, .int .i64 t1042] 23 (0, 0)) (by refine pkB ?_; refine bput (cs := #[.int .i64 t1041, .int .i64 0]) 1 ?_; refine bput (cs := #[.int .i64 0, .int .i64 0]) 0 ?_; exact BK1045.out) hb); have n3_ := bst HB hb; clear BK1038; clear BK1043; clear BK1045; clear HB; have BK1038 := n0_; have BK1043 := n1_; have BK1045 := n2_; have HB := n3_; clear n0_ n1_ n2_ n3_; (try clear hb); have hcz31_0 := hcz BK1045 0; have hcz31_1 := hcz BK1045 1; have hfz31_0 := bfz BK1045 0; have hfz31_1 := bfz BK1045 1) | (go_at_call 47; (with_reducible refine (itv_Abs.calls k t1041 t1042 t1047 t1048 _ A22.out).mono ?_); rintro e w32 ⟨rfl, hb⟩; have n0_ := bst HB hb; replace BK1038 := bbw BK1038 hb; replace BK1043 := bbw BK1043 hb; replace BK1045 := bbw BK1045 hb; clear HB; have HB := n0_; clear n0_; (try clear hb)) | ((with_reducible refine gate_dst (N := 10) rfl ?_); refine box_event ?hg (N := 10) ?hd (cs := #[.int .i64 0, .int .i64 0]) (t := 23) ?hr ?_; (case hd => rfl); (case hg => rfl); (case hr => first | (go_simp; done) | (go_simp; rfl)); intro gb1049 hg w33 hbox hb; have n0_ := bst HB hb; have n1_ := Aside0.mk (hbox); have n2_ := bsz HB hg; have n3_ := bsz HB hg; have n4_ := bn1 BK1038 hg; have n5_ := bn2 BK1038 hg; have n6_ := bn1 BK1043 hg; have n7_ := bn2 BK1043 hg; have n8_ := bn1 BK1045 hg; have n9_ := bn2 BK1045 hg; replace BK1038 := bbw BK1038 hb; replace BK1043 := bbw BK1043 hb; replace BK1045 := bbw BK1045 hb; clear HB; have HB := n0_; have BK1049 := n1_; have GW1049 := n2_; have GE1049 := n3_; have NB1038_1049 := n4_; have NB1049_1038 := n5_; have NB1043_1049 := n6_; have NB1049_1043 := n7_; have NB1045_1049 := n8_; have NB1049_1045 := n9_; clear n0_ n1_ n2_ n3_ n4_ n5_ n6_ n7_ n8_ n9_; clear hb hbox hg; have hnb34 := nn NB1049_1038 NB1038_1049; have hnb35 := nn NB1049_1043 NB1043_1049; have hnb36 := nn NB1049_1045 NB1045_1049; have hcz37_0 := hcz BK1049 0; have hcz37_1 := hcz BK1049 1; have hfz37_0 := bfz BK1049 0; have hfz37_1 := bfz BK1049 1))
    repeat (go_quiet (first | ((with_reducible refine gate_dst (N := 9) rfl ?_); refine box_event ?hg (N := 9) ?hd (cs := #[.int .i64 0, .int .i64 0]) (t := 23) ?hr ?_; (case hd => rfl); (case hg => rfl); (case hr => first | (go_simp; done) | (go_simp; rfl)); intro gb1045 hg w26 hbox hb; have n0_ := bst HB hb; have n1_ := Aside0.mk (hbox); have n2_ := bsz HB hg; have n3_ := bsz HB hg; have n4_ := bn1 BK1038 hg; have n5_ := bn2 BK1038 hg; have n6_ := bn1 BK1043 hg; have n7_ := bn2 BK1043 hg; replace BK1038 := bbw BK1038 hb; replace BK1043 := bbw BK1043 hb; clear HB; have HB := n0_; have BK1045 := n1_; have GW1045 := n2_; have GE1045 := n3_; have NB1038_1045 := n4_; have NB1045_1038 := n5_; have NB1043_1045 := n6_; have NB1045_1043 := n7_; clear n0_ n1_ n2_ n3_ n4_ n5_ n6_ n7_; clear hb hbox hg; have hnb27 := nn NB1045_1038 NB1038_1045; have hnb28 := nn NB1045_1043 NB1043_1045; have hcz29_0 := hcz BK1045 0; have hcz29_1 := hcz BK1045 1; have hfz29_0 := bfz BK1045 0; have hfz29_1 := bfz BK1045 1) | (go_at_call 21; (with_reducible refine (itv_None.calls t1041 t1042 false _ A14.out).mono ?_); rintro e w30 ⟨rfl, hb⟩; have n0_ := bbF BK1038 hb; have n1_ := bbF BK1043 hb; have n2_ := Aside0.mk (blk_below (g := gb1045) (o := .cells #[.int .i64 t1041, .int .i64 t1042] 23 (0, 0)) (by refine pkB ?_; refine bput (cs := #[.int .i64 t1041, .int .i64 0]) 1 ?_; refine bput (cs := #[.int .i64 0, .int .i64 0]) 0 ?_; exact BK1045.out) hb); have n3_ := bst HB hb; clear BK1038; clear BK1043; clear BK1045; clear HB; have BK1038 := n0_; have BK1043 := n1_; have BK1045 := n2_; have HB := n3_; clear n0_ n1_ n2_ n3_; (try clear hb); have hcz31_0 := hcz BK1045 0; have hcz31_1 := hcz BK1045 1; have hfz31_0 := bfz BK1045 0; have hfz31_1 := bfz BK1045 1) | (go_at_call 47; (with_reducible refine (itv_Abs.calls k t1041 t1042 t1047 t1048 _ A22.out).mono ?_); rintro e w32 ⟨rfl, hb⟩; have n0_ := bst HB hb; replace BK1038 := bbw BK1038 hb; replace BK1043 := bbw BK1043 hb; replace BK1045 := bbw BK1045 hb; clear HB; have HB := n0_; clear n0_; (try clear hb)) | ((with_reducible refine gate_dst (N := 10) rfl ?_); refine box_event ?hg (N := 10) ?hd (cs := #[.int .i64 0, .int .i64 0]) (t := 23) ?hr ?_; (case hd => rfl); (case hg => rfl); (case hr => first | (go_simp; done) | (go_simp; rfl)); intro gb1049 hg w33 hbox hb; have n0_ := bst HB hb; have n1_ := Aside0.mk (hbox); have n2_ := bsz HB hg; have n3_ := bsz HB hg; have n4_ := bn1 BK1038 hg; have n5_ := bn2 BK1038 hg; have n6_ := bn1 BK1043 hg; have n7_ := bn2 BK1043 hg; have n8_ := bn1 BK1045 hg; have n9_ := bn2 BK1045 hg; replace BK1038 := bbw BK1038 hb; replace BK1043 := bbw BK1043 hb; replace BK1045 := bbw BK1045 hb; clear HB; have HB := n0_; have BK1049 := n1_; have GW1049 := n2_; have GE1049 := n3_; have NB1038_1049 := n4_; have NB1049_1038 := n5_; have NB1043_1049 := n6_; have NB1049_1043 := n7_; have NB1045_1049 := n8_; have NB1049_1045 := n9_; clear n0_ n1_ n2_ n3_ n4_ n5_ n6_ n7_ n8_ n9_; clear hb hbox hg; have hnb34 := nn NB1049_1038 NB1038_1049; have hnb35 := nn NB1049_1043 NB1043_1049; have hnb36 := nn NB1049_1045 NB1045_1049; have hcz37_0 := hcz BK1049 0; have hcz37_1 := hcz BK1049 1; have hfz37_0 := bfz BK1049 0; have hfz37_1 := bfz BK1049 1)); try go_wp2_with (first | ((with_reducible refine gate_dst (N := 9) rfl ?_); refine box_event ?hg (N := 9) ?hd (cs := #[.int .i64 0, .int .i64 0]) (t := 23) ?hr ?_; (case hd => rfl); (case hg => rfl); (case hr => first | (go_simp; done) | (go_simp; rfl)); intro gb1045 hg w26 hbox hb; have n0_ := bst HB hb; have n1_ := Aside0.mk (hbox); have n2_ := bsz HB hg; have n3_ := bsz HB hg; have n4_ := bn1 BK1038 hg; have n5_ := bn2 BK1038 hg; have n6_ := bn1 BK1043 hg; have n7_ := bn2 BK1043 hg; replace BK1038 := bbw BK1038 hb; replace BK1043 := bbw BK1043 hb; clear HB; have HB := n0_; have BK1045 := n1_; have GW1045 := n2_; have GE1045 := n3_; have NB1038_1045 := n4_; have NB1045_1038 := n5_; have NB1043_1045 := n6_; have NB1045_1043 := n7_; clear n0_ n1_ n2_ n3_ n4_ n5_ n6_ n7_; clear hb hbox hg; have hnb27 := nn NB1045_1038 NB1038_1045; have hnb28 := nn NB1045_1043 NB1043_1045; have hcz29_0 := hcz BK1045 0; have hcz29_1 := hcz BK1045 1; have hfz29_0 := bfz BK1045 0; have hfz29_1 := bfz BK1045 1) | (go_at_call 21; (with_reducible refine (itv_None.calls t1041 t1042 false _ A14.out).mono ?_); rintro e w30 ⟨rfl, hb⟩; have n0_ := bbF BK1038 hb; have n1_ := bbF BK1043 hb; have n2_ := Aside0.mk (blk_below (g := gb1045) (o := .cells #[.int .i64 t1041, .int .i64 t1042] 23 (0, 0)) (by refine pkB ?_; refine bput (cs := #[.int .i64 t1041, .int .i64 0]) 1 ?_; refine bput (cs := #[.int .i64 0, .int .i64 0]) 0 ?_; exact BK1045.out) hb); have n3_ := bst HB hb; clear BK1038; clear BK1043; clear BK1045; clear HB; have BK1038 := n0_; have BK1043 := n1_; have BK1045 := n2_; have HB := n3_; clear n0_ n1_ n2_ n3_; (try clear hb); have hcz31_0 := hcz BK1045 0; have hcz31_1 := hcz BK1045 1; have hfz31_0 := bfz BK1045 0; have hfz31_1 := bfz BK1045 1) | (go_at_call 47; (with_reducible refine (itv_Abs.calls k t1041 t1042 t1047 t1048 _ A22.out).mono ?_); rintro e w32 ⟨rfl, hb⟩; have n0_ := bst HB hb; replace BK1038 := bbw BK1038 hb; replace BK1043 := bbw BK1043 hb; replace BK1045 := bbw BK1045 hb; clear HB; have HB := n0_; clear n0_; (try clear hb)) | ((with_reducible refine gate_dst (N := 10) rfl ?_); refine box_event ?hg (N := 10) ?hd (cs := #[.int .i64 0, .int .i64 0]) (t := 23) ?hr ?_; (case hd => rfl); (case hg => rfl); (case hr => first | (go_simp; done) | (go_simp; rfl)); intro gb1049 hg w33 hbox hb; have n0_ := bst HB hb; have n1_ := Aside0.mk (hbox); have n2_ := bsz HB hg; have n3_ := bsz HB hg; have n4_ := bn1 BK1038 hg; have n5_ := bn2 BK1038 hg; have n6_ := bn1 BK1043 hg; have n7_ := bn2 BK1043 hg; have n8_ := bn1 BK1045 hg; have n9_ := bn2 BK1045 hg; replace BK1038 := bbw BK1038 hb; replace BK1043 := bbw BK1043 hb; replace BK1045 := bbw BK1045 hb; clear HB; have HB := n0_; have BK1049 := n1_; have GW1049 := n2_; have GE1049 := n3_; have NB1038_1049 := n4_; have NB1049_1038 := n5_; have NB1043_1049 := n6_; have NB1049_1043 := n7_; have NB1045_1049 := n8_; have NB1049_1045 := n9_; clear n0_ n1_ n2_ n3_ n4_ n5_ n6_ n7_ n8_ n9_; clear hb hbox hg; have hnb34 := nn NB1049_1038 NB1038_1049; have hnb35 := nn NB1049_1043 NB1043_1049; have hnb36 := nn NB1049_1045 NB1045_1049; have hcz37_0 := hcz BK1049 0; have hcz37_1 := hcz BK1049 1; have hfz37_0 := bfz BK1049 0; have hfz37_1 := bfz BK1049 1)))
    refine looped_round (fun K_ hK_ => ?_)
    have H := HC25.out
    clear HC25
    try clear c1
    try clear c2
    try clear p2
    try clear c3
    try clear c8
    try clear c9
    try clear c11
    try clear c15
    try clear c18
    try clear c19
    try clear c27
    try clear c28
    try clear c34
    try clear c35
    try clear c36
    try clear hcz12_0
    try clear hcz12_1
    try clear hcz20_0
    try clear hcz20_1
    try clear hcz29_0
    try clear hcz29_1
    try clear hcz31_0
    try clear hcz31_1
    try clear hcz37_0
    try clear hcz37_1
    try clear hcz5_0
    try clear hcz5_1
    try clear hfz12_0
    try clear hfz12_1
    try clear hfz20_0
    try clear hfz20_1
    try clear hfz29_0
    try clear hfz29_1
    try clear hfz31_0
    try clear hfz31_1
    try clear hfz37_0
    try clear hfz37_1
    try clear hfz5_0
    try clear hfz5_1
    try clear p2
    simp only [Option.some.injEq, Prod.mk.injEq] at H
    obtain ⟨rfl, rfl, rfl⟩ := H
    go_wp2
    repeat (go_quiet (fail); try go_wp2)
    go_ret3
    exact ⟨by first | rfl | (simp [errW_none, errW_some] <;> rfl) | (simp only [← hji23, ← hji24]; first | rfl | (simp [errW_none, errW_some] <;> rfl)) | (simp [*, errW_none, errW_some] <;> rfl) | kernel_rfl, (bpk HB).out⟩
  ·
   replace c8 := Bool.eq_false_iff.mpr c8
   subst c8
   have H1 : ((itv_Abs.f k t1039 t1040).bind fun bt1050 => ((itv_None.f t1041 t1042).bind fun t1054 => (if t1054 = true then (some (mn 4611686018427387904 bt1050.1, mx 0 bt1050.2, true)) else ((itv_Abs.f k t1041 t1042).bind fun bt1055 => (some (mn (mn 4611686018427387904 bt1050.1) bt1055.1, mx (mx 0 bt1050.2) bt1055.2, true)))))) = some (r1, r2, r3) := by rw [if_neg (show ¬ (false = true) by decide)] at H; exact H
   clear H
   have H := H1
   clear H1
   replace H := bnH H
   obtain ⟨⟨t1050, t1051⟩, A380, H⟩ := H
   replace H : ((itv_None.f t1041 t1042).bind fun t1054 => (if t1054 = true then (some (mn 4611686018427387904 t1050, mx 0 t1051, true)) else ((itv_Abs.f k t1041 t1042).bind fun bt1055 => (some (mn (mn 4611686018427387904 t1050) bt1055.1, mx (mx 0 t1051) bt1055.2, true))))) = some (r1, r2, r3) := H
   have A38 := Aside0.mk A380
   clear A380
   obtain ⟨ji39, hji39⟩ : ∃ j_ : Int, (mn 4611686018427387904 t1050) = j_ := ⟨_, rfl⟩
   replace H : ((itv_None.f t1041 t1042).bind fun t1054 => (if t1054 = true then (some (ji39, mx 0 t1051, true)) else ((itv_Abs.f k t1041 t1042).bind fun bt1055 => (some (mn (ji39) bt1055.1, mx (mx 0 t1051) bt1055.2, true))))) = some (r1, r2, r3) := by first | (rw [hji39] at H; exact H) | (simp only [hji39] at H ⊢; exact H)
   (try rw [hji39] at A7)
   (try rw [hji39] at A38)
   (try (have hji39h : ji39 ≤ 4611686018427387904 := by (rw [← hji39]; unfold mn; (repeat' split) <;> omega)))
   (try (have hji39g : ji39 ≤ 64 := by omega))
   have hji39_ : (if t1050 < 4611686018427387904 then t1050 else 4611686018427387904) = ji39 := hji39
   obtain ⟨ji40, hji40⟩ : ∃ j_ : Int, (mx 0 t1051) = j_ := ⟨_, rfl⟩
   replace H : ((itv_None.f t1041 t1042).bind fun t1054 => (if t1054 = true then (some (ji39, ji40, true)) else ((itv_Abs.f k t1041 t1042).bind fun bt1055 => (some (mn (ji39) bt1055.1, mx (ji40) bt1055.2, true))))) = some (r1, r2, r3) := by first | (rw [hji40] at H; exact H) | (simp only [hji40] at H ⊢; exact H)
   (try rw [hji40] at A7)
   (try rw [hji40] at A38)
   (try (have hji40l : 0 ≤ ji40 := by (rw [← hji40]; unfold mx; (repeat' split) <;> omega)))
   (try (have hji40m : 0 ≤ ji40 := by omega))
   have hji40_ : (if 0 < t1051 then t1051 else 0) = ji40 := hji40
   have HC41 := Aside0.mk H
   clear H
   go_wp2_with (first | ((with_reducible refine gate_dst (N := 9) rfl ?_); refine box_event ?hg (N := 9) ?hd (cs := #[.int .i64 0, .int .i64 0]) (t := 23) ?hr ?_; (case hd => rfl); (case hg => rfl); (case hr => first | (go_simp; done) | (go_simp; rfl)); intro gb1043 hg w42 hbox hb; have n0_ := bst HB hb; have n1_ := Aside0.mk (hbox); have n2_ := bsz HB hg; have n3_ := bsz HB hg; have n4_ := bn1 BK1038 hg; have n5_ := bn2 BK1038 hg; replace BK1038 := bbw BK1038 hb; clear HB; have HB := n0_; have BK1043 := n1_; have GW1043 := n2_; have GE1043 := n3_; have NB1038_1043 := n4_; have NB1043_1038 := n5_; clear n0_ n1_ n2_ n3_ n4_ n5_; clear hb hbox hg; have hnb43 := nn NB1043_1038 NB1038_1043; have hcz44_0 := hcz BK1043 0; have hcz44_1 := hcz BK1043 1; have hfz44_0 := bfz BK1043 0; have hfz44_1 := bfz BK1043 1) | (go_at_call 21; (with_reducible refine (itv_None.calls t1039 t1040 false _ A7.out).mono ?_); rintro e w45 ⟨rfl, hb⟩; have n0_ := bbF BK1038 hb; have n1_ := Aside0.mk (blk_below (g := gb1043) (o := .cells #[.int .i64 t1039, .int .i64 t1040] 23 (0, 0)) (by refine pkB ?_; refine bput (cs := #[.int .i64 t1039, .int .i64 0]) 1 ?_; refine bput (cs := #[.int .i64 0, .int .i64 0]) 0 ?_; exact BK1043.out) hb); have n2_ := bst HB hb; clear BK1038; clear BK1043; clear HB; have BK1038 := n0_; have BK1043 := n1_; have HB := n2_; clear n0_ n1_ n2_; (try clear hb); have hcz46_0 := hcz BK1043 0; have hcz46_1 := hcz BK1043 1; have hfz46_0 := bfz BK1043 0; have hfz46_1 := bfz BK1043 1) | (go_at_call 47; (with_reducible refine (itv_Abs.calls k t1039 t1040 t1050 t1051 _ A38.out).mono ?_); rintro e w47 ⟨rfl, hb⟩; have n0_ := bst HB hb; replace BK1038 := bbw BK1038 hb; replace BK1043 := bbw BK1043 hb; clear HB; have HB := n0_; clear n0_; (try clear hb)) | ((with_reducible refine gate_dst (N := 10) rfl ?_); refine box_event ?hg (N := 10) ?hd (cs := #[.int .i64 0, .int .i64 0]) (t := 23) ?hr ?_; (case hd => rfl); (case hg => rfl); (case hr => first | (go_simp; done) | (go_simp; rfl)); intro gb1052 hg w48 hbox hb; have n0_ := bst HB hb; have n1_ := Aside0.mk (hbox); have n2_ := bsz HB hg; have n3_ := bsz HB hg; have n4_ := bn1 BK1038 hg; have n5_ := bn2 BK1038 hg; have n6_ := bn1 BK1043 hg; have n7_ := bn2 BK1043 hg; replace BK1038 := bbw BK1038 hb; replace BK1043 := bbw BK1043 hb; clear HB; have HB := n0_; have BK1052 := n1_; have GW1052 := n2_; have GE1052 := n3_; have NB1038_1052 := n4_; have NB1052_1038 := n5_; have NB1043_1052 := n6_; have NB1052_1043 := n7_; clear n0_ n1_ n2_ n3_ n4_ n5_ n6_ n7_; clear hb hbox hg; have hnb49 := nn NB1052_1038 NB1038_1052; have hnb50 := nn NB1052_1043 NB1043_1052; have hcz51_0 := hcz BK1052 0; have hcz51_1 := hcz BK1052 1; have hfz51_0 := bfz BK1052 0; have hfz51_1 := bfz BK1052 1))
   repeat (go_quiet (first | ((with_reducible refine gate_dst (N := 9) rfl ?_); refine box_event ?hg (N := 9) ?hd (cs := #[.int .i64 0, .int .i64 0]) (t := 23) ?hr ?_; (case hd => rfl); (case hg => rfl); (case hr => first | (go_simp; done) | (go_simp; rfl)); intro gb1043 hg w42 hbox hb; have n0_ := bst HB hb; have n1_ := Aside0.mk (hbox); have n2_ := bsz HB hg; have n3_ := bsz HB hg; have n4_ := bn1 BK1038 hg; have n5_ := bn2 BK1038 hg; replace BK1038 := bbw BK1038 hb; clear HB; have HB := n0_; have BK1043 := n1_; have GW1043 := n2_; have GE1043 := n3_; have NB1038_1043 := n4_; have NB1043_1038 := n5_; clear n0_ n1_ n2_ n3_ n4_ n5_; clear hb hbox hg; have hnb43 := nn NB1043_1038 NB1038_1043; have hcz44_0 := hcz BK1043 0; have hcz44_1 := hcz BK1043 1; have hfz44_0 := bfz BK1043 0; have hfz44_1 := bfz BK1043 1) | (go_at_call 21; (with_reducible refine (itv_None.calls t1039 t1040 false _ A7.out).mono ?_); rintro e w45 ⟨rfl, hb⟩; have n0_ := bbF BK1038 hb; have n1_ := Aside0.mk (blk_below (g := gb1043) (o := .cells #[.int .i64 t1039, .int .i64 t1040] 23 (0, 0)) (by refine pkB ?_; refine bput (cs := #[.int .i64 t1039, .int .i64 0]) 1 ?_; refine bput (cs := #[.int .i64 0, .int .i64 0]) 0 ?_; exact BK1043.out) hb); have n2_ := bst HB hb; clear BK1038; clear BK1043; clear HB; have BK1038 := n0_; have BK1043 := n1_; have HB := n2_; clear n0_ n1_ n2_; (try clear hb); have hcz46_0 := hcz BK1043 0; have hcz46_1 := hcz BK1043 1; have hfz46_0 := bfz BK1043 0; have hfz46_1 := bfz BK1043 1) | (go_at_call 47; (with_reducible refine (itv_Abs.calls k t1039 t1040 t1050 t1051 _ A38.out).mono ?_); rintro e w47 ⟨rfl, hb⟩; have n0_ := bst HB hb; replace BK1038 := bbw BK1038 hb; replace BK1043 := bbw BK1043 hb; clear HB; have HB := n0_; clear n0_; (try clear hb)) | ((with_reducible refine gate_dst (N := 10) rfl ?_); refine box_event ?hg (N := 10) ?hd (cs := #[.int .i64 0, .int .i64 0]) (t := 23) ?hr ?_; (case hd => rfl); (case hg => rfl); (case hr => first | (go_simp; done) | (go_simp; rfl)); intro gb1052 hg w48 hbox hb; have n0_ := bst HB hb; have n1_ := Aside0.mk (hbox); have n2_ := bsz HB hg; have n3_ := bsz HB hg; have n4_ := bn1 BK1038 hg; have n5_ := bn2 BK1038 hg; have n6_ := bn1 BK1043 hg; have n7_ := bn2 BK1043 hg; replace BK1038 := bbw BK1038 hb; replace BK1043 := bbw BK1043 hb; clear HB; have HB := n0_; have BK1052 := n1_; have GW1052 := n2_; have GE1052 := n3_; have NB1038_1052 := n4_; have NB1052_1038 := n5_; have NB1043_1052 := n6_; have NB1052_1043 := n7_; clear n0_ n1_ n2_ n3_ n4_ n5_ n6_ n7_; clear hb hbox hg; have hnb49 := nn NB1052_1038 NB1038_1052; have hnb50 := nn NB1052_1043 NB1043_1052; have hcz51_0 := hcz BK1052 0; have hcz51_1 := hcz BK1052 1; have hfz51_0 := bfz BK1052 0; have hfz51_1 := bfz BK1052 1)); try go_wp2_with (first | ((with_reducible refine gate_dst (N := 9) rfl ?_); refine box_event ?hg (N := 9) ?hd (cs := #[.int .i64 0, .int .i64 0]) (t := 23) ?hr ?_; (case hd => rfl); (case hg => rfl); (case hr => first | (go_simp; done) | (go_simp; rfl)); intro gb1043 hg w42 hbox hb; have n0_ := bst HB hb; have n1_ := Aside0.mk (hbox); have n2_ := bsz HB hg; have n3_ := bsz HB hg; have n4_ := bn1 BK1038 hg; have n5_ := bn2 BK1038 hg; replace BK1038 := bbw BK1038 hb; clear HB; have HB := n0_; have BK1043 := n1_; have GW1043 := n2_; have GE1043 := n3_; have NB1038_1043 := n4_; have NB1043_1038 := n5_; clear n0_ n1_ n2_ n3_ n4_ n5_; clear hb hbox hg; have hnb43 := nn NB1043_1038 NB1038_1043; have hcz44_0 := hcz BK1043 0; have hcz44_1 := hcz BK1043 1; have hfz44_0 := bfz BK1043 0; have hfz44_1 := bfz BK1043 1) | (go_at_call 21; (with_reducible refine (itv_None.calls t1039 t1040 false _ A7.out).mono ?_); rintro e w45 ⟨rfl, hb⟩; have n0_ := bbF BK1038 hb; have n1_ := Aside0.mk (blk_below (g := gb1043) (o := .cells #[.int .i64 t1039, .int .i64 t1040] 23 (0, 0)) (by refine pkB ?_; refine bput (cs := #[.int .i64 t1039, .int .i64 0]) 1 ?_; refine bput (cs := #[.int .i64 0, .int .i64 0]) 0 ?_; exact BK1043.out) hb); have n2_ := bst HB hb; clear BK1038; clear BK1043; clear HB; have BK1038 := n0_; have BK1043 := n1_; have HB := n2_; clear n0_ n1_ n2_; (try clear hb); have hcz46_0 := hcz BK1043 0; have hcz46_1 := hcz BK1043 1; have hfz46_0 := bfz BK1043 0; have hfz46_1 := bfz BK1043 1) | (go_at_call 47; (with_reducible refine (itv_Abs.calls k t1039 t1040 t1050 t1051 _ A38.out).mono ?_); rintro e w47 ⟨rfl, hb⟩; have n0_ := bst HB hb; replace BK1038 := bbw BK1038 hb; replace BK1043 := bbw BK1043 hb; clear HB; have HB := n0_; clear n0_; (try clear hb)) | ((with_reducible refine gate_dst (N := 10) rfl ?_); refine box_event ?hg (N := 10) ?hd (cs := #[.int .i64 0, .int .i64 0]) (t := 23) ?hr ?_; (case hd => rfl); (case hg => rfl); (case hr => first | (go_simp; done) | (go_simp; rfl)); intro gb1052 hg w48 hbox hb; have n0_ := bst HB hb; have n1_ := Aside0.mk (hbox); have n2_ := bsz HB hg; have n3_ := bsz HB hg; have n4_ := bn1 BK1038 hg; have n5_ := bn2 BK1038 hg; have n6_ := bn1 BK1043 hg; have n7_ := bn2 BK1043 hg; replace BK1038 := bbw BK1038 hb; replace BK1043 := bbw BK1043 hb; clear HB; have HB := n0_; have BK1052 := n1_; have GW1052 := n2_; have GE1052 := n3_; have NB1038_1052 := n4_; have NB1052_1038 := n5_; have NB1043_1052 := n6_; have NB1052_1043 := n7_; clear n0_ n1_ n2_ n3_ n4_ n5_ n6_ n7_; clear hb hbox hg; have hnb49 := nn NB1052_1038 NB1038_1052; have hnb50 := nn NB1052_1043 NB1043_1052; have hcz51_0 := hcz BK1052 0; have hcz51_1 := hcz BK1052 1; have hfz51_0 := bfz BK1052 0; have hfz51_1 := bfz BK1052 1)))
   refine looped_round (fun K_ hK_ => ?_)
   have H := HC41.out
   clear HC41
   try clear c1
   try clear c2
   try clear p2
   try clear c3
   try clear c4
   try clear c5
   try clear c8
   try clear c9
   try clear c11
   try clear c15
   try clear c18
   try clear c19
   try clear c27
   try clear c28
   try clear c34
   try clear c35
   try clear c36
   try clear c43
   try clear c49
   try clear c50
   try clear hcz12_0
   try clear hcz12_1
   try clear hcz20_0
   try clear hcz20_1
   try clear hcz29_0
   try clear hcz29_1
   try clear hcz31_0
   try clear hcz31_1
   try clear hcz37_0
   try clear hcz37_1
   try clear hcz44_0
   try clear hcz44_1
   try clear hcz46_0
   try clear hcz46_1
   try clear hcz51_0
   try clear hcz51_1
   try clear hcz5_0
   try clear hcz5_1
   try clear hfz12_0
   try clear hfz12_1
   try clear hfz20_0
   try clear hfz20_1
   try clear hfz29_0
   try clear hfz29_1
   try clear hfz31_0
   try clear hfz31_1
   try clear hfz37_0
   try clear hfz37_1
   try clear hfz44_0
   try clear hfz44_1
   try clear hfz46_0
   try clear hfz46_1
   try clear hfz51_0
   try clear hfz51_1
   try clear hfz5_0
   try clear hfz5_1
   try clear p2
   replace H := bnH H
   obtain ⟨t1054, A520, H⟩ := H
   replace H : (if t1054 = true then (some (ji39, ji40, true)) else ((itv_Abs.f k t1041 t1042).bind fun bt1055 => (some (mn (ji39) bt1055.1, mx (ji40) bt1055.2, true)))) = some (r1, r2, r3) := H
   have A52 := Aside0.mk A520
   clear A520
   by_cases c53 : t1054 = true
   ·
    subst c53
    have H1 : (some (ji39, ji40, true)) = some (r1, r2, r3) := by rw [if_pos rfl] at H; exact H
    clear H
    have H := H1
    clear H1
    have HC54 := Aside0.mk H
    clear H
    go_wp2_with (first | ((with_reducible refine gate_dst (N := 9) rfl ?_); refine box_event ?hg (N := 9) ?hd (cs := #[.int .i64 0, .int .i64 0]) (t := 23) ?hr ?_; (case hd => rfl); (case hg => rfl); (case hr => first | (go_simp; done) | (go_simp; rfl)); intro gb1053 hg w55 hbox hb; have n0_ := bbF BK1038 hb; have n1_ := bbF BK1043 hb; have n2_ := Aside0.mk (blk_below (g := gb1052) (o := .cells #[.int .i64 t1050, .int .i64 t1051] 23 (0, 0)) (by refine pkB ?_; refine bput (cs := #[.int .i64 t1050, .int .i64 0]) 1 ?_; refine bput (cs := #[.int .i64 0, .int .i64 0]) 0 ?_; exact BK1052.out) hb); have n3_ := bst HB hb; have n4_ := Aside0.mk (hbox); have n5_ := bsz HB hg; have n6_ := bsz HB hg; have n7_ := bf1 BK1038 hg; have n8_ := bf2 BK1038 hg; have n9_ := bf1 BK1043 hg; have n10_ := bf2 BK1043 hg; have n11_ := Aside0.mk ((by rw [hg]; exact Nat.ne_of_lt (blk_lt (g := gb1052) (o := .cells #[.int .i64 t1050, .int .i64 t1051] 23 (0, 0)) (by refine pkB ?_; refine bput (cs := #[.int .i64 t1050, .int .i64 0]) 1 ?_; refine bput (cs := #[.int .i64 0, .int .i64 0]) 0 ?_; exact BK1052.out)) : gb1052 ≠ gb1053)); have n12_ := Aside0.mk ((by rw [hg]; exact Nat.ne_of_gt (blk_lt (g := gb1052) (o := .cells #[.int .i64 t1050, .int .i64 t1051] 23 (0, 0)) (by refine pkB ?_; refine bput (cs := #[.int .i64 t1050, .int .i64 0]) 1 ?_; refine bput (cs := #[.int .i64 0, .int .i64 0]) 0 ?_; exact BK1052.out)) : gb1053 ≠ gb1052)); clear BK1038; clear BK1043; clear BK1052; clear HB; have BK1038 := n0_; have BK1043 := n1_; have BK1052 := n2_; have HB := n3_; have BK1053 := n4_; have GW1053 := n5_; have GE1053 := n6_; have NB1038_1053 := n7_; have NB1053_1038 := n8_; have NB1043_1053 := n9_; have NB1053_1043 := n10_; have NB1052_1053 := n11_; have NB1053_1052 := n12_; clear n0_ n1_ n2_ n3_ n4_ n5_ n6_ n7_ n8_ n9_ n10_ n11_ n12_; clear hb hbox hg; have hnb56 := nn NB1053_1038 NB1038_1053; have hnb57 := nn NB1053_1043 NB1043_1053; have hnb58 := nn NB1053_1052 NB1052_1053; have hcz59_0 := hcz BK1053 0; have hcz59_1 := hcz BK1053 1; have hfz59_0 := bfz BK1053 0; have hfz59_1 := bfz BK1053 1) | (go_at_call 21; (with_reducible refine (itv_None.calls t1041 t1042 true _ A52.out).mono ?_); rintro e w60 ⟨rfl, hb⟩; have n0_ := bbF BK1038 hb; have n1_ := bbF BK1043 hb; have n2_ := bbF BK1052 hb; have n3_ := Aside0.mk (blk_below (g := gb1053) (o := .cells #[.int .i64 t1041, .int .i64 t1042] 23 (0, 0)) (by refine pkB ?_; refine bput (cs := #[.int .i64 t1041, .int .i64 0]) 1 ?_; refine bput (cs := #[.int .i64 0, .int .i64 0]) 0 ?_; exact BK1053.out) hb); have n4_ := bst HB hb; clear BK1038; clear BK1043; clear BK1052; clear BK1053; clear HB; have BK1038 := n0_; have BK1043 := n1_; have BK1052 := n2_; have BK1053 := n3_; have HB := n4_; clear n0_ n1_ n2_ n3_ n4_; (try clear hb)))
    repeat (go_quiet (first | ((with_reducible refine gate_dst (N := 9) rfl ?_); refine box_event ?hg (N := 9) ?hd (cs := #[.int .i64 0, .int .i64 0]) (t := 23) ?hr ?_; (case hd => rfl); (case hg => rfl); (case hr => first | (go_simp; done) | (go_simp; rfl)); intro gb1053 hg w55 hbox hb; have n0_ := bbF BK1038 hb; have n1_ := bbF BK1043 hb; have n2_ := Aside0.mk (blk_below (g := gb1052) (o := .cells #[.int .i64 t1050, .int .i64 t1051] 23 (0, 0)) (by refine pkB ?_; refine bput (cs := #[.int .i64 t1050, .int .i64 0]) 1 ?_; refine bput (cs := #[.int .i64 0, .int .i64 0]) 0 ?_; exact BK1052.out) hb); have n3_ := bst HB hb; have n4_ := Aside0.mk (hbox); have n5_ := bsz HB hg; have n6_ := bsz HB hg; have n7_ := bf1 BK1038 hg; have n8_ := bf2 BK1038 hg; have n9_ := bf1 BK1043 hg; have n10_ := bf2 BK1043 hg; have n11_ := Aside0.mk ((by rw [hg]; exact Nat.ne_of_lt (blk_lt (g := gb1052) (o := .cells #[.int .i64 t1050, .int .i64 t1051] 23 (0, 0)) (by refine pkB ?_; refine bput (cs := #[.int .i64 t1050, .int .i64 0]) 1 ?_; refine bput (cs := #[.int .i64 0, .int .i64 0]) 0 ?_; exact BK1052.out)) : gb1052 ≠ gb1053)); have n12_ := Aside0.mk ((by rw [hg]; exact Nat.ne_of_gt (blk_lt (g := gb1052) (o := .cells #[.int .i64 t1050, .int .i64 t1051] 23 (0, 0)) (by refine pkB ?_; refine bput (cs := #[.int .i64 t1050, .int .i64 0]) 1 ?_; refine bput (cs := #[.int .i64 0, .int .i64 0]) 0 ?_; exact BK1052.out)) : gb1053 ≠ gb1052)); clear BK1038; clear BK1043; clear BK1052; clear HB; have BK1038 := n0_; have BK1043 := n1_; have BK1052 := n2_; have HB := n3_; have BK1053 := n4_; have GW1053 := n5_; have GE1053 := n6_; have NB1038_1053 := n7_; have NB1053_1038 := n8_; have NB1043_1053 := n9_; have NB1053_1043 := n10_; have NB1052_1053 := n11_; have NB1053_1052 := n12_; clear n0_ n1_ n2_ n3_ n4_ n5_ n6_ n7_ n8_ n9_ n10_ n11_ n12_; clear hb hbox hg; have hnb56 := nn NB1053_1038 NB1038_1053; have hnb57 := nn NB1053_1043 NB1043_1053; have hnb58 := nn NB1053_1052 NB1052_1053; have hcz59_0 := hcz BK1053 0; have hcz59_1 := hcz BK1053 1; have hfz59_0 := bfz BK1053 0; have hfz59_1 := bfz BK1053 1) | (go_at_call 21; (with_reducible refine (itv_None.calls t1041 t1042 true _ A52.out).mono ?_); rintro e w60 ⟨rfl, hb⟩; have n0_ := bbF BK1038 hb; have n1_ := bbF BK1043 hb; have n2_ := bbF BK1052 hb; have n3_ := Aside0.mk (blk_below (g := gb1053) (o := .cells #[.int .i64 t1041, .int .i64 t1042] 23 (0, 0)) (by refine pkB ?_; refine bput (cs := #[.int .i64 t1041, .int .i64 0]) 1 ?_; refine bput (cs := #[.int .i64 0, .int .i64 0]) 0 ?_; exact BK1053.out) hb); have n4_ := bst HB hb; clear BK1038; clear BK1043; clear BK1052; clear BK1053; clear HB; have BK1038 := n0_; have BK1043 := n1_; have BK1052 := n2_; have BK1053 := n3_; have HB := n4_; clear n0_ n1_ n2_ n3_ n4_; (try clear hb))); try go_wp2_with (first | ((with_reducible refine gate_dst (N := 9) rfl ?_); refine box_event ?hg (N := 9) ?hd (cs := #[.int .i64 0, .int .i64 0]) (t := 23) ?hr ?_; (case hd => rfl); (case hg => rfl); (case hr => first | (go_simp; done) | (go_simp; rfl)); intro gb1053 hg w55 hbox hb; have n0_ := bbF BK1038 hb; have n1_ := bbF BK1043 hb; have n2_ := Aside0.mk (blk_below (g := gb1052) (o := .cells #[.int .i64 t1050, .int .i64 t1051] 23 (0, 0)) (by refine pkB ?_; refine bput (cs := #[.int .i64 t1050, .int .i64 0]) 1 ?_; refine bput (cs := #[.int .i64 0, .int .i64 0]) 0 ?_; exact BK1052.out) hb); have n3_ := bst HB hb; have n4_ := Aside0.mk (hbox); have n5_ := bsz HB hg; have n6_ := bsz HB hg; have n7_ := bf1 BK1038 hg; have n8_ := bf2 BK1038 hg; have n9_ := bf1 BK1043 hg; have n10_ := bf2 BK1043 hg; have n11_ := Aside0.mk ((by rw [hg]; exact Nat.ne_of_lt (blk_lt (g := gb1052) (o := .cells #[.int .i64 t1050, .int .i64 t1051] 23 (0, 0)) (by refine pkB ?_; refine bput (cs := #[.int .i64 t1050, .int .i64 0]) 1 ?_; refine bput (cs := #[.int .i64 0, .int .i64 0]) 0 ?_; exact BK1052.out)) : gb1052 ≠ gb1053)); have n12_ := Aside0.mk ((by rw [hg]; exact Nat.ne_of_gt (blk_lt (g := gb1052) (o := .cells #[.int .i64 t1050, .int .i64 t1051] 23 (0, 0)) (by refine pkB ?_; refine bput (cs := #[.int .i64 t1050, .int .i64 0]) 1 ?_; refine bput (cs := #[.int .i64 0, .int .i64 0]) 0 ?_; exact BK1052.out)) : gb1053 ≠ gb1052)); clear BK1038; clear BK1043; clear BK1052; clear HB; have BK1038 := n0_; have BK1043 := n1_; have BK1052 := n2_; have HB := n3_; have BK1053 := n4_; have GW1053 := n5_; have GE1053 := n6_; have NB1038_1053 := n7_; have NB1053_1038 := n8_; have NB1043_1053 := n9_; have NB1053_1043 := n10_; have NB1052_1053 := n11_; have NB1053_1052 := n12_; clear n0_ n1_ n2_ n3_ n4_ n5_ n6_ n7_ n8_ n9_ n10_ n11_ n12_; clear hb hbox hg; have hnb56 := nn NB1053_1038 NB1038_1053; have hnb57 := nn NB1053_1043 NB1043_1053; have hnb58 := nn NB1053_1052 NB1052_1053; have hcz59_0 := hcz BK1053 0; have hcz59_1 := hcz BK1053 1; have hfz59_0 := bfz BK1053 0; have hfz59_1 := bfz BK1053 1) | (go_at_call 21; (with_reducible refine (itv_None.calls t1041 t1042 true _ A52.out).mono ?_); rintro e w60 ⟨rfl, hb⟩; have n0_ := bbF BK1038 hb; have n1_ := bbF BK1043 hb; have n2_ := bbF BK1052 hb; have n3_ := Aside0.mk (blk_below (g := gb1053) (o := .cells #[.int .i64 t1041, .int .i64 t1042] 23 (0, 0)) (by refine pkB ?_; refine bput (cs := #[.int .i64 t1041, .int .i64 0]) 1 ?_; refine bput (cs := #[.int .i64 0, .int .i64 0]) 0 ?_; exact BK1053.out) hb); have n4_ := bst HB hb; clear BK1038; clear BK1043; clear BK1052; clear BK1053; clear HB; have BK1038 := n0_; have BK1043 := n1_; have BK1052 := n2_; have BK1053 := n3_; have HB := n4_; clear n0_ n1_ n2_ n3_ n4_; (try clear hb))))
    refine looped_round (fun K_ hK_ => ?_)
    have H := HC54.out
    clear HC54
    try clear c1
    try clear c2
    try clear p2
    try clear c3
    try clear c4
    try clear c5
    try clear c8
    try clear c9
    try clear c11
    try clear c15
    try clear c18
    try clear c19
    try clear c27
    try clear c28
    try clear c34
    try clear c35
    try clear c36
    try clear c43
    try clear c49
    try clear c50
    try clear c53
    try clear c56
    try clear c57
    try clear c58
    try clear hcz12_0
    try clear hcz12_1
    try clear hcz20_0
    try clear hcz20_1
    try clear hcz29_0
    try clear hcz29_1
    try clear hcz31_0
    try clear hcz31_1
    try clear hcz37_0
    try clear hcz37_1
    try clear hcz44_0
    try clear hcz44_1
    try clear hcz46_0
    try clear hcz46_1
    try clear hcz51_0
    try clear hcz51_1
    try clear hcz59_0
    try clear hcz59_1
    try clear hcz5_0
    try clear hcz5_1
    try clear hfz12_0
    try clear hfz12_1
    try clear hfz20_0
    try clear hfz20_1
    try clear hfz29_0
    try clear hfz29_1
    try clear hfz31_0
    try clear hfz31_1
    try clear hfz37_0
    try clear hfz37_1
    try clear hfz44_0
    try clear hfz44_1
    try clear hfz46_0
    try clear hfz46_1
    try clear hfz51_0
    try clear hfz51_1
    try clear hfz59_0
    try clear hfz59_1
    try clear hfz5_0
    try clear hfz5_1
    try clear p2
    simp only [Option.some.injEq, Prod.mk.injEq] at H
    obtain ⟨rfl, rfl, rfl⟩ := H
    go_wp2
    repeat (go_quiet (fail); try go_wp2)
    go_ret3
    exact ⟨by first | rfl | (simp [errW_none, errW_some] <;> rfl) | (simp only [← hji39, ← hji40]; first | rfl | (simp [errW_none, errW_some] <;> rfl)) | (simp [*, errW_none, errW_some] <;> rfl) | kernel_rfl, (bpk HB).out⟩
   ·
    replace c53 := Bool.eq_false_iff.mpr c53
    subst c53
    have H1 : ((itv_Abs.f k t1041 t1042).bind fun bt1055 => (some (mn (ji39) bt1055.1, mx (ji40) bt1055.2, true))) = some (r1, r2, r3) := by rw [if_neg (show ¬ (false = true) by decide)] at H; exact H
    clear H
    have H := H1
    clear H1
    replace H := bnH H
    obtain ⟨⟨t1055, t1056⟩, A610, H⟩ := H
    replace H : (some (mn (ji39) t1055, mx (ji40) t1056, true)) = some (r1, r2, r3) := H
    have A61 := Aside0.mk A610
    clear A610
    obtain ⟨ji62, hji62⟩ : ∃ j_ : Int, (mn (ji39) t1055) = j_ := ⟨_, rfl⟩
    replace H : (some (ji62, mx (ji40) t1056, true)) = some (r1, r2, r3) := by first | (rw [hji62] at H; exact H) | (simp only [hji62] at H ⊢; exact H)
    (try rw [hji62] at A52)
    (try rw [hji62] at A61)
    have hji62_ : (if t1055 < (ji39) then t1055 else (ji39)) = ji62 := hji62
    obtain ⟨ji63, hji63⟩ : ∃ j_ : Int, (mx (ji40) t1056) = j_ := ⟨_, rfl⟩
    replace H : (some (ji62, ji63, true)) = some (r1, r2, r3) := by first | (rw [hji63] at H; exact H) | (simp only [hji63] at H ⊢; exact H)
    (try rw [hji63] at A52)
    (try rw [hji63] at A61)
    have hji63_ : (if (ji40) < t1056 then t1056 else (ji40)) = ji63 := hji63
    have HC64 := Aside0.mk H
    clear H
    go_wp2_with (first | ((with_reducible refine gate_dst (N := 9) rfl ?_); refine box_event ?hg (N := 9) ?hd (cs := #[.int .i64 0, .int .i64 0]) (t := 23) ?hr ?_; (case hd => rfl); (case hg => rfl); (case hr => first | (go_simp; done) | (go_simp; rfl)); intro gb1053 hg w65 hbox hb; have n0_ := bbF BK1038 hb; have n1_ := bbF BK1043 hb; have n2_ := Aside0.mk (blk_below (g := gb1052) (o := .cells #[.int .i64 t1050, .int .i64 t1051] 23 (0, 0)) (by refine pkB ?_; refine bput (cs := #[.int .i64 t1050, .int .i64 0]) 1 ?_; refine bput (cs := #[.int .i64 0, .int .i64 0]) 0 ?_; exact BK1052.out) hb); have n3_ := bst HB hb; have n4_ := Aside0.mk (hbox); have n5_ := bsz HB hg; have n6_ := bsz HB hg; have n7_ := bf1 BK1038 hg; have n8_ := bf2 BK1038 hg; have n9_ := bf1 BK1043 hg; have n10_ := bf2 BK1043 hg; have n11_ := Aside0.mk ((by rw [hg]; exact Nat.ne_of_lt (blk_lt (g := gb1052) (o := .cells #[.int .i64 t1050, .int .i64 t1051] 23 (0, 0)) (by refine pkB ?_; refine bput (cs := #[.int .i64 t1050, .int .i64 0]) 1 ?_; refine bput (cs := #[.int .i64 0, .int .i64 0]) 0 ?_; exact BK1052.out)) : gb1052 ≠ gb1053)); have n12_ := Aside0.mk ((by rw [hg]; exact Nat.ne_of_gt (blk_lt (g := gb1052) (o := .cells #[.int .i64 t1050, .int .i64 t1051] 23 (0, 0)) (by refine pkB ?_; refine bput (cs := #[.int .i64 t1050, .int .i64 0]) 1 ?_; refine bput (cs := #[.int .i64 0, .int .i64 0]) 0 ?_; exact BK1052.out)) : gb1053 ≠ gb1052)); clear BK1038; clear BK1043; clear BK1052; clear HB; have BK1038 := n0_; have BK1043 := n1_; have BK1052 := n2_; have HB := n3_; have BK1053 := n4_; have GW1053 := n5_; have GE1053 := n6_; have NB1038_1053 := n7_; have NB1053_1038 := n8_; have NB1043_1053 := n9_; have NB1053_1043 := n10_; have NB1052_1053 := n11_; have NB1053_1052 := n12_; clear n0_ n1_ n2_ n3_ n4_ n5_ n6_ n7_ n8_ n9_ n10_ n11_ n12_; clear hb hbox hg; have hnb66 := nn NB1053_1038 NB1038_1053; have hnb67 := nn NB1053_1043 NB1043_1053; have hnb68 := nn NB1053_1052 NB1052_1053; have hcz69_0 := hcz BK1053 0; have hcz69_1 := hcz BK1053 1; have hfz69_0 := bfz BK1053 0; have hfz69_1 := bfz BK1053 1) | (go_at_call 21; (with_reducible refine (itv_None.calls t1041 t1042 false _ A52.out).mono ?_); rintro e w70 ⟨rfl, hb⟩; have n0_ := bbF BK1038 hb; have n1_ := bbF BK1043 hb; have n2_ := bbF BK1052 hb; have n3_ := Aside0.mk (blk_below (g := gb1053) (o := .cells #[.int .i64 t1041, .int .i64 t1042] 23 (0, 0)) (by refine pkB ?_; refine bput (cs := #[.int .i64 t1041, .int .i64 0]) 1 ?_; refine bput (cs := #[.int .i64 0, .int .i64 0]) 0 ?_; exact BK1053.out) hb); have n4_ := bst HB hb; clear BK1038; clear BK1043; clear BK1052; clear BK1053; clear HB; have BK1038 := n0_; have BK1043 := n1_; have BK1052 := n2_; have BK1053 := n3_; have HB := n4_; clear n0_ n1_ n2_ n3_ n4_; (try clear hb); have hcz71_0 := hcz BK1053 0; have hcz71_1 := hcz BK1053 1; have hfz71_0 := bfz BK1053 0; have hfz71_1 := bfz BK1053 1) | (go_at_call 47; (with_reducible refine (itv_Abs.calls k t1041 t1042 t1055 t1056 _ A61.out).mono ?_); rintro e w72 ⟨rfl, hb⟩; have n0_ := bst HB hb; replace BK1038 := bbw BK1038 hb; replace BK1043 := bbw BK1043 hb; replace BK1052 := bbw BK1052 hb; replace BK1053 := bbw BK1053 hb; clear HB; have HB := n0_; clear n0_; (try clear hb)) | ((with_reducible refine gate_dst (N := 10) rfl ?_); refine box_event ?hg (N := 10) ?hd (cs := #[.int .i64 0, .int .i64 0]) (t := 23) ?hr ?_; (case hd => rfl); (case hg => rfl); (case hr => first | (go_simp; done) | (go_simp; rfl)); intro gb1057 hg w73 hbox hb; have n0_ := bst HB hb; have n1_ := Aside0.mk (hbox); have n2_ := bsz HB hg; have n3_ := bsz HB hg; have n4_ := bn1 BK1038 hg; have n5_ := bn2 BK1038 hg; have n6_ := bn1 BK1043 hg; have n7_ := bn2 BK1043 hg; have n8_ := bn1 BK1052 hg; have n9_ := bn2 BK1052 hg; have n10_ := bn1 BK1053 hg; have n11_ := bn2 BK1053 hg; replace BK1038 := bbw BK1038 hb; replace BK1043 := bbw BK1043 hb; replace BK1052 := bbw BK1052 hb; replace BK1053 := bbw BK1053 hb; clear HB; have HB := n0_; have BK1057 := n1_; have GW1057 := n2_; have GE1057 := n3_; have NB1038_1057 := n4_; have NB1057_1038 := n5_; have NB1043_1057 := n6_; have NB1057_1043 := n7_; have NB1052_1057 := n8_; have NB1057_1052 := n9_; have NB1053_1057 := n10_; have NB1057_1053 := n11_; clear n0_ n1_ n2_ n3_ n4_ n5_ n6_ n7_ n8_ n9_ n10_ n11_; clear hb hbox hg; have hnb74 := nn NB1057_1038 NB1038_1057; have hnb75 := nn NB1057_1043 NB1043_1057; have hnb76 := nn NB1057_1052 NB1052_1057; have hnb77 := nn NB1057_1053 NB1053_1057; have hcz78_0 := hcz BK1057 0; have hcz78_1 := hcz BK1057 1; have hfz78_0 := bfz BK1057 0; have hfz78_1 := bfz BK1057 1))
    repeat (go_quiet (first | ((with_reducible refine gate_dst (N := 9) rfl ?_); refine box_event ?hg (N := 9) ?hd (cs := #[.int .i64 0, .int .i64 0]) (t := 23) ?hr ?_; (case hd => rfl); (case hg => rfl); (case hr => first | (go_simp; done) | (go_simp; rfl)); intro gb1053 hg w65 hbox hb; have n0_ := bbF BK1038 hb; have n1_ := bbF BK1043 hb; have n2_ := Aside0.mk (blk_below (g := gb1052) (o := .cells #[.int .i64 t1050, .int .i64 t1051] 23 (0, 0)) (by refine pkB ?_; refine bput (cs := #[.int .i64 t1050, .int .i64 0]) 1 ?_; refine bput (cs := #[.int .i64 0, .int .i64 0]) 0 ?_; exact BK1052.out) hb); have n3_ := bst HB hb; have n4_ := Aside0.mk (hbox); have n5_ := bsz HB hg; have n6_ := bsz HB hg; have n7_ := bf1 BK1038 hg; have n8_ := bf2 BK1038 hg; have n9_ := bf1 BK1043 hg; have n10_ := bf2 BK1043 hg; have n11_ := Aside0.mk ((by rw [hg]; exact Nat.ne_of_lt (blk_lt (g := gb1052) (o := .cells #[.int .i64 t1050, .int .i64 t1051] 23 (0, 0)) (by refine pkB ?_; refine bput (cs := #[.int .i64 t1050, .int .i64 0]) 1 ?_; refine bput (cs := #[.int .i64 0, .int .i64 0]) 0 ?_; exact BK1052.out)) : gb1052 ≠ gb1053)); have n12_ := Aside0.mk ((by rw [hg]; exact Nat.ne_of_gt (blk_lt (g := gb1052) (o := .cells #[.int .i64 t1050, .int .i64 t1051] 23 (0, 0)) (by refine pkB ?_; refine bput (cs := #[.int .i64 t1050, .int .i64 0]) 1 ?_; refine bput (cs := #[.int .i64 0, .int .i64 0]) 0 ?_; exact BK1052.out)) : gb1053 ≠ gb1052)); clear BK1038; clear BK1043; clear BK1052; clear HB; have BK1038 := n0_; have BK1043 := n1_; have BK1052 := n2_; have HB := n3_; have BK1053 := n4_; have GW1053 := n5_; have GE1053 := n6_; have NB1038_1053 := n7_; have NB1053_1038 := n8_; have NB1043_1053 := n9_; have NB1053_1043 := n10_; have NB1052_1053 := n11_; have NB1053_1052 := n12_; clear n0_ n1_ n2_ n3_ n4_ n5_ n6_ n7_ n8_ n9_ n10_ n11_ n12_; clear hb hbox hg; have hnb66 := nn NB1053_1038 NB1038_1053; have hnb67 := nn NB1053_1043 NB1043_1053; have hnb68 := nn NB1053_1052 NB1052_1053; have hcz69_0 := hcz BK1053 0; have hcz69_1 := hcz BK1053 1; have hfz69_0 := bfz BK1053 0; have hfz69_1 := bfz BK1053 1) | (go_at_call 21; (with_reducible refine (itv_None.calls t1041 t1042 false _ A52.out).mono ?_); rintro e w70 ⟨rfl, hb⟩; have n0_ := bbF BK1038 hb; have n1_ := bbF BK1043 hb; have n2_ := bbF BK1052 hb; have n3_ := Aside0.mk (blk_below (g := gb1053) (o := .cells #[.int .i64 t1041, .int .i64 t1042] 23 (0, 0)) (by refine pkB ?_; refine bput (cs := #[.int .i64 t1041, .int .i64 0]) 1 ?_; refine bput (cs := #[.int .i64 0, .int .i64 0]) 0 ?_; exact BK1053.out) hb); have n4_ := bst HB hb; clear BK1038; clear BK1043; clear BK1052; clear BK1053; clear HB; have BK1038 := n0_; have BK1043 := n1_; have BK1052 := n2_; have BK1053 := n3_; have HB := n4_; clear n0_ n1_ n2_ n3_ n4_; (try clear hb); have hcz71_0 := hcz BK1053 0; have hcz71_1 := hcz BK1053 1; have hfz71_0 := bfz BK1053 0; have hfz71_1 := bfz BK1053 1) | (go_at_call 47; (with_reducible refine (itv_Abs.calls k t1041 t1042 t1055 t1056 _ A61.out).mono ?_); rintro e w72 ⟨rfl, hb⟩; have n0_ := bst HB hb; replace BK1038 := bbw BK1038 hb; replace BK1043 := bbw BK1043 hb; replace BK1052 := bbw BK1052 hb; replace BK1053 := bbw BK1053 hb; clear HB; have HB := n0_; clear n0_; (try clear hb)) | ((with_reducible refine gate_dst (N := 10) rfl ?_); refine box_event ?hg (N := 10) ?hd (cs := #[.int .i64 0, .int .i64 0]) (t := 23) ?hr ?_; (case hd => rfl); (case hg => rfl); (case hr => first | (go_simp; done) | (go_simp; rfl)); intro gb1057 hg w73 hbox hb; have n0_ := bst HB hb; have n1_ := Aside0.mk (hbox); have n2_ := bsz HB hg; have n3_ := bsz HB hg; have n4_ := bn1 BK1038 hg; have n5_ := bn2 BK1038 hg; have n6_ := bn1 BK1043 hg; have n7_ := bn2 BK1043 hg; have n8_ := bn1 BK1052 hg; have n9_ := bn2 BK1052 hg; have n10_ := bn1 BK1053 hg; have n11_ := bn2 BK1053 hg; replace BK1038 := bbw BK1038 hb; replace BK1043 := bbw BK1043 hb; replace BK1052 := bbw BK1052 hb; replace BK1053 := bbw BK1053 hb; clear HB; have HB := n0_; have BK1057 := n1_; have GW1057 := n2_; have GE1057 := n3_; have NB1038_1057 := n4_; have NB1057_1038 := n5_; have NB1043_1057 := n6_; have NB1057_1043 := n7_; have NB1052_1057 := n8_; have NB1057_1052 := n9_; have NB1053_1057 := n10_; have NB1057_1053 := n11_; clear n0_ n1_ n2_ n3_ n4_ n5_ n6_ n7_ n8_ n9_ n10_ n11_; clear hb hbox hg; have hnb74 := nn NB1057_1038 NB1038_1057; have hnb75 := nn NB1057_1043 NB1043_1057; have hnb76 := nn NB1057_1052 NB1052_1057; have hnb77 := nn NB1057_1053 NB1053_1057; have hcz78_0 := hcz BK1057 0; have hcz78_1 := hcz BK1057 1; have hfz78_0 := bfz BK1057 0; have hfz78_1 := bfz BK1057 1)); try go_wp2_with (first | ((with_reducible refine gate_dst (N := 9) rfl ?_); refine box_event ?hg (N := 9) ?hd (cs := #[.int .i64 0, .int .i64 0]) (t := 23) ?hr ?_; (case hd => rfl); (case hg => rfl); (case hr => first | (go_simp; done) | (go_simp; rfl)); intro gb1053 hg w65 hbox hb; have n0_ := bbF BK1038 hb; have n1_ := bbF BK1043 hb; have n2_ := Aside0.mk (blk_below (g := gb1052) (o := .cells #[.int .i64 t1050, .int .i64 t1051] 23 (0, 0)) (by refine pkB ?_; refine bput (cs := #[.int .i64 t1050, .int .i64 0]) 1 ?_; refine bput (cs := #[.int .i64 0, .int .i64 0]) 0 ?_; exact BK1052.out) hb); have n3_ := bst HB hb; have n4_ := Aside0.mk (hbox); have n5_ := bsz HB hg; have n6_ := bsz HB hg; have n7_ := bf1 BK1038 hg; have n8_ := bf2 BK1038 hg; have n9_ := bf1 BK1043 hg; have n10_ := bf2 BK1043 hg; have n11_ := Aside0.mk ((by rw [hg]; exact Nat.ne_of_lt (blk_lt (g := gb1052) (o := .cells #[.int .i64 t1050, .int .i64 t1051] 23 (0, 0)) (by refine pkB ?_; refine bput (cs := #[.int .i64 t1050, .int .i64 0]) 1 ?_; refine bput (cs := #[.int .i64 0, .int .i64 0]) 0 ?_; exact BK1052.out)) : gb1052 ≠ gb1053)); have n12_ := Aside0.mk ((by rw [hg]; exact Nat.ne_of_gt (blk_lt (g := gb1052) (o := .cells #[.int .i64 t1050, .int .i64 t1051] 23 (0, 0)) (by refine pkB ?_; refine bput (cs := #[.int .i64 t1050, .int .i64 0]) 1 ?_; refine bput (cs := #[.int .i64 0, .int .i64 0]) 0 ?_; exact BK1052.out)) : gb1053 ≠ gb1052)); clear BK1038; clear BK1043; clear BK1052; clear HB; have BK1038 := n0_; have BK1043 := n1_; have BK1052 := n2_; have HB := n3_; have BK1053 := n4_; have GW1053 := n5_; have GE1053 := n6_; have NB1038_1053 := n7_; have NB1053_1038 := n8_; have NB1043_1053 := n9_; have NB1053_1043 := n10_; have NB1052_1053 := n11_; have NB1053_1052 := n12_; clear n0_ n1_ n2_ n3_ n4_ n5_ n6_ n7_ n8_ n9_ n10_ n11_ n12_; clear hb hbox hg; have hnb66 := nn NB1053_1038 NB1038_1053; have hnb67 := nn NB1053_1043 NB1043_1053; have hnb68 := nn NB1053_1052 NB1052_1053; have hcz69_0 := hcz BK1053 0; have hcz69_1 := hcz BK1053 1; have hfz69_0 := bfz BK1053 0; have hfz69_1 := bfz BK1053 1) | (go_at_call 21; (with_reducible refine (itv_None.calls t1041 t1042 false _ A52.out).mono ?_); rintro e w70 ⟨rfl, hb⟩; have n0_ := bbF BK1038 hb; have n1_ := bbF BK1043 hb; have n2_ := bbF BK1052 hb; have n3_ := Aside0.mk (blk_below (g := gb1053) (o := .cells #[.int .i64 t1041, .int .i64 t1042] 23 (0, 0)) (by refine pkB ?_; refine bput (cs := #[.int .i64 t1041, .int .i64 0]) 1 ?_; refine bput (cs := #[.int .i64 0, .int .i64 0]) 0 ?_; exact BK1053.out) hb); have n4_ := bst HB hb; clear BK1038; clear BK1043; clear BK1052; clear BK1053; clear HB; have BK1038 := n0_; have BK1043 := n1_; have BK1052 := n2_; have BK1053 := n3_; have HB := n4_; clear n0_ n1_ n2_ n3_ n4_; (try clear hb); have hcz71_0 := hcz BK1053 0; have hcz71_1 := hcz BK1053 1; have hfz71_0 := bfz BK1053 0; have hfz71_1 := bfz BK1053 1) | (go_at_call 47; (with_reducible refine (itv_Abs.calls k t1041 t1042 t1055 t1056 _ A61.out).mono ?_); rintro e w72 ⟨rfl, hb⟩; have n0_ := bst HB hb; replace BK1038 := bbw BK1038 hb; replace BK1043 := bbw BK1043 hb; replace BK1052 := bbw BK1052 hb; replace BK1053 := bbw BK1053 hb; clear HB; have HB := n0_; clear n0_; (try clear hb)) | ((with_reducible refine gate_dst (N := 10) rfl ?_); refine box_event ?hg (N := 10) ?hd (cs := #[.int .i64 0, .int .i64 0]) (t := 23) ?hr ?_; (case hd => rfl); (case hg => rfl); (case hr => first | (go_simp; done) | (go_simp; rfl)); intro gb1057 hg w73 hbox hb; have n0_ := bst HB hb; have n1_ := Aside0.mk (hbox); have n2_ := bsz HB hg; have n3_ := bsz HB hg; have n4_ := bn1 BK1038 hg; have n5_ := bn2 BK1038 hg; have n6_ := bn1 BK1043 hg; have n7_ := bn2 BK1043 hg; have n8_ := bn1 BK1052 hg; have n9_ := bn2 BK1052 hg; have n10_ := bn1 BK1053 hg; have n11_ := bn2 BK1053 hg; replace BK1038 := bbw BK1038 hb; replace BK1043 := bbw BK1043 hb; replace BK1052 := bbw BK1052 hb; replace BK1053 := bbw BK1053 hb; clear HB; have HB := n0_; have BK1057 := n1_; have GW1057 := n2_; have GE1057 := n3_; have NB1038_1057 := n4_; have NB1057_1038 := n5_; have NB1043_1057 := n6_; have NB1057_1043 := n7_; have NB1052_1057 := n8_; have NB1057_1052 := n9_; have NB1053_1057 := n10_; have NB1057_1053 := n11_; clear n0_ n1_ n2_ n3_ n4_ n5_ n6_ n7_ n8_ n9_ n10_ n11_; clear hb hbox hg; have hnb74 := nn NB1057_1038 NB1038_1057; have hnb75 := nn NB1057_1043 NB1043_1057; have hnb76 := nn NB1057_1052 NB1052_1057; have hnb77 := nn NB1057_1053 NB1053_1057; have hcz78_0 := hcz BK1057 0; have hcz78_1 := hcz BK1057 1; have hfz78_0 := bfz BK1057 0; have hfz78_1 := bfz BK1057 1)))
    refine looped_round (fun K_ hK_ => ?_)
    have H := HC64.out
    clear HC64
    try clear c1
    try clear c2
    try clear p2
    try clear c3
    try clear c4
    try clear c5
    try clear c6
    try clear c7
    try clear c8
    try clear c9
    try clear c11
    try clear c15
    try clear c18
    try clear c19
    try clear c27
    try clear c28
    try clear c34
    try clear c35
    try clear c36
    try clear c43
    try clear c49
    try clear c50
    try clear c53
    try clear c56
    try clear c57
    try clear c58
    try clear c66
    try clear c67
    try clear c68
    try clear c74
    try clear c75
    try clear c76
    try clear c77
    try clear hcz12_0
    try clear hcz12_1
    try clear hcz20_0
    try clear hcz20_1
    try clear hcz29_0
    try clear hcz29_1
    try clear hcz31_0
    try clear hcz31_1
    try clear hcz37_0
    try clear hcz37_1
    try clear hcz44_0
    try clear hcz44_1
    try clear hcz46_0
    try clear hcz46_1
    try clear hcz51_0
    try clear hcz51_1
    try clear hcz59_0
    try clear hcz59_1
    try clear hcz5_0
    try clear hcz5_1
    try clear hcz69_0
    try clear hcz69_1
    try clear hcz71_0
    try clear hcz71_1
    try clear hcz78_0
    try clear hcz78_1
    try clear hfz12_0
    try clear hfz12_1
    try clear hfz20_0
    try clear hfz20_1
    try clear hfz29_0
    try clear hfz29_1
    try clear hfz31_0
    try clear hfz31_1
    try clear hfz37_0
    try clear hfz37_1
    try clear hfz44_0
    try clear hfz44_1
    try clear hfz46_0
    try clear hfz46_1
    try clear hfz51_0
    try clear hfz51_1
    try clear hfz59_0
    try clear hfz59_1
    try clear hfz5_0
    try clear hfz5_1
    try clear hfz69_0
    try clear hfz69_1
    try clear hfz71_0
    try clear hfz71_1
    try clear hfz78_0
    try clear hfz78_1
    try clear p2
    simp only [Option.some.injEq, Prod.mk.injEq] at H
    obtain ⟨rfl, rfl, rfl⟩ := H
    go_wp2
    repeat (go_quiet (fail); try go_wp2)
    go_ret3
    exact ⟨by first | rfl | (simp [errW_none, errW_some] <;> rfl) | (simp only [← hji39, ← hji40, ← hji62, ← hji63]; first | rfl | (simp [errW_none, errW_some] <;> rfl)) | (simp [*, errW_none, errW_some] <;> rfl) | kernel_rfl, (bpk HB).out⟩
end Go.Proofs.Ytbbnpipmjadpoaa.P
