/- What the law's proof needs of Px48. -/
import Derived.Test.YtbbnpipmjadpoaaTrGU3
import Derived.Test.YtbbnpipmjadpoaaTrGU
import Derived.Test.YtbbnpipmjadpoaaTrGPx0
import Derived.Test.YtbbnpipmjadpoaaTrGPx3
import Derived.Test.YtbbnpipmjadpoaaTrGPx32
-- PRINTED by print.py (a twelfth state) out of the translation. Not trusted: Lean checks it.
namespace Go.Proofs.Ytbbnpipmjadpoaa.P
open Go.RowKit Go.Proofs.YtbbnpipmjadpoaaW.PrintWords Go.Proofs.YtbbnpipmjadpoaaW.PrintLast Go.Proofs.YtbbnpipmjadpoaaW.PrintMore Go.Proofs.YtbbnpipmjadpoaaO
attribute [local go_sem] max2_int min2_int max_two min_two max_three min_three max_four min_four   -- for this text's walks alone
set_option linter.unusedVariables false
set_option linter.unusedSimpArgs false
def itv_single.f (k : Nat) (a0_0 : Int) (a0_1 : Int) : Option (Int × Bool) := (itv_signs.f k a0_0 a0_1).bind fun bt1059 => ((itv_None.f bt1059.2.2.1 bt1059.2.2.2).bind fun t1065 => (if t1065 = true then (if bt1059.1 = bt1059.2.1 then (some (bt1059.1, true)) else ((itv_None.f bt1059.1 bt1059.2.1).bind fun t1067 => (if t1067 = true then (if bt1059.2.2.1 = bt1059.2.2.2 then (some (bt1059.2.2.1, true)) else (some (0, false))) else (some (0, false))))) else ((itv_None.f bt1059.1 bt1059.2.1).bind fun t1069 => (if t1069 = true then (if bt1059.2.2.1 = bt1059.2.2.2 then (some (bt1059.2.2.1, true)) else (some (0, false))) else (some (0, false))))))
set_option maxHeartbeats 8000000 in
set_option maxRecDepth 100000 in
theorem itv_single.calls (k : Nat) (a0_0 : Int) (a0_1 : Int) (r1 : Int) (r2 : Bool) (w : World) (h : itv_single.f k a0_0 a0_1 = some (r1, r2)) :
    Calls Try.prog 93 #[.agg #[.int .i64 a0_0, .int .i64 a0_1]] w fun e w' => e = .returned (.tuple #[.int .i64 r1, .bool r2]) ∧ Below w.heap.size w w' := by
  have hu23 := Try.underlying23
  have hu61 := Try.underlying61
  have hix61_0 : ∀ (y0_ : Int) (y1_ : Int) (y2_ : Int) (y3_ : Int) (W : World), (Instr.index 61 (.agg #[.int .i64 y0_, .int .i64 y1_, .int .i64 y2_, .int .i64 y3_]) (.int .i64 0)).run Try.prog W = .ok (.agg #[.int .i64 y0_, .int .i64 y1_]) W := fun _ _ _ _ _ => by kernel_rfl
  have hix61_1 : ∀ (y0_ : Int) (y1_ : Int) (y2_ : Int) (y3_ : Int) (W : World), (Instr.index 61 (.agg #[.int .i64 y0_, .int .i64 y1_, .int .i64 y2_, .int .i64 y3_]) (.int .i64 1)).run Try.prog W = .ok (.agg #[.int .i64 y2_, .int .i64 y3_]) W := fun _ _ _ _ _ => by kernel_rfl
  have HB := Aside0.mk (Below.refl w.heap.size w)
  have H : ((itv_signs.f k a0_0 a0_1).bind fun bt1059 => ((itv_None.f bt1059.2.2.1 bt1059.2.2.2).bind fun t1065 => (if t1065 = true then (if bt1059.1 = bt1059.2.1 then (some (bt1059.1, true)) else ((itv_None.f bt1059.1 bt1059.2.1).bind fun t1067 => (if t1067 = true then (if bt1059.2.2.1 = bt1059.2.2.2 then (some (bt1059.2.2.1, true)) else (some (0, false))) else (some (0, false))))) else ((itv_None.f bt1059.1 bt1059.2.1).bind fun t1069 => (if t1069 = true then (if bt1059.2.2.1 = bt1059.2.2.2 then (some (bt1059.2.2.1, true)) else (some (0, false))) else (some (0, false))))))) = some (r1, r2) := h
  clear h
  replace H := bnH H
  obtain ⟨⟨t1059, t1060, t1061, t1062⟩, A20, H⟩ := H
  replace H : ((itv_None.f t1061 t1062).bind fun t1065 => (if t1065 = true then (if t1059 = t1060 then (some (t1059, true)) else ((itv_None.f t1059 t1060).bind fun t1067 => (if t1067 = true then (if t1061 = t1062 then (some (t1061, true)) else (some (0, false))) else (some (0, false))))) else ((itv_None.f t1059 t1060).bind fun t1069 => (if t1069 = true then (if t1061 = t1062 then (some (t1061, true)) else (some (0, false))) else (some (0, false)))))) = some (r1, r2) := H
  have A2 := Aside0.mk A20
  clear A20
  have HC3 := Aside0.mk H
  clear H
  go_enter Try.func93, Try.ntmps93
  go_wp2_with (first | ((with_reducible refine gate_dst (N := 1) rfl ?_); refine box_event ?hg (N := 1) ?hd (cs := #[.int .i64 a0_0, .int .i64 a0_1]) (t := 23) ?hr ?_; (case hd => rfl); (case hg => rfl); (case hr => first | (go_simp; done) | (go_simp; rfl)); intro gb1058 hg w4 hbox hb; have n0_ := bst HB hb; have n1_ := Aside0.mk (hbox); have n2_ := bsz HB hg; have n3_ := bsz HB hg; clear HB; have HB := n0_; have BK1058 := n1_; have GW1058 := n2_; have GE1058 := n3_; clear n0_ n1_ n2_ n3_; clear hb hbox hg; have hcz5_0 := hcz BK1058 0; have hcz5_1 := hcz BK1058 1; have hfz5_0 := bfz BK1058 0; have hfz5_1 := bfz BK1058 1) | ((with_reducible refine gate_callee (f := 83) rfl ?_); refine goesL_ (some 8) rfl rfl Try.func83 (by kernel_rfl) rfl #[.agg #[.int .i64 a0_0, .int .i64 a0_1]] rfl (by (try simp only [List.map_toArray, List.map_cons, List.map_nil]); first | done | rfl | (simp only [List.length_drop, List.length_take]; rfl)) ?_; (with_reducible refine (itv_signs.calls k a0_0 a0_1 t1059 t1060 t1061 t1062 _ A2.out).mono ?_); rintro e w6 ⟨rfl, hb⟩; refine ⟨_, rfl, ?_⟩; have n0_ := bst HB hb; replace BK1058 := bbw BK1058 hb; clear HB; have HB := n0_; clear n0_; (try clear hb)) | ((with_reducible refine gate_dst (N := 4) rfl ?_); refine box_event ?hg (N := 4) ?hd (cs := #[.int .i64 0, .int .i64 0, .int .i64 0, .int .i64 0]) (t := 61) ?hr ?_; (case hd => rfl); (case hg => rfl); (case hr => first | (go_simp; done) | (go_simp; rfl)); intro gb1063 hg w7 hbox hb; have n0_ := bst HB hb; have n1_ := Aside0.mk (hbox); have n2_ := bsz HB hg; have n3_ := bsz HB hg; have n4_ := bn1 BK1058 hg; have n5_ := bn2 BK1058 hg; replace BK1058 := bbw BK1058 hb; clear HB; have HB := n0_; have BK1063 := n1_; have GW1063 := n2_; have GE1063 := n3_; have NB1058_1063 := n4_; have NB1063_1058 := n5_; clear n0_ n1_ n2_ n3_ n4_ n5_; clear hb hbox hg; have hnb8 := nn NB1063_1058 NB1058_1063; have hcz9_0 := hcz BK1063 0; have hcz9_1 := hcz BK1063 1; have hcz9_2 := hcz BK1063 2; have hcz9_3 := hcz BK1063 3; have hfz9_0 := bfz BK1063 0; have hfz9_1 := bfz BK1063 1; have hfz9_2 := bfz BK1063 2; have hfz9_3 := bfz BK1063 3))
  refine loop_looped ?_
  refine looped_round (fun K_ hK_ => ?_)
  have H := HC3.out
  clear HC3
  try clear p2
  try clear c8
  try clear c9
  try clear hcz5_0
  try clear hcz5_1
  try clear hcz9_0
  try clear hcz9_1
  try clear hcz9_2
  try clear hcz9_3
  try clear hfz5_0
  try clear hfz5_1
  try clear hfz9_0
  try clear hfz9_1
  try clear hfz9_2
  try clear hfz9_3
  replace H := bnH H
  obtain ⟨t1065, A100, H⟩ := H
  replace H : (if t1065 = true then (if t1059 = t1060 then (some (t1059, true)) else ((itv_None.f t1059 t1060).bind fun t1067 => (if t1067 = true then (if t1061 = t1062 then (some (t1061, true)) else (some (0, false))) else (some (0, false))))) else ((itv_None.f t1059 t1060).bind fun t1069 => (if t1069 = true then (if t1061 = t1062 then (some (t1061, true)) else (some (0, false))) else (some (0, false))))) = some (r1, r2) := H
  have A10 := Aside0.mk A100
  clear A100
  by_cases c11 : t1065 = true
  ·
   subst c11
   have H1 : (if t1059 = t1060 then (some (t1059, true)) else ((itv_None.f t1059 t1060).bind fun t1067 => (if t1067 = true then (if t1061 = t1062 then (some (t1061, true)) else (some (0, false))) else (some (0, false))))) = some (r1, r2) := by rw [if_pos rfl] at H; exact H
   clear H
   have H := H1
   clear H1
   by_cases c12 : t1059 = t1060
   ·
    rw [if_pos c12] at H
    have c12b0 : (t1059 == t1060) = true := beq_iff_eq.mpr c12
    have c12b1 : (t1059 != t1060) = false := bne_eq_false_iff_eq.mpr c12
    clear c12
    simp only [Option.some.injEq, Prod.mk.injEq] at H
    obtain ⟨rfl, rfl⟩ := H
    go_wp2_with (first | ((with_reducible refine gate_dst (N := 6) rfl ?_); refine box_event ?hg (N := 6) ?hd (cs := #[.int .i64 0, .int .i64 0]) (t := 23) ?hr ?_; (case hd => rfl); (case hg => rfl); (case hr => first | (go_simp; done) | (go_simp; rfl)); intro gb1064 hg w13 hbox hb; have n0_ := bbF BK1058 hb; have n1_ := Aside0.mk (blk_below (g := gb1063) (o := .cells #[.int .i64 t1059, .int .i64 t1060, .int .i64 t1061, .int .i64 t1062] 61 (0, 0)) (by refine pkB ?_; refine bput (cs := #[.int .i64 t1059, .int .i64 t1060, .int .i64 t1061, .int .i64 0]) 3 ?_; refine bput (cs := #[.int .i64 t1059, .int .i64 t1060, .int .i64 0, .int .i64 0]) 2 ?_; refine bput (cs := #[.int .i64 t1059, .int .i64 0, .int .i64 0, .int .i64 0]) 1 ?_; refine bput (cs := #[.int .i64 0, .int .i64 0, .int .i64 0, .int .i64 0]) 0 ?_; exact BK1063.out) hb); have n2_ := bst HB hb; have n3_ := Aside0.mk (hbox); have n4_ := bsz HB hg; have n5_ := bsz HB hg; have n6_ := bf1 BK1058 hg; have n7_ := bf2 BK1058 hg; have n8_ := Aside0.mk ((by rw [hg]; exact Nat.ne_of_lt (blk_lt (g := gb1063) (o := .cells #[.int .i64 t1059, .int .i64 t1060, .int .i64 t1061, .int .i64 t1062] 61 (0, 0)) (by refine pkB ?_; refine bput (cs := #[.int .i64 t1059, .int .i64 t1060, .int .i64 t1061, .int .i64 0]) 3 ?_; refine bput (cs := #[.int .i64 t1059, .int .i64 t1060, .int .i64 0, .int .i64 0]) 2 ?_; refine bput (cs := #[.int .i64 t1059, .int .i64 0, .int .i64 0, .int .i64 0]) 1 ?_; refine bput (cs := #[.int .i64 0, .int .i64 0, .int .i64 0, .int .i64 0]) 0 ?_; exact BK1063.out)) : gb1063 ≠ gb1064)); have n9_ := Aside0.mk ((by rw [hg]; exact Nat.ne_of_gt (blk_lt (g := gb1063) (o := .cells #[.int .i64 t1059, .int .i64 t1060, .int .i64 t1061, .int .i64 t1062] 61 (0, 0)) (by refine pkB ?_; refine bput (cs := #[.int .i64 t1059, .int .i64 t1060, .int .i64 t1061, .int .i64 0]) 3 ?_; refine bput (cs := #[.int .i64 t1059, .int .i64 t1060, .int .i64 0, .int .i64 0]) 2 ?_; refine bput (cs := #[.int .i64 t1059, .int .i64 0, .int .i64 0, .int .i64 0]) 1 ?_; refine bput (cs := #[.int .i64 0, .int .i64 0, .int .i64 0, .int .i64 0]) 0 ?_; exact BK1063.out)) : gb1064 ≠ gb1063)); clear BK1058; clear BK1063; clear HB; have BK1058 := n0_; have BK1063 := n1_; have HB := n2_; have BK1064 := n3_; have GW1064 := n4_; have GE1064 := n5_; have NB1058_1064 := n6_; have NB1064_1058 := n7_; have NB1063_1064 := n8_; have NB1064_1063 := n9_; clear n0_ n1_ n2_ n3_ n4_ n5_ n6_ n7_ n8_ n9_; clear hb hbox hg; have hnb14 := nn NB1064_1058 NB1058_1064; have hnb15 := nn NB1064_1063 NB1063_1064; have hcz16_0 := hcz BK1064 0; have hcz16_1 := hcz BK1064 1; have hfz16_0 := bfz BK1064 0; have hfz16_1 := bfz BK1064 1; have hnb17 := nn NB1063_1058 NB1058_1063; have hcz18_0 := hcz BK1063 0; have hcz18_1 := hcz BK1063 1; have hcz18_2 := hcz BK1063 2; have hcz18_3 := hcz BK1063 3; have hfz18_0 := bfz BK1063 0; have hfz18_1 := bfz BK1063 1; have hfz18_2 := bfz BK1063 2; have hfz18_3 := bfz BK1063 3) | ((with_reducible refine gate_callee (f := 21) rfl ?_); refine goesL_ (some 18) rfl rfl Try.func21 (by kernel_rfl) rfl #[.agg #[.int .i64 t1061, .int .i64 t1062]] rfl (by (try simp only [List.map_toArray, List.map_cons, List.map_nil]); first | done | rfl | (simp only [List.length_drop, List.length_take]; rfl)) ?_; (with_reducible refine (itv_None.calls t1061 t1062 true _ A10.out).mono ?_); rintro e w19 ⟨rfl, hb⟩; refine ⟨_, rfl, ?_⟩; have n0_ := bbF BK1058 hb; have n1_ := bbF BK1063 hb; have n2_ := Aside0.mk (blk_below (g := gb1064) (o := .cells #[.int .i64 t1059, .int .i64 t1060] 23 (0, 0)) (by refine pkB ?_; refine bput (cs := #[.int .i64 t1059, .int .i64 0]) 1 ?_; refine bput (cs := #[.int .i64 0, .int .i64 0]) 0 ?_; exact BK1064.out) hb); have n3_ := bst HB hb; clear BK1058; clear BK1063; clear BK1064; clear HB; have BK1058 := n0_; have BK1063 := n1_; have BK1064 := n2_; have HB := n3_; clear n0_ n1_ n2_ n3_; (try clear hb); have hcz20_0 := hcz BK1064 0; have hcz20_1 := hcz BK1064 1; have hfz20_0 := bfz BK1064 0; have hfz20_1 := bfz BK1064 1))
    go_ret2
    exact ⟨by first | rfl | (simp [errW_none, errW_some] <;> rfl) | (simp [*, errW_none, errW_some] <;> rfl) | kernel_rfl, (bpk HB).out⟩
   ·
    rw [if_neg c12] at H
    have c12b0 : (t1059 == t1060) = false := beq_eq_false_iff_ne.mpr c12
    have c12b1 : (t1059 != t1060) = true := bne_iff_ne.mpr c12
    have HC21 := Aside0.mk H
    clear H
    go_wp2_with (first | ((with_reducible refine gate_dst (N := 6) rfl ?_); refine box_event ?hg (N := 6) ?hd (cs := #[.int .i64 0, .int .i64 0]) (t := 23) ?hr ?_; (case hd => rfl); (case hg => rfl); (case hr => first | (go_simp; done) | (go_simp; rfl)); intro gb1064 hg w22 hbox hb; have n0_ := bbF BK1058 hb; have n1_ := Aside0.mk (blk_below (g := gb1063) (o := .cells #[.int .i64 t1059, .int .i64 t1060, .int .i64 t1061, .int .i64 t1062] 61 (0, 0)) (by refine pkB ?_; refine bput (cs := #[.int .i64 t1059, .int .i64 t1060, .int .i64 t1061, .int .i64 0]) 3 ?_; refine bput (cs := #[.int .i64 t1059, .int .i64 t1060, .int .i64 0, .int .i64 0]) 2 ?_; refine bput (cs := #[.int .i64 t1059, .int .i64 0, .int .i64 0, .int .i64 0]) 1 ?_; refine bput (cs := #[.int .i64 0, .int .i64 0, .int .i64 0, .int .i64 0]) 0 ?_; exact BK1063.out) hb); have n2_ := bst HB hb; have n3_ := Aside0.mk (hbox); have n4_ := bsz HB hg; have n5_ := bsz HB hg; have n6_ := bf1 BK1058 hg; have n7_ := bf2 BK1058 hg; have n8_ := Aside0.mk ((by rw [hg]; exact Nat.ne_of_lt (blk_lt (g := gb1063) (o := .cells #[.int .i64 t1059, .int .i64 t1060, .int .i64 t1061, .int .i64 t1062] 61 (0, 0)) (by refine pkB ?_; refine bput (cs := #[.int .i64 t1059, .int .i64 t1060, .int .i64 t1061, .int .i64 0]) 3 ?_; refine bput (cs := #[.int .i64 t1059, .int .i64 t1060, .int .i64 0, .int .i64 0]) 2 ?_; refine bput (cs := #[.int .i64 t1059, .int .i64 0, .int .i64 0, .int .i64 0]) 1 ?_; refine bput (cs := #[.int .i64 0, .int .i64 0, .int .i64 0, .int .i64 0]) 0 ?_; exact BK1063.out)) : gb1063 ≠ gb1064)); have n9_ := Aside0.mk ((by rw [hg]; exact Nat.ne_of_gt (blk_lt (g := gb1063) (o := .cells #[.int .i64 t1059, .int .i64 t1060, .int .i64 t1061, .int .i64 t1062] 61 (0, 0)) (by refine pkB ?_; refine bput (cs := #[.int .i64 t1059, .int .i64 t1060, .int .i64 t1061, .int .i64 0]) 3 ?_; refine bput (cs := #[.int .i64 t1059, .int .i64 t1060, .int .i64 0, .int .i64 0]) 2 ?_; refine bput (cs := #[.int .i64 t1059, .int .i64 0, .int .i64 0, .int .i64 0]) 1 ?_; refine bput (cs := #[.int .i64 0, .int .i64 0, .int .i64 0, .int .i64 0]) 0 ?_; exact BK1063.out)) : gb1064 ≠ gb1063)); clear BK1058; clear BK1063; clear HB; have BK1058 := n0_; have BK1063 := n1_; have HB := n2_; have BK1064 := n3_; have GW1064 := n4_; have GE1064 := n5_; have NB1058_1064 := n6_; have NB1064_1058 := n7_; have NB1063_1064 := n8_; have NB1064_1063 := n9_; clear n0_ n1_ n2_ n3_ n4_ n5_ n6_ n7_ n8_ n9_; clear hb hbox hg; have hnb23 := nn NB1064_1058 NB1058_1064; have hnb24 := nn NB1064_1063 NB1063_1064; have hcz25_0 := hcz BK1064 0; have hcz25_1 := hcz BK1064 1; have hfz25_0 := bfz BK1064 0; have hfz25_1 := bfz BK1064 1; have hnb26 := nn NB1063_1058 NB1058_1063; have hcz27_0 := hcz BK1063 0; have hcz27_1 := hcz BK1063 1; have hcz27_2 := hcz BK1063 2; have hcz27_3 := hcz BK1063 3; have hfz27_0 := bfz BK1063 0; have hfz27_1 := bfz BK1063 1; have hfz27_2 := bfz BK1063 2; have hfz27_3 := bfz BK1063 3) | ((with_reducible refine gate_callee (f := 21) rfl ?_); refine goesL_ (some 18) rfl rfl Try.func21 (by kernel_rfl) rfl #[.agg #[.int .i64 t1061, .int .i64 t1062]] rfl (by (try simp only [List.map_toArray, List.map_cons, List.map_nil]); first | done | rfl | (simp only [List.length_drop, List.length_take]; rfl)) ?_; (with_reducible refine (itv_None.calls t1061 t1062 true _ A10.out).mono ?_); rintro e w28 ⟨rfl, hb⟩; refine ⟨_, rfl, ?_⟩; have n0_ := bbF BK1058 hb; have n1_ := bbF BK1063 hb; have n2_ := Aside0.mk (blk_below (g := gb1064) (o := .cells #[.int .i64 t1059, .int .i64 t1060] 23 (0, 0)) (by refine pkB ?_; refine bput (cs := #[.int .i64 t1059, .int .i64 0]) 1 ?_; refine bput (cs := #[.int .i64 0, .int .i64 0]) 0 ?_; exact BK1064.out) hb); have n3_ := bst HB hb; clear BK1058; clear BK1063; clear BK1064; clear HB; have BK1058 := n0_; have BK1063 := n1_; have BK1064 := n2_; have HB := n3_; clear n0_ n1_ n2_ n3_; (try clear hb); have hcz29_0 := hcz BK1064 0; have hcz29_1 := hcz BK1064 1; have hfz29_0 := bfz BK1064 0; have hfz29_1 := bfz BK1064 1))
    refine looped_round (fun K_ hK_ => ?_)
    have H := HC21.out
    clear HC21
    try clear c1
    try clear c2
    try clear p2
    try clear c8
    try clear c9
    try clear c11
    try clear c12
    try clear c12b0
    try clear c12b1
    try clear c14
    try clear c15
    try clear c17
    try clear c21
    try clear c23
    try clear c24
    try clear c26
    try clear hcz16_0
    try clear hcz16_1
    try clear hcz18_0
    try clear hcz18_1
    try clear hcz18_2
    try clear hcz18_3
    try clear hcz20_0
    try clear hcz20_1
    try clear hcz25_0
    try clear hcz25_1
    try clear hcz27_0
    try clear hcz27_1
    try clear hcz27_2
    try clear hcz27_3
    try clear hcz29_0
    try clear hcz29_1
    try clear hcz5_0
    try clear hcz5_1
    try clear hcz9_0
    try clear hcz9_1
    try clear hcz9_2
    try clear hcz9_3
    try clear hfz16_0
    try clear hfz16_1
    try clear hfz18_0
    try clear hfz18_1
    try clear hfz18_2
    try clear hfz18_3
    try clear hfz20_0
    try clear hfz20_1
    try clear hfz25_0
    try clear hfz25_1
    try clear hfz27_0
    try clear hfz27_1
    try clear hfz27_2
    try clear hfz27_3
    try clear hfz29_0
    try clear hfz29_1
    try clear hfz5_0
    try clear hfz5_1
    try clear hfz9_0
    try clear hfz9_1
    try clear hfz9_2
    try clear hfz9_3
    try clear p2
    replace H := bnH H
    obtain ⟨t1067, A300, H⟩ := H
    replace H : (if t1067 = true then (if t1061 = t1062 then (some (t1061, true)) else (some (0, false))) else (some (0, false))) = some (r1, r2) := H
    have A30 := Aside0.mk A300
    clear A300
    by_cases c31 : t1067 = true
    ·
     subst c31
     have H1 : (if t1061 = t1062 then (some (t1061, true)) else (some (0, false))) = some (r1, r2) := by rw [if_pos rfl] at H; exact H
     clear H
     have H := H1
     clear H1
     by_cases c32 : t1061 = t1062
     ·
      rw [if_pos c32] at H
      have c32b0 : (t1061 == t1062) = true := beq_iff_eq.mpr c32
      have c32b1 : (t1061 != t1062) = false := bne_eq_false_iff_eq.mpr c32
      clear c32
      simp only [Option.some.injEq, Prod.mk.injEq] at H
      obtain ⟨rfl, rfl⟩ := H
      go_wp2_with (first | ((with_reducible refine gate_dst (N := 6) rfl ?_); refine box_event ?hg (N := 6) ?hd (cs := #[.int .i64 0, .int .i64 0]) (t := 23) ?hr ?_; (case hd => rfl); (case hg => rfl); (case hr => first | (go_simp; done) | (go_simp; rfl)); intro gb1066 hg w33 hbox hb; have n0_ := bst HB hb; have n1_ := Aside0.mk (hbox); have n2_ := bsz HB hg; have n3_ := bsz HB hg; have n4_ := bn1 BK1058 hg; have n5_ := bn2 BK1058 hg; have n6_ := bn1 BK1063 hg; have n7_ := bn2 BK1063 hg; have n8_ := bn1 BK1064 hg; have n9_ := bn2 BK1064 hg; replace BK1058 := bbw BK1058 hb; replace BK1063 := bbw BK1063 hb; replace BK1064 := bbw BK1064 hb; clear HB; have HB := n0_; have BK1066 := n1_; have GW1066 := n2_; have GE1066 := n3_; have NB1058_1066 := n4_; have NB1066_1058 := n5_; have NB1063_1066 := n6_; have NB1066_1063 := n7_; have NB1064_1066 := n8_; have NB1066_1064 := n9_; clear n0_ n1_ n2_ n3_ n4_ n5_ n6_ n7_ n8_ n9_; clear hb hbox hg; have hnb34 := nn NB1066_1058 NB1058_1066; have hnb35 := nn NB1066_1063 NB1063_1066; have hnb36 := nn NB1066_1064 NB1064_1066; have hcz37_0 := hcz BK1066 0; have hcz37_1 := hcz BK1066 1; have hfz37_0 := bfz BK1066 0; have hfz37_1 := bfz BK1066 1; have hnb38 := nn NB1063_1058 NB1058_1063; have hnb39 := nn NB1063_1064 NB1064_1063; have hcz40_0 := hcz BK1063 0; have hcz40_1 := hcz BK1063 1; have hcz40_2 := hcz BK1063 2; have hcz40_3 := hcz BK1063 3; have hfz40_0 := bfz BK1063 0; have hfz40_1 := bfz BK1063 1; have hfz40_2 := bfz BK1063 2; have hfz40_3 := bfz BK1063 3) | ((with_reducible refine gate_callee (f := 21) rfl ?_); refine goesL_ (some 18) rfl rfl Try.func21 (by kernel_rfl) rfl #[.agg #[.int .i64 t1059, .int .i64 t1060]] rfl (by (try simp only [List.map_toArray, List.map_cons, List.map_nil]); first | done | rfl | (simp only [List.length_drop, List.length_take]; rfl)) ?_; (with_reducible refine (itv_None.calls t1059 t1060 true _ A30.out).mono ?_); rintro e w41 ⟨rfl, hb⟩; refine ⟨_, rfl, ?_⟩; have n0_ := bbF BK1058 hb; have n1_ := bbF BK1063 hb; have n2_ := bbF BK1064 hb; have n3_ := Aside0.mk (blk_below (g := gb1066) (o := .cells #[.int .i64 t1061, .int .i64 t1062] 23 (0, 0)) (by refine pkB ?_; refine bput (cs := #[.int .i64 t1061, .int .i64 0]) 1 ?_; refine bput (cs := #[.int .i64 0, .int .i64 0]) 0 ?_; exact BK1066.out) hb); have n4_ := bst HB hb; clear BK1058; clear BK1063; clear BK1064; clear BK1066; clear HB; have BK1058 := n0_; have BK1063 := n1_; have BK1064 := n2_; have BK1066 := n3_; have HB := n4_; clear n0_ n1_ n2_ n3_ n4_; (try clear hb); have hcz42_0 := hcz BK1066 0; have hcz42_1 := hcz BK1066 1; have hfz42_0 := bfz BK1066 0; have hfz42_1 := bfz BK1066 1))
      go_ret2
      exact ⟨by first | rfl | (simp [errW_none, errW_some] <;> rfl) | (simp [*, errW_none, errW_some] <;> rfl) | kernel_rfl, (bpk HB).out⟩
     ·
      rw [if_neg c32] at H
      have c32b0 : (t1061 == t1062) = false := beq_eq_false_iff_ne.mpr c32
      have c32b1 : (t1061 != t1062) = true := bne_iff_ne.mpr c32
      have HC43 := Aside0.mk H
      clear H
      go_wp2_with (first | ((with_reducible refine gate_dst (N := 6) rfl ?_); refine box_event ?hg (N := 6) ?hd (cs := #[.int .i64 0, .int .i64 0]) (t := 23) ?hr ?_; (case hd => rfl); (case hg => rfl); (case hr => first | (go_simp; done) | (go_simp; rfl)); intro gb1066 hg w44 hbox hb; have n0_ := bst HB hb; have n1_ := Aside0.mk (hbox); have n2_ := bsz HB hg; have n3_ := bsz HB hg; have n4_ := bn1 BK1058 hg; have n5_ := bn2 BK1058 hg; have n6_ := bn1 BK1063 hg; have n7_ := bn2 BK1063 hg; have n8_ := bn1 BK1064 hg; have n9_ := bn2 BK1064 hg; replace BK1058 := bbw BK1058 hb; replace BK1063 := bbw BK1063 hb; replace BK1064 := bbw BK1064 hb; clear HB; have HB := n0_; have BK1066 := n1_; have GW1066 := n2_; have GE1066 := n3_; have NB1058_1066 := n4_; have NB1066_1058 := n5_; have NB1063_1066 := n6_; have NB1066_1063 := n7_; have NB1064_1066 := n8_; have NB1066_1064 := n9_; clear n0_ n1_ n2_ n3_ n4_ n5_ n6_ n7_ n8_ n9_; clear hb hbox hg; have hnb45 := nn NB1066_1058 NB1058_1066; have hnb46 := nn NB1066_1063 NB1063_1066; have hnb47 := nn NB1066_1064 NB1064_1066; have hcz48_0 := hcz BK1066 0; have hcz48_1 := hcz BK1066 1; have hfz48_0 := bfz BK1066 0; have hfz48_1 := bfz BK1066 1; have hnb49 := nn NB1063_1058 NB1058_1063; have hnb50 := nn NB1063_1064 NB1064_1063; have hcz51_0 := hcz BK1063 0; have hcz51_1 := hcz BK1063 1; have hcz51_2 := hcz BK1063 2; have hcz51_3 := hcz BK1063 3; have hfz51_0 := bfz BK1063 0; have hfz51_1 := bfz BK1063 1; have hfz51_2 := bfz BK1063 2; have hfz51_3 := bfz BK1063 3) | ((with_reducible refine gate_callee (f := 21) rfl ?_); refine goesL_ (some 18) rfl rfl Try.func21 (by kernel_rfl) rfl #[.agg #[.int .i64 t1059, .int .i64 t1060]] rfl (by (try simp only [List.map_toArray, List.map_cons, List.map_nil]); first | done | rfl | (simp only [List.length_drop, List.length_take]; rfl)) ?_; (with_reducible refine (itv_None.calls t1059 t1060 true _ A30.out).mono ?_); rintro e w52 ⟨rfl, hb⟩; refine ⟨_, rfl, ?_⟩; have n0_ := bbF BK1058 hb; have n1_ := bbF BK1063 hb; have n2_ := bbF BK1064 hb; have n3_ := Aside0.mk (blk_below (g := gb1066) (o := .cells #[.int .i64 t1061, .int .i64 t1062] 23 (0, 0)) (by refine pkB ?_; refine bput (cs := #[.int .i64 t1061, .int .i64 0]) 1 ?_; refine bput (cs := #[.int .i64 0, .int .i64 0]) 0 ?_; exact BK1066.out) hb); have n4_ := bst HB hb; clear BK1058; clear BK1063; clear BK1064; clear BK1066; clear HB; have BK1058 := n0_; have BK1063 := n1_; have BK1064 := n2_; have BK1066 := n3_; have HB := n4_; clear n0_ n1_ n2_ n3_ n4_; (try clear hb); have hcz53_0 := hcz BK1066 0; have hcz53_1 := hcz BK1066 1; have hfz53_0 := bfz BK1066 0; have hfz53_1 := bfz BK1066 1))
      refine looped_round (fun K_ hK_ => ?_)
      have H := HC43.out
      clear HC43
      try clear c1
      try clear c2
      try clear p2
      try clear c3
      try clear c4
      try clear c5
      try clear c8
      try clear c9
      try clear c11
      try clear c12
      try clear c12b0
      try clear c12b1
      try clear c14
      try clear c15
      try clear c17
      try clear c21
      try clear c23
      try clear c24
      try clear c26
      try clear c31
      try clear c32
      try clear c32b0
      try clear c32b1
      try clear c34
      try clear c35
      try clear c36
      try clear c38
      try clear c39
      try clear c45
      try clear c46
      try clear c47
      try clear c49
      try clear c50
      try clear hcz16_0
      try clear hcz16_1
      try clear hcz18_0
      try clear hcz18_1
      try clear hcz18_2
      try clear hcz18_3
      try clear hcz20_0
      try clear hcz20_1
      try clear hcz25_0
      try clear hcz25_1
      try clear hcz27_0
      try clear hcz27_1
      try clear hcz27_2
      try clear hcz27_3
      try clear hcz29_0
      try clear hcz29_1
      try clear hcz37_0
      try clear hcz37_1
      try clear hcz40_0
      try clear hcz40_1
      try clear hcz40_2
      try clear hcz40_3
      try clear hcz42_0
      try clear hcz42_1
      try clear hcz48_0
      try clear hcz48_1
      try clear hcz51_0
      try clear hcz51_1
      try clear hcz51_2
      try clear hcz51_3
      try clear hcz53_0
      try clear hcz53_1
      try clear hcz5_0
      try clear hcz5_1
      try clear hcz9_0
      try clear hcz9_1
      try clear hcz9_2
      try clear hcz9_3
      try clear hfz16_0
      try clear hfz16_1
      try clear hfz18_0
      try clear hfz18_1
      try clear hfz18_2
      try clear hfz18_3
      try clear hfz20_0
      try clear hfz20_1
      try clear hfz25_0
      try clear hfz25_1
      try clear hfz27_0
      try clear hfz27_1
      try clear hfz27_2
      try clear hfz27_3
      try clear hfz29_0
      try clear hfz29_1
      try clear hfz37_0
      try clear hfz37_1
      try clear hfz40_0
      try clear hfz40_1
      try clear hfz40_2
      try clear hfz40_3
      try clear hfz42_0
      try clear hfz42_1
      try clear hfz48_0
      try clear hfz48_1
      try clear hfz51_0
      try clear hfz51_1
      try clear hfz51_2
      try clear hfz51_3
      try clear hfz53_0
      try clear hfz53_1
      try clear hfz5_0
      try clear hfz5_1
      try clear hfz9_0
      try clear hfz9_1
      try clear hfz9_2
      try clear hfz9_3
      try clear p2
      simp only [Option.some.injEq, Prod.mk.injEq] at H
      obtain ⟨rfl, rfl⟩ := H
      go_wp2
      go_ret2
      exact ⟨by first | rfl | (simp [errW_none, errW_some] <;> rfl) | (simp [*, errW_none, errW_some] <;> rfl) | kernel_rfl, (bpk HB).out⟩
    ·
     replace c31 := Bool.eq_false_iff.mpr c31
     subst c31
     have H1 : (some (0, false)) = some (r1, r2) := by rw [if_neg (show ¬ (false = true) by decide)] at H; exact H
     clear H
     have H := H1
     clear H1
     have HC54 := Aside0.mk H
     clear H
     go_wp2_with (first | ((with_reducible refine gate_dst (N := 6) rfl ?_); refine box_event ?hg (N := 6) ?hd (cs := #[.int .i64 0, .int .i64 0]) (t := 23) ?hr ?_; (case hd => rfl); (case hg => rfl); (case hr => first | (go_simp; done) | (go_simp; rfl)); intro gb1066 hg w55 hbox hb; have n0_ := bst HB hb; have n1_ := Aside0.mk (hbox); have n2_ := bsz HB hg; have n3_ := bsz HB hg; have n4_ := bn1 BK1058 hg; have n5_ := bn2 BK1058 hg; have n6_ := bn1 BK1063 hg; have n7_ := bn2 BK1063 hg; have n8_ := bn1 BK1064 hg; have n9_ := bn2 BK1064 hg; replace BK1058 := bbw BK1058 hb; replace BK1063 := bbw BK1063 hb; replace BK1064 := bbw BK1064 hb; clear HB; have HB := n0_; have BK1066 := n1_; have GW1066 := n2_; have GE1066 := n3_; have NB1058_1066 := n4_; have NB1066_1058 := n5_; have NB1063_1066 := n6_; have NB1066_1063 := n7_; have NB1064_1066 := n8_; have NB1066_1064 := n9_; clear n0_ n1_ n2_ n3_ n4_ n5_ n6_ n7_ n8_ n9_; clear hb hbox hg; have hnb56 := nn NB1066_1058 NB1058_1066; have hnb57 := nn NB1066_1063 NB1063_1066; have hnb58 := nn NB1066_1064 NB1064_1066; have hcz59_0 := hcz BK1066 0; have hcz59_1 := hcz BK1066 1; have hfz59_0 := bfz BK1066 0; have hfz59_1 := bfz BK1066 1; have hnb60 := nn NB1063_1058 NB1058_1063; have hnb61 := nn NB1063_1064 NB1064_1063; have hcz62_0 := hcz BK1063 0; have hcz62_1 := hcz BK1063 1; have hcz62_2 := hcz BK1063 2; have hcz62_3 := hcz BK1063 3; have hfz62_0 := bfz BK1063 0; have hfz62_1 := bfz BK1063 1; have hfz62_2 := bfz BK1063 2; have hfz62_3 := bfz BK1063 3) | ((with_reducible refine gate_callee (f := 21) rfl ?_); refine goesL_ (some 18) rfl rfl Try.func21 (by kernel_rfl) rfl #[.agg #[.int .i64 t1059, .int .i64 t1060]] rfl (by (try simp only [List.map_toArray, List.map_cons, List.map_nil]); first | done | rfl | (simp only [List.length_drop, List.length_take]; rfl)) ?_; (with_reducible refine (itv_None.calls t1059 t1060 false _ A30.out).mono ?_); rintro e w63 ⟨rfl, hb⟩; refine ⟨_, rfl, ?_⟩; have n0_ := bbF BK1058 hb; have n1_ := bbF BK1063 hb; have n2_ := bbF BK1064 hb; have n3_ := Aside0.mk (blk_below (g := gb1066) (o := .cells #[.int .i64 t1061, .int .i64 t1062] 23 (0, 0)) (by refine pkB ?_; refine bput (cs := #[.int .i64 t1061, .int .i64 0]) 1 ?_; refine bput (cs := #[.int .i64 0, .int .i64 0]) 0 ?_; exact BK1066.out) hb); have n4_ := bst HB hb; clear BK1058; clear BK1063; clear BK1064; clear BK1066; clear HB; have BK1058 := n0_; have BK1063 := n1_; have BK1064 := n2_; have BK1066 := n3_; have HB := n4_; clear n0_ n1_ n2_ n3_ n4_; (try clear hb)))
     refine looped_round (fun K_ hK_ => ?_)
     have H := HC54.out
     clear HC54
     try clear c1
     try clear c2
     try clear p2
     try clear c3
     try clear c4
     try clear c5
     try clear c6
     try clear c8
     try clear c9
     try clear c11
     try clear c12
     try clear c12b0
     try clear c12b1
     try clear c14
     try clear c15
     try clear c17
     try clear c21
     try clear c23
     try clear c24
     try clear c26
     try clear c31
     try clear c32
     try clear c32b0
     try clear c32b1
     try clear c34
     try clear c35
     try clear c36
     try clear c38
     try clear c39
     try clear c45
     try clear c46
     try clear c47
     try clear c49
     try clear c50
     try clear c56
     try clear c57
     try clear c58
     try clear c60
     try clear c61
     try clear hcz16_0
     try clear hcz16_1
     try clear hcz18_0
     try clear hcz18_1
     try clear hcz18_2
     try clear hcz18_3
     try clear hcz20_0
     try clear hcz20_1
     try clear hcz25_0
     try clear hcz25_1
     try clear hcz27_0
     try clear hcz27_1
     try clear hcz27_2
     try clear hcz27_3
     try clear hcz29_0
     try clear hcz29_1
     try clear hcz37_0
     try clear hcz37_1
     try clear hcz40_0
     try clear hcz40_1
     try clear hcz40_2
     try clear hcz40_3
     try clear hcz42_0
     try clear hcz42_1
     try clear hcz48_0
     try clear hcz48_1
     try clear hcz51_0
     try clear hcz51_1
     try clear hcz51_2
     try clear hcz51_3
     try clear hcz53_0
     try clear hcz53_1
     try clear hcz59_0
     try clear hcz59_1
     try clear hcz5_0
     try clear hcz5_1
     try clear hcz62_0
     try clear hcz62_1
     try clear hcz62_2
     try clear hcz62_3
     try clear hcz9_0
     try clear hcz9_1
     try clear hcz9_2
     try clear hcz9_3
     try clear hfz16_0
     try clear hfz16_1
     try clear hfz18_0
     try clear hfz18_1
     try clear hfz18_2
     try clear hfz18_3
     try clear hfz20_0
     try clear hfz20_1
     try clear hfz25_0
     try clear hfz25_1
     try clear hfz27_0
     try clear hfz27_1
     try clear hfz27_2
     try clear hfz27_3
     try clear hfz29_0
     try clear hfz29_1
     try clear hfz37_0
     try clear hfz37_1
     try clear hfz40_0
     try clear hfz40_1
     try clear hfz40_2
     try clear hfz40_3
     try clear hfz42_0
     try clear hfz42_1
     try clear hfz48_0
     try clear hfz48_1
     try clear hfz51_0
     try clear hfz51_1
     try clear hfz51_2
     try clear hfz51_3
     try clear hfz53_0
     try clear hfz53_1
     try clear hfz59_0
     try clear hfz59_1
     try clear hfz5_0
     try clear hfz5_1
     try clear hfz62_0
     try clear hfz62_1
     try clear hfz62_2
     try clear hfz62_3
     try clear hfz9_0
     try clear hfz9_1
     try clear hfz9_2
     try clear hfz9_3
     try clear p2
     simp only [Option.some.injEq, Prod.mk.injEq] at H
     obtain ⟨rfl, rfl⟩ := H
     go_wp2
     go_ret2
     exact ⟨by first | rfl | (simp [errW_none, errW_some] <;> rfl) | (simp [*, errW_none, errW_some] <;> rfl) | kernel_rfl, (bpk HB).out⟩
  ·
   replace c11 := Bool.eq_false_iff.mpr c11
   subst c11
   have H1 : ((itv_None.f t1059 t1060).bind fun t1069 => (if t1069 = true then (if t1061 = t1062 then (some (t1061, true)) else (some (0, false))) else (some (0, false)))) = some (r1, r2) := by rw [if_neg (show ¬ (false = true) by decide)] at H; exact H
   clear H
   have H := H1
   clear H1
   have HC64 := Aside0.mk H
   clear H
   go_wp2_with (first | ((with_reducible refine gate_dst (N := 6) rfl ?_); refine box_event ?hg (N := 6) ?hd (cs := #[.int .i64 0, .int .i64 0]) (t := 23) ?hr ?_; (case hd => rfl); (case hg => rfl); (case hr => first | (go_simp; done) | (go_simp; rfl)); intro gb1064 hg w65 hbox hb; have n0_ := bbF BK1058 hb; have n1_ := Aside0.mk (blk_below (g := gb1063) (o := .cells #[.int .i64 t1059, .int .i64 t1060, .int .i64 t1061, .int .i64 t1062] 61 (0, 0)) (by refine pkB ?_; refine bput (cs := #[.int .i64 t1059, .int .i64 t1060, .int .i64 t1061, .int .i64 0]) 3 ?_; refine bput (cs := #[.int .i64 t1059, .int .i64 t1060, .int .i64 0, .int .i64 0]) 2 ?_; refine bput (cs := #[.int .i64 t1059, .int .i64 0, .int .i64 0, .int .i64 0]) 1 ?_; refine bput (cs := #[.int .i64 0, .int .i64 0, .int .i64 0, .int .i64 0]) 0 ?_; exact BK1063.out) hb); have n2_ := bst HB hb; have n3_ := Aside0.mk (hbox); have n4_ := bsz HB hg; have n5_ := bsz HB hg; have n6_ := bf1 BK1058 hg; have n7_ := bf2 BK1058 hg; have n8_ := Aside0.mk ((by rw [hg]; exact Nat.ne_of_lt (blk_lt (g := gb1063) (o := .cells #[.int .i64 t1059, .int .i64 t1060, .int .i64 t1061, .int .i64 t1062] 61 (0, 0)) (by refine pkB ?_; refine bput (cs := #[.int .i64 t1059, .int .i64 t1060, .int .i64 t1061, .int .i64 0]) 3 ?_; refine bput (cs := #[.int .i64 t1059, .int .i64 t1060, .int .i64 0, .int .i64 0]) 2 ?_; refine bput (cs := #[.int .i64 t1059, .int .i64 0, .int .i64 0, .int .i64 0]) 1 ?_; refine bput (cs := #[.int .i64 0, .int .i64 0, .int .i64 0, .int .i64 0]) 0 ?_; exact BK1063.out)) : gb1063 ≠ gb1064)); have n9_ := Aside0.mk ((by rw [hg]; exact Nat.ne_of_gt (blk_lt (g := gb1063) (o := .cells #[.int .i64 t1059, .int .i64 t1060, .int .i64 t1061, .int .i64 t1062] 61 (0, 0)) (by refine pkB ?_; refine bput (cs := #[.int .i64 t1059, .int .i64 t1060, .int .i64 t1061, .int .i64 0]) 3 ?_; refine bput (cs := #[.int .i64 t1059, .int .i64 t1060, .int .i64 0, .int .i64 0]) 2 ?_; refine bput (cs := #[.int .i64 t1059, .int .i64 0, .int .i64 0, .int .i64 0]) 1 ?_; refine bput (cs := #[.int .i64 0, .int .i64 0, .int .i64 0, .int .i64 0]) 0 ?_; exact BK1063.out)) : gb1064 ≠ gb1063)); clear BK1058; clear BK1063; clear HB; have BK1058 := n0_; have BK1063 := n1_; have HB := n2_; have BK1064 := n3_; have GW1064 := n4_; have GE1064 := n5_; have NB1058_1064 := n6_; have NB1064_1058 := n7_; have NB1063_1064 := n8_; have NB1064_1063 := n9_; clear n0_ n1_ n2_ n3_ n4_ n5_ n6_ n7_ n8_ n9_; clear hb hbox hg; have hnb66 := nn NB1064_1058 NB1058_1064; have hnb67 := nn NB1064_1063 NB1063_1064; have hcz68_0 := hcz BK1064 0; have hcz68_1 := hcz BK1064 1; have hfz68_0 := bfz BK1064 0; have hfz68_1 := bfz BK1064 1; have hnb69 := nn NB1063_1058 NB1058_1063; have hcz70_0 := hcz BK1063 0; have hcz70_1 := hcz BK1063 1; have hcz70_2 := hcz BK1063 2; have hcz70_3 := hcz BK1063 3; have hfz70_0 := bfz BK1063 0; have hfz70_1 := bfz BK1063 1; have hfz70_2 := bfz BK1063 2; have hfz70_3 := bfz BK1063 3) | ((with_reducible refine gate_callee (f := 21) rfl ?_); refine goesL_ (some 18) rfl rfl Try.func21 (by kernel_rfl) rfl #[.agg #[.int .i64 t1061, .int .i64 t1062]] rfl (by (try simp only [List.map_toArray, List.map_cons, List.map_nil]); first | done | rfl | (simp only [List.length_drop, List.length_take]; rfl)) ?_; (with_reducible refine (itv_None.calls t1061 t1062 false _ A10.out).mono ?_); rintro e w71 ⟨rfl, hb⟩; refine ⟨_, rfl, ?_⟩; have n0_ := bbF BK1058 hb; have n1_ := bbF BK1063 hb; have n2_ := Aside0.mk (blk_below (g := gb1064) (o := .cells #[.int .i64 t1059, .int .i64 t1060] 23 (0, 0)) (by refine pkB ?_; refine bput (cs := #[.int .i64 t1059, .int .i64 0]) 1 ?_; refine bput (cs := #[.int .i64 0, .int .i64 0]) 0 ?_; exact BK1064.out) hb); have n3_ := bst HB hb; clear BK1058; clear BK1063; clear BK1064; clear HB; have BK1058 := n0_; have BK1063 := n1_; have BK1064 := n2_; have HB := n3_; clear n0_ n1_ n2_ n3_; (try clear hb)))
   refine looped_round (fun K_ hK_ => ?_)
   have H := HC64.out
   clear HC64
   try clear c1
   try clear c2
   try clear p2
   try clear c3
   try clear c4
   try clear c5
   try clear c6
   try clear c8
   try clear c9
   try clear c11
   try clear c12
   try clear c12b0
   try clear c12b1
   try clear c14
   try clear c15
   try clear c17
   try clear c21
   try clear c23
   try clear c24
   try clear c26
   try clear c31
   try clear c32
   try clear c32b0
   try clear c32b1
   try clear c34
   try clear c35
   try clear c36
   try clear c38
   try clear c39
   try clear c45
   try clear c46
   try clear c47
   try clear c49
   try clear c50
   try clear c56
   try clear c57
   try clear c58
   try clear c60
   try clear c61
   try clear c66
   try clear c67
   try clear c69
   try clear hcz16_0
   try clear hcz16_1
   try clear hcz18_0
   try clear hcz18_1
   try clear hcz18_2
   try clear hcz18_3
   try clear hcz20_0
   try clear hcz20_1
   try clear hcz25_0
   try clear hcz25_1
   try clear hcz27_0
   try clear hcz27_1
   try clear hcz27_2
   try clear hcz27_3
   try clear hcz29_0
   try clear hcz29_1
   try clear hcz37_0
   try clear hcz37_1
   try clear hcz40_0
   try clear hcz40_1
   try clear hcz40_2
   try clear hcz40_3
   try clear hcz42_0
   try clear hcz42_1
   try clear hcz48_0
   try clear hcz48_1
   try clear hcz51_0
   try clear hcz51_1
   try clear hcz51_2
   try clear hcz51_3
   try clear hcz53_0
   try clear hcz53_1
   try clear hcz59_0
   try clear hcz59_1
   try clear hcz5_0
   try clear hcz5_1
   try clear hcz62_0
   try clear hcz62_1
   try clear hcz62_2
   try clear hcz62_3
   try clear hcz68_0
   try clear hcz68_1
   try clear hcz70_0
   try clear hcz70_1
   try clear hcz70_2
   try clear hcz70_3
   try clear hcz9_0
   try clear hcz9_1
   try clear hcz9_2
   try clear hcz9_3
   try clear hfz16_0
   try clear hfz16_1
   try clear hfz18_0
   try clear hfz18_1
   try clear hfz18_2
   try clear hfz18_3
   try clear hfz20_0
   try clear hfz20_1
   try clear hfz25_0
   try clear hfz25_1
   try clear hfz27_0
   try clear hfz27_1
   try clear hfz27_2
   try clear hfz27_3
   try clear hfz29_0
   try clear hfz29_1
   try clear hfz37_0
   try clear hfz37_1
   try clear hfz40_0
   try clear hfz40_1
   try clear hfz40_2
   try clear hfz40_3
   try clear hfz42_0
   try clear hfz42_1
   try clear hfz48_0
   try clear hfz48_1
   try clear hfz51_0
   try clear hfz51_1
   try clear hfz51_2
   try clear hfz51_3
   try clear hfz53_0
   try clear hfz53_1
   try clear hfz59_0
   try clear hfz59_1
   try clear hfz5_0
   try clear hfz5_1
   try clear hfz62_0
   try clear hfz62_1
   try clear hfz62_2
   try clear hfz62_3
   try clear hfz68_0
   try clear hfz68_1
   try clear hfz70_0
   try clear hfz70_1
   try clear hfz70_2
   try clear hfz70_3
   try clear hfz9_0
   try clear hfz9_1
   try clear hfz9_2
   try clear hfz9_3
   try clear p2
   replace H := bnH H
   obtain ⟨t1069, A720, H⟩ := H
   replace H : (if t1069 = true then (if t1061 = t1062 then (some (t1061, true)) else (some (0, false))) else (some (0, false))) = some (r1, r2) := H
   have A72 := Aside0.mk A720
   clear A720
   by_cases c73 : t1069 = true
   ·
    subst c73
    have H1 : (if t1061 = t1062 then (some (t1061, true)) else (some (0, false))) = some (r1, r2) := by rw [if_pos rfl] at H; exact H
    clear H
    have H := H1
    clear H1
    by_cases c74 : t1061 = t1062
    ·
     rw [if_pos c74] at H
     have c74b0 : (t1061 == t1062) = true := beq_iff_eq.mpr c74
     have c74b1 : (t1061 != t1062) = false := bne_eq_false_iff_eq.mpr c74
     clear c74
     simp only [Option.some.injEq, Prod.mk.injEq] at H
     obtain ⟨rfl, rfl⟩ := H
     go_wp2_with (first | ((with_reducible refine gate_dst (N := 6) rfl ?_); refine box_event ?hg (N := 6) ?hd (cs := #[.int .i64 0, .int .i64 0]) (t := 23) ?hr ?_; (case hd => rfl); (case hg => rfl); (case hr => first | (go_simp; done) | (go_simp; rfl)); intro gb1068 hg w75 hbox hb; have n0_ := bst HB hb; have n1_ := Aside0.mk (hbox); have n2_ := bsz HB hg; have n3_ := bsz HB hg; have n4_ := bn1 BK1058 hg; have n5_ := bn2 BK1058 hg; have n6_ := bn1 BK1063 hg; have n7_ := bn2 BK1063 hg; have n8_ := bn1 BK1064 hg; have n9_ := bn2 BK1064 hg; replace BK1058 := bbw BK1058 hb; replace BK1063 := bbw BK1063 hb; replace BK1064 := bbw BK1064 hb; clear HB; have HB := n0_; have BK1068 := n1_; have GW1068 := n2_; have GE1068 := n3_; have NB1058_1068 := n4_; have NB1068_1058 := n5_; have NB1063_1068 := n6_; have NB1068_1063 := n7_; have NB1064_1068 := n8_; have NB1068_1064 := n9_; clear n0_ n1_ n2_ n3_ n4_ n5_ n6_ n7_ n8_ n9_; clear hb hbox hg; have hnb76 := nn NB1068_1058 NB1058_1068; have hnb77 := nn NB1068_1063 NB1063_1068; have hnb78 := nn NB1068_1064 NB1064_1068; have hcz79_0 := hcz BK1068 0; have hcz79_1 := hcz BK1068 1; have hfz79_0 := bfz BK1068 0; have hfz79_1 := bfz BK1068 1; have hnb80 := nn NB1063_1058 NB1058_1063; have hnb81 := nn NB1063_1064 NB1064_1063; have hcz82_0 := hcz BK1063 0; have hcz82_1 := hcz BK1063 1; have hcz82_2 := hcz BK1063 2; have hcz82_3 := hcz BK1063 3; have hfz82_0 := bfz BK1063 0; have hfz82_1 := bfz BK1063 1; have hfz82_2 := bfz BK1063 2; have hfz82_3 := bfz BK1063 3) | ((with_reducible refine gate_callee (f := 21) rfl ?_); refine goesL_ (some 18) rfl rfl Try.func21 (by kernel_rfl) rfl #[.agg #[.int .i64 t1059, .int .i64 t1060]] rfl (by (try simp only [List.map_toArray, List.map_cons, List.map_nil]); first | done | rfl | (simp only [List.length_drop, List.length_take]; rfl)) ?_; (with_reducible refine (itv_None.calls t1059 t1060 true _ A72.out).mono ?_); rintro e w83 ⟨rfl, hb⟩; refine ⟨_, rfl, ?_⟩; have n0_ := bbF BK1058 hb; have n1_ := bbF BK1063 hb; have n2_ := bbF BK1064 hb; have n3_ := Aside0.mk (blk_below (g := gb1068) (o := .cells #[.int .i64 t1061, .int .i64 t1062] 23 (0, 0)) (by refine pkB ?_; refine bput (cs := #[.int .i64 t1061, .int .i64 0]) 1 ?_; refine bput (cs := #[.int .i64 0, .int .i64 0]) 0 ?_; exact BK1068.out) hb); have n4_ := bst HB hb; clear BK1058; clear BK1063; clear BK1064; clear BK1068; clear HB; have BK1058 := n0_; have BK1063 := n1_; have BK1064 := n2_; have BK1068 := n3_; have HB := n4_; clear n0_ n1_ n2_ n3_ n4_; (try clear hb); have hcz84_0 := hcz BK1068 0; have hcz84_1 := hcz BK1068 1; have hfz84_0 := bfz BK1068 0; have hfz84_1 := bfz BK1068 1))
     go_ret2
     exact ⟨by first | rfl | (simp [errW_none, errW_some] <;> rfl) | (simp [*, errW_none, errW_some] <;> rfl) | kernel_rfl, (bpk HB).out⟩
    ·
     rw [if_neg c74] at H
     have c74b0 : (t1061 == t1062) = false := beq_eq_false_iff_ne.mpr c74
     have c74b1 : (t1061 != t1062) = true := bne_iff_ne.mpr c74
     have HC85 := Aside0.mk H
     clear H
     go_wp2_with (first | ((with_reducible refine gate_dst (N := 6) rfl ?_); refine box_event ?hg (N := 6) ?hd (cs := #[.int .i64 0, .int .i64 0]) (t := 23) ?hr ?_; (case hd => rfl); (case hg => rfl); (case hr => first | (go_simp; done) | (go_simp; rfl)); intro gb1068 hg w86 hbox hb; have n0_ := bst HB hb; have n1_ := Aside0.mk (hbox); have n2_ := bsz HB hg; have n3_ := bsz HB hg; have n4_ := bn1 BK1058 hg; have n5_ := bn2 BK1058 hg; have n6_ := bn1 BK1063 hg; have n7_ := bn2 BK1063 hg; have n8_ := bn1 BK1064 hg; have n9_ := bn2 BK1064 hg; replace BK1058 := bbw BK1058 hb; replace BK1063 := bbw BK1063 hb; replace BK1064 := bbw BK1064 hb; clear HB; have HB := n0_; have BK1068 := n1_; have GW1068 := n2_; have GE1068 := n3_; have NB1058_1068 := n4_; have NB1068_1058 := n5_; have NB1063_1068 := n6_; have NB1068_1063 := n7_; have NB1064_1068 := n8_; have NB1068_1064 := n9_; clear n0_ n1_ n2_ n3_ n4_ n5_ n6_ n7_ n8_ n9_; clear hb hbox hg; have hnb87 := nn NB1068_1058 NB1058_1068; have hnb88 := nn NB1068_1063 NB1063_1068; have hnb89 := nn NB1068_1064 NB1064_1068; have hcz90_0 := hcz BK1068 0; have hcz90_1 := hcz BK1068 1; have hfz90_0 := bfz BK1068 0; have hfz90_1 := bfz BK1068 1; have hnb91 := nn NB1063_1058 NB1058_1063; have hnb92 := nn NB1063_1064 NB1064_1063; have hcz93_0 := hcz BK1063 0; have hcz93_1 := hcz BK1063 1; have hcz93_2 := hcz BK1063 2; have hcz93_3 := hcz BK1063 3; have hfz93_0 := bfz BK1063 0; have hfz93_1 := bfz BK1063 1; have hfz93_2 := bfz BK1063 2; have hfz93_3 := bfz BK1063 3) | ((with_reducible refine gate_callee (f := 21) rfl ?_); refine goesL_ (some 18) rfl rfl Try.func21 (by kernel_rfl) rfl #[.agg #[.int .i64 t1059, .int .i64 t1060]] rfl (by (try simp only [List.map_toArray, List.map_cons, List.map_nil]); first | done | rfl | (simp only [List.length_drop, List.length_take]; rfl)) ?_; (with_reducible refine (itv_None.calls t1059 t1060 true _ A72.out).mono ?_); rintro e w94 ⟨rfl, hb⟩; refine ⟨_, rfl, ?_⟩; have n0_ := bbF BK1058 hb; have n1_ := bbF BK1063 hb; have n2_ := bbF BK1064 hb; have n3_ := Aside0.mk (blk_below (g := gb1068) (o := .cells #[.int .i64 t1061, .int .i64 t1062] 23 (0, 0)) (by refine pkB ?_; refine bput (cs := #[.int .i64 t1061, .int .i64 0]) 1 ?_; refine bput (cs := #[.int .i64 0, .int .i64 0]) 0 ?_; exact BK1068.out) hb); have n4_ := bst HB hb; clear BK1058; clear BK1063; clear BK1064; clear BK1068; clear HB; have BK1058 := n0_; have BK1063 := n1_; have BK1064 := n2_; have BK1068 := n3_; have HB := n4_; clear n0_ n1_ n2_ n3_ n4_; (try clear hb); have hcz95_0 := hcz BK1068 0; have hcz95_1 := hcz BK1068 1; have hfz95_0 := bfz BK1068 0; have hfz95_1 := bfz BK1068 1))
     refine looped_round (fun K_ hK_ => ?_)
     have H := HC85.out
     clear HC85
     try clear c1
     try clear c2
     try clear p2
     try clear c3
     try clear c4
     try clear c5
     try clear c6
     try clear c7
     try clear c8
     try clear c9
     try clear c11
     try clear c12
     try clear c12b0
     try clear c12b1
     try clear c14
     try clear c15
     try clear c17
     try clear c21
     try clear c23
     try clear c24
     try clear c26
     try clear c31
     try clear c32
     try clear c32b0
     try clear c32b1
     try clear c34
     try clear c35
     try clear c36
     try clear c38
     try clear c39
     try clear c45
     try clear c46
     try clear c47
     try clear c49
     try clear c50
     try clear c56
     try clear c57
     try clear c58
     try clear c60
     try clear c61
     try clear c66
     try clear c67
     try clear c69
     try clear c73
     try clear c74
     try clear c74b0
     try clear c74b1
     try clear c76
     try clear c77
     try clear c78
     try clear c80
     try clear c81
     try clear c83
     try clear c87
     try clear c88
     try clear c89
     try clear c91
     try clear c92
     try clear c93
     try clear hcz16_0
     try clear hcz16_1
     try clear hcz18_0
     try clear hcz18_1
     try clear hcz18_2
     try clear hcz18_3
     try clear hcz20_0
     try clear hcz20_1
     try clear hcz25_0
     try clear hcz25_1
     try clear hcz27_0
     try clear hcz27_1
     try clear hcz27_2
     try clear hcz27_3
     try clear hcz29_0
     try clear hcz29_1
     try clear hcz37_0
     try clear hcz37_1
     try clear hcz40_0
     try clear hcz40_1
     try clear hcz40_2
     try clear hcz40_3
     try clear hcz42_0
     try clear hcz42_1
     try clear hcz48_0
     try clear hcz48_1
     try clear hcz51_0
     try clear hcz51_1
     try clear hcz51_2
     try clear hcz51_3
     try clear hcz53_0
     try clear hcz53_1
     try clear hcz59_0
     try clear hcz59_1
     try clear hcz5_0
     try clear hcz5_1
     try clear hcz62_0
     try clear hcz62_1
     try clear hcz62_2
     try clear hcz62_3
     try clear hcz68_0
     try clear hcz68_1
     try clear hcz70_0
     try clear hcz70_1
     try clear hcz70_2
     try clear hcz70_3
     try clear hcz79_0
     try clear hcz79_1
     try clear hcz82_0
     try clear hcz82_1
     try clear hcz82_2
     try clear hcz82_3
     try clear hcz84_0
     try clear hcz84_1
     try clear hcz90_0
     try clear hcz90_1
     try clear hcz93_0
     try clear hcz93_1
     try clear hcz93_2
     try clear hcz93_3
     try clear hcz95_0
     try clear hcz95_1
     try clear hcz9_0
     try clear hcz9_1
     try clear hcz9_2
     try clear hcz9_3
     try clear hfz16_0
     try clear hfz16_1
     try clear hfz18_0
     try clear hfz18_1
     try clear hfz18_2
     try clear hfz18_3
     try clear hfz20_0
     try clear hfz20_1
     try clear hfz25_0
     try clear hfz25_1
     try clear hfz27_0
     try clear hfz27_1
     try clear hfz27_2
     try clear hfz27_3
     try clear hfz29_0
     try clear hfz29_1
     try clear hfz37_0
     try clear hfz37_1
     try clear hfz40_0
     try clear hfz40_1
     try clear hfz40_2
     try clear hfz40_3
     try clear hfz42_0
     try clear hfz42_1
     try clear hfz48_0
     try clear hfz48_1
     try clear hfz51_0
     try clear hfz51_1
     try clear hfz51_2
     try clear hfz51_3
     try clear hfz53_0
     try clear hfz53_1
     try clear hfz59_0
     try clear hfz59_1
     try clear hfz5_0
     try clear hfz5_1
     try clear hfz62_0
     try clear hfz62_1
     try clear hfz62_2
     try clear hfz62_3
     try clear hfz68_0
     try clear hfz68_1
     try clear hfz70_0
     try clear hfz70_1
     try clear hfz70_2
     try clear hfz70_3
     try clear hfz79_0
     try clear hfz79_1
     try clear hfz82_0
     try clear hfz82_1
     try clear hfz82_2
     try clear hfz82_3
     try clear hfz84_0
     try clear hfz84_1
     try clear hfz90_0
     try clear hfz90_1
     try clear hfz93_0
     try clear hfz93_1
     try clear hfz93_2
     try clear hfz93_3
     try clear hfz95_0
     try clear hfz95_1
     try clear hfz9_0
     try clear hfz9_1
     try clear hfz9_2
     try clear hfz9_3
     try clear p2
     simp only [Option.some.injEq, Prod.mk.injEq] at H
     obtain ⟨rfl, rfl⟩ := H
     go_wp2
     go_ret2
     exact ⟨by first | rfl | (simp [errW_none, errW_some] <;> rfl) | (simp [*, errW_none, errW_some] <;> rfl) | kernel_rfl, (bpk HB).out⟩
   ·
    replace c73 := Bool.eq_false_iff.mpr c73
    subst c73
    have H1 : (some (0, false)) = some (r1, r2) := by rw [if_neg (show ¬ (false = true) by decide)] at H; exact H
    clear H
    have H := H1
    clear H1
    have HC96 := Aside0.mk H
    clear H
    go_wp2_with (first | ((with_reducible refine gate_dst (N := 6) rfl ?_); refine box_event ?hg (N := 6) ?hd (cs := #[.int .i64 0, .int .i64 0]) (t := 23) ?hr ?_; (case hd => rfl); (case hg => rfl); (case hr => first | (go_simp; done) | (go_simp; rfl)); intro gb1068 hg w97 hbox hb; have n0_ := bst HB hb; have n1_ := Aside0.mk (hbox); have n2_ := bsz HB hg; have n3_ := bsz HB hg; have n4_ := bn1 BK1058 hg; have n5_ := bn2 BK1058 hg; have n6_ := bn1 BK1063 hg; have n7_ := bn2 BK1063 hg; have n8_ := bn1 BK1064 hg; have n9_ := bn2 BK1064 hg; replace BK1058 := bbw BK1058 hb; replace BK1063 := bbw BK1063 hb; replace BK1064 := bbw BK1064 hb; clear HB; have HB := n0_; have BK1068 := n1_; have GW1068 := n2_; have GE1068 := n3_; have NB1058_1068 := n4_; have NB1068_1058 := n5_; have NB1063_1068 := n6_; have NB1068_1063 := n7_; have NB1064_1068 := n8_; have NB1068_1064 := n9_; clear n0_ n1_ n2_ n3_ n4_ n5_ n6_ n7_ n8_ n9_; clear hb hbox hg; have hnb98 := nn NB1068_1058 NB1058_1068; have hnb99 := nn NB1068_1063 NB1063_1068; have hnb100 := nn NB1068_1064 NB1064_1068; have hcz101_0 := hcz BK1068 0; have hcz101_1 := hcz BK1068 1; have hfz101_0 := bfz BK1068 0; have hfz101_1 := bfz BK1068 1; have hnb102 := nn NB1063_1058 NB1058_1063; have hnb103 := nn NB1063_1064 NB1064_1063; have hcz104_0 := hcz BK1063 0; have hcz104_1 := hcz BK1063 1; have hcz104_2 := hcz BK1063 2; have hcz104_3 := hcz BK1063 3; have hfz104_0 := bfz BK1063 0; have hfz104_1 := bfz BK1063 1; have hfz104_2 := bfz BK1063 2; have hfz104_3 := bfz BK1063 3) | ((with_reducible refine gate_callee (f := 21) rfl ?_); refine goesL_ (some 18) rfl rfl Try.func21 (by kernel_rfl) rfl #[.agg #[.int .i64 t1059, .int .i64 t1060]] rfl (by (try simp only [List.map_toArray, List.map_cons, List.map_nil]); first | done | rfl | (simp only [List.length_drop, List.length_take]; rfl)) ?_; (with_reducible refine (itv_None.calls t1059 t1060 false _ A72.out).mono ?_); rintro e w105 ⟨rfl, hb⟩; refine ⟨_, rfl, ?_⟩; have n0_ := bbF BK1058 hb; have n1_ := bbF BK1063 hb; have n2_ := bbF BK1064 hb; have n3_ := Aside0.mk (blk_below (g := gb1068) (o := .cells #[.int .i64 t1061, .int .i64 t1062] 23 (0, 0)) (by refine pkB ?_; refine bput (cs := #[.int .i64 t1061, .int .i64 0]) 1 ?_; refine bput (cs := #[.int .i64 0, .int .i64 0]) 0 ?_; exact BK1068.out) hb); have n4_ := bst HB hb; clear BK1058; clear BK1063; clear BK1064; clear BK1068; clear HB; have BK1058 := n0_; have BK1063 := n1_; have BK1064 := n2_; have BK1068 := n3_; have HB := n4_; clear n0_ n1_ n2_ n3_ n4_; (try clear hb)))
    refine looped_round (fun K_ hK_ => ?_)
    have H := HC96.out
    clear HC96
    try clear c1
    try clear c2
    try clear p2
    try clear c3
    try clear c4
    try clear c5
    try clear c6
    try clear c7
    try clear c8
    try clear c9
    try clear c10
    try clear c11
    try clear c12
    try clear c12b0
    try clear c12b1
    try clear c14
    try clear c15
    try clear c17
    try clear c21
    try clear c23
    try clear c24
    try clear c26
    try clear c31
    try clear c32
    try clear c32b0
    try clear c32b1
    try clear c34
    try clear c35
    try clear c36
    try clear c38
    try clear c39
    try clear c45
    try clear c46
    try clear c47
    try clear c49
    try clear c50
    try clear c56
    try clear c57
    try clear c58
    try clear c60
    try clear c61
    try clear c66
    try clear c67
    try clear c69
    try clear c73
    try clear c74
    try clear c74b0
    try clear c74b1
    try clear c76
    try clear c77
    try clear c78
    try clear c80
    try clear c81
    try clear c83
    try clear c87
    try clear c88
    try clear c89
    try clear c91
    try clear c92
    try clear c93
    try clear c98
    try clear c99
    try clear c100
    try clear c102
    try clear c103
    try clear hcz101_0
    try clear hcz101_1
    try clear hcz104_0
    try clear hcz104_1
    try clear hcz104_2
    try clear hcz104_3
    try clear hcz16_0
    try clear hcz16_1
    try clear hcz18_0
    try clear hcz18_1
    try clear hcz18_2
    try clear hcz18_3
    try clear hcz20_0
    try clear hcz20_1
    try clear hcz25_0
    try clear hcz25_1
    try clear hcz27_0
    try clear hcz27_1
    try clear hcz27_2
    try clear hcz27_3
    try clear hcz29_0
    try clear hcz29_1
    try clear hcz37_0
    try clear hcz37_1
    try clear hcz40_0
    try clear hcz40_1
    try clear hcz40_2
    try clear hcz40_3
    try clear hcz42_0
    try clear hcz42_1
    try clear hcz48_0
    try clear hcz48_1
    try clear hcz51_0
    try clear hcz51_1
    try clear hcz51_2
    try clear hcz51_3
    try clear hcz53_0
    try clear hcz53_1
    try clear hcz59_0
    try clear hcz59_1
    try clear hcz5_0
    try clear hcz5_1
    try clear hcz62_0
    try clear hcz62_1
    try clear hcz62_2
    try clear hcz62_3
    try clear hcz68_0
    try clear hcz68_1
    try clear hcz70_0
    try clear hcz70_1
    try clear hcz70_2
    try clear hcz70_3
    try clear hcz79_0
    try clear hcz79_1
    try clear hcz82_0
    try clear hcz82_1
    try clear hcz82_2
    try clear hcz82_3
    try clear hcz84_0
    try clear hcz84_1
    try clear hcz90_0
    try clear hcz90_1
    try clear hcz93_0
    try clear hcz93_1
    try clear hcz93_2
    try clear hcz93_3
    try clear hcz95_0
    try clear hcz95_1
    try clear hcz9_0
    try clear hcz9_1
    try clear hcz9_2
    try clear hcz9_3
    try clear hfz101_0
    try clear hfz101_1
    try clear hfz104_0
    try clear hfz104_1
    try clear hfz104_2
    try clear hfz104_3
    try clear hfz16_0
    try clear hfz16_1
    try clear hfz18_0
    try clear hfz18_1
    try clear hfz18_2
    try clear hfz18_3
    try clear hfz20_0
    try clear hfz20_1
    try clear hfz25_0
    try clear hfz25_1
    try clear hfz27_0
    try clear hfz27_1
    try clear hfz27_2
    try clear hfz27_3
    try clear hfz29_0
    try clear hfz29_1
    try clear hfz37_0
    try clear hfz37_1
    try clear hfz40_0
    try clear hfz40_1
    try clear hfz40_2
    try clear hfz40_3
    try clear hfz42_0
    try clear hfz42_1
    try clear hfz48_0
    try clear hfz48_1
    try clear hfz51_0
    try clear hfz51_1
    try clear hfz51_2
    try clear hfz51_3
    try clear hfz53_0
    try clear hfz53_1
    try clear hfz59_0
    try clear hfz59_1
    try clear hfz5_0
    try clear hfz5_1
    try clear hfz62_0
    try clear hfz62_1
    try clear hfz62_2
    try clear hfz62_3
    try clear hfz68_0
    try clear hfz68_1
    try clear hfz70_0
    try clear hfz70_1
    try clear hfz70_2
    try clear hfz70_3
    try clear hfz79_0
    try clear hfz79_1
    try clear hfz82_0
    try clear hfz82_1
    try clear hfz82_2
    try clear hfz82_3
    try clear hfz84_0
    try clear hfz84_1
    try clear hfz90_0
    try clear hfz90_1
    try clear hfz93_0
    try clear hfz93_1
    try clear hfz93_2
    try clear hfz93_3
    try clear hfz95_0
    try clear hfz95_1
    try clear hfz9_0
    try clear hfz9_1
    try clear hfz9_2
    try clear hfz9_3
    try clear p2
    simp only [Option.some.injEq, Prod.mk.injEq] at H
    obtain ⟨rfl, rfl⟩ := H
    go_wp2
    go_ret2
    exact ⟨by first | rfl | (simp [errW_none, errW_some] <;> rfl) | (simp [*, errW_none, errW_some] <;> rfl) | kernel_rfl, (bpk HB).out⟩
end Go.Proofs.Ytbbnpipmjadpoaa.P
