/- What the law's proof needs of Px49. -/
import Derived.Test.YtbbnpipmjadpoaaTrGU3
import Derived.Test.YtbbnpipmjadpoaaTrGU
import Derived.Test.YtbbnpipmjadpoaaTrGPx0
import Derived.Test.YtbbnpipmjadpoaaTrGPx2
import Derived.Test.YtbbnpipmjadpoaaTrGPx35
import Derived.Test.YtbbnpipmjadpoaaTrGPx47
import Derived.Test.YtbbnpipmjadpoaaTrGPx48
-- PRINTED by print.py (a twelfth state) out of the translation. Not trusted: Lean checks it.
namespace Go.Proofs.Ytbbnpipmjadpoaa.P
open Go.RowKit Go.Proofs.YtbbnpipmjadpoaaW.PrintWords Go.Proofs.YtbbnpipmjadpoaaW.PrintLast Go.Proofs.YtbbnpipmjadpoaaW.PrintMore Go.Proofs.YtbbnpipmjadpoaaO
attribute [local go_sem] max2_int min2_int max_two min_two max_three min_three max_four min_four   -- for this text's walks alone
set_option linter.unusedVariables false
set_option linter.unusedSimpArgs false
mutual
def itv_Mod_1.j0 : Nat → Int → Int → Bool → Int → Int → Option (Int × Int)
  | 0, _, _, _, _, _ => none
  | k + 1, x6, x8, x53, x1071000, x1071001 => if x53 = true then (if x8 = 0 then (none) else ((itv_Of.f (Int.tmod x1071000 x8) (Int.tmod x1071001 x8)).bind fun bt1082 => (some (bt1082.1, bt1082.2)))) else (if x6 < 4611686018427387904 then (itv_Mod_1.j1 k (wrap64 (x6 - 1)) x1071000 x1071001) else (itv_Mod_1.j1 k 4611686018427387904 x1071000 x1071001))
def itv_Mod_1.j1 : Nat → Int → Int → Int → Option (Int × Int)
  | 0, _, _, _ => none
  | k + 1, x10, x1071000, x1071001 => if x1071000 < 0 then (if x1071001 > 0 then ((itv_Of.f (mx x1071000 (wrap64 (-x10))) (mn x1071001 x10)).bind fun bt1085 => (some (bt1085.1, bt1085.2))) else ((itv_Of.f (mx x1071000 (wrap64 (-x10))) 0).bind fun bt1087 => (some (bt1087.1, bt1087.2)))) else (if x1071001 > 0 then ((itv_Of.f 0 (mn x1071001 x10)).bind fun bt1089 => (some (bt1089.1, bt1089.2))) else ((itv_Of.f 0 0).bind fun bt1091 => (some (bt1091.1, bt1091.2))))
end
def itv_Mod_1.f (k : Nat) (a0_0 : Int) (a0_1 : Int) (a1_0 : Int) (a1_1 : Int) : Option (Int × Int) := (itv_sizes.f k a1_0 a1_1).bind fun bt1073 => (if bt1073.2.2 = true then ((itv_Abs.f k a0_0 a0_1).bind fun bt1078 => (if bt1078.2 < bt1073.1 then (some (a0_0, a0_1)) else ((itv_single.f k a1_0 a1_1).bind fun bt1080 => (if bt1080.2 = true then (if a0_0 > (-4611686018427387904) then (if a0_1 < 4611686018427387904 then (if bt1080.1 = 0 then (none) else (itv_Mod_1.j0 k bt1073.2.1 bt1080.1 ((wrap64 (Int.tdiv a0_0 bt1080.1)) == (wrap64 (Int.tdiv a0_1 bt1080.1))) a0_0 a0_1)) else (itv_Mod_1.j0 k bt1073.2.1 bt1080.1 false a0_0 a0_1)) else (itv_Mod_1.j0 k bt1073.2.1 bt1080.1 false a0_0 a0_1)) else (itv_Mod_1.j0 k bt1073.2.1 bt1080.1 false a0_0 a0_1))))) else ((itv_Empty.f).bind fun bt1076 => (some (bt1076.1, bt1076.2))))
def itv_Mod_1.T7 : Bool × List (List Nat × List Nat) := (true, [([], []), ([0], [0]), ([1], [1]), ([2, 1], [1, 2]), ([3, 1], [1, 3]), ([1, 4], [1, 4]), ([5, 1], [5]), ([6], [6]), ([7, 6], [6, 7]), ([8, 6], [6, 8]), ([6, 9], [6, 9]), ([10, 6], [10]), ([11], [11]), ([12, 11], [11, 12]), ([11], [11]), ([13, 14, 11], [11, 13, 14]), ([11], [11]), ([16, 11], [11, 16]), ([11], [11]), ([17, 18, 11], [11, 17, 18]), ([15, 19, 11], [11, 15, 19]), ([11, 20], [11, 20])])
def itv_Mod_1.B7 : List Nat := [0, 1, 3, 7, 15, 31, 63, 127, 255, 511, 1023, 2047, 4095, 8191, 4095, 32767, 4095, 69631, 4095, 462847, 1048575, 2097151]
theorem itv_Mod_1.tab7 : rtab .any (opsOf Try.f91 7) = itv_Mod_1.T7 := by kernel_rfl
theorem itv_Mod_1.bits7 : waitsOk itv_Mod_1.T7.2 itv_Mod_1.B7 = true := by kernel_rfl
def itv_Mod_1.T8 : Bool × List (List Nat × List Nat) := (true, [([], []), ([0], [0]), ([], []), ([1, 2], [1, 2]), ([], []), ([4], [4]), ([], []), ([5, 6], [5, 6]), ([3, 7], [3, 7]), ([8, 8, 0, 1, 2, 3, 4, 5, 6, 7, 8], [8])])
def itv_Mod_1.B8 : List Nat := [0, 1, 0, 7, 0, 16, 0, 112, 255, 511]
theorem itv_Mod_1.tab8 : rtab .any (opsOf Try.f91 8) = itv_Mod_1.T8 := by kernel_rfl
theorem itv_Mod_1.bits8 : waitsOk itv_Mod_1.T8.2 itv_Mod_1.B8 = true := by kernel_rfl
set_option maxHeartbeats 8000000 in
set_option maxRecDepth 100000 in
theorem itv_Mod_1.calls (k : Nat) (a0_0 : Int) (a0_1 : Int) (a1_0 : Int) (a1_1 : Int) (r1 : Int) (r2 : Int) (w : World) (h : itv_Mod_1.f k a0_0 a0_1 a1_0 a1_1 = some (r1, r2)) :
    Calls Try.prog 91 #[.agg #[.int .i64 a0_0, .int .i64 a0_1], .agg #[.int .i64 a1_0, .int .i64 a1_1]] w fun e w' => e = .returned (.agg #[.int .i64 r1, .int .i64 r2]) ∧ Below w.heap.size w w' := by
  have hfd0 : ∀ (a b : Int) (w : World), (Instr.field 23 (.agg #[.int .i64 a, .int .i64 b]) 0).run Try.prog w = .ok (.int .i64 a) w := fun _ _ _ => by kernel_rfl
  have hfd1 : ∀ (a b : Int) (w : World), (Instr.field 23 (.agg #[.int .i64 a, .int .i64 b]) 1).run Try.prog w = .ok (.int .i64 b) w := fun _ _ _ => by kernel_rfl
  have hu23 := Try.underlying23
  have HB := Aside0.mk (Below.refl w.heap.size w)
  have H : ((itv_sizes.f k a1_0 a1_1).bind fun bt1073 => (if bt1073.2.2 = true then ((itv_Abs.f k a0_0 a0_1).bind fun bt1078 => (if bt1078.2 < bt1073.1 then (some (a0_0, a0_1)) else ((itv_single.f k a1_0 a1_1).bind fun bt1080 => (if bt1080.2 = true then (if a0_0 > (-4611686018427387904) then (if a0_1 < 4611686018427387904 then (if bt1080.1 = 0 then (none) else (itv_Mod_1.j0 k bt1073.2.1 bt1080.1 ((wrap64 (Int.tdiv a0_0 bt1080.1)) == (wrap64 (Int.tdiv a0_1 bt1080.1))) a0_0 a0_1)) else (itv_Mod_1.j0 k bt1073.2.1 bt1080.1 false a0_0 a0_1)) else (itv_Mod_1.j0 k bt1073.2.1 bt1080.1 false a0_0 a0_1)) else (itv_Mod_1.j0 k bt1073.2.1 bt1080.1 false a0_0 a0_1))))) else ((itv_Empty.f).bind fun bt1076 => (some (bt1076.1, bt1076.2))))) = some (r1, r2) := h
  clear h
  replace H := bnH H
  obtain ⟨⟨t1073, t1074, t1075⟩, A30, H⟩ := H
  replace H : (if t1075 = true then ((itv_Abs.f k a0_0 a0_1).bind fun bt1078 => (if bt1078.2 < t1073 then (some (a0_0, a0_1)) else ((itv_single.f k a1_0 a1_1).bind fun bt1080 => (if bt1080.2 = true then (if a0_0 > (-4611686018427387904) then (if a0_1 < 4611686018427387904 then (if bt1080.1 = 0 then (none) else (itv_Mod_1.j0 k t1074 bt1080.1 ((wrap64 (Int.tdiv a0_0 bt1080.1)) == (wrap64 (Int.tdiv a0_1 bt1080.1))) a0_0 a0_1)) else (itv_Mod_1.j0 k t1074 bt1080.1 false a0_0 a0_1)) else (itv_Mod_1.j0 k t1074 bt1080.1 false a0_0 a0_1)) else (itv_Mod_1.j0 k t1074 bt1080.1 false a0_0 a0_1))))) else ((itv_Empty.f).bind fun bt1076 => (some (bt1076.1, bt1076.2)))) = some (r1, r2) := H
  have A3 := Aside0.mk A30
  clear A30
  by_cases c4 : t1075 = true
  ·
   subst c4
   have H1 : ((itv_Abs.f k a0_0 a0_1).bind fun bt1078 => (if bt1078.2 < t1073 then (some (a0_0, a0_1)) else ((itv_single.f k a1_0 a1_1).bind fun bt1080 => (if bt1080.2 = true then (if a0_0 > (-4611686018427387904) then (if a0_1 < 4611686018427387904 then (if bt1080.1 = 0 then (none) else (itv_Mod_1.j0 k t1074 bt1080.1 ((wrap64 (Int.tdiv a0_0 bt1080.1)) == (wrap64 (Int.tdiv a0_1 bt1080.1))) a0_0 a0_1)) else (itv_Mod_1.j0 k t1074 bt1080.1 false a0_0 a0_1)) else (itv_Mod_1.j0 k t1074 bt1080.1 false a0_0 a0_1)) else (itv_Mod_1.j0 k t1074 bt1080.1 false a0_0 a0_1))))) = some (r1, r2) := by rw [if_pos rfl] at H; exact H
   clear H
   have H := H1
   clear H1
   replace H := bnH H
   obtain ⟨⟨t1078, t1079⟩, A50, H⟩ := H
   replace H : (if t1079 < t1073 then (some (a0_0, a0_1)) else ((itv_single.f k a1_0 a1_1).bind fun bt1080 => (if bt1080.2 = true then (if a0_0 > (-4611686018427387904) then (if a0_1 < 4611686018427387904 then (if bt1080.1 = 0 then (none) else (itv_Mod_1.j0 k t1074 bt1080.1 ((wrap64 (Int.tdiv a0_0 bt1080.1)) == (wrap64 (Int.tdiv a0_1 bt1080.1))) a0_0 a0_1)) else (itv_Mod_1.j0 k t1074 bt1080.1 false a0_0 a0_1)) else (itv_Mod_1.j0 k t1074 bt1080.1 false a0_0 a0_1)) else (itv_Mod_1.j0 k t1074 bt1080.1 false a0_0 a0_1)))) = some (r1, r2) := H
   have A5 := Aside0.mk A50
   clear A50
   by_cases c6 : t1079 < t1073
   ·
    rw [if_pos c6] at H
    have c6b0 : decide (t1079 < t1073) = true := decide_eq_true c6
    clear c6
    simp only [Option.some.injEq, Prod.mk.injEq] at H
    obtain ⟨rfl, rfl⟩ := H
    go_enter Try.func91, Try.ntmps91
    go_wp2_with (first | ((with_reducible refine gate_dst (N := 2) rfl ?_); refine box_event ?hg (N := 2) ?hd (cs := #[.int .i64 a0_0, .int .i64 a0_1]) (t := 23) ?hr ?_; (case hd => rfl); (case hg => rfl); (case hr => first | (go_simp; done) | (go_simp; rfl)); intro gb1070 hg w7 hbox hb; have n0_ := bst HB hb; have n1_ := Aside0.mk (hbox); have n2_ := bsz HB hg; have n3_ := bsz HB hg; clear HB; have HB := n0_; have BK1070 := n1_; have GW1070 := n2_; have GE1070 := n3_; clear n0_ n1_ n2_ n3_; clear hb hbox hg) | ((with_reducible refine gate_dst (N := 3) rfl ?_); refine box_event ?hg (N := 3) ?hd (cs := #[.int .i64 a1_0, .int .i64 a1_1]) (t := 23) ?hr ?_; (case hd => rfl); (case hg => rfl); (case hr => first | (go_simp; done) | (go_simp; rfl)); intro gb1071 hg w8 hbox hb; have n0_ := bst HB hb; have n1_ := Aside0.mk (hbox); have n2_ := bsz HB hg; have n3_ := bsz HB hg; have n4_ := bn1 BK1070 hg; have n5_ := bn2 BK1070 hg; replace BK1070 := bbw BK1070 hb; clear HB; have HB := n0_; have BK1071 := n1_; have GW1071 := n2_; have GE1071 := n3_; have NB1070_1071 := n4_; have NB1071_1070 := n5_; clear n0_ n1_ n2_ n3_ n4_ n5_; clear hb hbox hg) | ((with_reducible refine gate_dst (N := 4) rfl ?_); refine box_event ?hg (N := 4) ?hd (cs := #[.int .i64 0, .int .i64 0]) (t := 23) ?hr ?_; (case hd => rfl); (case hg => rfl); (case hr => first | (go_simp; done) | (go_simp; rfl)); intro gb1072 hg w9 hbox hb; have n0_ := bst HB hb; have n1_ := Aside0.mk (hbox); have n2_ := bsz HB hg; have n3_ := bsz HB hg; have n4_ := bn1 BK1070 hg; have n5_ := bn2 BK1070 hg; have n6_ := bn1 BK1071 hg; have n7_ := bn2 BK1071 hg; replace BK1070 := bbw BK1070 hb; replace BK1071 := bbw BK1071 hb; clear HB; have HB := n0_; have BK1072 := n1_; have GW1072 := n2_; have GE1072 := n3_; have NB1070_1072 := n4_; have NB1072_1070 := n5_; have NB1071_1072 := n6_; have NB1072_1071 := n7_; clear n0_ n1_ n2_ n3_ n4_ n5_ n6_ n7_; clear hb hbox hg; have hnb10 := nn NB1071_1070 NB1070_1071; have hnb11 := nn NB1071_1072 NB1072_1071; have hcz12_0 := hcz BK1071 0; have hcz12_1 := hcz BK1071 1; have hfz12_0 := bfz BK1071 0; have hfz12_1 := bfz BK1071 1; have hst_ := sets2 BK1071) | ((with_reducible refine gate_callee (f := 92) rfl ?_); refine goesL_ (some 14) rfl rfl Try.func92 (by kernel_rfl) rfl #[.agg #[.int .i64 a1_0, .int .i64 a1_1]] rfl (by (try simp only [List.map_toArray, List.map_cons, List.map_nil]); first | done | rfl | (simp only [List.length_drop, List.length_take]; rfl)) ?_; (with_reducible refine (itv_sizes.calls k a1_0 a1_1 t1073 t1074 true _ A3.out).mono ?_); rintro e w13 ⟨rfl, hb⟩; refine ⟨_, rfl, ?_⟩; have n0_ := bst HB hb; replace BK1070 := bbw BK1070 hb; replace BK1071 := bbw BK1071 hb; replace BK1072 := bbw BK1072 hb; clear HB; have HB := n0_; clear n0_; (try clear hb); have hnb14 := nn NB1070_1072 NB1072_1070; have hcz15_0 := hcz BK1070 0; have hcz15_1 := hcz BK1070 1; have hfz15_0 := bfz BK1070 0; have hfz15_1 := bfz BK1070 1) | ((with_reducible refine gate_callee (f := 47) rfl ?_); refine goesL_ (some 22) rfl rfl Try.func47 (by kernel_rfl) rfl #[.agg #[.int .i64 a0_0, .int .i64 a0_1]] rfl (by (try simp only [List.map_toArray, List.map_cons, List.map_nil]); first | done | rfl | (simp only [List.length_drop, List.length_take]; rfl)) ?_; (with_reducible refine (itv_Abs.calls k a0_0 a0_1 t1078 t1079 _ A5.out).mono ?_); rintro e w16 ⟨rfl, hb⟩; refine ⟨_, rfl, ?_⟩; have n0_ := bst HB hb; replace BK1070 := bbw BK1070 hb; replace BK1071 := bbw BK1071 hb; replace BK1072 := bbw BK1072 hb; clear HB; have HB := n0_; clear n0_; (try clear hb); have hcz17_0 := hcz BK1070 0; have hcz17_1 := hcz BK1070 1; have hfz17_0 := bfz BK1070 0; have hfz17_1 := bfz BK1070 1; have hcz18_0 := hcz BK1072 0; have hcz18_1 := hcz BK1072 1; have hfz18_0 := bfz BK1072 0; have hfz18_1 := bfz BK1072 1))
    refine bodyPost_ret (results_cell_row rfl _ _ gb1072 23 #[.int .i64 a0_0, .int .i64 a0_1] (0, 0) _ rfl (by refine pkB ?_; refine bput (cs := #[.int .i64 a0_0, .int .i64 0]) 1 ?_; refine bput (cs := #[.int .i64 0, .int .i64 0]) 0 ?_; exact BK1072.out) Try.underlying23 rfl (by kernel_rfl)) rfl ?_
    exact ⟨by first | rfl | (simp [errW_none, errW_some] <;> rfl) | (simp [*, errW_none, errW_some] <;> rfl) | kernel_rfl, (bpk HB).out⟩
   ·
    rw [if_neg c6] at H
    have c6b0 : decide (t1079 < t1073) = false := decide_eq_false c6
    clear c6
    replace H := bnH H
    obtain ⟨⟨t1080, t1081⟩, A190, H⟩ := H
    replace H : (if t1081 = true then (if a0_0 > (-4611686018427387904) then (if a0_1 < 4611686018427387904 then (if t1080 = 0 then (none) else (itv_Mod_1.j0 k t1074 t1080 ((wrap64 (Int.tdiv a0_0 t1080)) == (wrap64 (Int.tdiv a0_1 t1080))) a0_0 a0_1)) else (itv_Mod_1.j0 k t1074 t1080 false a0_0 a0_1)) else (itv_Mod_1.j0 k t1074 t1080 false a0_0 a0_1)) else (itv_Mod_1.j0 k t1074 t1080 false a0_0 a0_1)) = some (r1, r2) := H
    have A19 := Aside0.mk A190
    clear A190
    have HC20 := Aside0.mk H
    clear H
    go_enter Try.func91, Try.ntmps91
    go_upto_region 7 with (first | ((with_reducible refine gate_dst (N := 2) rfl ?_); refine box_event ?hg (N := 2) ?hd (cs := #[.int .i64 a0_0, .int .i64 a0_1]) (t := 23) ?hr ?_; (case hd => rfl); (case hg => rfl); (case hr => first | (go_simp; done) | (go_simp; rfl)); intro gb1070 hg w21 hbox hb; have n0_ := bst HB hb; have n1_ := Aside0.mk (hbox); have n2_ := bsz HB hg; have n3_ := bsz HB hg; clear HB; have HB := n0_; have BK1070 := n1_; have GW1070 := n2_; have GE1070 := n3_; clear n0_ n1_ n2_ n3_; clear hb hbox hg) | ((with_reducible refine gate_dst (N := 3) rfl ?_); refine box_event ?hg (N := 3) ?hd (cs := #[.int .i64 a1_0, .int .i64 a1_1]) (t := 23) ?hr ?_; (case hd => rfl); (case hg => rfl); (case hr => first | (go_simp; done) | (go_simp; rfl)); intro gb1071 hg w22 hbox hb; have n0_ := bst HB hb; have n1_ := Aside0.mk (hbox); have n2_ := bsz HB hg; have n3_ := bsz HB hg; have n4_ := bn1 BK1070 hg; have n5_ := bn2 BK1070 hg; replace BK1070 := bbw BK1070 hb; clear HB; have HB := n0_; have BK1071 := n1_; have GW1071 := n2_; have GE1071 := n3_; have NB1070_1071 := n4_; have NB1071_1070 := n5_; clear n0_ n1_ n2_ n3_ n4_ n5_; clear hb hbox hg) | ((with_reducible refine gate_dst (N := 4) rfl ?_); refine box_event ?hg (N := 4) ?hd (cs := #[.int .i64 0, .int .i64 0]) (t := 23) ?hr ?_; (case hd => rfl); (case hg => rfl); (case hr => first | (go_simp; done) | (go_simp; rfl)); intro gb1072 hg w23 hbox hb; have n0_ := bst HB hb; have n1_ := Aside0.mk (hbox); have n2_ := bsz HB hg; have n3_ := bsz HB hg; have n4_ := bn1 BK1070 hg; have n5_ := bn2 BK1070 hg; have n6_ := bn1 BK1071 hg; have n7_ := bn2 BK1071 hg; replace BK1070 := bbw BK1070 hb; replace BK1071 := bbw BK1071 hb; clear HB; have HB := n0_; have BK1072 := n1_; have GW1072 := n2_; have GE1072 := n3_; have NB1070_1072 := n4_; have NB1072_1070 := n5_; have NB1071_1072 := n6_; have NB1072_1071 := n7_; clear n0_ n1_ n2_ n3_ n4_ n5_ n6_ n7_; clear hb hbox hg; have hnb24 := nn NB1071_1070 NB1070_1071; have hnb25 := nn NB1071_1072 NB1072_1071; have hcz26_0 := hcz BK1071 0; have hcz26_1 := hcz BK1071 1; have hfz26_0 := bfz BK1071 0; have hfz26_1 := bfz BK1071 1; have hst_ := sets2 BK1071) | ((with_reducible refine gate_callee (f := 92) rfl ?_); refine goesL_ (some 14) rfl rfl Try.func92 (by kernel_rfl) rfl #[.agg #[.int .i64 a1_0, .int .i64 a1_1]] rfl (by (try simp only [List.map_toArray, List.map_cons, List.map_nil]); first | done | rfl | (simp only [List.length_drop, List.length_take]; rfl)) ?_; (with_reducible refine (itv_sizes.calls k a1_0 a1_1 t1073 t1074 true _ A3.out).mono ?_); rintro e w27 ⟨rfl, hb⟩; refine ⟨_, rfl, ?_⟩; have n0_ := bst HB hb; replace BK1070 := bbw BK1070 hb; replace BK1071 := bbw BK1071 hb; replace BK1072 := bbw BK1072 hb; clear HB; have HB := n0_; clear n0_; (try clear hb); have hnb28 := nn NB1070_1072 NB1072_1070; have hcz29_0 := hcz BK1070 0; have hcz29_1 := hcz BK1070 1; have hfz29_0 := bfz BK1070 0; have hfz29_1 := bfz BK1070 1) | ((with_reducible refine gate_callee (f := 47) rfl ?_); refine goesL_ (some 22) rfl rfl Try.func47 (by kernel_rfl) rfl #[.agg #[.int .i64 a0_0, .int .i64 a0_1]] rfl (by (try simp only [List.map_toArray, List.map_cons, List.map_nil]); first | done | rfl | (simp only [List.length_drop, List.length_take]; rfl)) ?_; (with_reducible refine (itv_Abs.calls k a0_0 a0_1 t1078 t1079 _ A5.out).mono ?_); rintro e w30 ⟨rfl, hb⟩; refine ⟨_, rfl, ?_⟩; have n0_ := bst HB hb; replace BK1070 := bbw BK1070 hb; replace BK1071 := bbw BK1071 hb; replace BK1072 := bbw BK1072 hb; clear HB; have HB := n0_; clear n0_; (try clear hb); have hcz31_0 := hcz BK1071 0; have hcz31_1 := hcz BK1071 1; have hfz31_0 := bfz BK1071 0; have hfz31_1 := bfz BK1071 1) | ((with_reducible refine gate_callee (f := 93) rfl ?_); refine goesL_ (some 29) rfl rfl Try.func93 (by kernel_rfl) rfl #[.agg #[.int .i64 a1_0, .int .i64 a1_1]] rfl (by (try simp only [List.map_toArray, List.map_cons, List.map_nil]); first | done | rfl | (simp only [List.length_drop, List.length_take]; rfl)) ?_; (with_reducible refine (itv_single.calls k a1_0 a1_1 t1080 t1081 _ A19.out).mono ?_); rintro e w32 ⟨rfl, hb⟩; refine ⟨_, rfl, ?_⟩; have n0_ := bst HB hb; replace BK1070 := bbw BK1070 hb; replace BK1071 := bbw BK1071 hb; replace BK1072 := bbw BK1072 hb; clear HB; have HB := n0_; clear n0_; (try clear hb)))
    (try simp only [Act.put, List.setIfInBounds_toArray, List.set_cons_zero, List.set_cons_succ])
    go_cut [53] (fun v53 wc => ∃ (kq : Nat) (x53_19 : Bool), v53 = .bool x53_19 ∧ Aside0 (itv_Mod_1.j0 kq t1074 t1080 x53_19 a0_0 a0_1 = some (r1, r2)) ∧ Aside0 (kq ≤ k) ∧ Aside0 (wc.heap[gb1070]? = some (.cells #[.int .i64 a0_0, .int .i64 a0_1] 23 (0, 0))) ∧ Aside0 (wc.heap[gb1071]? = some (.cells #[.int .i64 a1_0, .int .i64 a1_1] 23 (0, 0))) ∧ Aside0 (wc.heap[gb1072]? = some (.cells #[.int .i64 0, .int .i64 0] 23 (0, 0))) ∧ Aside0 (Below w.heap.size w wc))
    case first =>
     have H := HC20.out
     clear HC20
     by_cases c33 : t1081 = true
     ·
      subst c33
      have H1 : (if a0_0 > (-4611686018427387904) then (if a0_1 < 4611686018427387904 then (if t1080 = 0 then (none) else (itv_Mod_1.j0 k t1074 t1080 ((wrap64 (Int.tdiv a0_0 t1080)) == (wrap64 (Int.tdiv a0_1 t1080))) a0_0 a0_1)) else (itv_Mod_1.j0 k t1074 t1080 false a0_0 a0_1)) else (itv_Mod_1.j0 k t1074 t1080 false a0_0 a0_1)) = some (r1, r2) := by rw [if_pos rfl] at H; exact H
      clear H
      have H := H1
      clear H1
      by_cases c34 : a0_0 > (-4611686018427387904)
      ·
       rw [if_pos c34] at H
       have c34b0 : decide ((-4611686018427387904) < a0_0) = true := decide_eq_true c34
       clear c34
       (first | rw [c34b0] | (simp only [i64_w, i32_w]; rw [c34b0]) | skip)
       by_cases c35 : a0_1 < 4611686018427387904
       ·
        rw [if_pos c35] at H
        have c35b0 : decide (a0_1 < 4611686018427387904) = true := decide_eq_true c35
        clear c35
        by_cases c36 : t1080 = 0
        ·
         rw [if_pos c36] at H
         exact absurd H (by simp)
        ·
         rw [if_neg c36] at H
         have c36b0 : (t1080 == 0) = false := beq_eq_false_iff_ne.mpr c36
         have c36b1 : (t1080 != 0) = true := bne_iff_ne.mpr c36
         have H' := Aside0.mk H
         clear H
         try go_wp2
         have n0_ := Aside0.mk (blk_drew BK1070.out)
         have n1_ := Aside0.mk (blk_drew BK1071.out)
         have n2_ := Aside0.mk (blk_drew BK1072.out)
         have n3_ := Aside0.mk (below_drew1 HB.out)
         clear BK1070
         clear BK1071
         clear BK1072
         clear HB
         have BK1070 := n0_
         have BK1071 := n1_
         have BK1072 := n2_
         have HB := n3_
         clear n0_ n1_ n2_ n3_
         refine start_ (n := 22) (S := fun w' => w'.cell? ⟨gb1070, 0, none⟩ = some (.int .i64 a0_0) ∧ w'.cell? ⟨gb1070, 1, none⟩ = some (.int .i64 a0_1)) (ds := []) #[false, false, false, false, false, false, false, false, false, false, false, false, false, false, false, false, false, false, false, false, false, false] (by kernel_rfl) rfl rfl ⟨hcz BK1070 0, hcz BK1070 1⟩ (fun hHeld => ?_); refine with_tabW itv_Mod_1.tab7 itv_Mod_1.bits7 (fun HT_ HW_ => ?_)
         generalize w32.drew = w37 at BK1070 BK1071 BK1072 HB hHeld ⊢
         refine pureQ 0 32 HT_.out ?_
         refine pureQ 1 33 HT_.out ?_
         refine pureQ 2 34 HT_.out ?_
         refine takeQ 3 35 HT_.out HW_.out hHeld ?_
         refine pureQ 4 36 HT_.out ?_
         refine pureQ 5 37 HT_.out ?_
         refine pureQ 6 38 HT_.out ?_
         refine pureQ 7 39 HT_.out ?_
         refine takeQ 8 40 HT_.out HW_.out hHeld ?_
         refine pureQ 9 41 HT_.out ?_
         refine pureQ 10 42 HT_.out ?_
         refine pureQ 11 43 HT_.out ?_
         refine pureQ 12 44 HT_.out ?_
         refine pureQ 14 46 HT_.out ?_
         refine pureQ 16 48 HT_.out ?_
         refine pureQ 18 50 HT_.out ?_
         refine takeQ 13 45 HT_.out HW_.out hHeld ?_
         refine pureQ 15 47 HT_.out ?_
         refine takeQ 17 49 HT_.out HW_.out hHeld ?_
         refine pureQ 19 51 HT_.out ?_
         refine pureQ 20 52 HT_.out ?_
         refine pureQ 21 53 HT_.out ?_
         refine done_ (done_of HT_.out (by kernel_rfl)) ?_
         try go_wp2
         go_meet
         case rel => exact ⟨_, (((wrap64 (Int.tdiv a0_0 t1080)) == (wrap64 (Int.tdiv a0_1 t1080)))), (by first | rfl | (simp; done) | (simp [*]; done)), H', ⟨by first | omega | exact Nat.le_refl _⟩, pkA BK1070, pkA BK1071, pkA BK1072, bpk HB⟩
       ·
        rw [if_neg c35] at H
        have c35b0 : decide (a0_1 < 4611686018427387904) = false := decide_eq_false c35
        clear c35
        have H' := Aside0.mk H
        clear H
        try go_wp2
        have n0_ := Aside0.mk (blk_drew BK1070.out)
        have n1_ := Aside0.mk (blk_drew BK1071.out)
        have n2_ := Aside0.mk (blk_drew BK1072.out)
        have n3_ := Aside0.mk (below_drew1 HB.out)
        clear BK1070
        clear BK1071
        clear BK1072
        clear HB
        have BK1070 := n0_
        have BK1071 := n1_
        have BK1072 := n2_
        have HB := n3_
        clear n0_ n1_ n2_ n3_
        refine start_ (n := 22) (S := fun w' => w'.cell? ⟨gb1070, 0, none⟩ = some (.int .i64 a0_0) ∧ w'.cell? ⟨gb1070, 1, none⟩ = some (.int .i64 a0_1)) (ds := []) #[false, false, false, false, false, false, false, false, false, false, false, false, false, false, false, false, false, false, false, false, false, false] (by kernel_rfl) rfl rfl ⟨hcz BK1070 0, hcz BK1070 1⟩ (fun hHeld => ?_); refine with_tabW itv_Mod_1.tab7 itv_Mod_1.bits7 (fun HT_ HW_ => ?_)
        generalize w32.drew = w38 at BK1070 BK1071 BK1072 HB hHeld ⊢
        refine pureQ 0 32 HT_.out ?_
        refine pureQ 1 33 HT_.out ?_
        refine pureQ 2 34 HT_.out ?_
        refine takeQ 3 35 HT_.out HW_.out hHeld ?_
        refine pureQ 4 36 HT_.out ?_
        refine pureQ 5 37 HT_.out ?_
        refine pureQ 6 38 HT_.out ?_
        refine pureQ 7 39 HT_.out ?_
        refine takeQ 8 40 HT_.out HW_.out hHeld ?_
        refine pureQ 9 41 HT_.out ?_
        refine pureQ 10 42 HT_.out ?_
        refine pureQ 11 43 HT_.out ?_
        refine pureU 12 44 HT_.out ?_
        refine pureU 13 45 HT_.out ?_
        refine pureU 14 46 HT_.out ?_
        refine pureU 15 47 HT_.out ?_
        refine pureU 16 48 HT_.out ?_
        refine pureU 17 49 HT_.out ?_
        refine pureU 18 50 HT_.out ?_
        refine pureU 19 51 HT_.out ?_
        refine pureU 20 52 HT_.out ?_
        refine pureQ 21 53 HT_.out ?_
        refine done_ (done_of HT_.out (by kernel_rfl)) ?_
        try go_wp2
        go_meet
        case rel => exact ⟨_, (false), (by first | rfl | (simp; done) | (simp [*]; done)), H', ⟨by first | omega | exact Nat.le_refl _⟩, pkA BK1070, pkA BK1071, pkA BK1072, bpk HB⟩
      ·
       rw [if_neg c34] at H
       have c34b0 : decide ((-4611686018427387904) < a0_0) = false := decide_eq_false c34
       clear c34
       (first | rw [c34b0] | (simp only [i64_w, i32_w]; rw [c34b0]) | skip)
       have H' := Aside0.mk H
       clear H
       try go_wp2
       have n0_ := Aside0.mk (blk_drew BK1070.out)
       have n1_ := Aside0.mk (blk_drew BK1071.out)
       have n2_ := Aside0.mk (blk_drew BK1072.out)
       have n3_ := Aside0.mk (below_drew1 HB.out)
       clear BK1070
       clear BK1071
       clear BK1072
       clear HB
       have BK1070 := n0_
       have BK1071 := n1_
       have BK1072 := n2_
       have HB := n3_
       clear n0_ n1_ n2_ n3_
       refine start_ (n := 22) (S := fun w' => w'.cell? ⟨gb1070, 0, none⟩ = some (.int .i64 a0_0) ∧ w'.cell? ⟨gb1070, 1, none⟩ = some (.int .i64 a0_1)) (ds := []) #[false, false, false, false, false, false, false, false, false, false, false, false, false, false, false, false, false, false, false, false, false, false] (by kernel_rfl) rfl rfl ⟨hcz BK1070 0, hcz BK1070 1⟩ (fun hHeld => ?_); refine with_tabW itv_Mod_1.tab7 itv_Mod_1.bits7 (fun HT_ HW_ => ?_)
       generalize w32.drew = w39 at BK1070 BK1071 BK1072 HB hHeld ⊢
       refine pureQ 0 32 HT_.out ?_
       refine pureQ 1 33 HT_.out ?_
       refine pureQ 2 34 HT_.out ?_
       refine takeQ 3 35 HT_.out HW_.out hHeld ?_
       refine pureQ 4 36 HT_.out ?_
       refine pureQ 5 37 HT_.out ?_
       refine pureQ 6 38 HT_.out ?_
       refine pureU 7 39 HT_.out ?_
       refine pureU 8 40 HT_.out ?_
       refine pureU 9 41 HT_.out ?_
       refine pureQ 10 42 HT_.out ?_
       refine pureQ 11 43 HT_.out ?_
       refine pureU 12 44 HT_.out ?_
       refine pureU 13 45 HT_.out ?_
       refine pureU 14 46 HT_.out ?_
       refine pureU 15 47 HT_.out ?_
       refine pureU 16 48 HT_.out ?_
       refine pureU 17 49 HT_.out ?_
       refine pureU 18 50 HT_.out ?_
       refine pureU 19 51 HT_.out ?_
       refine pureU 20 52 HT_.out ?_
       refine pureQ 21 53 HT_.out ?_
       refine done_ (done_of HT_.out (by kernel_rfl)) ?_
       try go_wp2
       go_meet
       case rel => exact ⟨_, (false), (by first | rfl | (simp; done) | (simp [*]; done)), H', ⟨by first | omega | exact Nat.le_refl _⟩, pkA BK1070, pkA BK1071, pkA BK1072, bpk HB⟩
     ·
      replace c33 := Bool.eq_false_iff.mpr c33
      subst c33
      have H1 : (itv_Mod_1.j0 k t1074 t1080 false a0_0 a0_1) = some (r1, r2) := by rw [if_neg (show ¬ (false = true) by decide)] at H; exact H
      clear H
      have H := H1
      clear H1
      have H' := Aside0.mk H
      clear H
      try go_wp2
      have n0_ := Aside0.mk (blk_drew BK1070.out)
      have n1_ := Aside0.mk (blk_drew BK1071.out)
      have n2_ := Aside0.mk (blk_drew BK1072.out)
      have n3_ := Aside0.mk (below_drew1 HB.out)
      clear BK1070
      clear BK1071
      clear BK1072
      clear HB
      have BK1070 := n0_
      have BK1071 := n1_
      have BK1072 := n2_
      have HB := n3_
      clear n0_ n1_ n2_ n3_
      refine start_ (n := 22) (S := fun w' => True) (ds := []) #[false, false, false, false, false, false, false, false, false, false, false, false, false, false, false, false, false, false, false, false, false, false] (by kernel_rfl) rfl rfl trivial (fun hHeld => ?_); refine with_tabW itv_Mod_1.tab7 itv_Mod_1.bits7 (fun HT_ HW_ => ?_)
      generalize w32.drew = w40 at BK1070 BK1071 BK1072 HB hHeld ⊢
      refine pureQ 0 32 HT_.out ?_
      refine pureQ 1 33 HT_.out ?_
      refine pureU 2 34 HT_.out ?_
      refine pureU 3 35 HT_.out ?_
      refine pureU 4 36 HT_.out ?_
      refine pureQ 5 37 HT_.out ?_
      refine pureQ 6 38 HT_.out ?_
      refine pureU 7 39 HT_.out ?_
      refine pureU 8 40 HT_.out ?_
      refine pureU 9 41 HT_.out ?_
      refine pureQ 10 42 HT_.out ?_
      refine pureQ 11 43 HT_.out ?_
      refine pureU 12 44 HT_.out ?_
      refine pureU 13 45 HT_.out ?_
      refine pureU 14 46 HT_.out ?_
      refine pureU 15 47 HT_.out ?_
      refine pureU 16 48 HT_.out ?_
      refine pureU 17 49 HT_.out ?_
      refine pureU 18 50 HT_.out ?_
      refine pureU 19 51 HT_.out ?_
      refine pureU 20 52 HT_.out ?_
      refine pureQ 21 53 HT_.out ?_
      refine done_ (done_of HT_.out (by kernel_rfl)) ?_
      try go_wp2
      go_meet
      case rel => exact ⟨_, (false), (by first | rfl | (simp; done) | (simp [*]; done)), H', ⟨by first | omega | exact Nat.le_refl _⟩, pkA BK1070, pkA BK1071, pkA BK1072, bpk HB⟩
    case rest =>
     clear HC20
     try clear p2
     try clear c3
     try clear p6
     try clear c33
     try clear c34
     try clear c34b0
     try clear c35
     try clear c35b0
     obtain ⟨kq, x53_19, rfl, HA, HJ19, BK1070, BK1071, BK1072, HB⟩ := hcut
     cases kq with
     | zero => exact absurd HA.out (by simp [itv_Mod_1.j0])
     | succ kj19 =>
      have H := HA.out
      clear HA
      simp only [itv_Mod_1.j0] at H
      by_cases c41 : x53_19 = true
      ·
       subst c41
       have H1 : (if t1080 = 0 then (none) else ((itv_Of.f (Int.tmod a0_0 t1080) (Int.tmod a0_1 t1080)).bind fun bt1082 => (some (bt1082.1, bt1082.2)))) = some (r1, r2) := by rw [if_pos rfl] at H; exact H
       clear H
       have H := H1
       clear H1
       by_cases c42 : t1080 = 0
       ·
        rw [if_pos c42] at H
        exact absurd H (by simp)
       ·
        rw [if_neg c42] at H
        have c42b0 : (t1080 == 0) = false := beq_eq_false_iff_ne.mpr c42
        have c42b1 : (t1080 != 0) = true := bne_iff_ne.mpr c42
        replace H := bnH H
        obtain ⟨⟨t1082, t1083⟩, A430, H⟩ := H
        replace H : (some (t1082, t1083)) = some (r1, r2) := H
        have A43 := Aside0.mk A430
        clear A430
        simp only [Option.some.injEq, Prod.mk.injEq] at H
        obtain ⟨rfl, rfl⟩ := H
        try go_wp2
        have n0_ := Aside0.mk (blk_drew BK1070.out)
        have n1_ := Aside0.mk (blk_drew BK1071.out)
        have n2_ := Aside0.mk (blk_drew BK1072.out)
        have n3_ := Aside0.mk (below_drew1 HB.out)
        clear BK1070
        clear BK1071
        clear BK1072
        clear HB
        have BK1070 := n0_
        have BK1071 := n1_
        have BK1072 := n2_
        have HB := n3_
        clear n0_ n1_ n2_ n3_
        refine start_ (n := 10) (S := fun w' => w'.cell? ⟨gb1070, 0, none⟩ = some (.int .i64 a0_0) ∧ w'.cell? ⟨gb1070, 1, none⟩ = some (.int .i64 a0_1)) (ds := []) #[false, false, false, false, false, false, false, false, false, false] (by kernel_rfl) rfl rfl ⟨hcz BK1070 0, hcz BK1070 1⟩ (fun hHeld => ?_); refine with_tabW itv_Mod_1.tab8 itv_Mod_1.bits8 (fun HT_ HW_ => ?_)
        generalize wc.drew = w44 at BK1070 BK1071 BK1072 HB hHeld ⊢
        refine pureQ 0 54 HT_.out ?_
        refine pureQ 2 56 HT_.out ?_
        refine pureQ 4 58 HT_.out ?_
        refine pureQ 6 60 HT_.out ?_
        refine takeQ 1 55 HT_.out HW_.out hHeld ?_
        refine pureQ 3 57 HT_.out ?_
        refine takeQ 5 59 HT_.out HW_.out hHeld ?_
        refine pureQ 7 61 HT_.out ?_
        refine oneQ 8 62 HT_.out (fun K hK => ?_)
        refine goesQ Try.func13 #[.int .i64 (Int.tmod a0_0 t1080), .int .i64 (Int.tmod a0_1 t1080)] ?_
        with_reducible refine (itv_Of.calls (Int.tmod a0_0 t1080) (Int.tmod a0_1 t1080) t1082 t1083 _ A43.out).mono ?_
        rintro e w45 ⟨rfl, hb⟩
        refine ⟨_, rfl, ?_⟩
        have n0_ := bst HB hb
        replace BK1070 := bbw BK1070 hb
        replace BK1071 := bbw BK1071 hb
        replace BK1072 := bbw BK1072 hb
        clear HB
        have HB := n0_
        clear n0_
        (try clear hb)
        refine hK.out _ _ ⟨hcz BK1070 0, hcz BK1070 1⟩ (fun hHeld => ?_)
        clear hK K
        refine normQ (N := 62) ?_
        refine one_ (i := 9) (N := none) #[true, true, true, true, true, true, true, true, true, true] rfl rfl (one_of HT_.out (by kernel_rfl)) (by decide) (fun K hK => ?_)
        have hs46 : w45.cell? ⟨gb1072, 0, none⟩ = some (.int .i64 0) := hcz BK1072 0
        have hfs46 := bfz BK1072 0
        have hns46_0 := NB1070_1072.out
        have hns46_1 := NB1071_1072.out
        have hms46_0 := NB1072_1070.out
        have hms46_1 := NB1072_1071.out
        have hs47 : w45.cell? ⟨gb1072, 1, none⟩ = some (.int .i64 0) := hcz BK1072 1
        have hfs47 := bfz BK1072 1
        have hns47_0 := NB1070_1072.out
        have hns47_1 := NB1071_1072.out
        have hms47_0 := NB1072_1070.out
        have hms47_1 := NB1072_1071.out
        refine skip_ (w1 := ?_) (by rfl) rfl ?_ ?_
        rotate_left
        ·
         go_simp
         rfl
        refine hK.out _ _ ⟨((cell_far (p := ⟨gb1072, _, none⟩) NB1070_1072.out _).trans (((cell_far (p := ⟨gb1072, _, none⟩) NB1070_1072.out _).trans (hHeld.1)))), ((cell_far (p := ⟨gb1072, _, none⟩) NB1070_1072.out _).trans (((cell_far (p := ⟨gb1072, _, none⟩) NB1070_1072.out _).trans (hHeld.2))))⟩ (fun hHeld => ?_)
        clear hK K
        refine done_ (done_of HT_.out (by kernel_rfl)) ?_
        try go_wp2
        refine bodyPost_ret (results_cell_row rfl _ _ gb1072 23 #[.int .i64 t1082, .int .i64 t1083] (0, 0) _ rfl (by refine pkB ?_; refine bput (cs := #[.int .i64 t1082, .int .i64 0]) 1 ?_; refine bput (cs := #[.int .i64 0, .int .i64 0]) 0 ?_; exact BK1072.out) Try.underlying23 rfl (by kernel_rfl)) rfl ?_
        exact ⟨by first | rfl | (simp [errW_none, errW_some] <;> rfl) | (simp [*, errW_none, errW_some] <;> rfl) | kernel_rfl, (bpk HB).out⟩
      ·
       replace c41 := Bool.eq_false_iff.mpr c41
       subst c41
       have H1 : (if t1074 < 4611686018427387904 then (itv_Mod_1.j1 kj19 (wrap64 (t1074 - 1)) a0_0 a0_1) else (itv_Mod_1.j1 kj19 4611686018427387904 a0_0 a0_1)) = some (r1, r2) := by rw [if_neg (show ¬ (false = true) by decide)] at H; exact H
       clear H
       have H := H1
       clear H1
       have HC48 := Aside0.mk H
       clear H
       go_upto_if 64 with (fail)
       go_cut [10] (fun v10 wc => ∃ (kq : Nat) (x10_47 : Int), v10 = .int .i64 x10_47 ∧ Aside0 (itv_Mod_1.j1 kq x10_47 a0_0 a0_1 = some (r1, r2)) ∧ Aside0 (kq ≤ kj19) ∧ Aside0 (wc.heap[gb1070]? = some (.cells #[.int .i64 a0_0, .int .i64 a0_1] 23 (0, 0))) ∧ Aside0 (wc.heap[gb1071]? = some (.cells #[.int .i64 a1_0, .int .i64 a1_1] 23 (0, 0))) ∧ Aside0 (wc.heap[gb1072]? = some (.cells #[.int .i64 0, .int .i64 0] 23 (0, 0))) ∧ Aside0 (Below w.heap.size w wc))
       case first =>
        have H := HC48.out
        clear HC48
        by_cases c49 : t1074 < 4611686018427387904
        ·
         rw [if_pos c49] at H
         have c49b0 : decide (t1074 < 4611686018427387904) = true := decide_eq_true c49
         clear c49
         (first | rw [c49b0] | (simp only [i64_w, i32_w]; rw [c49b0]) | skip)
         have H' := Aside0.mk H
         clear H
         go_wp2
         go_meet
         case rel => exact ⟨_, (wrap64 (t1074 - 1)), (by first | rfl | (simp; done) | (simp [*]; done)), H', ⟨by have := HJ19.out; first | omega | exact Nat.le_refl _⟩, pkA BK1070, pkA BK1071, pkA BK1072, bpk HB⟩
        ·
         rw [if_neg c49] at H
         have c49b0 : decide (t1074 < 4611686018427387904) = false := decide_eq_false c49
         clear c49
         (first | rw [c49b0] | (simp only [i64_w, i32_w]; rw [c49b0]) | skip)
         have H' := Aside0.mk H
         clear H
         go_wp2
         go_meet
         case rel => exact ⟨_, (4611686018427387904), (by first | rfl | (simp; done) | (simp [*]; done)), H', ⟨by have := HJ19.out; first | omega | exact Nat.le_refl _⟩, pkA BK1070, pkA BK1071, pkA BK1072, bpk HB⟩
       case rest =>
        clear HC48
        try clear c1
        try clear p2
        try clear c3
        try clear c4
        try clear p6
        try clear c13
        try clear c33
        try clear c34
        try clear c34b0
        try clear c35
        try clear c35b0
        try clear c41
        try clear c42
        try clear c42b0
        try clear c42b1
        try clear c49
        try clear c49b0
        try clear p2
        try clear p6
        obtain ⟨kq, x10_47, rfl, HA, HJ47, BK1070, BK1071, BK1072, HB⟩ := hcut
        cases kq with
        | zero => exact absurd HA.out (by simp [itv_Mod_1.j1])
        | succ kj47 =>
         have H := HA.out
         clear HA
         simp only [itv_Mod_1.j1] at H
         by_cases c50 : a0_0 < 0
         ·
          rw [if_pos c50] at H
          have c50b0 : decide (a0_0 < 0) = true := decide_eq_true c50
          clear c50
          obtain ⟨ji51, hji51⟩ : ∃ j_ : Int, (mx a0_0 (wrap64 (-x10_47))) = j_ := ⟨_, rfl⟩
          replace H : (if a0_1 > 0 then ((itv_Of.f (ji51) (mn a0_1 x10_47)).bind fun bt1085 => (some (bt1085.1, bt1085.2))) else ((itv_Of.f (ji51) 0).bind fun bt1087 => (some (bt1087.1, bt1087.2)))) = some (r1, r2) := by first | (rw [hji51] at H; exact H) | (simp only [hji51] at H ⊢; exact H)
          have hji51_ : (if a0_0 < (wrap64 (-x10_47)) then (wrap64 (-x10_47)) else a0_0) = ji51 := hji51
          by_cases c52 : a0_1 > 0
          ·
           rw [if_pos c52] at H
           have c52b0 : decide (0 < a0_1) = true := decide_eq_true c52
           clear c52
           obtain ⟨ji53, hji53⟩ : ∃ j_ : Int, (mn a0_1 x10_47) = j_ := ⟨_, rfl⟩
           replace H : ((itv_Of.f (ji51) (ji53)).bind fun bt1085 => (some (bt1085.1, bt1085.2))) = some (r1, r2) := by first | (rw [hji53] at H; exact H) | (simp only [hji53] at H ⊢; exact H)
           have hji53_ : (if x10_47 < a0_1 then x10_47 else a0_1) = ji53 := hji53
           replace H := bnH H
           obtain ⟨⟨t1085, t1086⟩, A540, H⟩ := H
           replace H : (some (t1085, t1086)) = some (r1, r2) := H
           have A54 := Aside0.mk A540
           clear A540
           simp only [Option.some.injEq, Prod.mk.injEq] at H
           obtain ⟨rfl, rfl⟩ := H
           go_wp2_with (first | ((with_reducible refine gate_dst (N := 11) rfl ?_); refine box_event ?hg (N := 11) ?hd (cs := #[.int .i64 0, .int .i64 0]) (t := 23) ?hr ?_; (case hd => rfl); (case hg => rfl); (case hr => first | (go_simp; done) | (go_simp; rfl)); intro gb1084 hg w55 hbox hb; have n0_ := bst HB hb; have n1_ := Aside0.mk (hbox); have n2_ := bsz HB hg; have n3_ := bsz HB hg; have n4_ := bn1 BK1070 hg; have n5_ := bn2 BK1070 hg; have n6_ := bn1 BK1071 hg; have n7_ := bn2 BK1071 hg; have n8_ := bn1 BK1072 hg; have n9_ := bn2 BK1072 hg; replace BK1070 := bbw BK1070 hb; replace BK1071 := bbw BK1071 hb; replace BK1072 := bbw BK1072 hb; clear HB; have HB := n0_; have BK1084 := n1_; have GW1084 := n2_; have GE1084 := n3_; have NB1070_1084 := n4_; have NB1084_1070 := n5_; have NB1071_1084 := n6_; have NB1084_1071 := n7_; have NB1072_1084 := n8_; have NB1084_1072 := n9_; clear n0_ n1_ n2_ n3_ n4_ n5_ n6_ n7_ n8_ n9_; clear hb hbox hg; have hnb56 := nn NB1084_1070 NB1070_1084; have hnb57 := nn NB1084_1071 NB1071_1084; have hnb58 := nn NB1084_1072 NB1072_1084; have hcz59_0 := hcz BK1084 0; have hcz59_1 := hcz BK1084 1; have hfz59_0 := bfz BK1084 0; have hfz59_1 := bfz BK1084 1; have hst_ := sets2 BK1084; have hnb60 := nn NB1070_1071 NB1071_1070; have hnb61 := nn NB1070_1072 NB1072_1070; have hcz62_0 := hcz BK1070 0; have hcz62_1 := hcz BK1070 1; have hfz62_0 := bfz BK1070 0; have hfz62_1 := bfz BK1070 1) | ((with_reducible refine gate_callee (f := 13) rfl ?_); refine goesL_ (some 89) rfl rfl Try.func13 (by kernel_rfl) rfl #[.int .i64 ji51, .int .i64 ji53] rfl (by (try simp only [List.map_toArray, List.map_cons, List.map_nil]); first | done | (simp only [hji51, hji53]; rfl) | rfl | (simp only [List.length_drop, List.length_take]; rfl)) ?_; (with_reducible refine (itv_Of.calls ji51 ji53 t1085 t1086 _ A54.out).mono ?_); rintro e w63 ⟨rfl, hb⟩; refine ⟨_, rfl, ?_⟩; have n0_ := bbF BK1070 hb; have n1_ := bbF BK1071 hb; have n2_ := bbF BK1072 hb; have n3_ := Aside0.mk (blk_below (g := gb1084) (o := .cells #[.int .i64 ji51, .int .i64 ji53] 23 (0, 0)) (by refine pkB ?_; refine bput (cs := #[.int .i64 ji51, .int .i64 0]) 1 ?_; refine bput (cs := #[.int .i64 0, .int .i64 0]) 0 ?_; refine bput (cs := #[.int .i64 0, .int .i64 0]) 1 ?_; refine bput (cs := #[.int .i64 0, .int .i64 0]) 0 ?_; exact BK1084.out) hb); have n4_ := bst HB hb; clear BK1070; clear BK1071; clear BK1072; clear BK1084; clear HB; have BK1070 := n0_; have BK1071 := n1_; have BK1072 := n2_; have BK1084 := n3_; have HB := n4_; clear n0_ n1_ n2_ n3_ n4_; (try clear hb); have hnb64 := nn NB1072_1071 NB1071_1072; have hcz65_0 := hcz BK1072 0; have hcz65_1 := hcz BK1072 1; have hfz65_0 := bfz BK1072 0; have hfz65_1 := bfz BK1072 1))
           refine bodyPost_ret (results_cell_row rfl _ _ gb1072 23 #[.int .i64 t1085, .int .i64 t1086] (0, 0) _ rfl (by refine pkB ?_; refine bput (cs := #[.int .i64 t1085, .int .i64 0]) 1 ?_; refine bput (cs := #[.int .i64 0, .int .i64 0]) 0 ?_; exact BK1072.out) Try.underlying23 rfl (by kernel_rfl)) rfl ?_
           exact ⟨by first | rfl | (simp [errW_none, errW_some] <;> rfl) | (simp only [← hji51, ← hji53]; first | rfl | (simp [errW_none, errW_some] <;> rfl)) | (simp [*, errW_none, errW_some] <;> rfl) | kernel_rfl, (bpk HB).out⟩
          ·
           rw [if_neg c52] at H
           have c52b0 : decide (0 < a0_1) = false := decide_eq_false c52
           clear c52
           replace H := bnH H
           obtain ⟨⟨t1087, t1088⟩, A660, H⟩ := H
           replace H : (some (t1087, t1088)) = some (r1, r2) := H
           have A66 := Aside0.mk A660
           clear A660
           simp only [Option.some.injEq, Prod.mk.injEq] at H
           obtain ⟨rfl, rfl⟩ := H
           go_wp2_with (first | ((with_reducible refine gate_dst (N := 11) rfl ?_); refine box_event ?hg (N := 11) ?hd (cs := #[.int .i64 0, .int .i64 0]) (t := 23) ?hr ?_; (case hd => rfl); (case hg => rfl); (case hr => first | (go_simp; done) | (go_simp; rfl)); intro gb1084 hg w67 hbox hb; have n0_ := bst HB hb; have n1_ := Aside0.mk (hbox); have n2_ := bsz HB hg; have n3_ := bsz HB hg; have n4_ := bn1 BK1070 hg; have n5_ := bn2 BK1070 hg; have n6_ := bn1 BK1071 hg; have n7_ := bn2 BK1071 hg; have n8_ := bn1 BK1072 hg; have n9_ := bn2 BK1072 hg; replace BK1070 := bbw BK1070 hb; replace BK1071 := bbw BK1071 hb; replace BK1072 := bbw BK1072 hb; clear HB; have HB := n0_; have BK1084 := n1_; have GW1084 := n2_; have GE1084 := n3_; have NB1070_1084 := n4_; have NB1084_1070 := n5_; have NB1071_1084 := n6_; have NB1084_1071 := n7_; have NB1072_1084 := n8_; have NB1084_1072 := n9_; clear n0_ n1_ n2_ n3_ n4_ n5_ n6_ n7_ n8_ n9_; clear hb hbox hg; have hnb68 := nn NB1084_1070 NB1070_1084; have hnb69 := nn NB1084_1071 NB1071_1084; have hnb70 := nn NB1084_1072 NB1072_1084; have hcz71_0 := hcz BK1084 0; have hcz71_1 := hcz BK1084 1; have hfz71_0 := bfz BK1084 0; have hfz71_1 := bfz BK1084 1; have hst_ := sets2 BK1084; have hnb72 := nn NB1070_1071 NB1071_1070; have hnb73 := nn NB1070_1072 NB1072_1070; have hcz74_0 := hcz BK1070 0; have hcz74_1 := hcz BK1070 1; have hfz74_0 := bfz BK1070 0; have hfz74_1 := bfz BK1070 1) | ((with_reducible refine gate_callee (f := 13) rfl ?_); refine goesL_ (some 89) rfl rfl Try.func13 (by kernel_rfl) rfl #[.int .i64 ji51, .int .i64 0] rfl (by (try simp only [List.map_toArray, List.map_cons, List.map_nil]); first | done | (simp only [hji51]; rfl) | rfl | (simp only [List.length_drop, List.length_take]; rfl)) ?_; (with_reducible refine (itv_Of.calls ji51 0 t1087 t1088 _ A66.out).mono ?_); rintro e w75 ⟨rfl, hb⟩; refine ⟨_, rfl, ?_⟩; have n0_ := bbF BK1070 hb; have n1_ := bbF BK1071 hb; have n2_ := bbF BK1072 hb; have n3_ := Aside0.mk (blk_below (g := gb1084) (o := .cells #[.int .i64 ji51, .int .i64 0] 23 (0, 0)) (by refine pkB ?_; refine bput (cs := #[.int .i64 0, .int .i64 0]) 0 ?_; refine bput (cs := #[.int .i64 0, .int .i64 0]) 1 ?_; refine bput (cs := #[.int .i64 0, .int .i64 0]) 0 ?_; exact BK1084.out) hb); have n4_ := bst HB hb; clear BK1070; clear BK1071; clear BK1072; clear BK1084; clear HB; have BK1070 := n0_; have BK1071 := n1_; have BK1072 := n2_; have BK1084 := n3_; have HB := n4_; clear n0_ n1_ n2_ n3_ n4_; (try clear hb); have hnb76 := nn NB1072_1071 NB1071_1072; have hcz77_0 := hcz BK1072 0; have hcz77_1 := hcz BK1072 1; have hfz77_0 := bfz BK1072 0; have hfz77_1 := bfz BK1072 1))
           refine bodyPost_ret (results_cell_row rfl _ _ gb1072 23 #[.int .i64 t1087, .int .i64 t1088] (0, 0) _ rfl (by refine pkB ?_; refine bput (cs := #[.int .i64 t1087, .int .i64 0]) 1 ?_; refine bput (cs := #[.int .i64 0, .int .i64 0]) 0 ?_; exact BK1072.out) Try.underlying23 rfl (by kernel_rfl)) rfl ?_
           exact ⟨by first | rfl | (simp [errW_none, errW_some] <;> rfl) | (simp only [← hji51]; first | rfl | (simp [errW_none, errW_some] <;> rfl)) | (simp [*, errW_none, errW_some] <;> rfl) | kernel_rfl, (bpk HB).out⟩
         ·
          rw [if_neg c50] at H
          have c50b0 : decide (a0_0 < 0) = false := decide_eq_false c50
          clear c50
          by_cases c78 : a0_1 > 0
          ·
           rw [if_pos c78] at H
           have c78b0 : decide (0 < a0_1) = true := decide_eq_true c78
           clear c78
           obtain ⟨ji79, hji79⟩ : ∃ j_ : Int, (mn a0_1 x10_47) = j_ := ⟨_, rfl⟩
           replace H : ((itv_Of.f 0 (ji79)).bind fun bt1089 => (some (bt1089.1, bt1089.2))) = some (r1, r2) := by first | (rw [hji79] at H; exact H) | (simp only [hji79] at H ⊢; exact H)
           have hji79_ : (if x10_47 < a0_1 then x10_47 else a0_1) = ji79 := hji79
           replace H := bnH H
           obtain ⟨⟨t1089, t1090⟩, A800, H⟩ := H
           replace H : (some (t1089, t1090)) = some (r1, r2) := H
           have A80 := Aside0.mk A800
           clear A800
           simp only [Option.some.injEq, Prod.mk.injEq] at H
           obtain ⟨rfl, rfl⟩ := H
           go_wp2_with (first | ((with_reducible refine gate_dst (N := 11) rfl ?_); refine box_event ?hg (N := 11) ?hd (cs := #[.int .i64 0, .int .i64 0]) (t := 23) ?hr ?_; (case hd => rfl); (case hg => rfl); (case hr => first | (go_simp; done) | (go_simp; rfl)); intro gb1084 hg w81 hbox hb; have n0_ := bst HB hb; have n1_ := Aside0.mk (hbox); have n2_ := bsz HB hg; have n3_ := bsz HB hg; have n4_ := bn1 BK1070 hg; have n5_ := bn2 BK1070 hg; have n6_ := bn1 BK1071 hg; have n7_ := bn2 BK1071 hg; have n8_ := bn1 BK1072 hg; have n9_ := bn2 BK1072 hg; replace BK1070 := bbw BK1070 hb; replace BK1071 := bbw BK1071 hb; replace BK1072 := bbw BK1072 hb; clear HB; have HB := n0_; have BK1084 := n1_; have GW1084 := n2_; have GE1084 := n3_; have NB1070_1084 := n4_; have NB1084_1070 := n5_; have NB1071_1084 := n6_; have NB1084_1071 := n7_; have NB1072_1084 := n8_; have NB1084_1072 := n9_; clear n0_ n1_ n2_ n3_ n4_ n5_ n6_ n7_ n8_ n9_; clear hb hbox hg; have hnb82 := nn NB1084_1070 NB1070_1084; have hnb83 := nn NB1084_1071 NB1071_1084; have hnb84 := nn NB1084_1072 NB1072_1084; have hcz85_0 := hcz BK1084 0; have hcz85_1 := hcz BK1084 1; have hfz85_0 := bfz BK1084 0; have hfz85_1 := bfz BK1084 1; have hst_ := sets2 BK1084; have hnb86 := nn NB1070_1071 NB1071_1070; have hnb87 := nn NB1070_1072 NB1072_1070; have hcz88_0 := hcz BK1070 0; have hcz88_1 := hcz BK1070 1; have hfz88_0 := bfz BK1070 0; have hfz88_1 := bfz BK1070 1) | ((with_reducible refine gate_callee (f := 13) rfl ?_); refine goesL_ (some 89) rfl rfl Try.func13 (by kernel_rfl) rfl #[.int .i64 0, .int .i64 ji79] rfl (by (try simp only [List.map_toArray, List.map_cons, List.map_nil]); first | done | (simp only [hji79]; rfl) | rfl | (simp only [List.length_drop, List.length_take]; rfl)) ?_; (with_reducible refine (itv_Of.calls 0 ji79 t1089 t1090 _ A80.out).mono ?_); rintro e w89 ⟨rfl, hb⟩; refine ⟨_, rfl, ?_⟩; have n0_ := bbF BK1070 hb; have n1_ := bbF BK1071 hb; have n2_ := bbF BK1072 hb; have n3_ := Aside0.mk (blk_below (g := gb1084) (o := .cells #[.int .i64 0, .int .i64 ji79] 23 (0, 0)) (by refine pkB ?_; refine bput (cs := #[.int .i64 0, .int .i64 0]) 1 ?_; refine bput (cs := #[.int .i64 0, .int .i64 0]) 1 ?_; refine bput (cs := #[.int .i64 0, .int .i64 0]) 0 ?_; exact BK1084.out) hb); have n4_ := bst HB hb; clear BK1070; clear BK1071; clear BK1072; clear BK1084; clear HB; have BK1070 := n0_; have BK1071 := n1_; have BK1072 := n2_; have BK1084 := n3_; have HB := n4_; clear n0_ n1_ n2_ n3_ n4_; (try clear hb); have hnb90 := nn NB1072_1071 NB1071_1072; have hcz91_0 := hcz BK1072 0; have hcz91_1 := hcz BK1072 1; have hfz91_0 := bfz BK1072 0; have hfz91_1 := bfz BK1072 1))
           refine bodyPost_ret (results_cell_row rfl _ _ gb1072 23 #[.int .i64 t1089, .int .i64 t1090] (0, 0) _ rfl (by refine pkB ?_; refine bput (cs := #[.int .i64 t1089, .int .i64 0]) 1 ?_; refine bput (cs := #[.int .i64 0, .int .i64 0]) 0 ?_; exact BK1072.out) Try.underlying23 rfl (by kernel_rfl)) rfl ?_
           exact ⟨by first | rfl | (simp [errW_none, errW_some] <;> rfl) | (simp only [← hji79]; first | rfl | (simp [errW_none, errW_some] <;> rfl)) | (simp [*, errW_none, errW_some] <;> rfl) | kernel_rfl, (bpk HB).out⟩
          ·
           rw [if_neg c78] at H
           have c78b0 : decide (0 < a0_1) = false := decide_eq_false c78
           clear c78
           replace H := bnH H
           obtain ⟨⟨t1091, t1092⟩, A920, H⟩ := H
           replace H : (some (t1091, t1092)) = some (r1, r2) := H
           have A92 := Aside0.mk A920
           clear A920
           simp only [Option.some.injEq, Prod.mk.injEq] at H
           obtain ⟨rfl, rfl⟩ := H
           go_wp2_with (first | ((with_reducible refine gate_dst (N := 11) rfl ?_); refine box_event ?hg (N := 11) ?hd (cs := #[.int .i64 0, .int .i64 0]) (t := 23) ?hr ?_; (case hd => rfl); (case hg => rfl); (case hr => first | (go_simp; done) | (go_simp; rfl)); intro gb1084 hg w93 hbox hb; have n0_ := bst HB hb; have n1_ := Aside0.mk (hbox); have n2_ := bsz HB hg; have n3_ := bsz HB hg; have n4_ := bn1 BK1070 hg; have n5_ := bn2 BK1070 hg; have n6_ := bn1 BK1071 hg; have n7_ := bn2 BK1071 hg; have n8_ := bn1 BK1072 hg; have n9_ := bn2 BK1072 hg; replace BK1070 := bbw BK1070 hb; replace BK1071 := bbw BK1071 hb; replace BK1072 := bbw BK1072 hb; clear HB; have HB := n0_; have BK1084 := n1_; have GW1084 := n2_; have GE1084 := n3_; have NB1070_1084 := n4_; have NB1084_1070 := n5_; have NB1071_1084 := n6_; have NB1084_1071 := n7_; have NB1072_1084 := n8_; have NB1084_1072 := n9_; clear n0_ n1_ n2_ n3_ n4_ n5_ n6_ n7_ n8_ n9_; clear hb hbox hg; have hnb94 := nn NB1084_1070 NB1070_1084; have hnb95 := nn NB1084_1071 NB1071_1084; have hnb96 := nn NB1084_1072 NB1072_1084; have hcz97_0 := hcz BK1084 0; have hcz97_1 := hcz BK1084 1; have hfz97_0 := bfz BK1084 0; have hfz97_1 := bfz BK1084 1; have hst_ := sets2 BK1084; have hnb98 := nn NB1070_1071 NB1071_1070; have hnb99 := nn NB1070_1072 NB1072_1070; have hcz100_0 := hcz BK1070 0; have hcz100_1 := hcz BK1070 1; have hfz100_0 := bfz BK1070 0; have hfz100_1 := bfz BK1070 1) | ((with_reducible refine gate_callee (f := 13) rfl ?_); refine goesL_ (some 89) rfl rfl Try.func13 (by kernel_rfl) rfl #[.int .i64 0, .int .i64 0] rfl (by (try simp only [List.map_toArray, List.map_cons, List.map_nil]); first | done | rfl | (simp only [List.length_drop, List.length_take]; rfl)) ?_; (with_reducible refine (itv_Of.calls 0 0 t1091 t1092 _ A92.out).mono ?_); rintro e w101 ⟨rfl, hb⟩; refine ⟨_, rfl, ?_⟩; have n0_ := bbF BK1070 hb; have n1_ := bbF BK1071 hb; have n2_ := bbF BK1072 hb; have n3_ := Aside0.mk (blk_below (g := gb1084) (o := .cells #[.int .i64 0, .int .i64 0] 23 (0, 0)) (by refine pkB ?_; refine bput (cs := #[.int .i64 0, .int .i64 0]) 1 ?_; refine bput (cs := #[.int .i64 0, .int .i64 0]) 0 ?_; exact BK1084.out) hb); have n4_ := bst HB hb; clear BK1070; clear BK1071; clear BK1072; clear BK1084; clear HB; have BK1070 := n0_; have BK1071 := n1_; have BK1072 := n2_; have BK1084 := n3_; have HB := n4_; clear n0_ n1_ n2_ n3_ n4_; (try clear hb); have hnb102 := nn NB1072_1071 NB1071_1072; have hcz103_0 := hcz BK1072 0; have hcz103_1 := hcz BK1072 1; have hfz103_0 := bfz BK1072 0; have hfz103_1 := bfz BK1072 1))
           refine bodyPost_ret (results_cell_row rfl _ _ gb1072 23 #[.int .i64 t1091, .int .i64 t1092] (0, 0) _ rfl (by refine pkB ?_; refine bput (cs := #[.int .i64 t1091, .int .i64 0]) 1 ?_; refine bput (cs := #[.int .i64 0, .int .i64 0]) 0 ?_; exact BK1072.out) Try.underlying23 rfl (by kernel_rfl)) rfl ?_
           exact ⟨by first | rfl | (simp [errW_none, errW_some] <;> rfl) | (simp [*, errW_none, errW_some] <;> rfl) | kernel_rfl, (bpk HB).out⟩
  ·
   replace c4 := Bool.eq_false_iff.mpr c4
   subst c4
   have H1 : ((itv_Empty.f).bind fun bt1076 => (some (bt1076.1, bt1076.2))) = some (r1, r2) := by rw [if_neg (show ¬ (false = true) by decide)] at H; exact H
   clear H
   have H := H1
   clear H1
   replace H := bnH H
   obtain ⟨⟨t1076, t1077⟩, A1040, H⟩ := H
   replace H : (some (t1076, t1077)) = some (r1, r2) := H
   have A104 := Aside0.mk A1040
   clear A1040
   simp only [Option.some.injEq, Prod.mk.injEq] at H
   obtain ⟨rfl, rfl⟩ := H
   go_enter Try.func91, Try.ntmps91
   go_wp2_with (first | ((with_reducible refine gate_dst (N := 2) rfl ?_); refine box_event ?hg (N := 2) ?hd (cs := #[.int .i64 a0_0, .int .i64 a0_1]) (t := 23) ?hr ?_; (case hd => rfl); (case hg => rfl); (case hr => first | (go_simp; done) | (go_simp; rfl)); intro gb1070 hg w105 hbox hb; have n0_ := bst HB hb; have n1_ := Aside0.mk (hbox); have n2_ := bsz HB hg; have n3_ := bsz HB hg; clear HB; have HB := n0_; have BK1070 := n1_; have GW1070 := n2_; have GE1070 := n3_; clear n0_ n1_ n2_ n3_; clear hb hbox hg) | ((with_reducible refine gate_dst (N := 3) rfl ?_); refine box_event ?hg (N := 3) ?hd (cs := #[.int .i64 a1_0, .int .i64 a1_1]) (t := 23) ?hr ?_; (case hd => rfl); (case hg => rfl); (case hr => first | (go_simp; done) | (go_simp; rfl)); intro gb1071 hg w106 hbox hb; have n0_ := bst HB hb; have n1_ := Aside0.mk (hbox); have n2_ := bsz HB hg; have n3_ := bsz HB hg; have n4_ := bn1 BK1070 hg; have n5_ := bn2 BK1070 hg; replace BK1070 := bbw BK1070 hb; clear HB; have HB := n0_; have BK1071 := n1_; have GW1071 := n2_; have GE1071 := n3_; have NB1070_1071 := n4_; have NB1071_1070 := n5_; clear n0_ n1_ n2_ n3_ n4_ n5_; clear hb hbox hg) | ((with_reducible refine gate_dst (N := 4) rfl ?_); refine box_event ?hg (N := 4) ?hd (cs := #[.int .i64 0, .int .i64 0]) (t := 23) ?hr ?_; (case hd => rfl); (case hg => rfl); (case hr => first | (go_simp; done) | (go_simp; rfl)); intro gb1072 hg w107 hbox hb; have n0_ := bst HB hb; have n1_ := Aside0.mk (hbox); have n2_ := bsz HB hg; have n3_ := bsz HB hg; have n4_ := bn1 BK1070 hg; have n5_ := bn2 BK1070 hg; have n6_ := bn1 BK1071 hg; have n7_ := bn2 BK1071 hg; replace BK1070 := bbw BK1070 hb; replace BK1071 := bbw BK1071 hb; clear HB; have HB := n0_; have BK1072 := n1_; have GW1072 := n2_; have GE1072 := n3_; have NB1070_1072 := n4_; have NB1072_1070 := n5_; have NB1071_1072 := n6_; have NB1072_1071 := n7_; clear n0_ n1_ n2_ n3_ n4_ n5_ n6_ n7_; clear hb hbox hg; have hnb108 := nn NB1071_1070 NB1070_1071; have hnb109 := nn NB1071_1072 NB1072_1071; have hcz110_0 := hcz BK1071 0; have hcz110_1 := hcz BK1071 1; have hfz110_0 := bfz BK1071 0; have hfz110_1 := bfz BK1071 1; have hst_ := sets2 BK1071) | ((with_reducible refine gate_callee (f := 92) rfl ?_); refine goesL_ (some 14) rfl rfl Try.func92 (by kernel_rfl) rfl #[.agg #[.int .i64 a1_0, .int .i64 a1_1]] rfl (by (try simp only [List.map_toArray, List.map_cons, List.map_nil]); first | done | rfl | (simp only [List.length_drop, List.length_take]; rfl)) ?_; (with_reducible refine (itv_sizes.calls k a1_0 a1_1 t1073 t1074 false _ A3.out).mono ?_); rintro e w111 ⟨rfl, hb⟩; refine ⟨_, rfl, ?_⟩; have n0_ := bst HB hb; replace BK1070 := bbw BK1070 hb; replace BK1071 := bbw BK1071 hb; replace BK1072 := bbw BK1072 hb; clear HB; have HB := n0_; clear n0_; (try clear hb)) | ((with_reducible refine gate_callee (f := 15) rfl ?_); refine goesL_ (some 20) rfl rfl Try.func15 (by kernel_rfl) rfl #[] rfl (by (try simp only [List.map_toArray, List.map_cons, List.map_nil]); first | done | rfl | (simp only [List.length_drop, List.length_take]; rfl)) ?_; (with_reducible refine (itv_Empty.calls  t1076 t1077 _ A104.out).mono ?_); rintro e w112 ⟨rfl, hb⟩; refine ⟨_, rfl, ?_⟩; have n0_ := bst HB hb; replace BK1070 := bbw BK1070 hb; replace BK1071 := bbw BK1071 hb; replace BK1072 := bbw BK1072 hb; clear HB; have HB := n0_; clear n0_; (try clear hb); have hnb113 := nn NB1072_1070 NB1070_1072; have hcz114_0 := hcz BK1072 0; have hcz114_1 := hcz BK1072 1; have hfz114_0 := bfz BK1072 0; have hfz114_1 := bfz BK1072 1))
   refine bodyPost_ret (results_cell_row rfl _ _ gb1072 23 #[.int .i64 t1076, .int .i64 t1077] (0, 0) _ rfl (by refine pkB ?_; refine bput (cs := #[.int .i64 t1076, .int .i64 0]) 1 ?_; refine bput (cs := #[.int .i64 0, .int .i64 0]) 0 ?_; exact BK1072.out) Try.underlying23 rfl (by kernel_rfl)) rfl ?_
   exact ⟨by first | rfl | (simp [errW_none, errW_some] <;> rfl) | (simp [*, errW_none, errW_some] <;> rfl) | kernel_rfl, (bpk HB).out⟩
end Go.Proofs.Ytbbnpipmjadpoaa.P
