/- What the law's proof needs of Px37. -/
import Derived.Test.YtbbnpipmjadpoaaTrDU2
import Derived.Test.YtbbnpipmjadpoaaTrDU
import Derived.Test.YtbbnpipmjadpoaaTrDPx0
import Derived.Test.YtbbnpipmjadpoaaTrDPx2
import Derived.Test.YtbbnpipmjadpoaaTrDPx3
import Derived.Test.YtbbnpipmjadpoaaTrDPx7
import Derived.Test.YtbbnpipmjadpoaaTrDPx35
-- PRINTED by print.py (a twelfth state) out of the translation. Not trusted: Lean checks it.
namespace Go.Proofs.Ytbbnpipmjadpoaa.P
open Go.RowKit Go.Proofs.YtbbnpipmjadpoaaW.PrintWords Go.Proofs.YtbbnpipmjadpoaaW.PrintLast Go.Proofs.YtbbnpipmjadpoaaW.PrintMore Go.Proofs.YtbbnpipmjadpoaaO
attribute [local go_sem] max2_int min2_int max_two min_two max_three min_three max_four min_four   -- for this text's walks alone
set_option linter.unusedVariables false
set_option linter.unusedSimpArgs false
def gimbalref02_Neg.f (k : Nat) (a0_0 : Int) (a0_1 : Int) : Option (Int × Int) := (gimbalref02_norm.f k a0_0 a0_1).bind fun bt889 => ((gimbalref02_None.f bt889.1 bt889.2).bind fun t891 => (if t891 = true then (some (bt889.1, bt889.2)) else ((gimbalref02_Of.f k (wrap64 (-bt889.2)) (wrap64 (-bt889.1))).bind fun bt892 => (some (bt892.1, bt892.2)))))
set_option maxHeartbeats 8000000 in
set_option maxRecDepth 100000 in
theorem gimbalref02_Neg.calls (k : Nat) (a0_0 : Int) (a0_1 : Int) (r1 : Int) (r2 : Int) (w : World) (h : gimbalref02_Neg.f k a0_0 a0_1 = some (r1, r2)) :
    Calls Try.prog 51 #[.agg #[.int .i64 a0_0, .int .i64 a0_1]] w fun e w' => e = .returned (.agg #[.int .i64 r1, .int .i64 r2]) ∧ Below w.heap.size w w' := by
  have hu23 := Try.underlying23
  have HB := Aside0.mk (Below.refl w.heap.size w)
  have H : ((gimbalref02_norm.f k a0_0 a0_1).bind fun bt889 => ((gimbalref02_None.f bt889.1 bt889.2).bind fun t891 => (if t891 = true then (some (bt889.1, bt889.2)) else ((gimbalref02_Of.f k (wrap64 (-bt889.2)) (wrap64 (-bt889.1))).bind fun bt892 => (some (bt892.1, bt892.2)))))) = some (r1, r2) := h
  clear h
  replace H := Option.bind_eq_some_iff.mp H
  obtain ⟨⟨t889, t890⟩, A20, H⟩ := H
  replace H : ((gimbalref02_None.f t889 t890).bind fun t891 => (if t891 = true then (some (t889, t890)) else ((gimbalref02_Of.f k (wrap64 (-t890)) (wrap64 (-t889))).bind fun bt892 => (some (bt892.1, bt892.2))))) = some (r1, r2) := H
  have A2 := Aside0.mk A20
  clear A20
  replace H := Option.bind_eq_some_iff.mp H
  obtain ⟨t891, A30, H⟩ := H
  replace H : (if t891 = true then (some (t889, t890)) else ((gimbalref02_Of.f k (wrap64 (-t890)) (wrap64 (-t889))).bind fun bt892 => (some (bt892.1, bt892.2)))) = some (r1, r2) := H
  have A3 := Aside0.mk A30
  clear A30
  by_cases c4 : t891 = true
  ·
   subst c4
   have H1 : (some (t889, t890)) = some (r1, r2) := by rw [if_pos rfl] at H; exact H
   clear H
   have H := H1
   clear H1
   simp only [Option.some.injEq, Prod.mk.injEq] at H
   obtain ⟨rfl, rfl⟩ := H
   go_enter Try.func51, Try.ntmps51
   go_wp2_with (first | ((with_reducible refine gate_dst (N := 1) rfl ?_); refine box_event ?hg (N := 1) ?hd (cs := #[.int .i64 a0_0, .int .i64 a0_1]) (t := 23) ?hr ?_; (case hd => rfl); (case hg => rfl); (case hr => first | (go_simp; done) | (go_simp; rfl)); intro gb887 hg w5 hbox hb; have n0_ := bst HB hb; have n1_ := Aside0.mk (hbox); have n2_ := bsz HB hg; have n3_ := bsz HB hg; clear HB; have HB := n0_; have BK887 := n1_; have GW887 := n2_; have GE887 := n3_; clear n0_ n1_ n2_ n3_; clear hb hbox hg) | ((with_reducible refine gate_dst (N := 2) rfl ?_); refine box_event ?hg (N := 2) ?hd (cs := #[.int .i64 0, .int .i64 0]) (t := 23) ?hr ?_; (case hd => rfl); (case hg => rfl); (case hr => first | (go_simp; done) | (go_simp; rfl)); intro gb888 hg w6 hbox hb; have n0_ := bst HB hb; have n1_ := Aside0.mk (hbox); have n2_ := bsz HB hg; have n3_ := bsz HB hg; have n4_ := bn1 BK887 hg; have n5_ := bn2 BK887 hg; replace BK887 := bbw BK887 hb; clear HB; have HB := n0_; have BK888 := n1_; have GW888 := n2_; have GE888 := n3_; have NB887_888 := n4_; have NB888_887 := n5_; clear n0_ n1_ n2_ n3_ n4_ n5_; clear hb hbox hg; have hnb7 := NB887_888.out; have hnc7 := NB888_887.out; have hcz8_0 := hcz BK887 0; have hcz8_1 := hcz BK887 1; have hfz8_0 := blk_frozen BK887.out 0; have hfz8_1 := blk_frozen BK887.out 1) | ((with_reducible refine gate_callee (f := 60) rfl ?_); refine goesL_ (some 4) rfl rfl Try.func60 (by kernel_rfl) rfl #[.agg #[.int .i64 a0_0, .int .i64 a0_1]] rfl (by (try simp only [List.map_toArray, List.map_cons, List.map_nil]); first | done | rfl | (simp only [List.length_drop, List.length_take]; rfl)) ?_; (with_reducible refine (gimbalref02_norm.calls k a0_0 a0_1 t889 t890 _ A2.out).mono ?_); rintro e w9 ⟨rfl, hb⟩; refine ⟨_, rfl, ?_⟩; have n0_ := bst HB hb; replace BK887 := bbw BK887 hb; replace BK888 := bbw BK888 hb; clear HB; have HB := n0_; clear n0_; (try clear hb); (try clear hb2); (try clear hk); (try clear hi); have hcz10_0 := hcz BK887 0; have hcz10_1 := hcz BK887 1; have hfz10_0 := blk_frozen BK887.out 0; have hfz10_1 := blk_frozen BK887.out 1) | ((with_reducible refine gate_callee (f := 61) rfl ?_); refine goesL_ (some 6) rfl rfl Try.func61 (by kernel_rfl) rfl #[.agg #[.int .i64 t889, .int .i64 t890]] rfl (by (try simp only [List.map_toArray, List.map_cons, List.map_nil]); first | done | rfl | (simp only [List.length_drop, List.length_take]; rfl)) ?_; (with_reducible refine (gimbalref02_None.calls t889 t890 true _ A3.out).mono ?_); rintro e w11 ⟨rfl, hb⟩; refine ⟨_, rfl, ?_⟩; have n0_ := Aside0.mk (blk_below (g := gb887) (o := .cells #[.int .i64 t889, .int .i64 t890] 23 (0, 0)) (by refine pkB ?_; refine blk_put (cs := #[.int .i64 t889, .int .i64 a0_1]) ?_ 1 _ (by first | rfl | (subst_vars; rfl)); refine pkB ?_; refine blk_put (cs := #[.int .i64 a0_0, .int .i64 a0_1]) ?_ 0 _ (by first | rfl | (subst_vars; rfl)); refine pkB ?_; exact BK887.out) hb); have n1_ := Aside0.mk (blk_below (g := gb888) (o := .cells #[.int .i64 0, .int .i64 0] 23 (0, 0)) (by refine pkB ?_; refine blk_far ?_ NB888_887.out _; refine pkB ?_; refine blk_far ?_ NB888_887.out _; refine pkB ?_; exact BK888.out) hb); have n2_ := bst HB hb; clear BK887; clear BK888; clear HB; have BK887 := n0_; have BK888 := n1_; have HB := n2_; clear n0_ n1_ n2_; (try clear hb); (try clear hb2); (try clear hk); (try clear hi); have hcz12_0 := hcz BK887 0; have hcz12_1 := hcz BK887 1; have hfz12_0 := blk_frozen BK887.out 0; have hfz12_1 := blk_frozen BK887.out 1; have hcz13_0 := hcz BK888 0; have hcz13_1 := hcz BK888 1; have hfz13_0 := blk_frozen BK888.out 0; have hfz13_1 := blk_frozen BK888.out 1))
   refine bodyPost_ret (results_cell_row rfl _ _ gb888 23 #[.int .i64 t889, .int .i64 t890] (0, 0) _ rfl (by refine pkB ?_; refine blk_put (cs := #[.int .i64 t889, .int .i64 0]) ?_ 1 _ (by first | rfl | (subst_vars; rfl)); refine pkB ?_; refine blk_put (cs := #[.int .i64 0, .int .i64 0]) ?_ 0 _ (by first | rfl | (subst_vars; rfl)); refine pkB ?_; exact BK888.out) Try.underlying23 rfl (by kernel_rfl)) rfl ?_
   exact ⟨by first | rfl | (simp [errW_none, errW_some] <;> rfl) | (simp [*, errW_none, errW_some] <;> rfl) | kernel_rfl, by repeat (first | (with_reducible first | exact HB.out | apply below_alloc | apply pw_below_drewN | apply below_drew1 | refine below_set ?_ GE887.out | refine below_set ?_ GE888.out) | exact HB.out)⟩
  ·
   replace c4 := Bool.eq_false_iff.mpr c4
   subst c4
   have H1 : ((gimbalref02_Of.f k (wrap64 (-t890)) (wrap64 (-t889))).bind fun bt892 => (some (bt892.1, bt892.2))) = some (r1, r2) := by rw [if_neg (show ¬ (false = true) by decide)] at H; exact H
   clear H
   have H := H1
   clear H1
   replace H := Option.bind_eq_some_iff.mp H
   obtain ⟨⟨t892, t893⟩, A140, H⟩ := H
   replace H : (some (t892, t893)) = some (r1, r2) := H
   have A14 := Aside0.mk A140
   clear A140
   simp only [Option.some.injEq, Prod.mk.injEq] at H
   obtain ⟨rfl, rfl⟩ := H
   go_enter Try.func51, Try.ntmps51
   go_wp2_with (first | ((with_reducible refine gate_dst (N := 1) rfl ?_); refine box_event ?hg (N := 1) ?hd (cs := #[.int .i64 a0_0, .int .i64 a0_1]) (t := 23) ?hr ?_; (case hd => rfl); (case hg => rfl); (case hr => first | (go_simp; done) | (go_simp; rfl)); intro gb887 hg w15 hbox hb; have n0_ := bst HB hb; have n1_ := Aside0.mk (hbox); have n2_ := bsz HB hg; have n3_ := bsz HB hg; clear HB; have HB := n0_; have BK887 := n1_; have GW887 := n2_; have GE887 := n3_; clear n0_ n1_ n2_ n3_; clear hb hbox hg) | ((with_reducible refine gate_dst (N := 2) rfl ?_); refine box_event ?hg (N := 2) ?hd (cs := #[.int .i64 0, .int .i64 0]) (t := 23) ?hr ?_; (case hd => rfl); (case hg => rfl); (case hr => first | (go_simp; done) | (go_simp; rfl)); intro gb888 hg w16 hbox hb; have n0_ := bst HB hb; have n1_ := Aside0.mk (hbox); have n2_ := bsz HB hg; have n3_ := bsz HB hg; have n4_ := bn1 BK887 hg; have n5_ := bn2 BK887 hg; replace BK887 := bbw BK887 hb; clear HB; have HB := n0_; have BK888 := n1_; have GW888 := n2_; have GE888 := n3_; have NB887_888 := n4_; have NB888_887 := n5_; clear n0_ n1_ n2_ n3_ n4_ n5_; clear hb hbox hg; have hnb17 := NB887_888.out; have hnc17 := NB888_887.out; have hcz18_0 := hcz BK887 0; have hcz18_1 := hcz BK887 1; have hfz18_0 := blk_frozen BK887.out 0; have hfz18_1 := blk_frozen BK887.out 1) | ((with_reducible refine gate_callee (f := 60) rfl ?_); refine goesL_ (some 4) rfl rfl Try.func60 (by kernel_rfl) rfl #[.agg #[.int .i64 a0_0, .int .i64 a0_1]] rfl (by (try simp only [List.map_toArray, List.map_cons, List.map_nil]); first | done | rfl | (simp only [List.length_drop, List.length_take]; rfl)) ?_; (with_reducible refine (gimbalref02_norm.calls k a0_0 a0_1 t889 t890 _ A2.out).mono ?_); rintro e w19 ⟨rfl, hb⟩; refine ⟨_, rfl, ?_⟩; have n0_ := bst HB hb; replace BK887 := bbw BK887 hb; replace BK888 := bbw BK888 hb; clear HB; have HB := n0_; clear n0_; (try clear hb); (try clear hb2); (try clear hk); (try clear hi); have hcz20_0 := hcz BK887 0; have hcz20_1 := hcz BK887 1; have hfz20_0 := blk_frozen BK887.out 0; have hfz20_1 := blk_frozen BK887.out 1) | ((with_reducible refine gate_callee (f := 61) rfl ?_); refine goesL_ (some 6) rfl rfl Try.func61 (by kernel_rfl) rfl #[.agg #[.int .i64 t889, .int .i64 t890]] rfl (by (try simp only [List.map_toArray, List.map_cons, List.map_nil]); first | done | rfl | (simp only [List.length_drop, List.length_take]; rfl)) ?_; (with_reducible refine (gimbalref02_None.calls t889 t890 false _ A3.out).mono ?_); rintro e w21 ⟨rfl, hb⟩; refine ⟨_, rfl, ?_⟩; have n0_ := Aside0.mk (blk_below (g := gb887) (o := .cells #[.int .i64 t889, .int .i64 t890] 23 (0, 0)) (by refine pkB ?_; refine blk_put (cs := #[.int .i64 t889, .int .i64 a0_1]) ?_ 1 _ (by first | rfl | (subst_vars; rfl)); refine pkB ?_; refine blk_put (cs := #[.int .i64 a0_0, .int .i64 a0_1]) ?_ 0 _ (by first | rfl | (subst_vars; rfl)); refine pkB ?_; exact BK887.out) hb); have n1_ := Aside0.mk (blk_below (g := gb888) (o := .cells #[.int .i64 0, .int .i64 0] 23 (0, 0)) (by refine pkB ?_; refine blk_far ?_ NB888_887.out _; refine pkB ?_; refine blk_far ?_ NB888_887.out _; refine pkB ?_; exact BK888.out) hb); have n2_ := bst HB hb; clear BK887; clear BK888; clear HB; have BK887 := n0_; have BK888 := n1_; have HB := n2_; clear n0_ n1_ n2_; (try clear hb); (try clear hb2); (try clear hk); (try clear hi); have hcz22_0 := hcz BK887 0; have hcz22_1 := hcz BK887 1; have hfz22_0 := blk_frozen BK887.out 0; have hfz22_1 := blk_frozen BK887.out 1) | ((with_reducible refine gate_callee (f := 14) rfl ?_); refine goesL_ (some 14) rfl rfl Try.func14 (by kernel_rfl) rfl #[.int .i64 (wrap64 (-t890)), .int .i64 (wrap64 (-t889))] rfl (by (try simp only [List.map_toArray, List.map_cons, List.map_nil]); first | done | rfl | (simp only [List.length_drop, List.length_take]; rfl)) ?_; (with_reducible refine (gimbalref02_Of.calls k (wrap64 (-t890)) (wrap64 (-t889)) t892 t893 _ A14.out).mono ?_); rintro e w23 ⟨rfl, hb⟩; refine ⟨_, rfl, ?_⟩; have n0_ := bst HB hb; replace BK887 := bbw BK887 hb; replace BK888 := bbw BK888 hb; clear HB; have HB := n0_; clear n0_; (try clear hb); (try clear hb2); (try clear hk); (try clear hi); have hcz24_0 := hcz BK888 0; have hcz24_1 := hcz BK888 1; have hfz24_0 := blk_frozen BK888.out 0; have hfz24_1 := blk_frozen BK888.out 1))
   refine bodyPost_ret (results_cell_row rfl _ _ gb888 23 #[.int .i64 t892, .int .i64 t893] (0, 0) _ rfl (by refine pkB ?_; refine blk_put (cs := #[.int .i64 t892, .int .i64 0]) ?_ 1 _ (by first | rfl | (subst_vars; rfl)); refine pkB ?_; refine blk_put (cs := #[.int .i64 0, .int .i64 0]) ?_ 0 _ (by first | rfl | (subst_vars; rfl)); refine pkB ?_; exact BK888.out) Try.underlying23 rfl (by kernel_rfl)) rfl ?_
   exact ⟨by first | rfl | (simp [errW_none, errW_some] <;> rfl) | (simp [*, errW_none, errW_some] <;> rfl) | kernel_rfl, by repeat (first | (with_reducible first | exact HB.out | apply below_alloc | apply pw_below_drewN | apply below_drew1 | refine below_set ?_ GE887.out | refine below_set ?_ GE888.out) | exact HB.out)⟩
end Go.Proofs.Ytbbnpipmjadpoaa.P
