/- What the law's proof needs of Px46. -/
import Derived.Test.YtbbnpipmjadpoaaTrDU2
import Derived.Test.YtbbnpipmjadpoaaTrDU
import Derived.Test.YtbbnpipmjadpoaaTrDPx0
import Derived.Test.YtbbnpipmjadpoaaTrDPx2
import Derived.Test.YtbbnpipmjadpoaaTrDPx3
import Derived.Test.YtbbnpipmjadpoaaTrDPx7
import Derived.Test.YtbbnpipmjadpoaaTrDPx9
import Derived.Test.YtbbnpipmjadpoaaTrDPx11
import Derived.Test.YtbbnpipmjadpoaaTrDPx45
-- PRINTED by print.py (a twelfth state) out of the translation. Not trusted: Lean checks it.
namespace Go.Proofs.Ytbbnpipmjadpoaa.P
open Go.RowKit Go.Proofs.YtbbnpipmjadpoaaW.PrintWords Go.Proofs.YtbbnpipmjadpoaaW.PrintLast Go.Proofs.YtbbnpipmjadpoaaW.PrintMore Go.Proofs.YtbbnpipmjadpoaaO
attribute [local go_sem] max2_int min2_int max_two min_two max_three min_three max_four min_four   -- for this text's walks alone
set_option linter.unusedVariables false
set_option linter.unusedSimpArgs false
def gimbalref02_Div.f (k : Nat) (a0_0 : Int) (a0_1 : Int) (a1_0 : Int) (a1_1 : Int) : Option (Int × Int) := (gimbalref02_norm.f k a0_0 a0_1).bind fun bt1019 => ((gimbalref02_None.f bt1019.1 bt1019.2).bind fun t1021 => (if t1021 = true then (some (bt1019.1, bt1019.2)) else ((gimbalref02_Of.f k (-4611686018427387904) (-1)).bind fun bt1022 => ((gimbalref02_Meet.f k a1_0 a1_1 bt1022.1 bt1022.2).bind fun bt1024 => ((gimbalref02_Of.f k 1 4611686018427387904).bind fun bt1027 => ((gimbalref02_Meet.f k a1_0 a1_1 bt1027.1 bt1027.2).bind fun bt1029 => ((gimbalref02_quotients.f k bt1019.1 bt1019.2 bt1024.1 bt1024.2).bind fun bt1032 => ((gimbalref02_quotients.f k bt1019.1 bt1019.2 bt1029.1 bt1029.2).bind fun bt1034 => ((gimbalref02_Join.f k bt1032.1 bt1032.2 bt1034.1 bt1034.2).bind fun bt1036 => (some (bt1036.1, bt1036.2)))))))))))
def gimbalref02_Div.T6 : Bool × List (List Nat × List Nat) := (true, [([], []), ([], []), ([0, 1], [0, 1]), ([], []), ([], []), ([3, 4, 2], [3, 4]), ([2, 5, 5], [2, 5]), ([6, 6, 0, 1, 2, 3, 4, 5, 6], [6])])
def gimbalref02_Div.B6 : List Nat := [0, 0, 3, 0, 0, 31, 63, 127]
theorem gimbalref02_Div.tab6 : rtab .any (opsOf Try.f55 6) = gimbalref02_Div.T6 := by kernel_rfl
theorem gimbalref02_Div.bits6 : waitsOk gimbalref02_Div.T6.2 gimbalref02_Div.B6 = true := by kernel_rfl
set_option maxHeartbeats 8000000 in
set_option maxRecDepth 100000 in
theorem gimbalref02_Div.calls (k : Nat) (a0_0 : Int) (a0_1 : Int) (a1_0 : Int) (a1_1 : Int) (r1 : Int) (r2 : Int) (w : World) (h : gimbalref02_Div.f k a0_0 a0_1 a1_0 a1_1 = some (r1, r2)) :
    Calls Try.prog 55 #[.agg #[.int .i64 a0_0, .int .i64 a0_1], .agg #[.int .i64 a1_0, .int .i64 a1_1]] w fun e w' => e = .returned (.agg #[.int .i64 r1, .int .i64 r2]) ∧ Below w.heap.size w w' := by
  have hu23 := Try.underlying23
  have HB := Aside0.mk (Below.refl w.heap.size w)
  have H : ((gimbalref02_norm.f k a0_0 a0_1).bind fun bt1019 => ((gimbalref02_None.f bt1019.1 bt1019.2).bind fun t1021 => (if t1021 = true then (some (bt1019.1, bt1019.2)) else ((gimbalref02_Of.f k (-4611686018427387904) (-1)).bind fun bt1022 => ((gimbalref02_Meet.f k a1_0 a1_1 bt1022.1 bt1022.2).bind fun bt1024 => ((gimbalref02_Of.f k 1 4611686018427387904).bind fun bt1027 => ((gimbalref02_Meet.f k a1_0 a1_1 bt1027.1 bt1027.2).bind fun bt1029 => ((gimbalref02_quotients.f k bt1019.1 bt1019.2 bt1024.1 bt1024.2).bind fun bt1032 => ((gimbalref02_quotients.f k bt1019.1 bt1019.2 bt1029.1 bt1029.2).bind fun bt1034 => ((gimbalref02_Join.f k bt1032.1 bt1032.2 bt1034.1 bt1034.2).bind fun bt1036 => (some (bt1036.1, bt1036.2)))))))))))) = some (r1, r2) := h
  clear h
  replace H := Option.bind_eq_some_iff.mp H
  obtain ⟨⟨t1019, t1020⟩, A30, H⟩ := H
  replace H : ((gimbalref02_None.f t1019 t1020).bind fun t1021 => (if t1021 = true then (some (t1019, t1020)) else ((gimbalref02_Of.f k (-4611686018427387904) (-1)).bind fun bt1022 => ((gimbalref02_Meet.f k a1_0 a1_1 bt1022.1 bt1022.2).bind fun bt1024 => ((gimbalref02_Of.f k 1 4611686018427387904).bind fun bt1027 => ((gimbalref02_Meet.f k a1_0 a1_1 bt1027.1 bt1027.2).bind fun bt1029 => ((gimbalref02_quotients.f k t1019 t1020 bt1024.1 bt1024.2).bind fun bt1032 => ((gimbalref02_quotients.f k t1019 t1020 bt1029.1 bt1029.2).bind fun bt1034 => ((gimbalref02_Join.f k bt1032.1 bt1032.2 bt1034.1 bt1034.2).bind fun bt1036 => (some (bt1036.1, bt1036.2))))))))))) = some (r1, r2) := H
  have A3 := Aside0.mk A30
  clear A30
  replace H := Option.bind_eq_some_iff.mp H
  obtain ⟨t1021, A40, H⟩ := H
  replace H : (if t1021 = true then (some (t1019, t1020)) else ((gimbalref02_Of.f k (-4611686018427387904) (-1)).bind fun bt1022 => ((gimbalref02_Meet.f k a1_0 a1_1 bt1022.1 bt1022.2).bind fun bt1024 => ((gimbalref02_Of.f k 1 4611686018427387904).bind fun bt1027 => ((gimbalref02_Meet.f k a1_0 a1_1 bt1027.1 bt1027.2).bind fun bt1029 => ((gimbalref02_quotients.f k t1019 t1020 bt1024.1 bt1024.2).bind fun bt1032 => ((gimbalref02_quotients.f k t1019 t1020 bt1029.1 bt1029.2).bind fun bt1034 => ((gimbalref02_Join.f k bt1032.1 bt1032.2 bt1034.1 bt1034.2).bind fun bt1036 => (some (bt1036.1, bt1036.2)))))))))) = some (r1, r2) := H
  have A4 := Aside0.mk A40
  clear A40
  by_cases c5 : t1021 = true
  ·
   subst c5
   have H1 : (some (t1019, t1020)) = some (r1, r2) := by rw [if_pos rfl] at H; exact H
   clear H
   have H := H1
   clear H1
   simp only [Option.some.injEq, Prod.mk.injEq] at H
   obtain ⟨rfl, rfl⟩ := H
   go_enter Try.func55, Try.ntmps55
   go_wp2_with (first | ((with_reducible refine gate_dst (N := 2) rfl ?_); refine box_event ?hg (N := 2) ?hd (cs := #[.int .i64 a0_0, .int .i64 a0_1]) (t := 23) ?hr ?_; (case hd => rfl); (case hg => rfl); (case hr => first | (go_simp; done) | (go_simp; rfl)); intro gb1016 hg w6 hbox hb; have n0_ := bst HB hb; have n1_ := Aside0.mk (hbox); have n2_ := bsz HB hg; have n3_ := bsz HB hg; clear HB; have HB := n0_; have BK1016 := n1_; have GW1016 := n2_; have GE1016 := n3_; clear n0_ n1_ n2_ n3_; clear hb hbox hg) | ((with_reducible refine gate_dst (N := 3) rfl ?_); refine box_event ?hg (N := 3) ?hd (cs := #[.int .i64 a1_0, .int .i64 a1_1]) (t := 23) ?hr ?_; (case hd => rfl); (case hg => rfl); (case hr => first | (go_simp; done) | (go_simp; rfl)); intro gb1017 hg w7 hbox hb; have n0_ := bst HB hb; have n1_ := Aside0.mk (hbox); have n2_ := bsz HB hg; have n3_ := bsz HB hg; have n4_ := bn1 BK1016 hg; have n5_ := bn2 BK1016 hg; replace BK1016 := bbw BK1016 hb; clear HB; have HB := n0_; have BK1017 := n1_; have GW1017 := n2_; have GE1017 := n3_; have NB1016_1017 := n4_; have NB1017_1016 := n5_; clear n0_ n1_ n2_ n3_ n4_ n5_; clear hb hbox hg) | ((with_reducible refine gate_dst (N := 4) rfl ?_); refine box_event ?hg (N := 4) ?hd (cs := #[.int .i64 0, .int .i64 0]) (t := 23) ?hr ?_; (case hd => rfl); (case hg => rfl); (case hr => first | (go_simp; done) | (go_simp; rfl)); intro gb1018 hg w8 hbox hb; have n0_ := bst HB hb; have n1_ := Aside0.mk (hbox); have n2_ := bsz HB hg; have n3_ := bsz HB hg; have n4_ := bn1 BK1016 hg; have n5_ := bn2 BK1016 hg; have n6_ := bn1 BK1017 hg; have n7_ := bn2 BK1017 hg; replace BK1016 := bbw BK1016 hb; replace BK1017 := bbw BK1017 hb; clear HB; have HB := n0_; have BK1018 := n1_; have GW1018 := n2_; have GE1018 := n3_; have NB1016_1018 := n4_; have NB1018_1016 := n5_; have NB1017_1018 := n6_; have NB1018_1017 := n7_; clear n0_ n1_ n2_ n3_ n4_ n5_ n6_ n7_; clear hb hbox hg; have hnb9 := NB1016_1017.out; have hnc9 := NB1017_1016.out; have hnb10 := NB1016_1018.out; have hnc10 := NB1018_1016.out; have hcz11_0 := hcz BK1016 0; have hcz11_1 := hcz BK1016 1; have hfz11_0 := blk_frozen BK1016.out 0; have hfz11_1 := blk_frozen BK1016.out 1) | ((with_reducible refine gate_callee (f := 60) rfl ?_); refine goesL_ (some 8) rfl rfl Try.func60 (by kernel_rfl) rfl #[.agg #[.int .i64 a0_0, .int .i64 a0_1]] rfl (by (try simp only [List.map_toArray, List.map_cons, List.map_nil]); first | done | rfl | (simp only [List.length_drop, List.length_take]; rfl)) ?_; (with_reducible refine (gimbalref02_norm.calls k a0_0 a0_1 t1019 t1020 _ A3.out).mono ?_); rintro e w12 ⟨rfl, hb⟩; refine ⟨_, rfl, ?_⟩; have n0_ := bst HB hb; replace BK1016 := bbw BK1016 hb; replace BK1017 := bbw BK1017 hb; replace BK1018 := bbw BK1018 hb; clear HB; have HB := n0_; clear n0_; (try clear hb); (try clear hb2); (try clear hk); (try clear hi); have hcz13_0 := hcz BK1016 0; have hcz13_1 := hcz BK1016 1; have hfz13_0 := blk_frozen BK1016.out 0; have hfz13_1 := blk_frozen BK1016.out 1) | ((with_reducible refine gate_callee (f := 61) rfl ?_); refine goesL_ (some 10) rfl rfl Try.func61 (by kernel_rfl) rfl #[.agg #[.int .i64 t1019, .int .i64 t1020]] rfl (by (try simp only [List.map_toArray, List.map_cons, List.map_nil]); first | done | rfl | (simp only [List.length_drop, List.length_take]; rfl)) ?_; (with_reducible refine (gimbalref02_None.calls t1019 t1020 true _ A4.out).mono ?_); rintro e w14 ⟨rfl, hb⟩; refine ⟨_, rfl, ?_⟩; have n0_ := Aside0.mk (blk_below (g := gb1016) (o := .cells #[.int .i64 t1019, .int .i64 t1020] 23 (0, 0)) (by refine pkB ?_; refine blk_put (cs := #[.int .i64 t1019, .int .i64 a0_1]) ?_ 1 _ (by first | rfl | (subst_vars; rfl)); refine pkB ?_; refine blk_put (cs := #[.int .i64 a0_0, .int .i64 a0_1]) ?_ 0 _ (by first | rfl | (subst_vars; rfl)); refine pkB ?_; exact BK1016.out) hb); have n1_ := Aside0.mk (blk_below (g := gb1017) (o := .cells #[.int .i64 a1_0, .int .i64 a1_1] 23 (0, 0)) (by refine pkB ?_; refine blk_far ?_ NB1017_1016.out _; refine pkB ?_; refine blk_far ?_ NB1017_1016.out _; refine pkB ?_; exact BK1017.out) hb); have n2_ := Aside0.mk (blk_below (g := gb1018) (o := .cells #[.int .i64 0, .int .i64 0] 23 (0, 0)) (by refine pkB ?_; refine blk_far ?_ NB1018_1016.out _; refine pkB ?_; refine blk_far ?_ NB1018_1016.out _; refine pkB ?_; exact BK1018.out) hb); have n3_ := bst HB hb; clear BK1016; clear BK1017; clear BK1018; clear HB; have BK1016 := n0_; have BK1017 := n1_; have BK1018 := n2_; have HB := n3_; clear n0_ n1_ n2_ n3_; (try clear hb); (try clear hb2); (try clear hk); (try clear hi); have hcz15_0 := hcz BK1016 0; have hcz15_1 := hcz BK1016 1; have hfz15_0 := blk_frozen BK1016.out 0; have hfz15_1 := blk_frozen BK1016.out 1; have hnb16 := NB1018_1017.out; have hnc16 := NB1017_1018.out; have hcz17_0 := hcz BK1018 0; have hcz17_1 := hcz BK1018 1; have hfz17_0 := blk_frozen BK1018.out 0; have hfz17_1 := blk_frozen BK1018.out 1))
   refine bodyPost_ret (results_cell_row rfl _ _ gb1018 23 #[.int .i64 t1019, .int .i64 t1020] (0, 0) _ rfl (by refine pkB ?_; refine blk_put (cs := #[.int .i64 t1019, .int .i64 0]) ?_ 1 _ (by first | rfl | (subst_vars; rfl)); refine pkB ?_; refine blk_put (cs := #[.int .i64 0, .int .i64 0]) ?_ 0 _ (by first | rfl | (subst_vars; rfl)); refine pkB ?_; exact BK1018.out) Try.underlying23 rfl (by kernel_rfl)) rfl ?_
   exact ⟨by first | rfl | (simp [errW_none, errW_some] <;> rfl) | (simp [*, errW_none, errW_some] <;> rfl) | kernel_rfl, by repeat (first | (with_reducible first | exact HB.out | apply below_alloc | apply pw_below_drewN | apply below_drew1 | refine below_set ?_ GE1016.out | refine below_set ?_ GE1017.out | refine below_set ?_ GE1018.out) | exact HB.out)⟩
  ·
   replace c5 := Bool.eq_false_iff.mpr c5
   subst c5
   have H1 : ((gimbalref02_Of.f k (-4611686018427387904) (-1)).bind fun bt1022 => ((gimbalref02_Meet.f k a1_0 a1_1 bt1022.1 bt1022.2).bind fun bt1024 => ((gimbalref02_Of.f k 1 4611686018427387904).bind fun bt1027 => ((gimbalref02_Meet.f k a1_0 a1_1 bt1027.1 bt1027.2).bind fun bt1029 => ((gimbalref02_quotients.f k t1019 t1020 bt1024.1 bt1024.2).bind fun bt1032 => ((gimbalref02_quotients.f k t1019 t1020 bt1029.1 bt1029.2).bind fun bt1034 => ((gimbalref02_Join.f k bt1032.1 bt1032.2 bt1034.1 bt1034.2).bind fun bt1036 => (some (bt1036.1, bt1036.2))))))))) = some (r1, r2) := by rw [if_neg (show ¬ (false = true) by decide)] at H; exact H
   clear H
   have H := H1
   clear H1
   replace H := Option.bind_eq_some_iff.mp H
   obtain ⟨⟨t1022, t1023⟩, A180, H⟩ := H
   replace H : ((gimbalref02_Meet.f k a1_0 a1_1 t1022 t1023).bind fun bt1024 => ((gimbalref02_Of.f k 1 4611686018427387904).bind fun bt1027 => ((gimbalref02_Meet.f k a1_0 a1_1 bt1027.1 bt1027.2).bind fun bt1029 => ((gimbalref02_quotients.f k t1019 t1020 bt1024.1 bt1024.2).bind fun bt1032 => ((gimbalref02_quotients.f k t1019 t1020 bt1029.1 bt1029.2).bind fun bt1034 => ((gimbalref02_Join.f k bt1032.1 bt1032.2 bt1034.1 bt1034.2).bind fun bt1036 => (some (bt1036.1, bt1036.2)))))))) = some (r1, r2) := H
   have A18 := Aside0.mk A180
   clear A180
   replace H := Option.bind_eq_some_iff.mp H
   obtain ⟨⟨t1024, t1025⟩, A190, H⟩ := H
   replace H : ((gimbalref02_Of.f k 1 4611686018427387904).bind fun bt1027 => ((gimbalref02_Meet.f k a1_0 a1_1 bt1027.1 bt1027.2).bind fun bt1029 => ((gimbalref02_quotients.f k t1019 t1020 t1024 t1025).bind fun bt1032 => ((gimbalref02_quotients.f k t1019 t1020 bt1029.1 bt1029.2).bind fun bt1034 => ((gimbalref02_Join.f k bt1032.1 bt1032.2 bt1034.1 bt1034.2).bind fun bt1036 => (some (bt1036.1, bt1036.2))))))) = some (r1, r2) := H
   have A19 := Aside0.mk A190
   clear A190
   replace H := Option.bind_eq_some_iff.mp H
   obtain ⟨⟨t1027, t1028⟩, A200, H⟩ := H
   replace H : ((gimbalref02_Meet.f k a1_0 a1_1 t1027 t1028).bind fun bt1029 => ((gimbalref02_quotients.f k t1019 t1020 t1024 t1025).bind fun bt1032 => ((gimbalref02_quotients.f k t1019 t1020 bt1029.1 bt1029.2).bind fun bt1034 => ((gimbalref02_Join.f k bt1032.1 bt1032.2 bt1034.1 bt1034.2).bind fun bt1036 => (some (bt1036.1, bt1036.2)))))) = some (r1, r2) := H
   have A20 := Aside0.mk A200
   clear A200
   replace H := Option.bind_eq_some_iff.mp H
   obtain ⟨⟨t1029, t1030⟩, A210, H⟩ := H
   replace H : ((gimbalref02_quotients.f k t1019 t1020 t1024 t1025).bind fun bt1032 => ((gimbalref02_quotients.f k t1019 t1020 t1029 t1030).bind fun bt1034 => ((gimbalref02_Join.f k bt1032.1 bt1032.2 bt1034.1 bt1034.2).bind fun bt1036 => (some (bt1036.1, bt1036.2))))) = some (r1, r2) := H
   have A21 := Aside0.mk A210
   clear A210
   replace H := Option.bind_eq_some_iff.mp H
   obtain ⟨⟨t1032, t1033⟩, A220, H⟩ := H
   replace H : ((gimbalref02_quotients.f k t1019 t1020 t1029 t1030).bind fun bt1034 => ((gimbalref02_Join.f k t1032 t1033 bt1034.1 bt1034.2).bind fun bt1036 => (some (bt1036.1, bt1036.2)))) = some (r1, r2) := H
   have A22 := Aside0.mk A220
   clear A220
   replace H := Option.bind_eq_some_iff.mp H
   obtain ⟨⟨t1034, t1035⟩, A230, H⟩ := H
   replace H : ((gimbalref02_Join.f k t1032 t1033 t1034 t1035).bind fun bt1036 => (some (bt1036.1, bt1036.2))) = some (r1, r2) := H
   have A23 := Aside0.mk A230
   clear A230
   replace H := Option.bind_eq_some_iff.mp H
   obtain ⟨⟨t1036, t1037⟩, A240, H⟩ := H
   replace H : (some (t1036, t1037)) = some (r1, r2) := H
   have A24 := Aside0.mk A240
   clear A240
   simp only [Option.some.injEq, Prod.mk.injEq] at H
   obtain ⟨rfl, rfl⟩ := H
   go_enter Try.func55, Try.ntmps55
   try go_wp2_with (first | ((with_reducible refine gate_dst (N := 2) rfl ?_); refine box_event ?hg (N := 2) ?hd (cs := #[.int .i64 a0_0, .int .i64 a0_1]) (t := 23) ?hr ?_; (case hd => rfl); (case hg => rfl); (case hr => first | (go_simp; done) | (go_simp; rfl)); intro gb1016 hg w25 hbox hb; have n0_ := bst HB hb; have n1_ := Aside0.mk (hbox); have n2_ := bsz HB hg; have n3_ := bsz HB hg; clear HB; have HB := n0_; have BK1016 := n1_; have GW1016 := n2_; have GE1016 := n3_; clear n0_ n1_ n2_ n3_; clear hb hbox hg) | ((with_reducible refine gate_dst (N := 3) rfl ?_); refine box_event ?hg (N := 3) ?hd (cs := #[.int .i64 a1_0, .int .i64 a1_1]) (t := 23) ?hr ?_; (case hd => rfl); (case hg => rfl); (case hr => first | (go_simp; done) | (go_simp; rfl)); intro gb1017 hg w26 hbox hb; have n0_ := bst HB hb; have n1_ := Aside0.mk (hbox); have n2_ := bsz HB hg; have n3_ := bsz HB hg; have n4_ := bn1 BK1016 hg; have n5_ := bn2 BK1016 hg; replace BK1016 := bbw BK1016 hb; clear HB; have HB := n0_; have BK1017 := n1_; have GW1017 := n2_; have GE1017 := n3_; have NB1016_1017 := n4_; have NB1017_1016 := n5_; clear n0_ n1_ n2_ n3_ n4_ n5_; clear hb hbox hg) | ((with_reducible refine gate_dst (N := 4) rfl ?_); refine box_event ?hg (N := 4) ?hd (cs := #[.int .i64 0, .int .i64 0]) (t := 23) ?hr ?_; (case hd => rfl); (case hg => rfl); (case hr => first | (go_simp; done) | (go_simp; rfl)); intro gb1018 hg w27 hbox hb; have n0_ := bst HB hb; have n1_ := Aside0.mk (hbox); have n2_ := bsz HB hg; have n3_ := bsz HB hg; have n4_ := bn1 BK1016 hg; have n5_ := bn2 BK1016 hg; have n6_ := bn1 BK1017 hg; have n7_ := bn2 BK1017 hg; replace BK1016 := bbw BK1016 hb; replace BK1017 := bbw BK1017 hb; clear HB; have HB := n0_; have BK1018 := n1_; have GW1018 := n2_; have GE1018 := n3_; have NB1016_1018 := n4_; have NB1018_1016 := n5_; have NB1017_1018 := n6_; have NB1018_1017 := n7_; clear n0_ n1_ n2_ n3_ n4_ n5_ n6_ n7_; clear hb hbox hg; have hnb28 := NB1016_1017.out; have hnc28 := NB1017_1016.out; have hnb29 := NB1016_1018.out; have hnc29 := NB1018_1016.out; have hcz30_0 := hcz BK1016 0; have hcz30_1 := hcz BK1016 1; have hfz30_0 := blk_frozen BK1016.out 0; have hfz30_1 := blk_frozen BK1016.out 1) | ((with_reducible refine gate_callee (f := 60) rfl ?_); refine goesL_ (some 8) rfl rfl Try.func60 (by kernel_rfl) rfl #[.agg #[.int .i64 a0_0, .int .i64 a0_1]] rfl (by (try simp only [List.map_toArray, List.map_cons, List.map_nil]); first | done | rfl | (simp only [List.length_drop, List.length_take]; rfl)) ?_; (with_reducible refine (gimbalref02_norm.calls k a0_0 a0_1 t1019 t1020 _ A3.out).mono ?_); rintro e w31 ⟨rfl, hb⟩; refine ⟨_, rfl, ?_⟩; have n0_ := bst HB hb; replace BK1016 := bbw BK1016 hb; replace BK1017 := bbw BK1017 hb; replace BK1018 := bbw BK1018 hb; clear HB; have HB := n0_; clear n0_; (try clear hb); (try clear hb2); (try clear hk); (try clear hi); have hcz32_0 := hcz BK1016 0; have hcz32_1 := hcz BK1016 1; have hfz32_0 := blk_frozen BK1016.out 0; have hfz32_1 := blk_frozen BK1016.out 1) | ((with_reducible refine gate_callee (f := 61) rfl ?_); refine goesL_ (some 10) rfl rfl Try.func61 (by kernel_rfl) rfl #[.agg #[.int .i64 t1019, .int .i64 t1020]] rfl (by (try simp only [List.map_toArray, List.map_cons, List.map_nil]); first | done | rfl | (simp only [List.length_drop, List.length_take]; rfl)) ?_; (with_reducible refine (gimbalref02_None.calls t1019 t1020 false _ A4.out).mono ?_); rintro e w33 ⟨rfl, hb⟩; refine ⟨_, rfl, ?_⟩; have n0_ := Aside0.mk (blk_below (g := gb1016) (o := .cells #[.int .i64 t1019, .int .i64 t1020] 23 (0, 0)) (by refine pkB ?_; refine blk_put (cs := #[.int .i64 t1019, .int .i64 a0_1]) ?_ 1 _ (by first | rfl | (subst_vars; rfl)); refine pkB ?_; refine blk_put (cs := #[.int .i64 a0_0, .int .i64 a0_1]) ?_ 0 _ (by first | rfl | (subst_vars; rfl)); refine pkB ?_; exact BK1016.out) hb); have n1_ := Aside0.mk (blk_below (g := gb1017) (o := .cells #[.int .i64 a1_0, .int .i64 a1_1] 23 (0, 0)) (by refine pkB ?_; refine blk_far ?_ NB1017_1016.out _; refine pkB ?_; refine blk_far ?_ NB1017_1016.out _; refine pkB ?_; exact BK1017.out) hb); have n2_ := Aside0.mk (blk_below (g := gb1018) (o := .cells #[.int .i64 0, .int .i64 0] 23 (0, 0)) (by refine pkB ?_; refine blk_far ?_ NB1018_1016.out _; refine pkB ?_; refine blk_far ?_ NB1018_1016.out _; refine pkB ?_; exact BK1018.out) hb); have n3_ := bst HB hb; clear BK1016; clear BK1017; clear BK1018; clear HB; have BK1016 := n0_; have BK1017 := n1_; have BK1018 := n2_; have HB := n3_; clear n0_ n1_ n2_ n3_; (try clear hb); (try clear hb2); (try clear hk); (try clear hi)))
   have n0_ := Aside0.mk (blk_drew BK1016.out)
   have n1_ := Aside0.mk (blk_drew BK1017.out)
   have n2_ := Aside0.mk (blk_drew BK1018.out)
   have n3_ := Aside0.mk (below_drew1 HB.out)
   clear BK1016
   clear BK1017
   clear BK1018
   clear HB
   have BK1016 := n0_
   have BK1017 := n1_
   have BK1018 := n2_
   have HB := n3_
   clear n0_ n1_ n2_ n3_
   refine start_ (n := 5) (S := fun w' => w'.cell? ⟨gb1017, 0, none⟩ = some (.int .i64 a1_0) ∧ w'.cell? ⟨gb1017, 1, none⟩ = some (.int .i64 a1_1)) (ds := []) #[false, false, false, false, false] (by kernel_rfl) rfl rfl ⟨hcz BK1017 0, hcz BK1017 1⟩ (fun hHeld => ?_)
   generalize w33.drew = w34 at BK1016 BK1017 BK1018 HB hHeld ⊢
   refine take_ (i := 0) (N := some 12) (v := ?_) (a' := ?_) #[true, false, false, false, false] rfl rfl (by kernel_rfl) (fun _ _ _ h => h) (Or.inl ⟨by rfl, ?_⟩) hHeld ?_ ?_
   rotate_left
   ·
    rintro w' ⟨s0, s1⟩
    go_simp
    with_reducible rfl
   rotate_left
   ·
    simp only [Act.put, List.setIfInBounds_toArray, List.set_cons_zero, List.set_cons_succ, i64_w, i32_w]
    rfl
   refine join_ (σ := Nat) 1 #[true, true, true, true, false] (fun s_ => [(13, .agg #[.int .i64 t1022, .int .i64 t1023]), (14, .agg #[.int .i64 t1024, .int .i64 t1025]), (5, .pointer (some ⟨s_, 0, none⟩))]) (fun s_ w' => (w'.cell? ⟨gb1017, 0, none⟩ = some (.int .i64 a1_0) ∧ w'.cell? ⟨gb1017, 1, none⟩ = some (.int .i64 a1_1)) ∧ (w'.heap[gb1016]? = some (.cells #[.int .i64 t1019, .int .i64 t1020] 23 (0, 0))) ∧ (w'.heap[gb1017]? = some (.cells #[.int .i64 a1_0, .int .i64 a1_1] 23 (0, 0))) ∧ (w'.heap[gb1018]? = some (.cells #[.int .i64 0, .int .i64 0] 23 (0, 0))) ∧ (w'.heap[s_]? = some (.cells #[.int .i64 0, .int .i64 0] 23 (0, 0))) ∧ (w.heap.size ≤ s_) ∧ (w.heap.size ≤ s_) ∧ (gb1016 ≠ s_) ∧ (s_ ≠ gb1016) ∧ (gb1017 ≠ s_) ∧ (s_ ≠ gb1017) ∧ (gb1018 ≠ s_) ∧ (s_ ≠ gb1018) ∧ (Below w.heap.size w w')) ?_ ?_
   rotate_left
   ·
    intro hCont
    refine two_ (i := 1) (j := 3) (Ni := some 13) (Nj := some 5) #[true, true, false, false, false] #[true, false, false, true, false] rfl rfl rfl rfl (by kernel_rfl) (by decide) (by decide) (fun K hK => ?_) (fun K hK => ?_)
    · skip
      refine goesQ Try.func14 #[.int .i64 (-4611686018427387904), .int .i64 (-1)] ?_
      with_reducible refine (gimbalref02_Of.calls k (-4611686018427387904) (-1) t1022 t1023 _ A18.out).mono ?_
      rintro e w35 ⟨rfl, hb⟩
      refine ⟨_, rfl, ?_⟩
      have n0_ := bst HB hb
      replace BK1016 := bbw BK1016 hb
      replace BK1017 := bbw BK1017 hb
      replace BK1018 := bbw BK1018 hb
      clear HB
      have HB := n0_
      clear n0_
      (try clear hb)
      (try clear hb2)
      (try clear hk)
      (try clear hi)
      refine hK.out _ _ ⟨hcz BK1017 0, hcz BK1017 1⟩ (fun hHeld => ?_)
      clear hK K
      refine norm_ (a' := ?_) ?_ ?_
      rotate_left
      · show Act.put _ (some 13) _ = _
        simp only [Act.put, List.setIfInBounds_toArray, List.set_cons_zero, List.set_cons_succ, i64_w, i32_w]
        rfl
      refine two_ (i := 2) (j := 3) (Ni := some 14) (Nj := some 5) #[true, true, true, false, false] #[true, true, false, true, false] rfl rfl rfl rfl (by kernel_rfl) (by decide) (by decide) (fun K hK => ?_) (fun K hK => ?_)
      · skip
        refine goesQ Try.func29 #[.agg #[.int .i64 a1_0, .int .i64 a1_1], .agg #[.int .i64 t1022, .int .i64 t1023]] ?_
        with_reducible refine (gimbalref02_Meet.calls k a1_0 a1_1 t1022 t1023 t1024 t1025 _ A19.out).mono ?_
        rintro e w36 ⟨rfl, hb⟩
        refine ⟨_, rfl, ?_⟩
        have n0_ := bst HB hb
        replace BK1016 := bbw BK1016 hb
        replace BK1017 := bbw BK1017 hb
        replace BK1018 := bbw BK1018 hb
        clear HB
        have HB := n0_
        clear n0_
        (try clear hb)
        (try clear hb2)
        (try clear hk)
        (try clear hi)
        refine hK.out _ _ ⟨hcz BK1017 0, hcz BK1017 1⟩ (fun hHeld => ?_)
        clear hK K
        refine norm_ (a' := ?_) ?_ ?_
        rotate_left
        · show Act.put _ (some 14) _ = _
          simp only [Act.put, List.setIfInBounds_toArray, List.set_cons_zero, List.set_cons_succ, i64_w, i32_w]
          rfl
        refine one_ (i := 3) (N := some 5) #[true, true, true, true, false] rfl rfl (by kernel_rfl) (by decide) (fun K hK => ?_)
        refine box_step ?hg (N := 5) ?hd (cs := #[.int .i64 0, .int .i64 0]) (t := 23) ?hr ?_; (case hd => rfl); (case hg => rfl); (case hr => first | (go_simp; done) | (go_simp; rfl))
        intro gb1026 hg w37 hbox hb
        have n0_ := bst HB hb
        have n1_ := Aside0.mk (hbox)
        have n2_ := bsz HB hg
        have n3_ := bsz HB hg
        have n4_ := bn1 BK1016 hg
        have n5_ := bn2 BK1016 hg
        have n6_ := bn1 BK1017 hg
        have n7_ := bn2 BK1017 hg
        have n8_ := bn1 BK1018 hg
        have n9_ := bn2 BK1018 hg
        replace BK1016 := bbw BK1016 hb
        replace BK1017 := bbw BK1017 hb
        replace BK1018 := bbw BK1018 hb
        clear HB
        have HB := n0_
        have BK1026 := n1_
        have GW1026 := n2_
        have GE1026 := n3_
        have NB1016_1026 := n4_
        have NB1026_1016 := n5_
        have NB1017_1026 := n6_
        have NB1026_1017 := n7_
        have NB1018_1026 := n8_
        have NB1026_1018 := n9_
        clear n0_ n1_ n2_ n3_ n4_ n5_ n6_ n7_ n8_ n9_
        clear hb hbox hg
        refine hK.out _ _ ⟨hcz BK1017 0, hcz BK1017 1⟩ (fun hHeld => ?_)
        clear hK K
        refine norm_ (a' := ?_) ?_ ?_
        rotate_left
        · show Act.put _ (some 5) _ = _
          simp only [Act.put, List.setIfInBounds_toArray, List.set_cons_zero, List.set_cons_succ, i64_w, i32_w]
          rfl
        exact norm_ (by simp only [putAll, Act.put, List.setIfInBounds_toArray, List.set_cons_zero, List.set_cons_succ]) (hCont (gb1026) _ ⟨hHeld, (pk BK1016.out), (pk BK1017.out), (pk BK1018.out), (pk BK1026.out), GW1026.out, GE1026.out, NB1016_1026.out, NB1026_1016.out, NB1017_1026.out, NB1026_1017.out, NB1018_1026.out, NB1026_1018.out, (by repeat (first | (with_reducible first | exact HB.out | apply below_alloc | apply pw_below_drewN | apply below_drew1 | refine below_set ?_ GE1016.out | refine below_set ?_ GE1017.out | refine below_set ?_ GE1018.out | refine below_set ?_ GE1026.out) | exact HB.out))⟩)
      · skip
        refine box_step ?hg (N := 5) ?hd (cs := #[.int .i64 0, .int .i64 0]) (t := 23) ?hr ?_; (case hd => rfl); (case hg => rfl); (case hr => first | (go_simp; done) | (go_simp; rfl))
        intro gb1026 hg w36 hbox hb
        have n0_ := bst HB hb
        have n1_ := Aside0.mk (hbox)
        have n2_ := bsz HB hg
        have n3_ := bsz HB hg
        have n4_ := bn1 BK1016 hg
        have n5_ := bn2 BK1016 hg
        have n6_ := bn1 BK1017 hg
        have n7_ := bn2 BK1017 hg
        have n8_ := bn1 BK1018 hg
        have n9_ := bn2 BK1018 hg
        replace BK1016 := bbw BK1016 hb
        replace BK1017 := bbw BK1017 hb
        replace BK1018 := bbw BK1018 hb
        clear HB
        have HB := n0_
        have BK1026 := n1_
        have GW1026 := n2_
        have GE1026 := n3_
        have NB1016_1026 := n4_
        have NB1026_1016 := n5_
        have NB1017_1026 := n6_
        have NB1026_1017 := n7_
        have NB1018_1026 := n8_
        have NB1026_1018 := n9_
        clear n0_ n1_ n2_ n3_ n4_ n5_ n6_ n7_ n8_ n9_
        clear hb hbox hg
        refine hK.out _ _ ⟨hcz BK1017 0, hcz BK1017 1⟩ (fun hHeld => ?_)
        clear hK K
        refine norm_ (a' := ?_) ?_ ?_
        rotate_left
        · show Act.put _ (some 5) _ = _
          simp only [Act.put, List.setIfInBounds_toArray, List.set_cons_zero, List.set_cons_succ, i64_w, i32_w]
          rfl
        refine one_ (i := 2) (N := some 14) #[true, true, true, true, false] rfl rfl (by kernel_rfl) (by decide) (fun K hK => ?_)
        refine goesQ Try.func29 #[.agg #[.int .i64 a1_0, .int .i64 a1_1], .agg #[.int .i64 t1022, .int .i64 t1023]] ?_
        with_reducible refine (gimbalref02_Meet.calls k a1_0 a1_1 t1022 t1023 t1024 t1025 _ A19.out).mono ?_
        rintro e w37 ⟨rfl, hb⟩
        refine ⟨_, rfl, ?_⟩
        have n0_ := bst HB hb
        replace BK1016 := bbw BK1016 hb
        replace BK1017 := bbw BK1017 hb
        replace BK1018 := bbw BK1018 hb
        replace BK1026 := bbw BK1026 hb
        clear HB
        have HB := n0_
        clear n0_
        (try clear hb)
        (try clear hb2)
        (try clear hk)
        (try clear hi)
        refine hK.out _ _ ⟨hcz BK1017 0, hcz BK1017 1⟩ (fun hHeld => ?_)
        clear hK K
        refine norm_ (a' := ?_) ?_ ?_
        rotate_left
        · show Act.put _ (some 14) _ = _
          simp only [Act.put, List.setIfInBounds_toArray, List.set_cons_zero, List.set_cons_succ, i64_w, i32_w]
          rfl
        exact norm_ (by simp only [putAll, Act.put, List.setIfInBounds_toArray, List.set_cons_zero, List.set_cons_succ]) (hCont (gb1026) _ ⟨hHeld, (pk BK1016.out), (pk BK1017.out), (pk BK1018.out), (pk BK1026.out), GW1026.out, GE1026.out, NB1016_1026.out, NB1026_1016.out, NB1017_1026.out, NB1026_1017.out, NB1018_1026.out, NB1026_1018.out, (by repeat (first | (with_reducible first | exact HB.out | apply below_alloc | apply pw_below_drewN | apply below_drew1 | refine below_set ?_ GE1016.out | refine below_set ?_ GE1017.out | refine below_set ?_ GE1018.out | refine below_set ?_ GE1026.out) | exact HB.out))⟩)
    · skip
      refine box_step ?hg (N := 5) ?hd (cs := #[.int .i64 0, .int .i64 0]) (t := 23) ?hr ?_; (case hd => rfl); (case hg => rfl); (case hr => first | (go_simp; done) | (go_simp; rfl))
      intro gb1026 hg w35 hbox hb
      have n0_ := bst HB hb
      have n1_ := Aside0.mk (hbox)
      have n2_ := bsz HB hg
      have n3_ := bsz HB hg
      have n4_ := bn1 BK1016 hg
      have n5_ := bn2 BK1016 hg
      have n6_ := bn1 BK1017 hg
      have n7_ := bn2 BK1017 hg
      have n8_ := bn1 BK1018 hg
      have n9_ := bn2 BK1018 hg
      replace BK1016 := bbw BK1016 hb
      replace BK1017 := bbw BK1017 hb
      replace BK1018 := bbw BK1018 hb
      clear HB
      have HB := n0_
      have BK1026 := n1_
      have GW1026 := n2_
      have GE1026 := n3_
      have NB1016_1026 := n4_
      have NB1026_1016 := n5_
      have NB1017_1026 := n6_
      have NB1026_1017 := n7_
      have NB1018_1026 := n8_
      have NB1026_1018 := n9_
      clear n0_ n1_ n2_ n3_ n4_ n5_ n6_ n7_ n8_ n9_
      clear hb hbox hg
      refine hK.out _ _ ⟨hcz BK1017 0, hcz BK1017 1⟩ (fun hHeld => ?_)
      clear hK K
      refine norm_ (a' := ?_) ?_ ?_
      rotate_left
      · show Act.put _ (some 5) _ = _
        simp only [Act.put, List.setIfInBounds_toArray, List.set_cons_zero, List.set_cons_succ, i64_w, i32_w]
        rfl
      refine one_ (i := 1) (N := some 13) #[true, true, false, true, false] rfl rfl (by kernel_rfl) (by decide) (fun K hK => ?_)
      refine goesQ Try.func14 #[.int .i64 (-4611686018427387904), .int .i64 (-1)] ?_
      with_reducible refine (gimbalref02_Of.calls k (-4611686018427387904) (-1) t1022 t1023 _ A18.out).mono ?_
      rintro e w36 ⟨rfl, hb⟩
      refine ⟨_, rfl, ?_⟩
      have n0_ := bst HB hb
      replace BK1016 := bbw BK1016 hb
      replace BK1017 := bbw BK1017 hb
      replace BK1018 := bbw BK1018 hb
      replace BK1026 := bbw BK1026 hb
      clear HB
      have HB := n0_
      clear n0_
      (try clear hb)
      (try clear hb2)
      (try clear hk)
      (try clear hi)
      refine hK.out _ _ ⟨hcz BK1017 0, hcz BK1017 1⟩ (fun hHeld => ?_)
      clear hK K
      refine norm_ (a' := ?_) ?_ ?_
      rotate_left
      · show Act.put _ (some 13) _ = _
        simp only [Act.put, List.setIfInBounds_toArray, List.set_cons_zero, List.set_cons_succ, i64_w, i32_w]
        rfl
      refine one_ (i := 2) (N := some 14) #[true, true, true, true, false] rfl rfl (by kernel_rfl) (by decide) (fun K hK => ?_)
      refine goesQ Try.func29 #[.agg #[.int .i64 a1_0, .int .i64 a1_1], .agg #[.int .i64 t1022, .int .i64 t1023]] ?_
      with_reducible refine (gimbalref02_Meet.calls k a1_0 a1_1 t1022 t1023 t1024 t1025 _ A19.out).mono ?_
      rintro e w37 ⟨rfl, hb⟩
      refine ⟨_, rfl, ?_⟩
      have n0_ := bst HB hb
      replace BK1016 := bbw BK1016 hb
      replace BK1017 := bbw BK1017 hb
      replace BK1018 := bbw BK1018 hb
      replace BK1026 := bbw BK1026 hb
      clear HB
      have HB := n0_
      clear n0_
      (try clear hb)
      (try clear hb2)
      (try clear hk)
      (try clear hi)
      refine hK.out _ _ ⟨hcz BK1017 0, hcz BK1017 1⟩ (fun hHeld => ?_)
      clear hK K
      refine norm_ (a' := ?_) ?_ ?_
      rotate_left
      · show Act.put _ (some 14) _ = _
        simp only [Act.put, List.setIfInBounds_toArray, List.set_cons_zero, List.set_cons_succ, i64_w, i32_w]
        rfl
      exact norm_ (by simp only [putAll, Act.put, List.setIfInBounds_toArray, List.set_cons_zero, List.set_cons_succ]) (hCont (gb1026) _ ⟨hHeld, (pk BK1016.out), (pk BK1017.out), (pk BK1018.out), (pk BK1026.out), GW1026.out, GE1026.out, NB1016_1026.out, NB1026_1016.out, NB1017_1026.out, NB1026_1017.out, NB1018_1026.out, NB1026_1018.out, (by repeat (first | (with_reducible first | exact HB.out | apply below_alloc | apply pw_below_drewN | apply below_drew1 | refine below_set ?_ GE1016.out | refine below_set ?_ GE1017.out | refine below_set ?_ GE1018.out | refine below_set ?_ GE1026.out) | exact HB.out))⟩)
   rintro gb1026 w38 ⟨hS_, h0_, h1_, h2_, h3_, h4_, h5_, h6_, h7_, h8_, h9_, h10_, h11_, h12_⟩
   have n0_ : Aside0 (w38.heap[gb1016]? = some (.cells #[.int .i64 t1019, .int .i64 t1020] 23 (0, 0))) := ⟨h0_⟩
   have n1_ : Aside0 (w38.heap[gb1017]? = some (.cells #[.int .i64 a1_0, .int .i64 a1_1] 23 (0, 0))) := ⟨h1_⟩
   have n2_ : Aside0 (w38.heap[gb1018]? = some (.cells #[.int .i64 0, .int .i64 0] 23 (0, 0))) := ⟨h2_⟩
   have n3_ : Aside0 (w38.heap[gb1026]? = some (.cells #[.int .i64 0, .int .i64 0] 23 (0, 0))) := ⟨h3_⟩
   have n4_ : Aside0 (w.heap.size ≤ gb1026) := ⟨h4_⟩
   have n5_ : Aside0 (w.heap.size ≤ gb1026) := ⟨h5_⟩
   have n6_ : Aside0 (gb1016 ≠ gb1026) := ⟨h6_⟩
   have n7_ : Aside0 (gb1026 ≠ gb1016) := ⟨h7_⟩
   have n8_ : Aside0 (gb1017 ≠ gb1026) := ⟨h8_⟩
   have n9_ : Aside0 (gb1026 ≠ gb1017) := ⟨h9_⟩
   have n10_ : Aside0 (gb1018 ≠ gb1026) := ⟨h10_⟩
   have n11_ : Aside0 (gb1026 ≠ gb1018) := ⟨h11_⟩
   have n12_ : Aside0 (Below w.heap.size w w38) := ⟨h12_⟩
   clear BK1016
   clear BK1017
   clear BK1018
   clear HB
   clear h0_ h1_ h2_ h3_ h4_ h5_ h6_ h7_ h8_ h9_ h10_ h11_ h12_
   have BK1016 := n0_
   have BK1017 := n1_
   have BK1018 := n2_
   have BK1026 := n3_
   have GW1026 := n4_
   have GE1026 := n5_
   have NB1016_1026 := n6_
   have NB1026_1016 := n7_
   have NB1017_1026 := n8_
   have NB1026_1017 := n9_
   have NB1018_1026 := n10_
   have NB1026_1018 := n11_
   have HB := n12_
   clear n0_ n1_ n2_ n3_ n4_ n5_ n6_ n7_ n8_ n9_ n10_ n11_ n12_
   have hHeld : w38.cell? ⟨gb1017, 0, none⟩ = some (.int .i64 a1_0) ∧ w38.cell? ⟨gb1017, 1, none⟩ = some (.int .i64 a1_1) := hS_
   refine norm_ (a' := ?_) ?_ ?_
   rotate_left
   ·
    simp only [putAll, Act.put, List.setIfInBounds_toArray, List.set_cons_zero, List.set_cons_succ]
    rfl
   refine one_ (i := 4) (N := none) #[true, true, true, true, true] rfl rfl (by kernel_rfl) (by decide) (fun K hK => ?_)
   have hs39 : w38.cell? ⟨gb1026, 0, none⟩ = some (.int .i64 0) := hcz BK1026 0
   have hfs39 := blk_frozen BK1026.out 0
   have hns39_0 := NB1016_1026.out
   have hns39_1 := NB1017_1026.out
   have hns39_2 := NB1018_1026.out
   have hms39_0 := NB1026_1016.out
   have hms39_1 := NB1026_1017.out
   have hms39_2 := NB1026_1018.out
   have hs40 : w38.cell? ⟨gb1026, 1, none⟩ = some (.int .i64 0) := hcz BK1026 1
   have hfs40 := blk_frozen BK1026.out 1
   have hns40_0 := NB1016_1026.out
   have hns40_1 := NB1017_1026.out
   have hns40_2 := NB1018_1026.out
   have hms40_0 := NB1026_1016.out
   have hms40_1 := NB1026_1017.out
   have hms40_2 := NB1026_1018.out
   refine skip_ (w1 := ?_) (by rfl) rfl ?_ ?_
   rotate_left
   ·
    go_simp
    rfl
   refine hK.out _ _ ⟨((cell_far (p := ⟨gb1026, _, none⟩) NB1017_1026.out _).trans (((cell_far (p := ⟨gb1026, _, none⟩) NB1017_1026.out _).trans (hHeld.1)))), ((cell_far (p := ⟨gb1026, _, none⟩) NB1017_1026.out _).trans (((cell_far (p := ⟨gb1026, _, none⟩) NB1017_1026.out _).trans (hHeld.2))))⟩ (fun hHeld => ?_)
   clear hK K
   refine done_ (by kernel_rfl) ?_
   try go_wp2
   have n0_ : Aside0 (((w38.setCell ⟨gb1026, 0, none⟩ (.int .i64 t1024)).setCell ⟨gb1026, 1, none⟩ (.int .i64 t1025)).heap[gb1016]? = some (.cells #[.int .i64 t1019, .int .i64 t1020] 23 (0, 0))) := far2 BK1016 NB1016_1026
   have n1_ : Aside0 (((w38.setCell ⟨gb1026, 0, none⟩ (.int .i64 t1024)).setCell ⟨gb1026, 1, none⟩ (.int .i64 t1025)).heap[gb1017]? = some (.cells #[.int .i64 a1_0, .int .i64 a1_1] 23 (0, 0))) := far2 BK1017 NB1017_1026
   have n2_ : Aside0 (((w38.setCell ⟨gb1026, 0, none⟩ (.int .i64 t1024)).setCell ⟨gb1026, 1, none⟩ (.int .i64 t1025)).heap[gb1018]? = some (.cells #[.int .i64 0, .int .i64 0] 23 (0, 0))) := far2 BK1018 NB1018_1026
   have n3_ : Aside0 (((w38.setCell ⟨gb1026, 0, none⟩ (.int .i64 t1024)).setCell ⟨gb1026, 1, none⟩ (.int .i64 t1025)).heap[gb1026]? = some (.cells #[.int .i64 t1024, .int .i64 t1025] 23 (0, 0))) := ⟨by refine pkB ?_; refine blk_put (cs := #[.int .i64 t1024, .int .i64 0]) ?_ 1 _ (by first | rfl | (subst_vars; rfl)); refine pkB ?_; refine blk_put (cs := #[.int .i64 0, .int .i64 0]) ?_ 0 _ (by first | rfl | (subst_vars; rfl)); refine pkB ?_; exact BK1026.out⟩
   have n4_ : Aside0 (Below w.heap.size w ((w38.setCell ⟨gb1026, 0, none⟩ (.int .i64 t1024)).setCell ⟨gb1026, 1, none⟩ (.int .i64 t1025))) := bpk HB
   (try clear BK1016)
   (try clear BK1017)
   (try clear BK1018)
   (try clear BK1026)
   (try clear HB)
   generalize ((w38.setCell ⟨gb1026, 0, none⟩ (.int .i64 t1024)).setCell ⟨gb1026, 1, none⟩ (.int .i64 t1025)) = w41 at n0_ n1_ n2_ n3_ n4_ ⊢
   have BK1016 := n0_
   have BK1017 := n1_
   have BK1018 := n2_
   have BK1026 := n3_
   have HB := n4_
   clear n0_ n1_ n2_ n3_ n4_
   have n0_ := Aside0.mk (blk_drew BK1016.out)
   have n1_ := Aside0.mk (blk_drew BK1017.out)
   have n2_ := Aside0.mk (blk_drew BK1018.out)
   have n3_ := Aside0.mk (blk_drew BK1026.out)
   have n4_ := Aside0.mk (below_drew1 HB.out)
   clear BK1016
   clear BK1017
   clear BK1018
   clear BK1026
   clear HB
   have BK1016 := n0_
   have BK1017 := n1_
   have BK1018 := n2_
   have BK1026 := n3_
   have HB := n4_
   clear n0_ n1_ n2_ n3_ n4_
   refine start_ (n := 5) (S := fun w' => w'.cell? ⟨gb1017, 0, none⟩ = some (.int .i64 a1_0) ∧ w'.cell? ⟨gb1017, 1, none⟩ = some (.int .i64 a1_1)) (ds := []) #[false, false, false, false, false] (by kernel_rfl) rfl rfl ⟨hcz BK1017 0, hcz BK1017 1⟩ (fun hHeld => ?_)
   generalize w41.drew = w42 at BK1016 BK1017 BK1018 BK1026 HB hHeld ⊢
   refine take_ (i := 0) (N := some 15) (v := ?_) (a' := ?_) #[true, false, false, false, false] rfl rfl (by kernel_rfl) (fun _ _ _ h => h) (Or.inl ⟨by rfl, ?_⟩) hHeld ?_ ?_
   rotate_left
   ·
    rintro w' ⟨s0, s1⟩
    go_simp
    with_reducible rfl
   rotate_left
   ·
    simp only [Act.put, List.setIfInBounds_toArray, List.set_cons_zero, List.set_cons_succ, i64_w, i32_w]
    rfl
   refine join_ (σ := Nat) 1 #[true, true, true, true, false] (fun s_ => [(16, .agg #[.int .i64 t1027, .int .i64 t1028]), (17, .agg #[.int .i64 t1029, .int .i64 t1030]), (6, .pointer (some ⟨s_, 0, none⟩))]) (fun s_ w' => (w'.cell? ⟨gb1017, 0, none⟩ = some (.int .i64 a1_0) ∧ w'.cell? ⟨gb1017, 1, none⟩ = some (.int .i64 a1_1)) ∧ (w'.heap[gb1016]? = some (.cells #[.int .i64 t1019, .int .i64 t1020] 23 (0, 0))) ∧ (w'.heap[gb1017]? = some (.cells #[.int .i64 a1_0, .int .i64 a1_1] 23 (0, 0))) ∧ (w'.heap[gb1018]? = some (.cells #[.int .i64 0, .int .i64 0] 23 (0, 0))) ∧ (w'.heap[gb1026]? = some (.cells #[.int .i64 t1024, .int .i64 t1025] 23 (0, 0))) ∧ (w'.heap[s_]? = some (.cells #[.int .i64 0, .int .i64 0] 23 (0, 0))) ∧ (w.heap.size ≤ s_) ∧ (w.heap.size ≤ s_) ∧ (gb1016 ≠ s_) ∧ (s_ ≠ gb1016) ∧ (gb1017 ≠ s_) ∧ (s_ ≠ gb1017) ∧ (gb1018 ≠ s_) ∧ (s_ ≠ gb1018) ∧ (gb1026 ≠ s_) ∧ (s_ ≠ gb1026) ∧ (Below w.heap.size w w')) ?_ ?_
   rotate_left
   ·
    intro hCont
    refine two_ (i := 1) (j := 3) (Ni := some 16) (Nj := some 6) #[true, true, false, false, false] #[true, false, false, true, false] rfl rfl rfl rfl (by kernel_rfl) (by decide) (by decide) (fun K hK => ?_) (fun K hK => ?_)
    · skip
      refine goesQ Try.func14 #[.int .i64 1, .int .i64 4611686018427387904] ?_
      with_reducible refine (gimbalref02_Of.calls k 1 4611686018427387904 t1027 t1028 _ A20.out).mono ?_
      rintro e w43 ⟨rfl, hb⟩
      refine ⟨_, rfl, ?_⟩
      have n0_ := bst HB hb
      replace BK1016 := bbw BK1016 hb
      replace BK1017 := bbw BK1017 hb
      replace BK1018 := bbw BK1018 hb
      replace BK1026 := bbw BK1026 hb
      clear HB
      have HB := n0_
      clear n0_
      (try clear hb)
      (try clear hb2)
      (try clear hk)
      (try clear hi)
      refine hK.out _ _ ⟨hcz BK1017 0, hcz BK1017 1⟩ (fun hHeld => ?_)
      clear hK K
      refine norm_ (a' := ?_) ?_ ?_
      rotate_left
      · show Act.put _ (some 16) _ = _
        simp only [Act.put, List.setIfInBounds_toArray, List.set_cons_zero, List.set_cons_succ, i64_w, i32_w]
        rfl
      refine two_ (i := 2) (j := 3) (Ni := some 17) (Nj := some 6) #[true, true, true, false, false] #[true, true, false, true, false] rfl rfl rfl rfl (by kernel_rfl) (by decide) (by decide) (fun K hK => ?_) (fun K hK => ?_)
      · skip
        refine goesQ Try.func29 #[.agg #[.int .i64 a1_0, .int .i64 a1_1], .agg #[.int .i64 t1027, .int .i64 t1028]] ?_
        with_reducible refine (gimbalref02_Meet.calls k a1_0 a1_1 t1027 t1028 t1029 t1030 _ A21.out).mono ?_
        rintro e w44 ⟨rfl, hb⟩
        refine ⟨_, rfl, ?_⟩
        have n0_ := bst HB hb
        replace BK1016 := bbw BK1016 hb
        replace BK1017 := bbw BK1017 hb
        replace BK1018 := bbw BK1018 hb
        replace BK1026 := bbw BK1026 hb
        clear HB
        have HB := n0_
        clear n0_
        (try clear hb)
        (try clear hb2)
        (try clear hk)
        (try clear hi)
        refine hK.out _ _ ⟨hcz BK1017 0, hcz BK1017 1⟩ (fun hHeld => ?_)
        clear hK K
        refine norm_ (a' := ?_) ?_ ?_
        rotate_left
        · show Act.put _ (some 17) _ = _
          simp only [Act.put, List.setIfInBounds_toArray, List.set_cons_zero, List.set_cons_succ, i64_w, i32_w]
          rfl
        refine one_ (i := 3) (N := some 6) #[true, true, true, true, false] rfl rfl (by kernel_rfl) (by decide) (fun K hK => ?_)
        refine box_step ?hg (N := 6) ?hd (cs := #[.int .i64 0, .int .i64 0]) (t := 23) ?hr ?_; (case hd => rfl); (case hg => rfl); (case hr => first | (go_simp; done) | (go_simp; rfl))
        intro gb1031 hg w45 hbox hb
        have n0_ := bst HB hb
        have n1_ := Aside0.mk (hbox)
        have n2_ := bsz HB hg
        have n3_ := bsz HB hg
        have n4_ := bn1 BK1016 hg
        have n5_ := bn2 BK1016 hg
        have n6_ := bn1 BK1017 hg
        have n7_ := bn2 BK1017 hg
        have n8_ := bn1 BK1018 hg
        have n9_ := bn2 BK1018 hg
        have n10_ := bn1 BK1026 hg
        have n11_ := bn2 BK1026 hg
        replace BK1016 := bbw BK1016 hb
        replace BK1017 := bbw BK1017 hb
        replace BK1018 := bbw BK1018 hb
        replace BK1026 := bbw BK1026 hb
        clear HB
        have HB := n0_
        have BK1031 := n1_
        have GW1031 := n2_
        have GE1031 := n3_
        have NB1016_1031 := n4_
        have NB1031_1016 := n5_
        have NB1017_1031 := n6_
        have NB1031_1017 := n7_
        have NB1018_1031 := n8_
        have NB1031_1018 := n9_
        have NB1026_1031 := n10_
        have NB1031_1026 := n11_
        clear n0_ n1_ n2_ n3_ n4_ n5_ n6_ n7_ n8_ n9_ n10_ n11_
        clear hb hbox hg
        refine hK.out _ _ ⟨hcz BK1017 0, hcz BK1017 1⟩ (fun hHeld => ?_)
        clear hK K
        refine norm_ (a' := ?_) ?_ ?_
        rotate_left
        · show Act.put _ (some 6) _ = _
          simp only [Act.put, List.setIfInBounds_toArray, List.set_cons_zero, List.set_cons_succ, i64_w, i32_w]
          rfl
        exact norm_ (by simp only [putAll, Act.put, List.setIfInBounds_toArray, List.set_cons_zero, List.set_cons_succ]) (hCont (gb1031) _ ⟨hHeld, (pk BK1016.out), (pk BK1017.out), (pk BK1018.out), (pk BK1026.out), (pk BK1031.out), GW1031.out, GE1031.out, NB1016_1031.out, NB1031_1016.out, NB1017_1031.out, NB1031_1017.out, NB1018_1031.out, NB1031_1018.out, NB1026_1031.out, NB1031_1026.out, (by repeat (first | (with_reducible first | exact HB.out | apply below_alloc | apply pw_below_drewN | apply below_drew1 | refine below_set ?_ GE1016.out | refine below_set ?_ GE1017.out | refine below_set ?_ GE1018.out | refine below_set ?_ GE1026.out | refine below_set ?_ GE1031.out) | exact HB.out))⟩)
      · skip
        refine box_step ?hg (N := 6) ?hd (cs := #[.int .i64 0, .int .i64 0]) (t := 23) ?hr ?_; (case hd => rfl); (case hg => rfl); (case hr => first | (go_simp; done) | (go_simp; rfl))
        intro gb1031 hg w44 hbox hb
        have n0_ := bst HB hb
        have n1_ := Aside0.mk (hbox)
        have n2_ := bsz HB hg
        have n3_ := bsz HB hg
        have n4_ := bn1 BK1016 hg
        have n5_ := bn2 BK1016 hg
        have n6_ := bn1 BK1017 hg
        have n7_ := bn2 BK1017 hg
        have n8_ := bn1 BK1018 hg
        have n9_ := bn2 BK1018 hg
        have n10_ := bn1 BK1026 hg
        have n11_ := bn2 BK1026 hg
        replace BK1016 := bbw BK1016 hb
        replace BK1017 := bbw BK1017 hb
        replace BK1018 := bbw BK1018 hb
        replace BK1026 := bbw BK1026 hb
        clear HB
        have HB := n0_
        have BK1031 := n1_
        have GW1031 := n2_
        have GE1031 := n3_
        have NB1016_1031 := n4_
        have NB1031_1016 := n5_
        have NB1017_1031 := n6_
        have NB1031_1017 := n7_
        have NB1018_1031 := n8_
        have NB1031_1018 := n9_
        have NB1026_1031 := n10_
        have NB1031_1026 := n11_
        clear n0_ n1_ n2_ n3_ n4_ n5_ n6_ n7_ n8_ n9_ n10_ n11_
        clear hb hbox hg
        refine hK.out _ _ ⟨hcz BK1017 0, hcz BK1017 1⟩ (fun hHeld => ?_)
        clear hK K
        refine norm_ (a' := ?_) ?_ ?_
        rotate_left
        · show Act.put _ (some 6) _ = _
          simp only [Act.put, List.setIfInBounds_toArray, List.set_cons_zero, List.set_cons_succ, i64_w, i32_w]
          rfl
        refine one_ (i := 2) (N := some 17) #[true, true, true, true, false] rfl rfl (by kernel_rfl) (by decide) (fun K hK => ?_)
        refine goesQ Try.func29 #[.agg #[.int .i64 a1_0, .int .i64 a1_1], .agg #[.int .i64 t1027, .int .i64 t1028]] ?_
        with_reducible refine (gimbalref02_Meet.calls k a1_0 a1_1 t1027 t1028 t1029 t1030 _ A21.out).mono ?_
        rintro e w45 ⟨rfl, hb⟩
        refine ⟨_, rfl, ?_⟩
        have n0_ := bst HB hb
        replace BK1016 := bbw BK1016 hb
        replace BK1017 := bbw BK1017 hb
        replace BK1018 := bbw BK1018 hb
        replace BK1026 := bbw BK1026 hb
        replace BK1031 := bbw BK1031 hb
        clear HB
        have HB := n0_
        clear n0_
        (try clear hb)
        (try clear hb2)
        (try clear hk)
        (try clear hi)
        refine hK.out _ _ ⟨hcz BK1017 0, hcz BK1017 1⟩ (fun hHeld => ?_)
        clear hK K
        refine norm_ (a' := ?_) ?_ ?_
        rotate_left
        · show Act.put _ (some 17) _ = _
          simp only [Act.put, List.setIfInBounds_toArray, List.set_cons_zero, List.set_cons_succ, i64_w, i32_w]
          rfl
        exact norm_ (by simp only [putAll, Act.put, List.setIfInBounds_toArray, List.set_cons_zero, List.set_cons_succ]) (hCont (gb1031) _ ⟨hHeld, (pk BK1016.out), (pk BK1017.out), (pk BK1018.out), (pk BK1026.out), (pk BK1031.out), GW1031.out, GE1031.out, NB1016_1031.out, NB1031_1016.out, NB1017_1031.out, NB1031_1017.out, NB1018_1031.out, NB1031_1018.out, NB1026_1031.out, NB1031_1026.out, (by repeat (first | (with_reducible first | exact HB.out | apply below_alloc | apply pw_below_drewN | apply below_drew1 | refine below_set ?_ GE1016.out | refine below_set ?_ GE1017.out | refine below_set ?_ GE1018.out | refine below_set ?_ GE1026.out | refine below_set ?_ GE1031.out) | exact HB.out))⟩)
    · skip
      refine box_step ?hg (N := 6) ?hd (cs := #[.int .i64 0, .int .i64 0]) (t := 23) ?hr ?_; (case hd => rfl); (case hg => rfl); (case hr => first | (go_simp; done) | (go_simp; rfl))
      intro gb1031 hg w43 hbox hb
      have n0_ := bst HB hb
      have n1_ := Aside0.mk (hbox)
      have n2_ := bsz HB hg
      have n3_ := bsz HB hg
      have n4_ := bn1 BK1016 hg
      have n5_ := bn2 BK1016 hg
      have n6_ := bn1 BK1017 hg
      have n7_ := bn2 BK1017 hg
      have n8_ := bn1 BK1018 hg
      have n9_ := bn2 BK1018 hg
      have n10_ := bn1 BK1026 hg
      have n11_ := bn2 BK1026 hg
      replace BK1016 := bbw BK1016 hb
      replace BK1017 := bbw BK1017 hb
      replace BK1018 := bbw BK1018 hb
      replace BK1026 := bbw BK1026 hb
      clear HB
      have HB := n0_
      have BK1031 := n1_
      have GW1031 := n2_
      have GE1031 := n3_
      have NB1016_1031 := n4_
      have NB1031_1016 := n5_
      have NB1017_1031 := n6_
      have NB1031_1017 := n7_
      have NB1018_1031 := n8_
      have NB1031_1018 := n9_
      have NB1026_1031 := n10_
      have NB1031_1026 := n11_
      clear n0_ n1_ n2_ n3_ n4_ n5_ n6_ n7_ n8_ n9_ n10_ n11_
      clear hb hbox hg
      refine hK.out _ _ ⟨hcz BK1017 0, hcz BK1017 1⟩ (fun hHeld => ?_)
      clear hK K
      refine norm_ (a' := ?_) ?_ ?_
      rotate_left
      · show Act.put _ (some 6) _ = _
        simp only [Act.put, List.setIfInBounds_toArray, List.set_cons_zero, List.set_cons_succ, i64_w, i32_w]
        rfl
      refine one_ (i := 1) (N := some 16) #[true, true, false, true, false] rfl rfl (by kernel_rfl) (by decide) (fun K hK => ?_)
      refine goesQ Try.func14 #[.int .i64 1, .int .i64 4611686018427387904] ?_
      with_reducible refine (gimbalref02_Of.calls k 1 4611686018427387904 t1027 t1028 _ A20.out).mono ?_
      rintro e w44 ⟨rfl, hb⟩
      refine ⟨_, rfl, ?_⟩
      have n0_ := bst HB hb
      replace BK1016 := bbw BK1016 hb
      replace BK1017 := bbw BK1017 hb
      replace BK1018 := bbw BK1018 hb
      replace BK1026 := bbw BK1026 hb
      replace BK1031 := bbw BK1031 hb
      clear HB
      have HB := n0_
      clear n0_
      (try clear hb)
      (try clear hb2)
      (try clear hk)
      (try clear hi)
      refine hK.out _ _ ⟨hcz BK1017 0, hcz BK1017 1⟩ (fun hHeld => ?_)
      clear hK K
      refine norm_ (a' := ?_) ?_ ?_
      rotate_left
      · show Act.put _ (some 16) _ = _
        simp only [Act.put, List.setIfInBounds_toArray, List.set_cons_zero, List.set_cons_succ, i64_w, i32_w]
        rfl
      refine one_ (i := 2) (N := some 17) #[true, true, true, true, false] rfl rfl (by kernel_rfl) (by decide) (fun K hK => ?_)
      refine goesQ Try.func29 #[.agg #[.int .i64 a1_0, .int .i64 a1_1], .agg #[.int .i64 t1027, .int .i64 t1028]] ?_
      with_reducible refine (gimbalref02_Meet.calls k a1_0 a1_1 t1027 t1028 t1029 t1030 _ A21.out).mono ?_
      rintro e w45 ⟨rfl, hb⟩
      refine ⟨_, rfl, ?_⟩
      have n0_ := bst HB hb
      replace BK1016 := bbw BK1016 hb
      replace BK1017 := bbw BK1017 hb
      replace BK1018 := bbw BK1018 hb
      replace BK1026 := bbw BK1026 hb
      replace BK1031 := bbw BK1031 hb
      clear HB
      have HB := n0_
      clear n0_
      (try clear hb)
      (try clear hb2)
      (try clear hk)
      (try clear hi)
      refine hK.out _ _ ⟨hcz BK1017 0, hcz BK1017 1⟩ (fun hHeld => ?_)
      clear hK K
      refine norm_ (a' := ?_) ?_ ?_
      rotate_left
      · show Act.put _ (some 17) _ = _
        simp only [Act.put, List.setIfInBounds_toArray, List.set_cons_zero, List.set_cons_succ, i64_w, i32_w]
        rfl
      exact norm_ (by simp only [putAll, Act.put, List.setIfInBounds_toArray, List.set_cons_zero, List.set_cons_succ]) (hCont (gb1031) _ ⟨hHeld, (pk BK1016.out), (pk BK1017.out), (pk BK1018.out), (pk BK1026.out), (pk BK1031.out), GW1031.out, GE1031.out, NB1016_1031.out, NB1031_1016.out, NB1017_1031.out, NB1031_1017.out, NB1018_1031.out, NB1031_1018.out, NB1026_1031.out, NB1031_1026.out, (by repeat (first | (with_reducible first | exact HB.out | apply below_alloc | apply pw_below_drewN | apply below_drew1 | refine below_set ?_ GE1016.out | refine below_set ?_ GE1017.out | refine below_set ?_ GE1018.out | refine below_set ?_ GE1026.out | refine below_set ?_ GE1031.out) | exact HB.out))⟩)
   rintro gb1031 w46 ⟨hS_, h0_, h1_, h2_, h3_, h4_, h5_, h6_, h7_, h8_, h9_, h10_, h11_, h12_, h13_, h14_, h15_⟩
   have n0_ : Aside0 (w46.heap[gb1016]? = some (.cells #[.int .i64 t1019, .int .i64 t1020] 23 (0, 0))) := ⟨h0_⟩
   have n1_ : Aside0 (w46.heap[gb1017]? = some (.cells #[.int .i64 a1_0, .int .i64 a1_1] 23 (0, 0))) := ⟨h1_⟩
   have n2_ : Aside0 (w46.heap[gb1018]? = some (.cells #[.int .i64 0, .int .i64 0] 23 (0, 0))) := ⟨h2_⟩
   have n3_ : Aside0 (w46.heap[gb1026]? = some (.cells #[.int .i64 t1024, .int .i64 t1025] 23 (0, 0))) := ⟨h3_⟩
   have n4_ : Aside0 (w46.heap[gb1031]? = some (.cells #[.int .i64 0, .int .i64 0] 23 (0, 0))) := ⟨h4_⟩
   have n5_ : Aside0 (w.heap.size ≤ gb1031) := ⟨h5_⟩
   have n6_ : Aside0 (w.heap.size ≤ gb1031) := ⟨h6_⟩
   have n7_ : Aside0 (gb1016 ≠ gb1031) := ⟨h7_⟩
   have n8_ : Aside0 (gb1031 ≠ gb1016) := ⟨h8_⟩
   have n9_ : Aside0 (gb1017 ≠ gb1031) := ⟨h9_⟩
   have n10_ : Aside0 (gb1031 ≠ gb1017) := ⟨h10_⟩
   have n11_ : Aside0 (gb1018 ≠ gb1031) := ⟨h11_⟩
   have n12_ : Aside0 (gb1031 ≠ gb1018) := ⟨h12_⟩
   have n13_ : Aside0 (gb1026 ≠ gb1031) := ⟨h13_⟩
   have n14_ : Aside0 (gb1031 ≠ gb1026) := ⟨h14_⟩
   have n15_ : Aside0 (Below w.heap.size w w46) := ⟨h15_⟩
   clear BK1016
   clear BK1017
   clear BK1018
   clear BK1026
   clear HB
   clear h0_ h1_ h2_ h3_ h4_ h5_ h6_ h7_ h8_ h9_ h10_ h11_ h12_ h13_ h14_ h15_
   have BK1016 := n0_
   have BK1017 := n1_
   have BK1018 := n2_
   have BK1026 := n3_
   have BK1031 := n4_
   have GW1031 := n5_
   have GE1031 := n6_
   have NB1016_1031 := n7_
   have NB1031_1016 := n8_
   have NB1017_1031 := n9_
   have NB1031_1017 := n10_
   have NB1018_1031 := n11_
   have NB1031_1018 := n12_
   have NB1026_1031 := n13_
   have NB1031_1026 := n14_
   have HB := n15_
   clear n0_ n1_ n2_ n3_ n4_ n5_ n6_ n7_ n8_ n9_ n10_ n11_ n12_ n13_ n14_ n15_
   have hHeld : w46.cell? ⟨gb1017, 0, none⟩ = some (.int .i64 a1_0) ∧ w46.cell? ⟨gb1017, 1, none⟩ = some (.int .i64 a1_1) := hS_
   refine norm_ (a' := ?_) ?_ ?_
   rotate_left
   ·
    simp only [putAll, Act.put, List.setIfInBounds_toArray, List.set_cons_zero, List.set_cons_succ]
    rfl
   refine one_ (i := 4) (N := none) #[true, true, true, true, true] rfl rfl (by kernel_rfl) (by decide) (fun K hK => ?_)
   have hs47 : w46.cell? ⟨gb1031, 0, none⟩ = some (.int .i64 0) := hcz BK1031 0
   have hfs47 := blk_frozen BK1031.out 0
   have hns47_0 := NB1016_1031.out
   have hns47_1 := NB1017_1031.out
   have hns47_2 := NB1018_1031.out
   have hns47_3 := NB1026_1031.out
   have hms47_0 := NB1031_1016.out
   have hms47_1 := NB1031_1017.out
   have hms47_2 := NB1031_1018.out
   have hms47_3 := NB1031_1026.out
   have hs48 : w46.cell? ⟨gb1031, 1, none⟩ = some (.int .i64 0) := hcz BK1031 1
   have hfs48 := blk_frozen BK1031.out 1
   have hns48_0 := NB1016_1031.out
   have hns48_1 := NB1017_1031.out
   have hns48_2 := NB1018_1031.out
   have hns48_3 := NB1026_1031.out
   have hms48_0 := NB1031_1016.out
   have hms48_1 := NB1031_1017.out
   have hms48_2 := NB1031_1018.out
   have hms48_3 := NB1031_1026.out
   refine skip_ (w1 := ?_) (by rfl) rfl ?_ ?_
   rotate_left
   ·
    go_simp
    rfl
   refine hK.out _ _ ⟨((cell_far (p := ⟨gb1031, _, none⟩) NB1017_1031.out _).trans (((cell_far (p := ⟨gb1031, _, none⟩) NB1017_1031.out _).trans (hHeld.1)))), ((cell_far (p := ⟨gb1031, _, none⟩) NB1017_1031.out _).trans (((cell_far (p := ⟨gb1031, _, none⟩) NB1017_1031.out _).trans (hHeld.2))))⟩ (fun hHeld => ?_)
   clear hK K
   refine done_ (by kernel_rfl) ?_
   try go_wp2
   have n0_ : Aside0 (((w46.setCell ⟨gb1031, 0, none⟩ (.int .i64 t1029)).setCell ⟨gb1031, 1, none⟩ (.int .i64 t1030)).heap[gb1016]? = some (.cells #[.int .i64 t1019, .int .i64 t1020] 23 (0, 0))) := far2 BK1016 NB1016_1031
   have n1_ : Aside0 (((w46.setCell ⟨gb1031, 0, none⟩ (.int .i64 t1029)).setCell ⟨gb1031, 1, none⟩ (.int .i64 t1030)).heap[gb1017]? = some (.cells #[.int .i64 a1_0, .int .i64 a1_1] 23 (0, 0))) := far2 BK1017 NB1017_1031
   have n2_ : Aside0 (((w46.setCell ⟨gb1031, 0, none⟩ (.int .i64 t1029)).setCell ⟨gb1031, 1, none⟩ (.int .i64 t1030)).heap[gb1018]? = some (.cells #[.int .i64 0, .int .i64 0] 23 (0, 0))) := far2 BK1018 NB1018_1031
   have n3_ : Aside0 (((w46.setCell ⟨gb1031, 0, none⟩ (.int .i64 t1029)).setCell ⟨gb1031, 1, none⟩ (.int .i64 t1030)).heap[gb1026]? = some (.cells #[.int .i64 t1024, .int .i64 t1025] 23 (0, 0))) := far2 BK1026 NB1026_1031
   have n4_ : Aside0 (((w46.setCell ⟨gb1031, 0, none⟩ (.int .i64 t1029)).setCell ⟨gb1031, 1, none⟩ (.int .i64 t1030)).heap[gb1031]? = some (.cells #[.int .i64 t1029, .int .i64 t1030] 23 (0, 0))) := ⟨by refine pkB ?_; refine blk_put (cs := #[.int .i64 t1029, .int .i64 0]) ?_ 1 _ (by first | rfl | (subst_vars; rfl)); refine pkB ?_; refine blk_put (cs := #[.int .i64 0, .int .i64 0]) ?_ 0 _ (by first | rfl | (subst_vars; rfl)); refine pkB ?_; exact BK1031.out⟩
   have n5_ : Aside0 (Below w.heap.size w ((w46.setCell ⟨gb1031, 0, none⟩ (.int .i64 t1029)).setCell ⟨gb1031, 1, none⟩ (.int .i64 t1030))) := bpk HB
   (try clear BK1016)
   (try clear BK1017)
   (try clear BK1018)
   (try clear BK1026)
   (try clear BK1031)
   (try clear HB)
   generalize ((w46.setCell ⟨gb1031, 0, none⟩ (.int .i64 t1029)).setCell ⟨gb1031, 1, none⟩ (.int .i64 t1030)) = w49 at n0_ n1_ n2_ n3_ n4_ n5_ ⊢
   have BK1016 := n0_
   have BK1017 := n1_
   have BK1018 := n2_
   have BK1026 := n3_
   have BK1031 := n4_
   have HB := n5_
   clear n0_ n1_ n2_ n3_ n4_ n5_
   have n0_ := Aside0.mk (blk_drew BK1016.out)
   have n1_ := Aside0.mk (blk_drew BK1017.out)
   have n2_ := Aside0.mk (blk_drew BK1018.out)
   have n3_ := Aside0.mk (blk_drew BK1026.out)
   have n4_ := Aside0.mk (blk_drew BK1031.out)
   have n5_ := Aside0.mk (below_drew1 HB.out)
   clear BK1016
   clear BK1017
   clear BK1018
   clear BK1026
   clear BK1031
   clear HB
   have BK1016 := n0_
   have BK1017 := n1_
   have BK1018 := n2_
   have BK1026 := n3_
   have BK1031 := n4_
   have HB := n5_
   clear n0_ n1_ n2_ n3_ n4_ n5_
   refine start_ (n := 8) (S := fun w' => w'.cell? ⟨gb1016, 0, none⟩ = some (.int .i64 t1019) ∧ w'.cell? ⟨gb1016, 1, none⟩ = some (.int .i64 t1020) ∧ w'.cell? ⟨gb1026, 0, none⟩ = some (.int .i64 t1024) ∧ w'.cell? ⟨gb1026, 1, none⟩ = some (.int .i64 t1025) ∧ w'.cell? ⟨gb1031, 0, none⟩ = some (.int .i64 t1029) ∧ w'.cell? ⟨gb1031, 1, none⟩ = some (.int .i64 t1030)) (ds := []) #[false, false, false, false, false, false, false, false] (by kernel_rfl) rfl rfl ⟨hcz BK1016 0, hcz BK1016 1, hcz BK1026 0, hcz BK1026 1, hcz BK1031 0, hcz BK1031 1⟩ (fun hHeld => ?_); refine with_tabW gimbalref02_Div.tab6 gimbalref02_Div.bits6 (fun HT_ HW_ => ?_)
   generalize w49.drew = w50 at BK1016 BK1017 BK1018 BK1026 BK1031 HB hHeld ⊢
   refine takeQ 0 18 HT_.out HW_.out hHeld ?_
   refine takeQ 1 19 HT_.out HW_.out hHeld ?_
   refine takeQ 3 21 HT_.out HW_.out hHeld ?_
   refine takeQ 4 22 HT_.out HW_.out hHeld ?_
   refine oneQ 2 20 HT_.out (fun K hK => ?_)
   refine goesQ Try.func90 #[.agg #[.int .i64 t1019, .int .i64 t1020], .agg #[.int .i64 t1024, .int .i64 t1025]] ?_
   with_reducible refine (gimbalref02_quotients.calls k t1019 t1020 t1024 t1025 t1032 t1033 _ A22.out).mono ?_
   rintro e w51 ⟨rfl, hb⟩
   refine ⟨_, rfl, ?_⟩
   have n0_ := bst HB hb
   replace BK1016 := bbw BK1016 hb
   replace BK1017 := bbw BK1017 hb
   replace BK1018 := bbw BK1018 hb
   replace BK1026 := bbw BK1026 hb
   replace BK1031 := bbw BK1031 hb
   clear HB
   have HB := n0_
   clear n0_
   (try clear hb)
   (try clear hb2)
   (try clear hk)
   (try clear hi)
   refine hK.out _ _ ⟨hcz BK1016 0, hcz BK1016 1, hcz BK1026 0, hcz BK1026 1, hcz BK1031 0, hcz BK1031 1⟩ (fun hHeld => ?_)
   clear hK K
   refine normQ (N := 20) ?_
   refine oneQ 5 23 HT_.out (fun K hK => ?_)
   refine goesQ Try.func90 #[.agg #[.int .i64 t1019, .int .i64 t1020], .agg #[.int .i64 t1029, .int .i64 t1030]] ?_
   with_reducible refine (gimbalref02_quotients.calls k t1019 t1020 t1029 t1030 t1034 t1035 _ A23.out).mono ?_
   rintro e w52 ⟨rfl, hb⟩
   refine ⟨_, rfl, ?_⟩
   have n0_ := bst HB hb
   replace BK1016 := bbw BK1016 hb
   replace BK1017 := bbw BK1017 hb
   replace BK1018 := bbw BK1018 hb
   replace BK1026 := bbw BK1026 hb
   replace BK1031 := bbw BK1031 hb
   clear HB
   have HB := n0_
   clear n0_
   (try clear hb)
   (try clear hb2)
   (try clear hk)
   (try clear hi)
   refine hK.out _ _ ⟨hcz BK1016 0, hcz BK1016 1, hcz BK1026 0, hcz BK1026 1, hcz BK1031 0, hcz BK1031 1⟩ (fun hHeld => ?_)
   clear hK K
   refine normQ (N := 23) ?_
   refine oneQ 6 24 HT_.out (fun K hK => ?_)
   refine goesQ Try.func27 #[.agg #[.int .i64 t1032, .int .i64 t1033], .agg #[.int .i64 t1034, .int .i64 t1035]] ?_
   with_reducible refine (gimbalref02_Join.calls k t1032 t1033 t1034 t1035 t1036 t1037 _ A24.out).mono ?_
   rintro e w53 ⟨rfl, hb⟩
   refine ⟨_, rfl, ?_⟩
   have n0_ := bst HB hb
   replace BK1016 := bbw BK1016 hb
   replace BK1017 := bbw BK1017 hb
   replace BK1018 := bbw BK1018 hb
   replace BK1026 := bbw BK1026 hb
   replace BK1031 := bbw BK1031 hb
   clear HB
   have HB := n0_
   clear n0_
   (try clear hb)
   (try clear hb2)
   (try clear hk)
   (try clear hi)
   refine hK.out _ _ ⟨hcz BK1016 0, hcz BK1016 1, hcz BK1026 0, hcz BK1026 1, hcz BK1031 0, hcz BK1031 1⟩ (fun hHeld => ?_)
   clear hK K
   refine normQ (N := 24) ?_
   refine one_ (i := 7) (N := none) #[true, true, true, true, true, true, true, true] rfl rfl (one_of HT_.out (by kernel_rfl)) (by decide) (fun K hK => ?_)
   have hs54 : w53.cell? ⟨gb1018, 0, none⟩ = some (.int .i64 0) := hcz BK1018 0
   have hfs54 := blk_frozen BK1018.out 0
   have hns54_0 := NB1016_1018.out
   have hns54_1 := NB1017_1018.out
   have hns54_3 := NB1026_1018.out
   have hns54_4 := NB1031_1018.out
   have hms54_0 := NB1018_1016.out
   have hms54_1 := NB1018_1017.out
   have hms54_3 := NB1018_1026.out
   have hms54_4 := NB1018_1031.out
   have hs55 : w53.cell? ⟨gb1018, 1, none⟩ = some (.int .i64 0) := hcz BK1018 1
   have hfs55 := blk_frozen BK1018.out 1
   have hns55_0 := NB1016_1018.out
   have hns55_1 := NB1017_1018.out
   have hns55_3 := NB1026_1018.out
   have hns55_4 := NB1031_1018.out
   have hms55_0 := NB1018_1016.out
   have hms55_1 := NB1018_1017.out
   have hms55_3 := NB1018_1026.out
   have hms55_4 := NB1018_1031.out
   refine skip_ (w1 := ?_) (by rfl) rfl ?_ ?_
   rotate_left
   ·
    go_simp
    rfl
   refine hK.out _ _ ⟨((cell_far (p := ⟨gb1018, _, none⟩) NB1016_1018.out _).trans (((cell_far (p := ⟨gb1018, _, none⟩) NB1016_1018.out _).trans (hHeld.1)))), ((cell_far (p := ⟨gb1018, _, none⟩) NB1016_1018.out _).trans (((cell_far (p := ⟨gb1018, _, none⟩) NB1016_1018.out _).trans (hHeld.2.1)))), ((cell_far (p := ⟨gb1018, _, none⟩) NB1026_1018.out _).trans (((cell_far (p := ⟨gb1018, _, none⟩) NB1026_1018.out _).trans (hHeld.2.2.1)))), ((cell_far (p := ⟨gb1018, _, none⟩) NB1026_1018.out _).trans (((cell_far (p := ⟨gb1018, _, none⟩) NB1026_1018.out _).trans (hHeld.2.2.2.1)))), ((cell_far (p := ⟨gb1018, _, none⟩) NB1031_1018.out _).trans (((cell_far (p := ⟨gb1018, _, none⟩) NB1031_1018.out _).trans (hHeld.2.2.2.2.1)))), ((cell_far (p := ⟨gb1018, _, none⟩) NB1031_1018.out _).trans (((cell_far (p := ⟨gb1018, _, none⟩) NB1031_1018.out _).trans (hHeld.2.2.2.2.2))))⟩ (fun hHeld => ?_)
   clear hK K
   refine done_ (done_of HT_.out (by kernel_rfl)) ?_
   try go_wp2
   refine bodyPost_ret (results_cell_row rfl _ _ gb1018 23 #[.int .i64 t1036, .int .i64 t1037] (0, 0) _ rfl (by refine pkB ?_; refine blk_put (cs := #[.int .i64 t1036, .int .i64 0]) ?_ 1 _ (by first | rfl | (subst_vars; rfl)); refine pkB ?_; refine blk_put (cs := #[.int .i64 0, .int .i64 0]) ?_ 0 _ (by first | rfl | (subst_vars; rfl)); refine pkB ?_; exact BK1018.out) Try.underlying23 rfl (by kernel_rfl)) rfl ?_
   exact ⟨by first | rfl | (simp [errW_none, errW_some] <;> rfl) | (simp [*, errW_none, errW_some] <;> rfl) | kernel_rfl, by repeat (first | (with_reducible first | exact HB.out | apply below_alloc | apply pw_below_drewN | apply below_drew1 | refine below_set ?_ GE1016.out | refine below_set ?_ GE1017.out | refine below_set ?_ GE1018.out | refine below_set ?_ GE1026.out | refine below_set ?_ GE1031.out) | exact HB.out)⟩
end Go.Proofs.Ytbbnpipmjadpoaa.P
