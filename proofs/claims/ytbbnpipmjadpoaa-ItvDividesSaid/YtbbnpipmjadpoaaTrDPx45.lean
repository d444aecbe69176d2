/- What the law's proof needs of Px45. -/
import Derived.Test.YtbbnpipmjadpoaaTrDU2
import Derived.Test.YtbbnpipmjadpoaaTrDU
import Derived.Test.YtbbnpipmjadpoaaTrDPx0
import Derived.Test.YtbbnpipmjadpoaaTrDPx7
import Derived.Test.YtbbnpipmjadpoaaTrDPx38
import Derived.Test.YtbbnpipmjadpoaaTrDPx44
-- PRINTED by print.py (a twelfth state) out of the translation. Not trusted: Lean checks it.
namespace Go.Proofs.Ytbbnpipmjadpoaa.P
open Go.RowKit Go.Proofs.YtbbnpipmjadpoaaW.PrintWords Go.Proofs.YtbbnpipmjadpoaaW.PrintLast Go.Proofs.YtbbnpipmjadpoaaW.PrintMore Go.Proofs.YtbbnpipmjadpoaaO
attribute [local go_sem] max2_int min2_int max_two min_two max_three min_three max_four min_four   -- for this text's walks alone
set_option linter.unusedVariables false
set_option linter.unusedSimpArgs false
def gimbalref02_quotients.f (k : Nat) (a0_0 : Int) (a0_1 : Int) (a1_0 : Int) (a1_1 : Int) : Option (Int × Int) := (gimbalref02_None.f a1_0 a1_1).bind fun t1009 => (if t1009 = true then (some (a1_0, a1_1)) else ((gimbalref01_Div.f k a0_0 a1_0).bind fun t1010 => ((gimbalref01_Div.f k a0_0 a1_1).bind fun t1011 => ((gimbalref01_Div.f k a0_1 a1_0).bind fun t1012 => ((gimbalref01_Div.f k a0_1 a1_1).bind fun t1013 => ((gimbalref02_hull.f k t1010 t1011 t1012 t1013).bind fun bt1014 => (some (bt1014.1, bt1014.2))))))))
def gimbalref02_quotients.T3 : Bool × List (List Nat × List Nat) := (true, [([], []), ([0], [0]), ([], []), ([2], [2]), ([1, 3], [1, 3]), ([], []), ([5], [5]), ([], []), ([7], [7]), ([6, 8, 4], [6, 8]), ([], []), ([10], [10]), ([], []), ([12], [12]), ([11, 13, 9], [11, 13]), ([], []), ([15], [15]), ([], []), ([17], [17]), ([16, 18, 14], [16, 18]), ([4, 9, 14, 19, 19], [4, 9, 14, 19]), ([20, 20, 0, 1, 2, 3, 4, 5, 6, 7, 8, 9, 10, 11, 12, 13, 14, 15, 16, 17, 18, 19, 20], [20])])
def gimbalref02_quotients.B3 : List Nat := [0, 1, 0, 4, 15, 0, 32, 0, 128, 511, 0, 1024, 0, 4096, 16383, 0, 32768, 0, 131072, 524287, 1048575, 2097151]
theorem gimbalref02_quotients.tab3 : rtab .any (opsOf Try.f90 3) = gimbalref02_quotients.T3 := by kernel_rfl
theorem gimbalref02_quotients.bits3 : waitsOk gimbalref02_quotients.T3.2 gimbalref02_quotients.B3 = true := by kernel_rfl
set_option maxHeartbeats 8000000 in
set_option maxRecDepth 100000 in
theorem gimbalref02_quotients.calls (k : Nat) (a0_0 : Int) (a0_1 : Int) (a1_0 : Int) (a1_1 : Int) (r1 : Int) (r2 : Int) (w : World) (h : gimbalref02_quotients.f k a0_0 a0_1 a1_0 a1_1 = some (r1, r2)) :
    Calls Try.prog 90 #[.agg #[.int .i64 a0_0, .int .i64 a0_1], .agg #[.int .i64 a1_0, .int .i64 a1_1]] w fun e w' => e = .returned (.agg #[.int .i64 r1, .int .i64 r2]) ∧ Below w.heap.size w w' := by
  have hu23 := Try.underlying23
  have HB := Aside0.mk (Below.refl w.heap.size w)
  have H : ((gimbalref02_None.f a1_0 a1_1).bind fun t1009 => (if t1009 = true then (some (a1_0, a1_1)) else ((gimbalref01_Div.f k a0_0 a1_0).bind fun t1010 => ((gimbalref01_Div.f k a0_0 a1_1).bind fun t1011 => ((gimbalref01_Div.f k a0_1 a1_0).bind fun t1012 => ((gimbalref01_Div.f k a0_1 a1_1).bind fun t1013 => ((gimbalref02_hull.f k t1010 t1011 t1012 t1013).bind fun bt1014 => (some (bt1014.1, bt1014.2))))))))) = some (r1, r2) := h
  clear h
  replace H := Option.bind_eq_some_iff.mp H
  obtain ⟨t1009, A30, H⟩ := H
  replace H : (if t1009 = true then (some (a1_0, a1_1)) else ((gimbalref01_Div.f k a0_0 a1_0).bind fun t1010 => ((gimbalref01_Div.f k a0_0 a1_1).bind fun t1011 => ((gimbalref01_Div.f k a0_1 a1_0).bind fun t1012 => ((gimbalref01_Div.f k a0_1 a1_1).bind fun t1013 => ((gimbalref02_hull.f k t1010 t1011 t1012 t1013).bind fun bt1014 => (some (bt1014.1, bt1014.2)))))))) = some (r1, r2) := H
  have A3 := Aside0.mk A30
  clear A30
  by_cases c4 : t1009 = true
  ·
   subst c4
   have H1 : (some (a1_0, a1_1)) = some (r1, r2) := by rw [if_pos rfl] at H; exact H
   clear H
   have H := H1
   clear H1
   simp only [Option.some.injEq, Prod.mk.injEq] at H
   obtain ⟨rfl, rfl⟩ := H
   go_enter Try.func90, Try.ntmps90
   go_wp2_with (first | ((with_reducible refine gate_dst (N := 2) rfl ?_); refine box_event ?hg (N := 2) ?hd (cs := #[.int .i64 a0_0, .int .i64 a0_1]) (t := 23) ?hr ?_; (case hd => rfl); (case hg => rfl); (case hr => first | (go_simp; done) | (go_simp; rfl)); intro gb1006 hg w5 hbox hb; have n0_ := bst HB hb; have n1_ := Aside0.mk (hbox); have n2_ := bsz HB hg; have n3_ := bsz HB hg; clear HB; have HB := n0_; have BK1006 := n1_; have GW1006 := n2_; have GE1006 := n3_; clear n0_ n1_ n2_ n3_; clear hb hbox hg) | ((with_reducible refine gate_dst (N := 3) rfl ?_); refine box_event ?hg (N := 3) ?hd (cs := #[.int .i64 a1_0, .int .i64 a1_1]) (t := 23) ?hr ?_; (case hd => rfl); (case hg => rfl); (case hr => first | (go_simp; done) | (go_simp; rfl)); intro gb1007 hg w6 hbox hb; have n0_ := bst HB hb; have n1_ := Aside0.mk (hbox); have n2_ := bsz HB hg; have n3_ := bsz HB hg; have n4_ := bn1 BK1006 hg; have n5_ := bn2 BK1006 hg; replace BK1006 := bbw BK1006 hb; clear HB; have HB := n0_; have BK1007 := n1_; have GW1007 := n2_; have GE1007 := n3_; have NB1006_1007 := n4_; have NB1007_1006 := n5_; clear n0_ n1_ n2_ n3_ n4_ n5_; clear hb hbox hg) | ((with_reducible refine gate_dst (N := 4) rfl ?_); refine box_event ?hg (N := 4) ?hd (cs := #[.int .i64 0, .int .i64 0]) (t := 23) ?hr ?_; (case hd => rfl); (case hg => rfl); (case hr => first | (go_simp; done) | (go_simp; rfl)); intro gb1008 hg w7 hbox hb; have n0_ := bst HB hb; have n1_ := Aside0.mk (hbox); have n2_ := bsz HB hg; have n3_ := bsz HB hg; have n4_ := bn1 BK1006 hg; have n5_ := bn2 BK1006 hg; have n6_ := bn1 BK1007 hg; have n7_ := bn2 BK1007 hg; replace BK1006 := bbw BK1006 hb; replace BK1007 := bbw BK1007 hb; clear HB; have HB := n0_; have BK1008 := n1_; have GW1008 := n2_; have GE1008 := n3_; have NB1006_1008 := n4_; have NB1008_1006 := n5_; have NB1007_1008 := n6_; have NB1008_1007 := n7_; clear n0_ n1_ n2_ n3_ n4_ n5_ n6_ n7_; clear hb hbox hg; have hnb8 := NB1007_1006.out; have hnc8 := NB1006_1007.out; have hnb9 := NB1007_1008.out; have hnc9 := NB1008_1007.out; have hcz10_0 := hcz BK1007 0; have hcz10_1 := hcz BK1007 1; have hfz10_0 := blk_frozen BK1007.out 0; have hfz10_1 := blk_frozen BK1007.out 1) | ((with_reducible refine gate_callee (f := 61) rfl ?_); refine goesL_ (some 6) rfl rfl Try.func61 (by kernel_rfl) rfl #[.agg #[.int .i64 a1_0, .int .i64 a1_1]] rfl (by (try simp only [List.map_toArray, List.map_cons, List.map_nil]); first | done | rfl | (simp only [List.length_drop, List.length_take]; rfl)) ?_; (with_reducible refine (gimbalref02_None.calls a1_0 a1_1 true _ A3.out).mono ?_); rintro e w11 ⟨rfl, hb⟩; refine ⟨_, rfl, ?_⟩; have n0_ := bst HB hb; replace BK1006 := bbw BK1006 hb; replace BK1007 := bbw BK1007 hb; replace BK1008 := bbw BK1008 hb; clear HB; have HB := n0_; clear n0_; (try clear hb); (try clear hb2); (try clear hk); (try clear hi); have hcz12_0 := hcz BK1007 0; have hcz12_1 := hcz BK1007 1; have hfz12_0 := blk_frozen BK1007.out 0; have hfz12_1 := blk_frozen BK1007.out 1; have hnb13 := NB1008_1006.out; have hnc13 := NB1006_1008.out; have hcz14_0 := hcz BK1008 0; have hcz14_1 := hcz BK1008 1; have hfz14_0 := blk_frozen BK1008.out 0; have hfz14_1 := blk_frozen BK1008.out 1))
   refine bodyPost_ret (results_cell_row rfl _ _ gb1008 23 #[.int .i64 a1_0, .int .i64 a1_1] (0, 0) _ rfl (by refine pkB ?_; refine blk_put (cs := #[.int .i64 a1_0, .int .i64 0]) ?_ 1 _ (by first | rfl | (subst_vars; rfl)); refine pkB ?_; refine blk_put (cs := #[.int .i64 0, .int .i64 0]) ?_ 0 _ (by first | rfl | (subst_vars; rfl)); refine pkB ?_; exact BK1008.out) Try.underlying23 rfl (by kernel_rfl)) rfl ?_
   exact ⟨by first | rfl | (simp [errW_none, errW_some] <;> rfl) | (simp [*, errW_none, errW_some] <;> rfl) | kernel_rfl, by repeat (first | (with_reducible first | exact HB.out | apply below_alloc | apply pw_below_drewN | apply below_drew1 | refine below_set ?_ GE1006.out | refine below_set ?_ GE1007.out | refine below_set ?_ GE1008.out) | exact HB.out)⟩
  ·
   replace c4 := Bool.eq_false_iff.mpr c4
   subst c4
   have H1 : ((gimbalref01_Div.f k a0_0 a1_0).bind fun t1010 => ((gimbalref01_Div.f k a0_0 a1_1).bind fun t1011 => ((gimbalref01_Div.f k a0_1 a1_0).bind fun t1012 => ((gimbalref01_Div.f k a0_1 a1_1).bind fun t1013 => ((gimbalref02_hull.f k t1010 t1011 t1012 t1013).bind fun bt1014 => (some (bt1014.1, bt1014.2))))))) = some (r1, r2) := by rw [if_neg (show ¬ (false = true) by decide)] at H; exact H
   clear H
   have H := H1
   clear H1
   replace H := Option.bind_eq_some_iff.mp H
   obtain ⟨t1010, A150, H⟩ := H
   replace H : ((gimbalref01_Div.f k a0_0 a1_1).bind fun t1011 => ((gimbalref01_Div.f k a0_1 a1_0).bind fun t1012 => ((gimbalref01_Div.f k a0_1 a1_1).bind fun t1013 => ((gimbalref02_hull.f k t1010 t1011 t1012 t1013).bind fun bt1014 => (some (bt1014.1, bt1014.2)))))) = some (r1, r2) := H
   have A15 := Aside0.mk A150
   clear A150
   replace H := Option.bind_eq_some_iff.mp H
   obtain ⟨t1011, A160, H⟩ := H
   replace H : ((gimbalref01_Div.f k a0_1 a1_0).bind fun t1012 => ((gimbalref01_Div.f k a0_1 a1_1).bind fun t1013 => ((gimbalref02_hull.f k t1010 t1011 t1012 t1013).bind fun bt1014 => (some (bt1014.1, bt1014.2))))) = some (r1, r2) := H
   have A16 := Aside0.mk A160
   clear A160
   replace H := Option.bind_eq_some_iff.mp H
   obtain ⟨t1012, A170, H⟩ := H
   replace H : ((gimbalref01_Div.f k a0_1 a1_1).bind fun t1013 => ((gimbalref02_hull.f k t1010 t1011 t1012 t1013).bind fun bt1014 => (some (bt1014.1, bt1014.2)))) = some (r1, r2) := H
   have A17 := Aside0.mk A170
   clear A170
   replace H := Option.bind_eq_some_iff.mp H
   obtain ⟨t1013, A180, H⟩ := H
   replace H : ((gimbalref02_hull.f k t1010 t1011 t1012 t1013).bind fun bt1014 => (some (bt1014.1, bt1014.2))) = some (r1, r2) := H
   have A18 := Aside0.mk A180
   clear A180
   replace H := Option.bind_eq_some_iff.mp H
   obtain ⟨⟨t1014, t1015⟩, A190, H⟩ := H
   replace H : (some (t1014, t1015)) = some (r1, r2) := H
   have A19 := Aside0.mk A190
   clear A190
   simp only [Option.some.injEq, Prod.mk.injEq] at H
   obtain ⟨rfl, rfl⟩ := H
   go_enter Try.func90, Try.ntmps90
   try go_wp2_with (first | ((with_reducible refine gate_dst (N := 2) rfl ?_); refine box_event ?hg (N := 2) ?hd (cs := #[.int .i64 a0_0, .int .i64 a0_1]) (t := 23) ?hr ?_; (case hd => rfl); (case hg => rfl); (case hr => first | (go_simp; done) | (go_simp; rfl)); intro gb1006 hg w20 hbox hb; have n0_ := bst HB hb; have n1_ := Aside0.mk (hbox); have n2_ := bsz HB hg; have n3_ := bsz HB hg; clear HB; have HB := n0_; have BK1006 := n1_; have GW1006 := n2_; have GE1006 := n3_; clear n0_ n1_ n2_ n3_; clear hb hbox hg) | ((with_reducible refine gate_dst (N := 3) rfl ?_); refine box_event ?hg (N := 3) ?hd (cs := #[.int .i64 a1_0, .int .i64 a1_1]) (t := 23) ?hr ?_; (case hd => rfl); (case hg => rfl); (case hr => first | (go_simp; done) | (go_simp; rfl)); intro gb1007 hg w21 hbox hb; have n0_ := bst HB hb; have n1_ := Aside0.mk (hbox); have n2_ := bsz HB hg; have n3_ := bsz HB hg; have n4_ := bn1 BK1006 hg; have n5_ := bn2 BK1006 hg; replace BK1006 := bbw BK1006 hb; clear HB; have HB := n0_; have BK1007 := n1_; have GW1007 := n2_; have GE1007 := n3_; have NB1006_1007 := n4_; have NB1007_1006 := n5_; clear n0_ n1_ n2_ n3_ n4_ n5_; clear hb hbox hg) | ((with_reducible refine gate_dst (N := 4) rfl ?_); refine box_event ?hg (N := 4) ?hd (cs := #[.int .i64 0, .int .i64 0]) (t := 23) ?hr ?_; (case hd => rfl); (case hg => rfl); (case hr => first | (go_simp; done) | (go_simp; rfl)); intro gb1008 hg w22 hbox hb; have n0_ := bst HB hb; have n1_ := Aside0.mk (hbox); have n2_ := bsz HB hg; have n3_ := bsz HB hg; have n4_ := bn1 BK1006 hg; have n5_ := bn2 BK1006 hg; have n6_ := bn1 BK1007 hg; have n7_ := bn2 BK1007 hg; replace BK1006 := bbw BK1006 hb; replace BK1007 := bbw BK1007 hb; clear HB; have HB := n0_; have BK1008 := n1_; have GW1008 := n2_; have GE1008 := n3_; have NB1006_1008 := n4_; have NB1008_1006 := n5_; have NB1007_1008 := n6_; have NB1008_1007 := n7_; clear n0_ n1_ n2_ n3_ n4_ n5_ n6_ n7_; clear hb hbox hg; have hnb23 := NB1007_1006.out; have hnc23 := NB1006_1007.out; have hnb24 := NB1007_1008.out; have hnc24 := NB1008_1007.out; have hcz25_0 := hcz BK1007 0; have hcz25_1 := hcz BK1007 1; have hfz25_0 := blk_frozen BK1007.out 0; have hfz25_1 := blk_frozen BK1007.out 1) | ((with_reducible refine gate_callee (f := 61) rfl ?_); refine goesL_ (some 6) rfl rfl Try.func61 (by kernel_rfl) rfl #[.agg #[.int .i64 a1_0, .int .i64 a1_1]] rfl (by (try simp only [List.map_toArray, List.map_cons, List.map_nil]); first | done | rfl | (simp only [List.length_drop, List.length_take]; rfl)) ?_; (with_reducible refine (gimbalref02_None.calls a1_0 a1_1 false _ A3.out).mono ?_); rintro e w26 ⟨rfl, hb⟩; refine ⟨_, rfl, ?_⟩; have n0_ := bst HB hb; replace BK1006 := bbw BK1006 hb; replace BK1007 := bbw BK1007 hb; replace BK1008 := bbw BK1008 hb; clear HB; have HB := n0_; clear n0_; (try clear hb); (try clear hb2); (try clear hk); (try clear hi)))
   have n0_ := Aside0.mk (blk_drew BK1006.out)
   have n1_ := Aside0.mk (blk_drew BK1007.out)
   have n2_ := Aside0.mk (blk_drew BK1008.out)
   have n3_ := Aside0.mk (below_drew1 HB.out)
   clear BK1006
   clear BK1007
   clear BK1008
   clear HB
   have BK1006 := n0_
   have BK1007 := n1_
   have BK1008 := n2_
   have HB := n3_
   clear n0_ n1_ n2_ n3_
   refine start_ (n := 22) (S := fun w' => w'.cell? ⟨gb1006, 0, none⟩ = some (.int .i64 a0_0) ∧ w'.cell? ⟨gb1006, 1, none⟩ = some (.int .i64 a0_1) ∧ w'.cell? ⟨gb1007, 0, none⟩ = some (.int .i64 a1_0) ∧ w'.cell? ⟨gb1007, 1, none⟩ = some (.int .i64 a1_1)) (ds := []) #[false, false, false, false, false, false, false, false, false, false, false, false, false, false, false, false, false, false, false, false, false, false] (by kernel_rfl) rfl rfl ⟨hcz BK1006 0, hcz BK1006 1, hcz BK1007 0, hcz BK1007 1⟩ (fun hHeld => ?_); refine with_tabW gimbalref02_quotients.tab3 gimbalref02_quotients.bits3 (fun HT_ HW_ => ?_)
   generalize w26.drew = w27 at BK1006 BK1007 BK1008 HB hHeld ⊢
   refine pureQ 0 8 HT_.out ?_
   refine pureQ 2 10 HT_.out ?_
   refine pureQ 5 13 HT_.out ?_
   refine pureQ 7 15 HT_.out ?_
   refine pureQ 10 18 HT_.out ?_
   refine pureQ 12 20 HT_.out ?_
   refine pureQ 15 23 HT_.out ?_
   refine pureQ 17 25 HT_.out ?_
   refine takeQ 1 9 HT_.out HW_.out hHeld ?_
   refine takeQ 3 11 HT_.out HW_.out hHeld ?_
   refine takeQ 6 14 HT_.out HW_.out hHeld ?_
   refine takeQ 8 16 HT_.out HW_.out hHeld ?_
   refine takeQ 11 19 HT_.out HW_.out hHeld ?_
   refine takeQ 13 21 HT_.out HW_.out hHeld ?_
   refine takeQ 16 24 HT_.out HW_.out hHeld ?_
   refine takeQ 18 26 HT_.out HW_.out hHeld ?_
   refine oneQ 4 12 HT_.out (fun K hK => ?_)
   refine goesQ Try.func100 #[.int .i64 a0_0, .int .i64 a1_0] ?_
   with_reducible refine (gimbalref01_Div.calls k a0_0 a1_0 t1010 _ A15.out).mono ?_
   rintro e w' ⟨rfl, ⟨nd, rfl⟩⟩
   refine ⟨_, rfl, ?_⟩
   refine hK.out _ _ ⟨hcz BK1006 0, hcz BK1006 1, hcz BK1007 0, hcz BK1007 1⟩ (fun hHeld => ?_)
   clear hK K
   refine normQ (N := 12) ?_
   refine oneQ 9 17 HT_.out (fun K hK => ?_)
   refine goesQ Try.func100 #[.int .i64 a0_0, .int .i64 a1_1] ?_
   with_reducible refine (gimbalref01_Div.calls k a0_0 a1_1 t1011 _ A16.out).mono ?_
   rintro e w' ⟨rfl, ⟨nd, rfl⟩⟩
   refine ⟨_, rfl, ?_⟩
   refine hK.out _ _ ⟨hcz BK1006 0, hcz BK1006 1, hcz BK1007 0, hcz BK1007 1⟩ (fun hHeld => ?_)
   clear hK K
   refine normQ (N := 17) ?_
   refine oneQ 14 22 HT_.out (fun K hK => ?_)
   refine goesQ Try.func100 #[.int .i64 a0_1, .int .i64 a1_0] ?_
   with_reducible refine (gimbalref01_Div.calls k a0_1 a1_0 t1012 _ A17.out).mono ?_
   rintro e w' ⟨rfl, ⟨nd, rfl⟩⟩
   refine ⟨_, rfl, ?_⟩
   refine hK.out _ _ ⟨hcz BK1006 0, hcz BK1006 1, hcz BK1007 0, hcz BK1007 1⟩ (fun hHeld => ?_)
   clear hK K
   refine normQ (N := 22) ?_
   refine oneQ 19 27 HT_.out (fun K hK => ?_)
   refine goesQ Try.func100 #[.int .i64 a0_1, .int .i64 a1_1] ?_
   with_reducible refine (gimbalref01_Div.calls k a0_1 a1_1 t1013 _ A18.out).mono ?_
   rintro e w' ⟨rfl, ⟨nd, rfl⟩⟩
   refine ⟨_, rfl, ?_⟩
   refine hK.out _ _ ⟨hcz BK1006 0, hcz BK1006 1, hcz BK1007 0, hcz BK1007 1⟩ (fun hHeld => ?_)
   clear hK K
   refine normQ (N := 27) ?_
   refine oneQ 20 28 HT_.out (fun K hK => ?_)
   refine goesQ Try.func88 #[.int .i64 t1010, .int .i64 t1011, .int .i64 t1012, .int .i64 t1013] ?_
   with_reducible refine (gimbalref02_hull.calls k t1010 t1011 t1012 t1013 t1014 t1015 _ A19.out).mono ?_
   rintro e w28 ⟨rfl, hb⟩
   refine ⟨_, rfl, ?_⟩
   have n0_ := bst HB hb
   replace BK1006 := bbw BK1006 hb
   replace BK1007 := bbw BK1007 hb
   replace BK1008 := bbw BK1008 hb
   clear HB
   have HB := n0_
   clear n0_
   (try clear hb)
   (try clear hb2)
   (try clear hk)
   (try clear hi)
   refine hK.out _ _ ⟨hcz BK1006 0, hcz BK1006 1, hcz BK1007 0, hcz BK1007 1⟩ (fun hHeld => ?_)
   clear hK K
   refine normQ (N := 28) ?_
   refine one_ (i := 21) (N := none) #[true, true, true, true, true, true, true, true, true, true, true, true, true, true, true, true, true, true, true, true, true, true] rfl rfl (one_of HT_.out (by kernel_rfl)) (by decide) (fun K hK => ?_)
   have hs29 : w28.cell? ⟨gb1008, 0, none⟩ = some (.int .i64 0) := hcz BK1008 0
   have hfs29 := blk_frozen BK1008.out 0
   have hns29_0 := NB1006_1008.out
   have hns29_1 := NB1007_1008.out
   have hms29_0 := NB1008_1006.out
   have hms29_1 := NB1008_1007.out
   have hs30 : w28.cell? ⟨gb1008, 1, none⟩ = some (.int .i64 0) := hcz BK1008 1
   have hfs30 := blk_frozen BK1008.out 1
   have hns30_0 := NB1006_1008.out
   have hns30_1 := NB1007_1008.out
   have hms30_0 := NB1008_1006.out
   have hms30_1 := NB1008_1007.out
   refine skip_ (w1 := ?_) (by rfl) rfl ?_ ?_
   rotate_left
   ·
    go_simp
    rfl
   refine hK.out _ _ ⟨((cell_far (p := ⟨gb1008, _, none⟩) NB1006_1008.out _).trans (((cell_far (p := ⟨gb1008, _, none⟩) NB1006_1008.out _).trans (hHeld.1)))), ((cell_far (p := ⟨gb1008, _, none⟩) NB1006_1008.out _).trans (((cell_far (p := ⟨gb1008, _, none⟩) NB1006_1008.out _).trans (hHeld.2.1)))), ((cell_far (p := ⟨gb1008, _, none⟩) NB1007_1008.out _).trans (((cell_far (p := ⟨gb1008, _, none⟩) NB1007_1008.out _).trans (hHeld.2.2.1)))), ((cell_far (p := ⟨gb1008, _, none⟩) NB1007_1008.out _).trans (((cell_far (p := ⟨gb1008, _, none⟩) NB1007_1008.out _).trans (hHeld.2.2.2))))⟩ (fun hHeld => ?_)
   clear hK K
   refine done_ (done_of HT_.out (by kernel_rfl)) ?_
   try go_wp2
   refine bodyPost_ret (results_cell_row rfl _ _ gb1008 23 #[.int .i64 t1014, .int .i64 t1015] (0, 0) _ rfl (by refine pkB ?_; refine blk_put (cs := #[.int .i64 t1014, .int .i64 0]) ?_ 1 _ (by first | rfl | (subst_vars; rfl)); refine pkB ?_; refine blk_put (cs := #[.int .i64 0, .int .i64 0]) ?_ 0 _ (by first | rfl | (subst_vars; rfl)); refine pkB ?_; exact BK1008.out) Try.underlying23 rfl (by kernel_rfl)) rfl ?_
   exact ⟨by first | rfl | (simp [errW_none, errW_some] <;> rfl) | (simp [*, errW_none, errW_some] <;> rfl) | kernel_rfl, by repeat (first | (with_reducible first | exact HB.out | apply below_alloc | apply pw_below_drewN | apply below_drew1 | refine below_set ?_ GE1006.out | refine below_set ?_ GE1007.out | refine below_set ?_ GE1008.out) | exact HB.out)⟩
end Go.Proofs.Ytbbnpipmjadpoaa.P
