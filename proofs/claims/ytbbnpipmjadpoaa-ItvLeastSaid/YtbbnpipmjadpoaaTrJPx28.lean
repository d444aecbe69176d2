/- What the law's proof needs of Px28. -/
import Derived.Test.YtbbnpipmjadpoaaTrJU2
import Derived.Test.YtbbnpipmjadpoaaTrJU
import Derived.Test.YtbbnpipmjadpoaaTrJPx0
import Derived.Test.YtbbnpipmjadpoaaTrJPx26
import Derived.Test.YtbbnpipmjadpoaaTrJPx27
-- PRINTED by print.py (a twelfth state) out of the translation. Not trusted: Lean checks it.
namespace Go.Proofs.Ytbbnpipmjadpoaa.P
open Go.RowKit Go.Proofs.YtbbnpipmjadpoaaW.PrintWords Go.Proofs.YtbbnpipmjadpoaaW.PrintLast Go.Proofs.YtbbnpipmjadpoaaW.PrintMore Go.Proofs.YtbbnpipmjadpoaaO
attribute [local go_sem] max2_int min2_int max_two min_two max_three min_three max_four min_four   -- for this text's walks alone
set_option linter.unusedVariables false
set_option linter.unusedSimpArgs false
def itv_Mul_1.f (k : Nat) (a0_0 : Int) (a0_1 : Int) (a1_0 : Int) (a1_1 : Int) : Option (Int × Int) := (bound_Mul.f k a0_0 a1_0).bind fun t586 => ((bound_Mul.f k a0_0 a1_1).bind fun t587 => ((bound_Mul.f k a0_1 a1_0).bind fun t588 => ((bound_Mul.f k a0_1 a1_1).bind fun t589 => ((itv_hull.f t586 t587 t588 t589).bind fun bt590 => (some (bt590.1, bt590.2))))))
def itv_Mul_1.T1 : Bool × List (List Nat × List Nat) := (true, [([], []), ([0], [0]), ([], []), ([2], [2]), ([1, 3], [1, 3]), ([], []), ([5], [5]), ([], []), ([7], [7]), ([6, 8, 4], [6, 8]), ([], []), ([10], [10]), ([], []), ([12], [12]), ([11, 13, 9], [11, 13]), ([], []), ([15], [15]), ([], []), ([17], [17]), ([16, 18, 14], [16, 18]), ([4, 9, 14, 19], [4, 9, 14, 19]), ([20, 19], [20]), ([21, 21, 0, 1, 2, 3, 4, 5, 6, 7, 8, 9, 10, 11, 12, 13, 14, 15, 16, 17, 18, 19, 20, 21], [21])])
def itv_Mul_1.B1 : List Nat := [0, 1, 0, 4, 15, 0, 32, 0, 128, 511, 0, 1024, 0, 4096, 16383, 0, 32768, 0, 131072, 524287, 1048575, 2097151, 4194303]
theorem itv_Mul_1.tab1 : rtab .any (opsOf Try.f77 1) = itv_Mul_1.T1 := by kernel_rfl
theorem itv_Mul_1.bits1 : waitsOk itv_Mul_1.T1.2 itv_Mul_1.B1 = true := by kernel_rfl
set_option maxHeartbeats 8000000 in
set_option maxRecDepth 100000 in
theorem itv_Mul_1.calls (k : Nat) (a0_0 : Int) (a0_1 : Int) (a1_0 : Int) (a1_1 : Int) (r1 : Int) (r2 : Int) (w : World) (h : itv_Mul_1.f k a0_0 a0_1 a1_0 a1_1 = some (r1, r2)) :
    Calls Try.prog 77 #[.agg #[.int .i64 a0_0, .int .i64 a0_1], .agg #[.int .i64 a1_0, .int .i64 a1_1]] w fun e w' => e = .returned (.agg #[.int .i64 r1, .int .i64 r2]) ∧ Below w.heap.size w w' := by
  have hu23 := Try.underlying23
  have hu60 := Try.underlying60
  have HB := Aside0.mk (Below.refl w.heap.size w)
  have H : ((bound_Mul.f k a0_0 a1_0).bind fun t586 => ((bound_Mul.f k a0_0 a1_1).bind fun t587 => ((bound_Mul.f k a0_1 a1_0).bind fun t588 => ((bound_Mul.f k a0_1 a1_1).bind fun t589 => ((itv_hull.f t586 t587 t588 t589).bind fun bt590 => (some (bt590.1, bt590.2))))))) = some (r1, r2) := h
  clear h
  replace H := Option.bind_eq_some_iff.mp H
  obtain ⟨t586, A30, H⟩ := H
  replace H : ((bound_Mul.f k a0_0 a1_1).bind fun t587 => ((bound_Mul.f k a0_1 a1_0).bind fun t588 => ((bound_Mul.f k a0_1 a1_1).bind fun t589 => ((itv_hull.f t586 t587 t588 t589).bind fun bt590 => (some (bt590.1, bt590.2)))))) = some (r1, r2) := H
  have A3 := Aside0.mk A30
  clear A30
  replace H := Option.bind_eq_some_iff.mp H
  obtain ⟨t587, A40, H⟩ := H
  replace H : ((bound_Mul.f k a0_1 a1_0).bind fun t588 => ((bound_Mul.f k a0_1 a1_1).bind fun t589 => ((itv_hull.f t586 t587 t588 t589).bind fun bt590 => (some (bt590.1, bt590.2))))) = some (r1, r2) := H
  have A4 := Aside0.mk A40
  clear A40
  replace H := Option.bind_eq_some_iff.mp H
  obtain ⟨t588, A50, H⟩ := H
  replace H : ((bound_Mul.f k a0_1 a1_1).bind fun t589 => ((itv_hull.f t586 t587 t588 t589).bind fun bt590 => (some (bt590.1, bt590.2)))) = some (r1, r2) := H
  have A5 := Aside0.mk A50
  clear A50
  replace H := Option.bind_eq_some_iff.mp H
  obtain ⟨t589, A60, H⟩ := H
  replace H : ((itv_hull.f t586 t587 t588 t589).bind fun bt590 => (some (bt590.1, bt590.2))) = some (r1, r2) := H
  have A6 := Aside0.mk A60
  clear A60
  replace H := Option.bind_eq_some_iff.mp H
  obtain ⟨⟨t590, t591⟩, A70, H⟩ := H
  replace H : (some (t590, t591)) = some (r1, r2) := H
  have A7 := Aside0.mk A70
  clear A70
  simp only [Option.some.injEq, Prod.mk.injEq] at H
  obtain ⟨rfl, rfl⟩ := H
  go_enter Try.func77, Try.ntmps77
  try go_wp2_with (first | ((with_reducible refine gate_dst (N := 2) rfl ?_); refine box_event ?hg (N := 2) ?hd (cs := #[.int .i64 a0_0, .int .i64 a0_1]) (t := 23) ?hr ?_; (case hd => rfl); (case hg => rfl); (case hr => first | (go_simp; done) | (go_simp; rfl)); intro gb583 hg w8 hbox hb; have n0_ := bst HB hb; have n1_ := Aside0.mk (hbox); have n2_ := bsz HB hg; have n3_ := bsz HB hg; clear HB; have HB := n0_; have BK583 := n1_; have GW583 := n2_; have GE583 := n3_; clear n0_ n1_ n2_ n3_; clear hb hbox hg) | ((with_reducible refine gate_dst (N := 3) rfl ?_); refine box_event ?hg (N := 3) ?hd (cs := #[.int .i64 a1_0, .int .i64 a1_1]) (t := 23) ?hr ?_; (case hd => rfl); (case hg => rfl); (case hr => first | (go_simp; done) | (go_simp; rfl)); intro gb584 hg w9 hbox hb; have n0_ := bst HB hb; have n1_ := Aside0.mk (hbox); have n2_ := bsz HB hg; have n3_ := bsz HB hg; have n4_ := bn1 BK583 hg; have n5_ := bn2 BK583 hg; replace BK583 := bbw BK583 hb; clear HB; have HB := n0_; have BK584 := n1_; have GW584 := n2_; have GE584 := n3_; have NB583_584 := n4_; have NB584_583 := n5_; clear n0_ n1_ n2_ n3_ n4_ n5_; clear hb hbox hg) | ((with_reducible refine gate_dst (N := 4) rfl ?_); refine box_event ?hg (N := 4) ?hd (cs := #[.int .i64 0, .int .i64 0]) (t := 23) ?hr ?_; (case hd => rfl); (case hg => rfl); (case hr => first | (go_simp; done) | (go_simp; rfl)); intro gb585 hg w10 hbox hb; have n0_ := bst HB hb; have n1_ := Aside0.mk (hbox); have n2_ := bsz HB hg; have n3_ := bsz HB hg; have n4_ := bn1 BK583 hg; have n5_ := bn2 BK583 hg; have n6_ := bn1 BK584 hg; have n7_ := bn2 BK584 hg; replace BK583 := bbw BK583 hb; replace BK584 := bbw BK584 hb; clear HB; have HB := n0_; have BK585 := n1_; have GW585 := n2_; have GE585 := n3_; have NB583_585 := n4_; have NB585_583 := n5_; have NB584_585 := n6_; have NB585_584 := n7_; clear n0_ n1_ n2_ n3_ n4_ n5_ n6_ n7_; clear hb hbox hg))
  have n0_ := Aside0.mk (blk_drew BK583.out)
  have n1_ := Aside0.mk (blk_drew BK584.out)
  have n2_ := Aside0.mk (blk_drew BK585.out)
  have n3_ := Aside0.mk (below_drew1 HB.out)
  clear BK583
  clear BK584
  clear BK585
  clear HB
  have BK583 := n0_
  have BK584 := n1_
  have BK585 := n2_
  have HB := n3_
  clear n0_ n1_ n2_ n3_
  refine start_ (n := 23) (S := fun w' => w'.cell? ⟨gb583, 0, none⟩ = some (.int .i64 a0_0) ∧ w'.cell? ⟨gb583, 1, none⟩ = some (.int .i64 a0_1) ∧ w'.cell? ⟨gb584, 0, none⟩ = some (.int .i64 a1_0) ∧ w'.cell? ⟨gb584, 1, none⟩ = some (.int .i64 a1_1)) (ds := []) #[false, false, false, false, false, false, false, false, false, false, false, false, false, false, false, false, false, false, false, false, false, false, false] (by kernel_rfl) rfl rfl ⟨hcz BK583 0, hcz BK583 1, hcz BK584 0, hcz BK584 1⟩ (fun hHeld => ?_); refine with_tabW itv_Mul_1.tab1 itv_Mul_1.bits1 (fun HT_ HW_ => ?_)
  generalize w10.drew = w11 at BK583 BK584 BK585 HB hHeld ⊢
  refine pureQ 0 5 HT_.out ?_
  refine pureQ 2 7 HT_.out ?_
  refine pureQ 5 10 HT_.out ?_
  refine pureQ 7 12 HT_.out ?_
  refine pureQ 10 15 HT_.out ?_
  refine pureQ 12 17 HT_.out ?_
  refine pureQ 15 20 HT_.out ?_
  refine pureQ 17 22 HT_.out ?_
  refine takeQ 1 6 HT_.out HW_.out hHeld ?_
  refine takeQ 3 8 HT_.out HW_.out hHeld ?_
  refine takeQ 6 11 HT_.out HW_.out hHeld ?_
  refine takeQ 8 13 HT_.out HW_.out hHeld ?_
  refine takeQ 11 16 HT_.out HW_.out hHeld ?_
  refine takeQ 13 18 HT_.out HW_.out hHeld ?_
  refine takeQ 16 21 HT_.out HW_.out hHeld ?_
  refine takeQ 18 23 HT_.out HW_.out hHeld ?_
  refine oneQ 4 9 HT_.out (fun K hK => ?_)
  refine goesQ Try.func79 #[.int .i64 a0_0, .int .i64 a1_0] ?_
  with_reducible refine (bound_Mul.calls k a0_0 a1_0 t586 _ A3.out).mono ?_
  rintro e w12 ⟨rfl, hb⟩
  refine ⟨_, rfl, ?_⟩
  have n0_ := bst HB hb
  replace BK583 := bbw BK583 hb
  replace BK584 := bbw BK584 hb
  replace BK585 := bbw BK585 hb
  clear HB
  have HB := n0_
  clear n0_
  (try clear hb)
  (try clear hb2)
  (try clear hk)
  (try clear hi)
  refine hK.out _ _ ⟨hcz BK583 0, hcz BK583 1, hcz BK584 0, hcz BK584 1⟩ (fun hHeld => ?_)
  clear hK K
  refine normQ (N := 9) ?_
  refine oneQ 9 14 HT_.out (fun K hK => ?_)
  refine goesQ Try.func79 #[.int .i64 a0_0, .int .i64 a1_1] ?_
  with_reducible refine (bound_Mul.calls k a0_0 a1_1 t587 _ A4.out).mono ?_
  rintro e w13 ⟨rfl, hb⟩
  refine ⟨_, rfl, ?_⟩
  have n0_ := bst HB hb
  replace BK583 := bbw BK583 hb
  replace BK584 := bbw BK584 hb
  replace BK585 := bbw BK585 hb
  clear HB
  have HB := n0_
  clear n0_
  (try clear hb)
  (try clear hb2)
  (try clear hk)
  (try clear hi)
  refine hK.out _ _ ⟨hcz BK583 0, hcz BK583 1, hcz BK584 0, hcz BK584 1⟩ (fun hHeld => ?_)
  clear hK K
  refine normQ (N := 14) ?_
  refine oneQ 14 19 HT_.out (fun K hK => ?_)
  refine goesQ Try.func79 #[.int .i64 a0_1, .int .i64 a1_0] ?_
  with_reducible refine (bound_Mul.calls k a0_1 a1_0 t588 _ A5.out).mono ?_
  rintro e w14 ⟨rfl, hb⟩
  refine ⟨_, rfl, ?_⟩
  have n0_ := bst HB hb
  replace BK583 := bbw BK583 hb
  replace BK584 := bbw BK584 hb
  replace BK585 := bbw BK585 hb
  clear HB
  have HB := n0_
  clear n0_
  (try clear hb)
  (try clear hb2)
  (try clear hk)
  (try clear hi)
  refine hK.out _ _ ⟨hcz BK583 0, hcz BK583 1, hcz BK584 0, hcz BK584 1⟩ (fun hHeld => ?_)
  clear hK K
  refine normQ (N := 19) ?_
  refine oneQ 19 24 HT_.out (fun K hK => ?_)
  refine goesQ Try.func79 #[.int .i64 a0_1, .int .i64 a1_1] ?_
  with_reducible refine (bound_Mul.calls k a0_1 a1_1 t589 _ A6.out).mono ?_
  rintro e w15 ⟨rfl, hb⟩
  refine ⟨_, rfl, ?_⟩
  have n0_ := bst HB hb
  replace BK583 := bbw BK583 hb
  replace BK584 := bbw BK584 hb
  replace BK585 := bbw BK585 hb
  clear HB
  have HB := n0_
  clear n0_
  (try clear hb)
  (try clear hb2)
  (try clear hk)
  (try clear hi)
  refine hK.out _ _ ⟨hcz BK583 0, hcz BK583 1, hcz BK584 0, hcz BK584 1⟩ (fun hHeld => ?_)
  clear hK K
  refine normQ (N := 24) ?_
  refine pureQ 20 25 HT_.out ?_
  refine oneQ 21 26 HT_.out (fun K hK => ?_)
  refine goesQ Try.func78 #[.agg #[.int .i64 t586, .int .i64 t587, .int .i64 t588, .int .i64 t589]] ?_
  with_reducible refine (itv_hull.calls t586 t587 t588 t589 t590 t591 _ A7.out).mono ?_
  rintro e w16 ⟨rfl, hb⟩
  refine ⟨_, rfl, ?_⟩
  have n0_ := bst HB hb
  replace BK583 := bbw BK583 hb
  replace BK584 := bbw BK584 hb
  replace BK585 := bbw BK585 hb
  clear HB
  have HB := n0_
  clear n0_
  (try clear hb)
  (try clear hb2)
  (try clear hk)
  (try clear hi)
  refine hK.out _ _ ⟨hcz BK583 0, hcz BK583 1, hcz BK584 0, hcz BK584 1⟩ (fun hHeld => ?_)
  clear hK K
  refine normQ (N := 26) ?_
  refine one_ (i := 22) (N := none) #[true, true, true, true, true, true, true, true, true, true, true, true, true, true, true, true, true, true, true, true, true, true, true] rfl rfl (one_of HT_.out (by kernel_rfl)) (by decide) (fun K hK => ?_)
  have hs17 : w16.cell? ⟨gb585, 0, none⟩ = some (.int .i64 0) := hcz BK585 0
  have hfs17 := blk_frozen BK585.out 0
  have hns17_0 := NB583_585.out
  have hns17_1 := NB584_585.out
  have hms17_0 := NB585_583.out
  have hms17_1 := NB585_584.out
  have hs18 : w16.cell? ⟨gb585, 1, none⟩ = some (.int .i64 0) := hcz BK585 1
  have hfs18 := blk_frozen BK585.out 1
  have hns18_0 := NB583_585.out
  have hns18_1 := NB584_585.out
  have hms18_0 := NB585_583.out
  have hms18_1 := NB585_584.out
  refine skip_ (w1 := ?_) (by rfl) rfl ?_ ?_
  rotate_left
  ·
   go_simp
   rfl
  refine hK.out _ _ ⟨((cell_far (p := ⟨gb585, _, none⟩) NB583_585.out _).trans (((cell_far (p := ⟨gb585, _, none⟩) NB583_585.out _).trans (hHeld.1)))), ((cell_far (p := ⟨gb585, _, none⟩) NB583_585.out _).trans (((cell_far (p := ⟨gb585, _, none⟩) NB583_585.out _).trans (hHeld.2.1)))), ((cell_far (p := ⟨gb585, _, none⟩) NB584_585.out _).trans (((cell_far (p := ⟨gb585, _, none⟩) NB584_585.out _).trans (hHeld.2.2.1)))), ((cell_far (p := ⟨gb585, _, none⟩) NB584_585.out _).trans (((cell_far (p := ⟨gb585, _, none⟩) NB584_585.out _).trans (hHeld.2.2.2))))⟩ (fun hHeld => ?_)
  clear hK K
  refine done_ (done_of HT_.out (by kernel_rfl)) ?_
  try go_wp2
  refine bodyPost_ret (results_cell_row rfl _ _ gb585 23 #[.int .i64 t590, .int .i64 t591] (0, 0) _ rfl (by refine pkB ?_; refine blk_put (cs := #[.int .i64 t590, .int .i64 0]) ?_ 1 _ (by first | rfl | (subst_vars; rfl)); refine pkB ?_; refine blk_put (cs := #[.int .i64 0, .int .i64 0]) ?_ 0 _ (by first | rfl | (subst_vars; rfl)); refine pkB ?_; exact BK585.out) Try.underlying23 rfl (by kernel_rfl)) rfl ?_
  exact ⟨by first | rfl | (simp [errW_none, errW_some] <;> rfl) | (simp [*, errW_none, errW_some] <;> rfl) | kernel_rfl, by repeat (first | (with_reducible first | exact HB.out | apply below_alloc | apply pw_below_drewN | apply below_drew1 | refine below_set ?_ GE583.out | refine below_set ?_ GE584.out | refine below_set ?_ GE585.out) | exact HB.out)⟩
end Go.Proofs.Ytbbnpipmjadpoaa.P
