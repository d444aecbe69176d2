/- What the law's proof needs of Px26. -/
import Derived.Test.YtbbnpipmjadpoaaTrJU2
import Derived.Test.YtbbnpipmjadpoaaTrJU
import Derived.Test.YtbbnpipmjadpoaaTrJPx0
import Derived.Test.YtbbnpipmjadpoaaTrJPx2
import Derived.Test.YtbbnpipmjadpoaaTrJPx18
import Derived.Test.YtbbnpipmjadpoaaTrJPx25
-- PRINTED by print.py (a twelfth state) out of the translation. Not trusted: Lean checks it.
namespace Go.Proofs.Ytbbnpipmjadpoaa.P
open Go.RowKit Go.Proofs.YtbbnpipmjadpoaaW.PrintWords Go.Proofs.YtbbnpipmjadpoaaW.PrintLast Go.Proofs.YtbbnpipmjadpoaaW.PrintMore Go.Proofs.YtbbnpipmjadpoaaO
attribute [local go_sem] max2_int min2_int max_two min_two max_three min_three max_four min_four   -- for this text's walks alone
set_option linter.unusedVariables false
set_option linter.unusedSimpArgs false
def itv_Sub.f (k : Nat) (a0_0 : Int) (a0_1 : Int) (a1_0 : Int) (a1_1 : Int) : Option (Int × Int) := (itv_Neg.f a1_0 a1_1).bind fun bt569 => ((itv_Add.f k a0_0 a0_1 bt569.1 bt569.2).bind fun bt571 => (some (bt571.1, bt571.2)))
set_option maxHeartbeats 8000000 in
set_option maxRecDepth 100000 in
theorem itv_Sub.calls (k : Nat) (a0_0 : Int) (a0_1 : Int) (a1_0 : Int) (a1_1 : Int) (r1 : Int) (r2 : Int) (w : World) (h : itv_Sub.f k a0_0 a0_1 a1_0 a1_1 = some (r1, r2)) :
    Calls Try.prog 41 #[.agg #[.int .i64 a0_0, .int .i64 a0_1], .agg #[.int .i64 a1_0, .int .i64 a1_1]] w fun e w' => e = .returned (.agg #[.int .i64 r1, .int .i64 r2]) ∧ Below w.heap.size w w' := by
  have hu23 := Try.underlying23
  have HB := Aside0.mk (Below.refl w.heap.size w)
  have H : ((itv_Neg.f a1_0 a1_1).bind fun bt569 => ((itv_Add.f k a0_0 a0_1 bt569.1 bt569.2).bind fun bt571 => (some (bt571.1, bt571.2)))) = some (r1, r2) := h
  clear h
  replace H := Option.bind_eq_some_iff.mp H
  obtain ⟨⟨t569, t570⟩, A30, H⟩ := H
  replace H : ((itv_Add.f k a0_0 a0_1 t569 t570).bind fun bt571 => (some (bt571.1, bt571.2))) = some (r1, r2) := H
  have A3 := Aside0.mk A30
  clear A30
  replace H := Option.bind_eq_some_iff.mp H
  obtain ⟨⟨t571, t572⟩, A40, H⟩ := H
  replace H : (some (t571, t572)) = some (r1, r2) := H
  have A4 := Aside0.mk A40
  clear A40
  simp only [Option.some.injEq, Prod.mk.injEq] at H
  obtain ⟨rfl, rfl⟩ := H
  go_enter Try.func41, Try.ntmps41
  try go_wp2_with (first | ((with_reducible refine gate_dst (N := 2) rfl ?_); refine box_event ?hg (N := 2) ?hd (cs := #[.int .i64 a0_0, .int .i64 a0_1]) (t := 23) ?hr ?_; (case hd => rfl); (case hg => rfl); (case hr => first | (go_simp; done) | (go_simp; rfl)); intro gb566 hg w5 hbox hb; have n0_ := bst HB hb; have n1_ := Aside0.mk (hbox); have n2_ := bsz HB hg; have n3_ := bsz HB hg; clear HB; have HB := n0_; have BK566 := n1_; have GW566 := n2_; have GE566 := n3_; clear n0_ n1_ n2_ n3_; clear hb hbox hg) | ((with_reducible refine gate_dst (N := 3) rfl ?_); refine box_event ?hg (N := 3) ?hd (cs := #[.int .i64 a1_0, .int .i64 a1_1]) (t := 23) ?hr ?_; (case hd => rfl); (case hg => rfl); (case hr => first | (go_simp; done) | (go_simp; rfl)); intro gb567 hg w6 hbox hb; have n0_ := bst HB hb; have n1_ := Aside0.mk (hbox); have n2_ := bsz HB hg; have n3_ := bsz HB hg; have n4_ := bn1 BK566 hg; have n5_ := bn2 BK566 hg; replace BK566 := bbw BK566 hb; clear HB; have HB := n0_; have BK567 := n1_; have GW567 := n2_; have GE567 := n3_; have NB566_567 := n4_; have NB567_566 := n5_; clear n0_ n1_ n2_ n3_ n4_ n5_; clear hb hbox hg) | ((with_reducible refine gate_dst (N := 4) rfl ?_); refine box_event ?hg (N := 4) ?hd (cs := #[.int .i64 0, .int .i64 0]) (t := 23) ?hr ?_; (case hd => rfl); (case hg => rfl); (case hr => first | (go_simp; done) | (go_simp; rfl)); intro gb568 hg w7 hbox hb; have n0_ := bst HB hb; have n1_ := Aside0.mk (hbox); have n2_ := bsz HB hg; have n3_ := bsz HB hg; have n4_ := bn1 BK566 hg; have n5_ := bn2 BK566 hg; have n6_ := bn1 BK567 hg; have n7_ := bn2 BK567 hg; replace BK566 := bbw BK566 hb; replace BK567 := bbw BK567 hb; clear HB; have HB := n0_; have BK568 := n1_; have GW568 := n2_; have GE568 := n3_; have NB566_568 := n4_; have NB568_566 := n5_; have NB567_568 := n6_; have NB568_567 := n7_; clear n0_ n1_ n2_ n3_ n4_ n5_ n6_ n7_; clear hb hbox hg))
  have n0_ := Aside0.mk (blk_drew BK566.out)
  have n1_ := Aside0.mk (blk_drew BK567.out)
  have n2_ := Aside0.mk (blk_drew BK568.out)
  have n3_ := Aside0.mk (below_drew1 HB.out)
  clear BK566
  clear BK567
  clear BK568
  clear HB
  have BK566 := n0_
  have BK567 := n1_
  have BK568 := n2_
  have HB := n3_
  clear n0_ n1_ n2_ n3_
  refine start_ (n := 5) (S := fun w' => w'.cell? ⟨gb566, 0, none⟩ = some (.int .i64 a0_0) ∧ w'.cell? ⟨gb566, 1, none⟩ = some (.int .i64 a0_1) ∧ w'.cell? ⟨gb567, 0, none⟩ = some (.int .i64 a1_0) ∧ w'.cell? ⟨gb567, 1, none⟩ = some (.int .i64 a1_1)) (ds := []) #[false, false, false, false, false] (by kernel_rfl) rfl rfl ⟨hcz BK566 0, hcz BK566 1, hcz BK567 0, hcz BK567 1⟩ (fun hHeld => ?_)
  generalize w7.drew = w8 at BK566 BK567 BK568 HB hHeld ⊢
  refine take_ (i := 0) (N := some 5) (v := ?_) (a' := ?_) #[true, false, false, false, false] rfl rfl (by kernel_rfl) (fun _ _ _ h => h) (Or.inl ⟨by rfl, ?_⟩) hHeld ?_ ?_
  rotate_left
  ·
   rintro w' ⟨s0, s1, s2, s3⟩
   go_simp
   with_reducible rfl
  rotate_left
  ·
   simp only [Act.put, List.setIfInBounds_toArray, List.set_cons_zero, List.set_cons_succ, i64_w, i32_w]
   rfl
  refine take_ (i := 1) (N := some 6) (v := ?_) (a' := ?_) #[true, true, false, false, false] rfl rfl (by kernel_rfl) (fun _ _ _ h => h) (Or.inl ⟨by rfl, ?_⟩) hHeld ?_ ?_
  rotate_left
  ·
   rintro w' ⟨s0, s1, s2, s3⟩
   go_simp
   with_reducible rfl
  rotate_left
  ·
   simp only [Act.put, List.setIfInBounds_toArray, List.set_cons_zero, List.set_cons_succ, i64_w, i32_w]
   rfl
  refine one_ (i := 2) (N := some 7) #[true, true, true, false, false] rfl rfl (by kernel_rfl) (by decide) (fun K hK => ?_)
  refine goesQ Try.func46 #[.agg #[.int .i64 a1_0, .int .i64 a1_1]] ?_
  with_reducible refine (itv_Neg.calls a1_0 a1_1 t569 t570 _ A3.out).mono ?_
  rintro e w9 ⟨rfl, hb⟩
  refine ⟨_, rfl, ?_⟩
  have n0_ := bst HB hb
  replace BK566 := bbw BK566 hb
  replace BK567 := bbw BK567 hb
  replace BK568 := bbw BK568 hb
  clear HB
  have HB := n0_
  clear n0_
  (try clear hb)
  (try clear hb2)
  (try clear hk)
  (try clear hi)
  refine hK.out _ _ ⟨hcz BK566 0, hcz BK566 1, hcz BK567 0, hcz BK567 1⟩ (fun hHeld => ?_)
  clear hK K
  refine normQ (N := 7) ?_
  refine one_ (i := 3) (N := some 8) #[true, true, true, true, false] rfl rfl (by kernel_rfl) (by decide) (fun K hK => ?_)
  refine goesQ Try.func40 #[.agg #[.int .i64 a0_0, .int .i64 a0_1], .agg #[.int .i64 t569, .int .i64 t570]] ?_
  with_reducible refine (itv_Add.calls k a0_0 a0_1 t569 t570 t571 t572 _ A4.out).mono ?_
  rintro e w10 ⟨rfl, hb⟩
  refine ⟨_, rfl, ?_⟩
  have n0_ := bst HB hb
  replace BK566 := bbw BK566 hb
  replace BK567 := bbw BK567 hb
  replace BK568 := bbw BK568 hb
  clear HB
  have HB := n0_
  clear n0_
  (try clear hb)
  (try clear hb2)
  (try clear hk)
  (try clear hi)
  refine hK.out _ _ ⟨hcz BK566 0, hcz BK566 1, hcz BK567 0, hcz BK567 1⟩ (fun hHeld => ?_)
  clear hK K
  refine normQ (N := 8) ?_
  refine one_ (i := 4) (N := none) #[true, true, true, true, true] rfl rfl (by kernel_rfl) (by decide) (fun K hK => ?_)
  have hs11 : w10.cell? ⟨gb568, 0, none⟩ = some (.int .i64 0) := hcz BK568 0
  have hfs11 := blk_frozen BK568.out 0
  have hns11_0 := NB566_568.out
  have hns11_1 := NB567_568.out
  have hms11_0 := NB568_566.out
  have hms11_1 := NB568_567.out
  have hs12 : w10.cell? ⟨gb568, 1, none⟩ = some (.int .i64 0) := hcz BK568 1
  have hfs12 := blk_frozen BK568.out 1
  have hns12_0 := NB566_568.out
  have hns12_1 := NB567_568.out
  have hms12_0 := NB568_566.out
  have hms12_1 := NB568_567.out
  refine skip_ (w1 := ?_) (by rfl) rfl ?_ ?_
  rotate_left
  ·
   go_simp
   rfl
  refine hK.out _ _ ⟨((cell_far (p := ⟨gb568, _, none⟩) NB566_568.out _).trans (((cell_far (p := ⟨gb568, _, none⟩) NB566_568.out _).trans (hHeld.1)))), ((cell_far (p := ⟨gb568, _, none⟩) NB566_568.out _).trans (((cell_far (p := ⟨gb568, _, none⟩) NB566_568.out _).trans (hHeld.2.1)))), ((cell_far (p := ⟨gb568, _, none⟩) NB567_568.out _).trans (((cell_far (p := ⟨gb568, _, none⟩) NB567_568.out _).trans (hHeld.2.2.1)))), ((cell_far (p := ⟨gb568, _, none⟩) NB567_568.out _).trans (((cell_far (p := ⟨gb568, _, none⟩) NB567_568.out _).trans (hHeld.2.2.2))))⟩ (fun hHeld => ?_)
  clear hK K
  refine done_ (by kernel_rfl) ?_
  try go_wp2
  refine bodyPost_ret (results_cell_row rfl _ _ gb568 23 #[.int .i64 t571, .int .i64 t572] (0, 0) _ rfl (by refine pkB ?_; refine blk_put (cs := #[.int .i64 t571, .int .i64 0]) ?_ 1 _ (by first | rfl | (subst_vars; rfl)); refine pkB ?_; refine blk_put (cs := #[.int .i64 0, .int .i64 0]) ?_ 0 _ (by first | rfl | (subst_vars; rfl)); refine pkB ?_; exact BK568.out) Try.underlying23 rfl (by kernel_rfl)) rfl ?_
  exact ⟨by first | rfl | (simp [errW_none, errW_some] <;> rfl) | (simp [*, errW_none, errW_some] <;> rfl) | kernel_rfl, by repeat (first | (with_reducible first | exact HB.out | apply below_alloc | apply pw_below_drewN | apply below_drew1 | refine below_set ?_ GE566.out | refine below_set ?_ GE567.out | refine below_set ?_ GE568.out) | exact HB.out)⟩
def itv_hull.f (a0_0 : Int) (a0_1 : Int) (a0_2 : Int) (a0_3 : Int) : Option (Int × Int) := (itv_Of.f (mn (mn (mn a0_0 a0_1) a0_2) a0_3) (mx (mx (mx a0_0 a0_1) a0_2) a0_3)).bind fun bt575 => (some (bt575.1, bt575.2))
set_option maxHeartbeats 8000000 in
set_option maxRecDepth 100000 in
theorem itv_hull.calls (a0_0 : Int) (a0_1 : Int) (a0_2 : Int) (a0_3 : Int) (r1 : Int) (r2 : Int) (w : World) (h : itv_hull.f a0_0 a0_1 a0_2 a0_3 = some (r1, r2)) :
    Calls Try.prog 78 #[.agg #[.int .i64 a0_0, .int .i64 a0_1, .int .i64 a0_2, .int .i64 a0_3]] w fun e w' => e = .returned (.agg #[.int .i64 r1, .int .i64 r2]) ∧ Below w.heap.size w w' := by
  have hu60 := Try.underlying60
  have hu23 := Try.underlying23
  have hix60_0 : ∀ (y0_ : Int) (y1_ : Int) (y2_ : Int) (y3_ : Int) (W : World), (Instr.index 60 (.agg #[.int .i64 y0_, .int .i64 y1_, .int .i64 y2_, .int .i64 y3_]) (.int .i64 0)).run Try.prog W = .ok (.int .i64 y0_) W := fun _ _ _ _ _ => by kernel_rfl
  have hix60_1 : ∀ (y0_ : Int) (y1_ : Int) (y2_ : Int) (y3_ : Int) (W : World), (Instr.index 60 (.agg #[.int .i64 y0_, .int .i64 y1_, .int .i64 y2_, .int .i64 y3_]) (.int .i64 1)).run Try.prog W = .ok (.int .i64 y1_) W := fun _ _ _ _ _ => by kernel_rfl
  have hix60_2 : ∀ (y0_ : Int) (y1_ : Int) (y2_ : Int) (y3_ : Int) (W : World), (Instr.index 60 (.agg #[.int .i64 y0_, .int .i64 y1_, .int .i64 y2_, .int .i64 y3_]) (.int .i64 2)).run Try.prog W = .ok (.int .i64 y2_) W := fun _ _ _ _ _ => by kernel_rfl
  have hix60_3 : ∀ (y0_ : Int) (y1_ : Int) (y2_ : Int) (y3_ : Int) (W : World), (Instr.index 60 (.agg #[.int .i64 y0_, .int .i64 y1_, .int .i64 y2_, .int .i64 y3_]) (.int .i64 3)).run Try.prog W = .ok (.int .i64 y3_) W := fun _ _ _ _ _ => by kernel_rfl
  have HB := Aside0.mk (Below.refl w.heap.size w)
  have H : ((itv_Of.f (mn (mn (mn a0_0 a0_1) a0_2) a0_3) (mx (mx (mx a0_0 a0_1) a0_2) a0_3)).bind fun bt575 => (some (bt575.1, bt575.2))) = some (r1, r2) := h
  clear h
  have HC2 := Aside0.mk H
  clear H
  go_enter Try.func78, Try.ntmps78
  go_wp2_with (first | ((with_reducible refine gate_dst (N := 1) rfl ?_); refine box_event ?hg (N := 1) ?hd (cs := #[.int .i64 a0_0, .int .i64 a0_1, .int .i64 a0_2, .int .i64 a0_3]) (t := 60) ?hr ?_; (case hd => rfl); (case hg => rfl); (case hr => first | (go_simp; done) | (go_simp; rfl)); intro gb573 hg w3 hbox hb; have n0_ := bst HB hb; have n1_ := Aside0.mk (hbox); have n2_ := bsz HB hg; have n3_ := bsz HB hg; clear HB; have HB := n0_; have BK573 := n1_; have GW573 := n2_; have GE573 := n3_; clear n0_ n1_ n2_ n3_; clear hb hbox hg) | ((with_reducible refine gate_dst (N := 2) rfl ?_); refine box_event ?hg (N := 2) ?hd (cs := #[.int .i64 0, .int .i64 0]) (t := 23) ?hr ?_; (case hd => rfl); (case hg => rfl); (case hr => first | (go_simp; done) | (go_simp; rfl)); intro gb574 hg w4 hbox hb; have n0_ := bst HB hb; have n1_ := Aside0.mk (hbox); have n2_ := bsz HB hg; have n3_ := bsz HB hg; have n4_ := bn1 BK573 hg; have n5_ := bn2 BK573 hg; replace BK573 := bbw BK573 hb; clear HB; have HB := n0_; have BK574 := n1_; have GW574 := n2_; have GE574 := n3_; have NB573_574 := n4_; have NB574_573 := n5_; clear n0_ n1_ n2_ n3_ n4_ n5_; clear hb hbox hg; have hnb5 := NB573_574.out; have hnc5 := NB574_573.out; have hcz6_0 := hcz BK573 0; have hcz6_1 := hcz BK573 1; have hcz6_2 := hcz BK573 2; have hcz6_3 := hcz BK573 3; have hfz6_0 := blk_frozen BK573.out 0; have hfz6_1 := blk_frozen BK573.out 1; have hfz6_2 := blk_frozen BK573.out 2; have hfz6_3 := blk_frozen BK573.out 3))
  repeat (go_quiet (first | ((with_reducible refine gate_dst (N := 1) rfl ?_); refine box_event ?hg (N := 1) ?hd (cs := #[.int .i64 a0_0, .int .i64 a0_1, .int .i64 a0_2, .int .i64 a0_3]) (t := 60) ?hr ?_; (case hd => rfl); (case hg => rfl); (case hr => first | (go_simp; done) | (go_simp; rfl)); intro gb573 hg w3 hbox hb; have n0_ := bst HB hb; have n1_ := Aside0.mk (hbox); have n2_ := bsz HB hg; have n3_ := bsz HB hg; clear HB; have HB := n0_; have BK573 := n1_; have GW573 := n2_; have GE573 := n3_; clear n0_ n1_ n2_ n3_; clear hb hbox hg) | ((with_reducible refine gate_dst (N := 2) rfl ?_); refine box_event ?hg (N := 2) ?hd (cs := #[.int .i64 0, .int .i64 0]) (t := 23) ?hr ?_; (case hd => rfl); (case hg => rfl); (case hr => first | (go_simp; done) | (go_simp; rfl)); intro gb574 hg w4 hbox hb; have n0_ := bst HB hb; have n1_ := Aside0.mk (hbox); have n2_ := bsz HB hg; have n3_ := bsz HB hg; have n4_ := bn1 BK573 hg; have n5_ := bn2 BK573 hg; replace BK573 := bbw BK573 hb; clear HB; have HB := n0_; have BK574 := n1_; have GW574 := n2_; have GE574 := n3_; have NB573_574 := n4_; have NB574_573 := n5_; clear n0_ n1_ n2_ n3_ n4_ n5_; clear hb hbox hg; have hnb5 := NB573_574.out; have hnc5 := NB574_573.out; have hcz6_0 := hcz BK573 0; have hcz6_1 := hcz BK573 1; have hcz6_2 := hcz BK573 2; have hcz6_3 := hcz BK573 3; have hfz6_0 := blk_frozen BK573.out 0; have hfz6_1 := blk_frozen BK573.out 1; have hfz6_2 := blk_frozen BK573.out 2; have hfz6_3 := blk_frozen BK573.out 3)); try go_wp2_with (first | ((with_reducible refine gate_dst (N := 1) rfl ?_); refine box_event ?hg (N := 1) ?hd (cs := #[.int .i64 a0_0, .int .i64 a0_1, .int .i64 a0_2, .int .i64 a0_3]) (t := 60) ?hr ?_; (case hd => rfl); (case hg => rfl); (case hr => first | (go_simp; done) | (go_simp; rfl)); intro gb573 hg w3 hbox hb; have n0_ := bst HB hb; have n1_ := Aside0.mk (hbox); have n2_ := bsz HB hg; have n3_ := bsz HB hg; clear HB; have HB := n0_; have BK573 := n1_; have GW573 := n2_; have GE573 := n3_; clear n0_ n1_ n2_ n3_; clear hb hbox hg) | ((with_reducible refine gate_dst (N := 2) rfl ?_); refine box_event ?hg (N := 2) ?hd (cs := #[.int .i64 0, .int .i64 0]) (t := 23) ?hr ?_; (case hd => rfl); (case hg => rfl); (case hr => first | (go_simp; done) | (go_simp; rfl)); intro gb574 hg w4 hbox hb; have n0_ := bst HB hb; have n1_ := Aside0.mk (hbox); have n2_ := bsz HB hg; have n3_ := bsz HB hg; have n4_ := bn1 BK573 hg; have n5_ := bn2 BK573 hg; replace BK573 := bbw BK573 hb; clear HB; have HB := n0_; have BK574 := n1_; have GW574 := n2_; have GE574 := n3_; have NB573_574 := n4_; have NB574_573 := n5_; clear n0_ n1_ n2_ n3_ n4_ n5_; clear hb hbox hg; have hnb5 := NB573_574.out; have hnc5 := NB574_573.out; have hcz6_0 := hcz BK573 0; have hcz6_1 := hcz BK573 1; have hcz6_2 := hcz BK573 2; have hcz6_3 := hcz BK573 3; have hfz6_0 := blk_frozen BK573.out 0; have hfz6_1 := blk_frozen BK573.out 1; have hfz6_2 := blk_frozen BK573.out 2; have hfz6_3 := blk_frozen BK573.out 3)))
  refine loop_looped ?_
  refine looped_round (fun K_ hK_ => ?_)
  have H := HC2.out
  clear HC2
  try clear p2
  try clear c5
  try clear hcz6_0
  try clear hcz6_1
  try clear hcz6_2
  try clear hcz6_3
  try clear hfz6_0
  try clear hfz6_1
  try clear hfz6_2
  try clear hfz6_3
  have HC7 := Aside0.mk H
  clear H
  go_wp2
  repeat (go_quiet (fail); try go_wp2)
  refine looped_round (fun K_ hK_ => ?_)
  have H := HC7.out
  clear HC7
  try clear p2
  try clear c5
  try clear c7
  try clear hcz6_0
  try clear hcz6_1
  try clear hcz6_2
  try clear hcz6_3
  try clear hfz6_0
  try clear hfz6_1
  try clear hfz6_2
  try clear hfz6_3
  try clear p2
  obtain ⟨ji8, hji8⟩ : ∃ j_ : Int, (mn a0_0 a0_1) = j_ := ⟨_, rfl⟩
  replace H : ((itv_Of.f (mn (mn (ji8) a0_2) a0_3) (mx (mx (mx a0_0 a0_1) a0_2) a0_3)).bind fun bt575 => (some (bt575.1, bt575.2))) = some (r1, r2) := by first | (rw [hji8] at H; exact H) | (simp only [hji8] at H ⊢; exact H)
  have hji8_ : (if a0_1 < a0_0 then a0_1 else a0_0) = ji8 := hji8
  obtain ⟨ji9, hji9⟩ : ∃ j_ : Int, (mx a0_0 a0_1) = j_ := ⟨_, rfl⟩
  replace H : ((itv_Of.f (mn (mn (ji8) a0_2) a0_3) (mx (mx (ji9) a0_2) a0_3)).bind fun bt575 => (some (bt575.1, bt575.2))) = some (r1, r2) := by first | (rw [hji9] at H; exact H) | (simp only [hji9] at H ⊢; exact H)
  have hji9_ : (if a0_0 < a0_1 then a0_1 else a0_0) = ji9 := hji9
  have HC10 := Aside0.mk H
  clear H
  go_wp2
  repeat (go_quiet (fail); try go_wp2)
  refine looped_round (fun K_ hK_ => ?_)
  have H := HC10.out
  clear HC10
  try clear p2
  try clear c5
  try clear c7
  try clear hcz6_0
  try clear hcz6_1
  try clear hcz6_2
  try clear hcz6_3
  try clear hfz6_0
  try clear hfz6_1
  try clear hfz6_2
  try clear hfz6_3
  try clear p2
  obtain ⟨ji11, hji11⟩ : ∃ j_ : Int, (mn (ji8) a0_2) = j_ := ⟨_, rfl⟩
  replace H : ((itv_Of.f (mn (ji11) a0_3) (mx (mx (ji9) a0_2) a0_3)).bind fun bt575 => (some (bt575.1, bt575.2))) = some (r1, r2) := by first | (rw [hji11] at H; exact H) | (simp only [hji11] at H ⊢; exact H)
  have hji11_ : (if a0_2 < (ji8) then a0_2 else (ji8)) = ji11 := hji11
  obtain ⟨ji12, hji12⟩ : ∃ j_ : Int, (mx (ji9) a0_2) = j_ := ⟨_, rfl⟩
  replace H : ((itv_Of.f (mn (ji11) a0_3) (mx (ji12) a0_3)).bind fun bt575 => (some (bt575.1, bt575.2))) = some (r1, r2) := by first | (rw [hji12] at H; exact H) | (simp only [hji12] at H ⊢; exact H)
  have hji12_ : (if (ji9) < a0_2 then a0_2 else (ji9)) = ji12 := hji12
  have HC13 := Aside0.mk H
  clear H
  go_wp2
  repeat (go_quiet (fail); try go_wp2)
  refine looped_round (fun K_ hK_ => ?_)
  have H := HC13.out
  clear HC13
  try clear p2
  try clear c5
  try clear c7
  try clear hcz6_0
  try clear hcz6_1
  try clear hcz6_2
  try clear hcz6_3
  try clear hfz6_0
  try clear hfz6_1
  try clear hfz6_2
  try clear hfz6_3
  try clear p2
  obtain ⟨ji14, hji14⟩ : ∃ j_ : Int, (mn (ji11) a0_3) = j_ := ⟨_, rfl⟩
  replace H : ((itv_Of.f (ji14) (mx (ji12) a0_3)).bind fun bt575 => (some (bt575.1, bt575.2))) = some (r1, r2) := by first | (rw [hji14] at H; exact H) | (simp only [hji14] at H ⊢; exact H)
  have hji14_ : (if a0_3 < (ji11) then a0_3 else (ji11)) = ji14 := hji14
  obtain ⟨ji15, hji15⟩ : ∃ j_ : Int, (mx (ji12) a0_3) = j_ := ⟨_, rfl⟩
  replace H : ((itv_Of.f (ji14) (ji15)).bind fun bt575 => (some (bt575.1, bt575.2))) = some (r1, r2) := by first | (rw [hji15] at H; exact H) | (simp only [hji15] at H ⊢; exact H)
  have hji15_ : (if (ji12) < a0_3 then a0_3 else (ji12)) = ji15 := hji15
  have HC16 := Aside0.mk H
  clear H
  go_wp2
  repeat (go_quiet (fail); try go_wp2)
  refine looped_round (fun K_ hK_ => ?_)
  have H := HC16.out
  clear HC16
  try clear p2
  try clear c5
  try clear c7
  try clear hcz6_0
  try clear hcz6_1
  try clear hcz6_2
  try clear hcz6_3
  try clear hfz6_0
  try clear hfz6_1
  try clear hfz6_2
  try clear hfz6_3
  try clear p2
  replace H := Option.bind_eq_some_iff.mp H
  obtain ⟨⟨t575, t576⟩, A170, H⟩ := H
  replace H : (some (t575, t576)) = some (r1, r2) := H
  have A17 := Aside0.mk A170
  clear A170
  simp only [Option.some.injEq, Prod.mk.injEq] at H
  obtain ⟨rfl, rfl⟩ := H
  go_wp2_with (first | (go_at_call 13; (with_reducible refine (itv_Of.calls ji14 ji15 t575 t576 _ A17.out).mono ?_); rintro e w18 ⟨rfl, hb⟩; have n0_ := bst HB hb; replace BK573 := bbw BK573 hb; replace BK574 := bbw BK574 hb; clear HB; have HB := n0_; clear n0_; (try clear hb); (try clear hb2); (try clear hk); (try clear hi); have hnb19 := NB574_573.out; have hnc19 := NB573_574.out; have hcz20_0 := hcz BK574 0; have hcz20_1 := hcz BK574 1; have hfz20_0 := blk_frozen BK574.out 0; have hfz20_1 := blk_frozen BK574.out 1))
  repeat (go_quiet (first | (go_at_call 13; (with_reducible refine (itv_Of.calls ji14 ji15 t575 t576 _ A17.out).mono ?_); rintro e w18 ⟨rfl, hb⟩; have n0_ := bst HB hb; replace BK573 := bbw BK573 hb; replace BK574 := bbw BK574 hb; clear HB; have HB := n0_; clear n0_; (try clear hb); (try clear hb2); (try clear hk); (try clear hi); have hnb19 := NB574_573.out; have hnc19 := NB573_574.out; have hcz20_0 := hcz BK574 0; have hcz20_1 := hcz BK574 1; have hfz20_0 := blk_frozen BK574.out 0; have hfz20_1 := blk_frozen BK574.out 1)); try go_wp2_with (first | (go_at_call 13; (with_reducible refine (itv_Of.calls ji14 ji15 t575 t576 _ A17.out).mono ?_); rintro e w18 ⟨rfl, hb⟩; have n0_ := bst HB hb; replace BK573 := bbw BK573 hb; replace BK574 := bbw BK574 hb; clear HB; have HB := n0_; clear n0_; (try clear hb); (try clear hb2); (try clear hk); (try clear hi); have hnb19 := NB574_573.out; have hnc19 := NB573_574.out; have hcz20_0 := hcz BK574 0; have hcz20_1 := hcz BK574 1; have hfz20_0 := blk_frozen BK574.out 0; have hfz20_1 := blk_frozen BK574.out 1)))
  refine bodyPost_ret (results_cell_row rfl _ _ gb574 23 #[.int .i64 t575, .int .i64 t576] (0, 0) _ rfl (by refine pkB ?_; refine blk_put (cs := #[.int .i64 t575, .int .i64 0]) ?_ 1 _ (by first | rfl | (subst_vars; rfl)); refine pkB ?_; refine blk_put (cs := #[.int .i64 0, .int .i64 0]) ?_ 0 _ (by first | rfl | (subst_vars; rfl)); refine pkB ?_; exact BK574.out) Try.underlying23 rfl (by kernel_rfl)) rfl ?_
  exact ⟨by first | rfl | (simp [errW_none, errW_some] <;> rfl) | (simp only [← hji8, ← hji9, ← hji11, ← hji12, ← hji14, ← hji15]; first | rfl | (simp [errW_none, errW_some] <;> rfl)) | (simp [*, errW_none, errW_some] <;> rfl) | kernel_rfl, by repeat (first | (with_reducible first | exact HB.out | apply below_alloc | apply pw_below_drewN | apply below_drew1 | refine below_set ?_ GE573.out | refine below_set ?_ GE574.out) | exact HB.out)⟩
def bits_Mul64.f (a0 : Int) (a1 : Int) : Option (Int × Int) := some (IntKind.u64.wrap ((IntKind.u64.wrap ((IntKind.u64.wrap ((a0 / 4294967296) * (a1 / 4294967296))) + ((IntKind.u64.wrap ((IntKind.u64.wrap ((a0 / 4294967296) * (Go.bits .and .u64 a1 4294967295))) + ((IntKind.u64.wrap ((Go.bits .and .u64 a0 4294967295) * (Go.bits .and .u64 a1 4294967295))) / 4294967296))) / 4294967296))) + ((IntKind.u64.wrap ((Go.bits .and .u64 (IntKind.u64.wrap ((IntKind.u64.wrap ((a0 / 4294967296) * (Go.bits .and .u64 a1 4294967295))) + ((IntKind.u64.wrap ((Go.bits .and .u64 a0 4294967295) * (Go.bits .and .u64 a1 4294967295))) / 4294967296))) 4294967295) + (IntKind.u64.wrap ((Go.bits .and .u64 a0 4294967295) * (a1 / 4294967296))))) / 4294967296)), IntKind.u64.wrap (a0 * a1))
set_option maxHeartbeats 8000000 in
set_option maxRecDepth 100000 in
theorem bits_Mul64.calls (a0 : Int) (a1 : Int) (r1 : Int) (r2 : Int) (w : World) (h : bits_Mul64.f a0 a1 = some (r1, r2)) :
    Calls Try.prog 95 #[.int .u64 a0, .int .u64 a1] w fun e w' => e = .returned (.tuple #[.int .u64 r1, .int .u64 r2]) ∧ Drawn0 w w' := by
  have H : (some (IntKind.u64.wrap ((IntKind.u64.wrap ((IntKind.u64.wrap ((a0 / 4294967296) * (a1 / 4294967296))) + ((IntKind.u64.wrap ((IntKind.u64.wrap ((a0 / 4294967296) * (Go.bits .and .u64 a1 4294967295))) + ((IntKind.u64.wrap ((Go.bits .and .u64 a0 4294967295) * (Go.bits .and .u64 a1 4294967295))) / 4294967296))) / 4294967296))) + ((IntKind.u64.wrap ((Go.bits .and .u64 (IntKind.u64.wrap ((IntKind.u64.wrap ((a0 / 4294967296) * (Go.bits .and .u64 a1 4294967295))) + ((IntKind.u64.wrap ((Go.bits .and .u64 a0 4294967295) * (Go.bits .and .u64 a1 4294967295))) / 4294967296))) 4294967295) + (IntKind.u64.wrap ((Go.bits .and .u64 a0 4294967295) * (a1 / 4294967296))))) / 4294967296)), IntKind.u64.wrap (a0 * a1))) = some (r1, r2) := h
  clear h
  simp only [Option.some.injEq, Prod.mk.injEq] at H
  obtain ⟨rfl, rfl⟩ := H
  go_enter Try.func95, Try.ntmps95
  go_wp2
  go_ret2
  exact ⟨by first | rfl | (simp; done) | (simp [*]; done), by repeat (first | exact Drawn0.refl _ | apply Drawn0.step)⟩
def bound_size.f (a0 : Int) : Option (Int) := if a0 < 0 then (some (IntKind.u64.wrap (wrap64 (-a0)))) else (some (IntKind.u64.wrap (a0)))
set_option maxHeartbeats 8000000 in
set_option maxRecDepth 100000 in
theorem bound_size.calls (a0 : Int) (r : Int) (w : World) (h : bound_size.f a0 = some r) :
    Calls Try.prog 96 #[.int .i64 a0] w fun e w' => e = .returned (.int .u64 r) ∧ Drawn0 w w' := by
  have H : (if a0 < 0 then (some (IntKind.u64.wrap (wrap64 (-a0)))) else (some (IntKind.u64.wrap (a0)))) = some r := h
  clear h
  by_cases c2 : a0 < 0
  ·
   rw [if_pos c2] at H
   have c2b0 : decide (a0 < 0) = true := decide_eq_true c2
   clear c2
   obtain rfl := Option.some.inj H
   go_enter Try.func96, Try.ntmps96
   go_wp2
   go_ret
   exact ⟨by first | rfl | (simp; done) | (simp [*]; done), by repeat (first | exact Drawn0.refl _ | apply Drawn0.step)⟩
  ·
   rw [if_neg c2] at H
   have c2b0 : decide (a0 < 0) = false := decide_eq_false c2
   clear c2
   obtain rfl := Option.some.inj H
   go_enter Try.func96, Try.ntmps96
   go_wp2
   go_ret
   exact ⟨by first | rfl | (simp; done) | (simp [*]; done), by repeat (first | exact Drawn0.refl _ | apply Drawn0.step)⟩
end Go.Proofs.Ytbbnpipmjadpoaa.P
