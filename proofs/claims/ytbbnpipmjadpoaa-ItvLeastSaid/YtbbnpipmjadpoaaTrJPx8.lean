/- What the law's proof needs of Px8. -/
import Derived.Test.YtbbnpipmjadpoaaTrJU2
import Derived.Test.YtbbnpipmjadpoaaTrJU
import Derived.Test.YtbbnpipmjadpoaaTrJPx0
import Derived.Test.YtbbnpipmjadpoaaTrJPx3
-- PRINTED by print.py (a twelfth state) out of the translation. Not trusted: Lean checks it.
namespace Go.Proofs.Ytbbnpipmjadpoaa.P
open Go.RowKit Go.Proofs.YtbbnpipmjadpoaaW.PrintWords Go.Proofs.YtbbnpipmjadpoaaW.PrintLast Go.Proofs.YtbbnpipmjadpoaaW.PrintMore Go.Proofs.YtbbnpipmjadpoaaO
attribute [local go_sem] max2_int min2_int max_two min_two max_three min_three max_four min_four   -- for this text's walks alone
set_option linter.unusedVariables false
set_option linter.unusedSimpArgs false
def itv_Join.f (a0_0 : Int) (a0_1 : Int) (a1_0 : Int) (a1_1 : Int) : Option (Int × Int) := (itv_sound.f a0_0 a0_1).bind fun bt180 => ((itv_sound.f a1_0 a1_1).bind fun bt182 => ((itv_None.f bt180.1 bt180.2).bind fun t184 => (if t184 = true then (some (bt182.1, bt182.2)) else ((itv_None.f bt182.1 bt182.2).bind fun t185 => (if t185 = true then (some (bt180.1, bt180.2)) else (some (mn bt180.1 bt182.1, mx bt180.2 bt182.2)))))))
set_option maxHeartbeats 8000000 in
set_option maxRecDepth 100000 in
theorem itv_Join.calls (a0_0 : Int) (a0_1 : Int) (a1_0 : Int) (a1_1 : Int) (r1 : Int) (r2 : Int) (w : World) (h : itv_Join.f a0_0 a0_1 a1_0 a1_1 = some (r1, r2)) :
    Calls Try.prog 26 #[.agg #[.int .i64 a0_0, .int .i64 a0_1], .agg #[.int .i64 a1_0, .int .i64 a1_1]] w fun e w' => e = .returned (.agg #[.int .i64 r1, .int .i64 r2]) ∧ Below w.heap.size w w' := by
  have hu23 := Try.underlying23
  have HB := Aside0.mk (Below.refl w.heap.size w)
  have H : ((itv_sound.f a0_0 a0_1).bind fun bt180 => ((itv_sound.f a1_0 a1_1).bind fun bt182 => ((itv_None.f bt180.1 bt180.2).bind fun t184 => (if t184 = true then (some (bt182.1, bt182.2)) else ((itv_None.f bt182.1 bt182.2).bind fun t185 => (if t185 = true then (some (bt180.1, bt180.2)) else (some (mn bt180.1 bt182.1, mx bt180.2 bt182.2)))))))) = some (r1, r2) := h
  clear h
  replace H := Option.bind_eq_some_iff.mp H
  obtain ⟨⟨t180, t181⟩, A30, H⟩ := H
  replace H : ((itv_sound.f a1_0 a1_1).bind fun bt182 => ((itv_None.f t180 t181).bind fun t184 => (if t184 = true then (some (bt182.1, bt182.2)) else ((itv_None.f bt182.1 bt182.2).bind fun t185 => (if t185 = true then (some (t180, t181)) else (some (mn t180 bt182.1, mx t181 bt182.2))))))) = some (r1, r2) := H
  have A3 := Aside0.mk A30
  clear A30
  replace H := Option.bind_eq_some_iff.mp H
  obtain ⟨⟨t182, t183⟩, A40, H⟩ := H
  replace H : ((itv_None.f t180 t181).bind fun t184 => (if t184 = true then (some (t182, t183)) else ((itv_None.f t182 t183).bind fun t185 => (if t185 = true then (some (t180, t181)) else (some (mn t180 t182, mx t181 t183)))))) = some (r1, r2) := H
  have A4 := Aside0.mk A40
  clear A40
  replace H := Option.bind_eq_some_iff.mp H
  obtain ⟨t184, A50, H⟩ := H
  replace H : (if t184 = true then (some (t182, t183)) else ((itv_None.f t182 t183).bind fun t185 => (if t185 = true then (some (t180, t181)) else (some (mn t180 t182, mx t181 t183))))) = some (r1, r2) := H
  have A5 := Aside0.mk A50
  clear A50
  by_cases c6 : t184 = true
  ·
   subst c6
   have H1 : (some (t182, t183)) = some (r1, r2) := by rw [if_pos rfl] at H; exact H
   clear H
   have H := H1
   clear H1
   simp only [Option.some.injEq, Prod.mk.injEq] at H
   obtain ⟨rfl, rfl⟩ := H
   go_enter Try.func26, Try.ntmps26
   try go_wp2_with (first | ((with_reducible refine gate_dst (N := 2) rfl ?_); refine box_event ?hg (N := 2) ?hd (cs := #[.int .i64 a0_0, .int .i64 a0_1]) (t := 23) ?hr ?_; (case hd => rfl); (case hg => rfl); (case hr => first | (go_simp; done) | (go_simp; rfl)); intro gb177 hg w7 hbox hb; have n0_ := bst HB hb; have n1_ := Aside0.mk (hbox); have n2_ := bsz HB hg; have n3_ := bsz HB hg; clear HB; have HB := n0_; have BK177 := n1_; have GW177 := n2_; have GE177 := n3_; clear n0_ n1_ n2_ n3_; clear hb hbox hg) | ((with_reducible refine gate_dst (N := 3) rfl ?_); refine box_event ?hg (N := 3) ?hd (cs := #[.int .i64 a1_0, .int .i64 a1_1]) (t := 23) ?hr ?_; (case hd => rfl); (case hg => rfl); (case hr => first | (go_simp; done) | (go_simp; rfl)); intro gb178 hg w8 hbox hb; have n0_ := bst HB hb; have n1_ := Aside0.mk (hbox); have n2_ := bsz HB hg; have n3_ := bsz HB hg; have n4_ := bn1 BK177 hg; have n5_ := bn2 BK177 hg; replace BK177 := bbw BK177 hb; clear HB; have HB := n0_; have BK178 := n1_; have GW178 := n2_; have GE178 := n3_; have NB177_178 := n4_; have NB178_177 := n5_; clear n0_ n1_ n2_ n3_ n4_ n5_; clear hb hbox hg) | ((with_reducible refine gate_dst (N := 4) rfl ?_); refine box_event ?hg (N := 4) ?hd (cs := #[.int .i64 0, .int .i64 0]) (t := 23) ?hr ?_; (case hd => rfl); (case hg => rfl); (case hr => first | (go_simp; done) | (go_simp; rfl)); intro gb179 hg w9 hbox hb; have n0_ := bst HB hb; have n1_ := Aside0.mk (hbox); have n2_ := bsz HB hg; have n3_ := bsz HB hg; have n4_ := bn1 BK177 hg; have n5_ := bn2 BK177 hg; have n6_ := bn1 BK178 hg; have n7_ := bn2 BK178 hg; replace BK177 := bbw BK177 hb; replace BK178 := bbw BK178 hb; clear HB; have HB := n0_; have BK179 := n1_; have GW179 := n2_; have GE179 := n3_; have NB177_179 := n4_; have NB179_177 := n5_; have NB178_179 := n6_; have NB179_178 := n7_; clear n0_ n1_ n2_ n3_ n4_ n5_ n6_ n7_; clear hb hbox hg))
   have n0_ := Aside0.mk (blk_drew BK177.out)
   have n1_ := Aside0.mk (blk_drew BK178.out)
   have n2_ := Aside0.mk (blk_drew BK179.out)
   have n3_ := Aside0.mk (below_drew1 HB.out)
   clear BK177
   clear BK178
   clear BK179
   clear HB
   have BK177 := n0_
   have BK178 := n1_
   have BK179 := n2_
   have HB := n3_
   clear n0_ n1_ n2_ n3_
   refine start_ (n := 6) (S := fun w' => w'.cell? ⟨gb177, 0, none⟩ = some (.int .i64 a0_0) ∧ w'.cell? ⟨gb177, 1, none⟩ = some (.int .i64 a0_1) ∧ w'.cell? ⟨gb178, 0, none⟩ = some (.int .i64 a1_0) ∧ w'.cell? ⟨gb178, 1, none⟩ = some (.int .i64 a1_1)) (ds := [4, 5]) #[false, false, false, false, false, false] (by kernel_rfl) rfl rfl ⟨hcz BK177 0, hcz BK177 1, hcz BK178 0, hcz BK178 1⟩ (fun hHeld => ?_)
   generalize w9.drew = w10 at BK177 BK178 BK179 HB hHeld ⊢
   refine take_ (i := 0) (N := some 5) (v := ?_) (a' := ?_) #[true, false, false, false, false, false] rfl rfl (by kernel_rfl) (fun _ _ _ h => h) (Or.inl ⟨by rfl, ?_⟩) hHeld ?_ ?_
   rotate_left
   ·
    rintro w' ⟨s0, s1, s2, s3⟩
    go_simp
    with_reducible rfl
   rotate_left
   ·
    simp only [Act.put, List.setIfInBounds_toArray, List.set_cons_zero, List.set_cons_succ, i64_w, i32_w]
    rfl
   refine take_ (i := 2) (N := some 7) (v := ?_) (a' := ?_) #[true, false, true, false, false, false] rfl rfl (by kernel_rfl) (fun _ _ _ h => h) (Or.inl ⟨by rfl, ?_⟩) hHeld ?_ ?_
   rotate_left
   ·
    rintro w' ⟨s0, s1, s2, s3⟩
    go_simp
    with_reducible rfl
   rotate_left
   ·
    simp only [Act.put, List.setIfInBounds_toArray, List.set_cons_zero, List.set_cons_succ, i64_w, i32_w]
    rfl
   refine one_ (i := 1) (N := some 6) #[true, true, true, false, false, false] rfl rfl (by kernel_rfl) (by decide) (fun K hK => ?_)
   refine goesQ Try.func59 #[.agg #[.int .i64 a0_0, .int .i64 a0_1]] ?_
   with_reducible refine (itv_sound.calls a0_0 a0_1 t180 t181 _ A3.out).mono ?_
   rintro e w11 ⟨rfl, hb⟩
   refine ⟨_, rfl, ?_⟩
   have n0_ := bst HB hb
   replace BK177 := bbw BK177 hb
   replace BK178 := bbw BK178 hb
   replace BK179 := bbw BK179 hb
   clear HB
   have HB := n0_
   clear n0_
   (try clear hb)
   (try clear hb2)
   (try clear hk)
   (try clear hi)
   refine hK.out _ _ ⟨hcz BK177 0, hcz BK177 1, hcz BK178 0, hcz BK178 1⟩ (fun hHeld => ?_)
   clear hK K
   refine normQ (N := 6) ?_
   refine one_ (i := 3) (N := some 8) #[true, true, true, true, false, false] rfl rfl (by kernel_rfl) (by decide) (fun K hK => ?_)
   refine goesQ Try.func59 #[.agg #[.int .i64 a1_0, .int .i64 a1_1]] ?_
   with_reducible refine (itv_sound.calls a1_0 a1_1 t182 t183 _ A4.out).mono ?_
   rintro e w12 ⟨rfl, hb⟩
   refine ⟨_, rfl, ?_⟩
   have n0_ := bst HB hb
   replace BK177 := bbw BK177 hb
   replace BK178 := bbw BK178 hb
   replace BK179 := bbw BK179 hb
   clear HB
   have HB := n0_
   clear n0_
   (try clear hb)
   (try clear hb2)
   (try clear hk)
   (try clear hi)
   refine hK.out _ _ ⟨hcz BK177 0, hcz BK177 1, hcz BK178 0, hcz BK178 1⟩ (fun hHeld => ?_)
   clear hK K
   refine normQ (N := 8) ?_
   refine last_ (i := 4) (N := none) #[true, true, true, true, true, false] rfl rfl (by kernel_rfl) (by decide) (fun K hK => ?_)
   have hs13 : w12.cell? ⟨gb177, 0, none⟩ = some (.int .i64 a0_0) := hcz BK177 0
   have hfs13 := blk_frozen BK177.out 0
   have hns13_1 := NB178_177.out
   have hns13_2 := NB179_177.out
   have hms13_1 := NB177_178.out
   have hms13_2 := NB177_179.out
   have hs14 : w12.cell? ⟨gb177, 1, none⟩ = some (.int .i64 a0_1) := hcz BK177 1
   have hfs14 := blk_frozen BK177.out 1
   have hns14_1 := NB178_177.out
   have hns14_2 := NB179_177.out
   have hms14_1 := NB177_178.out
   have hms14_2 := NB177_179.out
   refine skip_ (w1 := ?_) (by rfl) rfl ?_ ?_
   rotate_left
   ·
    go_simp
    rfl
   refine hK.out _ _ ?_
   clear hK K
   refine last_ (i := 5) (N := none) #[true, true, true, true, true, true] rfl rfl (by kernel_rfl) (by decide) (fun K hK => ?_)
   have hs15 : w12.cell? ⟨gb178, 0, none⟩ = some (.int .i64 a1_0) := hcz BK178 0
   have hfs15 := blk_frozen BK178.out 0
   have hns15_0 := NB177_178.out
   have hns15_2 := NB179_178.out
   have hms15_0 := NB178_177.out
   have hms15_2 := NB178_179.out
   have hs16 : w12.cell? ⟨gb178, 1, none⟩ = some (.int .i64 a1_1) := hcz BK178 1
   have hfs16 := blk_frozen BK178.out 1
   have hns16_0 := NB177_178.out
   have hns16_2 := NB179_178.out
   have hms16_0 := NB178_177.out
   have hms16_2 := NB178_179.out
   refine skip_ (w1 := ?_) (by rfl) rfl ?_ ?_
   rotate_left
   ·
    go_simp
    rfl
   refine hK.out _ _ ?_
   clear hK K
   refine done_ (by kernel_rfl) ?_
   have hnb17 := NB177_178.out
   have hnc17 := NB178_177.out
   have hnb18 := NB177_179.out
   have hnc18 := NB179_177.out
   have hcz19_0 := hcz BK177 0
   have hcz19_1 := hcz BK177 1
   have hfz19_0 := blk_frozen BK177.out 0
   have hfz19_1 := blk_frozen BK177.out 1
   try go_wp2_with (first | ((with_reducible refine gate_callee (f := 21) rfl ?_); refine goesL_ (some 11) rfl rfl Try.func21 (by kernel_rfl) rfl #[.agg #[.int .i64 t180, .int .i64 t181]] rfl (by (try simp only [List.map_toArray, List.map_cons, List.map_nil]); first | done | rfl | (simp only [List.length_drop, List.length_take]; rfl)) ?_; (with_reducible refine (itv_None.calls t180 t181 true _ A5.out).mono ?_); rintro e w20 ⟨rfl, hb⟩; refine ⟨_, rfl, ?_⟩; have n0_ := Aside0.mk (blk_below (g := gb177) (o := .cells #[.int .i64 t180, .int .i64 t181] 23 (0, 0)) (by refine pkB ?_; refine blk_far ?_ NB177_178.out _; refine pkB ?_; refine blk_far ?_ NB177_178.out _; refine pkB ?_; refine blk_put (cs := #[.int .i64 t180, .int .i64 a0_1]) ?_ 1 _ (by first | rfl | (subst_vars; rfl)); refine pkB ?_; refine blk_put (cs := #[.int .i64 a0_0, .int .i64 a0_1]) ?_ 0 _ (by first | rfl | (subst_vars; rfl)); refine pkB ?_; exact BK177.out) hb); have n1_ := Aside0.mk (blk_below (g := gb178) (o := .cells #[.int .i64 t182, .int .i64 t183] 23 (0, 0)) (by refine pkB ?_; refine blk_put (cs := #[.int .i64 t182, .int .i64 a1_1]) ?_ 1 _ (by first | rfl | (subst_vars; rfl)); refine pkB ?_; refine blk_put (cs := #[.int .i64 a1_0, .int .i64 a1_1]) ?_ 0 _ (by first | rfl | (subst_vars; rfl)); refine pkB ?_; refine blk_far ?_ NB178_177.out _; refine pkB ?_; refine blk_far ?_ NB178_177.out _; refine pkB ?_; exact BK178.out) hb); have n2_ := Aside0.mk (blk_below (g := gb179) (o := .cells #[.int .i64 0, .int .i64 0] 23 (0, 0)) (by refine pkB ?_; refine blk_far ?_ NB179_178.out _; refine pkB ?_; refine blk_far ?_ NB179_178.out _; refine pkB ?_; refine blk_far ?_ NB179_177.out _; refine pkB ?_; refine blk_far ?_ NB179_177.out _; refine pkB ?_; exact BK179.out) hb); have n3_ := bst HB hb; clear BK177; clear BK178; clear BK179; clear HB; have BK177 := n0_; have BK178 := n1_; have BK179 := n2_; have HB := n3_; clear n0_ n1_ n2_ n3_; (try clear hb); (try clear hb2); (try clear hk); (try clear hi); have hnb21 := NB178_179.out; have hnc21 := NB179_178.out; have hcz22_0 := hcz BK178 0; have hcz22_1 := hcz BK178 1; have hfz22_0 := blk_frozen BK178.out 0; have hfz22_1 := blk_frozen BK178.out 1; have hcz23_0 := hcz BK179 0; have hcz23_1 := hcz BK179 1; have hfz23_0 := blk_frozen BK179.out 0; have hfz23_1 := blk_frozen BK179.out 1))
   refine bodyPost_ret (results_cell_row rfl _ _ gb179 23 #[.int .i64 t182, .int .i64 t183] (0, 0) _ rfl (by refine pkB ?_; refine blk_put (cs := #[.int .i64 t182, .int .i64 0]) ?_ 1 _ (by first | rfl | (subst_vars; rfl)); refine pkB ?_; refine blk_put (cs := #[.int .i64 0, .int .i64 0]) ?_ 0 _ (by first | rfl | (subst_vars; rfl)); refine pkB ?_; exact BK179.out) Try.underlying23 rfl (by kernel_rfl)) rfl ?_
   exact ⟨by first | rfl | (simp [errW_none, errW_some] <;> rfl) | (simp [*, errW_none, errW_some] <;> rfl) | kernel_rfl, by repeat (first | (with_reducible first | exact HB.out | apply below_alloc | apply pw_below_drewN | apply below_drew1 | refine below_set ?_ GE177.out | refine below_set ?_ GE178.out | refine below_set ?_ GE179.out) | exact HB.out)⟩
  ·
   replace c6 := Bool.eq_false_iff.mpr c6
   subst c6
   have H1 : ((itv_None.f t182 t183).bind fun t185 => (if t185 = true then (some (t180, t181)) else (some (mn t180 t182, mx t181 t183)))) = some (r1, r2) := by rw [if_neg (show ¬ (false = true) by decide)] at H; exact H
   clear H
   have H := H1
   clear H1
   replace H := Option.bind_eq_some_iff.mp H
   obtain ⟨t185, A240, H⟩ := H
   replace H : (if t185 = true then (some (t180, t181)) else (some (mn t180 t182, mx t181 t183))) = some (r1, r2) := H
   have A24 := Aside0.mk A240
   clear A240
   by_cases c25 : t185 = true
   ·
    subst c25
    have H1 : (some (t180, t181)) = some (r1, r2) := by rw [if_pos rfl] at H; exact H
    clear H
    have H := H1
    clear H1
    simp only [Option.some.injEq, Prod.mk.injEq] at H
    obtain ⟨rfl, rfl⟩ := H
    go_enter Try.func26, Try.ntmps26
    try go_wp2_with (first | ((with_reducible refine gate_dst (N := 2) rfl ?_); refine box_event ?hg (N := 2) ?hd (cs := #[.int .i64 a0_0, .int .i64 a0_1]) (t := 23) ?hr ?_; (case hd => rfl); (case hg => rfl); (case hr => first | (go_simp; done) | (go_simp; rfl)); intro gb177 hg w26 hbox hb; have n0_ := bst HB hb; have n1_ := Aside0.mk (hbox); have n2_ := bsz HB hg; have n3_ := bsz HB hg; clear HB; have HB := n0_; have BK177 := n1_; have GW177 := n2_; have GE177 := n3_; clear n0_ n1_ n2_ n3_; clear hb hbox hg) | ((with_reducible refine gate_dst (N := 3) rfl ?_); refine box_event ?hg (N := 3) ?hd (cs := #[.int .i64 a1_0, .int .i64 a1_1]) (t := 23) ?hr ?_; (case hd => rfl); (case hg => rfl); (case hr => first | (go_simp; done) | (go_simp; rfl)); intro gb178 hg w27 hbox hb; have n0_ := bst HB hb; have n1_ := Aside0.mk (hbox); have n2_ := bsz HB hg; have n3_ := bsz HB hg; have n4_ := bn1 BK177 hg; have n5_ := bn2 BK177 hg; replace BK177 := bbw BK177 hb; clear HB; have HB := n0_; have BK178 := n1_; have GW178 := n2_; have GE178 := n3_; have NB177_178 := n4_; have NB178_177 := n5_; clear n0_ n1_ n2_ n3_ n4_ n5_; clear hb hbox hg) | ((with_reducible refine gate_dst (N := 4) rfl ?_); refine box_event ?hg (N := 4) ?hd (cs := #[.int .i64 0, .int .i64 0]) (t := 23) ?hr ?_; (case hd => rfl); (case hg => rfl); (case hr => first | (go_simp; done) | (go_simp; rfl)); intro gb179 hg w28 hbox hb; have n0_ := bst HB hb; have n1_ := Aside0.mk (hbox); have n2_ := bsz HB hg; have n3_ := bsz HB hg; have n4_ := bn1 BK177 hg; have n5_ := bn2 BK177 hg; have n6_ := bn1 BK178 hg; have n7_ := bn2 BK178 hg; replace BK177 := bbw BK177 hb; replace BK178 := bbw BK178 hb; clear HB; have HB := n0_; have BK179 := n1_; have GW179 := n2_; have GE179 := n3_; have NB177_179 := n4_; have NB179_177 := n5_; have NB178_179 := n6_; have NB179_178 := n7_; clear n0_ n1_ n2_ n3_ n4_ n5_ n6_ n7_; clear hb hbox hg))
    have n0_ := Aside0.mk (blk_drew BK177.out)
    have n1_ := Aside0.mk (blk_drew BK178.out)
    have n2_ := Aside0.mk (blk_drew BK179.out)
    have n3_ := Aside0.mk (below_drew1 HB.out)
    clear BK177
    clear BK178
    clear BK179
    clear HB
    have BK177 := n0_
    have BK178 := n1_
    have BK179 := n2_
    have HB := n3_
    clear n0_ n1_ n2_ n3_
    refine start_ (n := 6) (S := fun w' => w'.cell? ⟨gb177, 0, none⟩ = some (.int .i64 a0_0) ∧ w'.cell? ⟨gb177, 1, none⟩ = some (.int .i64 a0_1) ∧ w'.cell? ⟨gb178, 0, none⟩ = some (.int .i64 a1_0) ∧ w'.cell? ⟨gb178, 1, none⟩ = some (.int .i64 a1_1)) (ds := [4, 5]) #[false, false, false, false, false, false] (by kernel_rfl) rfl rfl ⟨hcz BK177 0, hcz BK177 1, hcz BK178 0, hcz BK178 1⟩ (fun hHeld => ?_)
    generalize w28.drew = w29 at BK177 BK178 BK179 HB hHeld ⊢
    refine take_ (i := 0) (N := some 5) (v := ?_) (a' := ?_) #[true, false, false, false, false, false] rfl rfl (by kernel_rfl) (fun _ _ _ h => h) (Or.inl ⟨by rfl, ?_⟩) hHeld ?_ ?_
    rotate_left
    ·
     rintro w' ⟨s0, s1, s2, s3⟩
     go_simp
     with_reducible rfl
    rotate_left
    ·
     simp only [Act.put, List.setIfInBounds_toArray, List.set_cons_zero, List.set_cons_succ, i64_w, i32_w]
     rfl
    refine take_ (i := 2) (N := some 7) (v := ?_) (a' := ?_) #[true, false, true, false, false, false] rfl rfl (by kernel_rfl) (fun _ _ _ h => h) (Or.inl ⟨by rfl, ?_⟩) hHeld ?_ ?_
    rotate_left
    ·
     rintro w' ⟨s0, s1, s2, s3⟩
     go_simp
     with_reducible rfl
    rotate_left
    ·
     simp only [Act.put, List.setIfInBounds_toArray, List.set_cons_zero, List.set_cons_succ, i64_w, i32_w]
     rfl
    refine one_ (i := 1) (N := some 6) #[true, true, true, false, false, false] rfl rfl (by kernel_rfl) (by decide) (fun K hK => ?_)
    refine goesQ Try.func59 #[.agg #[.int .i64 a0_0, .int .i64 a0_1]] ?_
    with_reducible refine (itv_sound.calls a0_0 a0_1 t180 t181 _ A3.out).mono ?_
    rintro e w30 ⟨rfl, hb⟩
    refine ⟨_, rfl, ?_⟩
    have n0_ := bst HB hb
    replace BK177 := bbw BK177 hb
    replace BK178 := bbw BK178 hb
    replace BK179 := bbw BK179 hb
    clear HB
    have HB := n0_
    clear n0_
    (try clear hb)
    (try clear hb2)
    (try clear hk)
    (try clear hi)
    refine hK.out _ _ ⟨hcz BK177 0, hcz BK177 1, hcz BK178 0, hcz BK178 1⟩ (fun hHeld => ?_)
    clear hK K
    refine normQ (N := 6) ?_
    refine one_ (i := 3) (N := some 8) #[true, true, true, true, false, false] rfl rfl (by kernel_rfl) (by decide) (fun K hK => ?_)
    refine goesQ Try.func59 #[.agg #[.int .i64 a1_0, .int .i64 a1_1]] ?_
    with_reducible refine (itv_sound.calls a1_0 a1_1 t182 t183 _ A4.out).mono ?_
    rintro e w31 ⟨rfl, hb⟩
    refine ⟨_, rfl, ?_⟩
    have n0_ := bst HB hb
    replace BK177 := bbw BK177 hb
    replace BK178 := bbw BK178 hb
    replace BK179 := bbw BK179 hb
    clear HB
    have HB := n0_
    clear n0_
    (try clear hb)
    (try clear hb2)
    (try clear hk)
    (try clear hi)
    refine hK.out _ _ ⟨hcz BK177 0, hcz BK177 1, hcz BK178 0, hcz BK178 1⟩ (fun hHeld => ?_)
    clear hK K
    refine normQ (N := 8) ?_
    refine last_ (i := 4) (N := none) #[true, true, true, true, true, false] rfl rfl (by kernel_rfl) (by decide) (fun K hK => ?_)
    have hs32 : w31.cell? ⟨gb177, 0, none⟩ = some (.int .i64 a0_0) := hcz BK177 0
    have hfs32 := blk_frozen BK177.out 0
    have hns32_1 := NB178_177.out
    have hns32_2 := NB179_177.out
    have hms32_1 := NB177_178.out
    have hms32_2 := NB177_179.out
    have hs33 : w31.cell? ⟨gb177, 1, none⟩ = some (.int .i64 a0_1) := hcz BK177 1
    have hfs33 := blk_frozen BK177.out 1
    have hns33_1 := NB178_177.out
    have hns33_2 := NB179_177.out
    have hms33_1 := NB177_178.out
    have hms33_2 := NB177_179.out
    refine skip_ (w1 := ?_) (by rfl) rfl ?_ ?_
    rotate_left
    ·
     go_simp
     rfl
    refine hK.out _ _ ?_
    clear hK K
    refine last_ (i := 5) (N := none) #[true, true, true, true, true, true] rfl rfl (by kernel_rfl) (by decide) (fun K hK => ?_)
    have hs34 : w31.cell? ⟨gb178, 0, none⟩ = some (.int .i64 a1_0) := hcz BK178 0
    have hfs34 := blk_frozen BK178.out 0
    have hns34_0 := NB177_178.out
    have hns34_2 := NB179_178.out
    have hms34_0 := NB178_177.out
    have hms34_2 := NB178_179.out
    have hs35 : w31.cell? ⟨gb178, 1, none⟩ = some (.int .i64 a1_1) := hcz BK178 1
    have hfs35 := blk_frozen BK178.out 1
    have hns35_0 := NB177_178.out
    have hns35_2 := NB179_178.out
    have hms35_0 := NB178_177.out
    have hms35_2 := NB178_179.out
    refine skip_ (w1 := ?_) (by rfl) rfl ?_ ?_
    rotate_left
    ·
     go_simp
     rfl
    refine hK.out _ _ ?_
    clear hK K
    refine done_ (by kernel_rfl) ?_
    have hnb36 := NB177_178.out
    have hnc36 := NB178_177.out
    have hnb37 := NB177_179.out
    have hnc37 := NB179_177.out
    have hcz38_0 := hcz BK177 0
    have hcz38_1 := hcz BK177 1
    have hfz38_0 := blk_frozen BK177.out 0
    have hfz38_1 := blk_frozen BK177.out 1
    try go_wp2_with (first | ((with_reducible refine gate_callee (f := 21) rfl ?_); refine goesL_ (some 11) rfl rfl Try.func21 (by kernel_rfl) rfl #[.agg #[.int .i64 t180, .int .i64 t181]] rfl (by (try simp only [List.map_toArray, List.map_cons, List.map_nil]); first | done | rfl | (simp only [List.length_drop, List.length_take]; rfl)) ?_; (with_reducible refine (itv_None.calls t180 t181 false _ A5.out).mono ?_); rintro e w39 ⟨rfl, hb⟩; refine ⟨_, rfl, ?_⟩; have n0_ := Aside0.mk (blk_below (g := gb177) (o := .cells #[.int .i64 t180, .int .i64 t181] 23 (0, 0)) (by refine pkB ?_; refine blk_far ?_ NB177_178.out _; refine pkB ?_; refine blk_far ?_ NB177_178.out _; refine pkB ?_; refine blk_put (cs := #[.int .i64 t180, .int .i64 a0_1]) ?_ 1 _ (by first | rfl | (subst_vars; rfl)); refine pkB ?_; refine blk_put (cs := #[.int .i64 a0_0, .int .i64 a0_1]) ?_ 0 _ (by first | rfl | (subst_vars; rfl)); refine pkB ?_; exact BK177.out) hb); have n1_ := Aside0.mk (blk_below (g := gb178) (o := .cells #[.int .i64 t182, .int .i64 t183] 23 (0, 0)) (by refine pkB ?_; refine blk_put (cs := #[.int .i64 t182, .int .i64 a1_1]) ?_ 1 _ (by first | rfl | (subst_vars; rfl)); refine pkB ?_; refine blk_put (cs := #[.int .i64 a1_0, .int .i64 a1_1]) ?_ 0 _ (by first | rfl | (subst_vars; rfl)); refine pkB ?_; refine blk_far ?_ NB178_177.out _; refine pkB ?_; refine blk_far ?_ NB178_177.out _; refine pkB ?_; exact BK178.out) hb); have n2_ := Aside0.mk (blk_below (g := gb179) (o := .cells #[.int .i64 0, .int .i64 0] 23 (0, 0)) (by refine pkB ?_; refine blk_far ?_ NB179_178.out _; refine pkB ?_; refine blk_far ?_ NB179_178.out _; refine pkB ?_; refine blk_far ?_ NB179_177.out _; refine pkB ?_; refine blk_far ?_ NB179_177.out _; refine pkB ?_; exact BK179.out) hb); have n3_ := bst HB hb; clear BK177; clear BK178; clear BK179; clear HB; have BK177 := n0_; have BK178 := n1_; have BK179 := n2_; have HB := n3_; clear n0_ n1_ n2_ n3_; (try clear hb); (try clear hb2); (try clear hk); (try clear hi); have hnb40 := NB178_179.out; have hnc40 := NB179_178.out; have hcz41_0 := hcz BK178 0; have hcz41_1 := hcz BK178 1; have hfz41_0 := blk_frozen BK178.out 0; have hfz41_1 := blk_frozen BK178.out 1) | ((with_reducible refine gate_callee (f := 21) rfl ?_); refine goesL_ (some 15) rfl rfl Try.func21 (by kernel_rfl) rfl #[.agg #[.int .i64 t182, .int .i64 t183]] rfl (by (try simp only [List.map_toArray, List.map_cons, List.map_nil]); first | done | rfl | (simp only [List.length_drop, List.length_take]; rfl)) ?_; (with_reducible refine (itv_None.calls t182 t183 true _ A24.out).mono ?_); rintro e w42 ⟨rfl, hb⟩; refine ⟨_, rfl, ?_⟩; have n0_ := bst HB hb; replace BK177 := bbw BK177 hb; replace BK178 := bbw BK178 hb; replace BK179 := bbw BK179 hb; clear HB; have HB := n0_; clear n0_; (try clear hb); (try clear hb2); (try clear hk); (try clear hi); have hcz43_0 := hcz BK177 0; have hcz43_1 := hcz BK177 1; have hfz43_0 := blk_frozen BK177.out 0; have hfz43_1 := blk_frozen BK177.out 1; have hcz44_0 := hcz BK179 0; have hcz44_1 := hcz BK179 1; have hfz44_0 := blk_frozen BK179.out 0; have hfz44_1 := blk_frozen BK179.out 1))
    refine bodyPost_ret (results_cell_row rfl _ _ gb179 23 #[.int .i64 t180, .int .i64 t181] (0, 0) _ rfl (by refine pkB ?_; refine blk_put (cs := #[.int .i64 t180, .int .i64 0]) ?_ 1 _ (by first | rfl | (subst_vars; rfl)); refine pkB ?_; refine blk_put (cs := #[.int .i64 0, .int .i64 0]) ?_ 0 _ (by first | rfl | (subst_vars; rfl)); refine pkB ?_; exact BK179.out) Try.underlying23 rfl (by kernel_rfl)) rfl ?_
    exact ⟨by first | rfl | (simp [errW_none, errW_some] <;> rfl) | (simp [*, errW_none, errW_some] <;> rfl) | kernel_rfl, by repeat (first | (with_reducible first | exact HB.out | apply below_alloc | apply pw_below_drewN | apply below_drew1 | refine below_set ?_ GE177.out | refine below_set ?_ GE178.out | refine below_set ?_ GE179.out) | exact HB.out)⟩
   ·
    replace c25 := Bool.eq_false_iff.mpr c25
    subst c25
    have H1 : (some (mn t180 t182, mx t181 t183)) = some (r1, r2) := by rw [if_neg (show ¬ (false = true) by decide)] at H; exact H
    clear H
    have H := H1
    clear H1
    obtain ⟨ji45, hji45⟩ : ∃ j_ : Int, (mn t180 t182) = j_ := ⟨_, rfl⟩
    replace H : (some (ji45, mx t181 t183)) = some (r1, r2) := by first | (rw [hji45] at H; exact H) | (simp only [hji45] at H ⊢; exact H)
    (try rw [hji45] at A3)
    (try rw [hji45] at A4)
    (try rw [hji45] at A5)
    (try rw [hji45] at A24)
    have hji45_ : (if t182 < t180 then t182 else t180) = ji45 := hji45
    obtain ⟨ji46, hji46⟩ : ∃ j_ : Int, (mx t181 t183) = j_ := ⟨_, rfl⟩
    replace H : (some (ji45, ji46)) = some (r1, r2) := by first | (rw [hji46] at H; exact H) | (simp only [hji46] at H ⊢; exact H)
    (try rw [hji46] at A3)
    (try rw [hji46] at A4)
    (try rw [hji46] at A5)
    (try rw [hji46] at A24)
    have hji46_ : (if t181 < t183 then t183 else t181) = ji46 := hji46
    simp only [Option.some.injEq, Prod.mk.injEq] at H
    obtain ⟨rfl, rfl⟩ := H
    go_enter Try.func26, Try.ntmps26
    try go_wp2_with (first | ((with_reducible refine gate_dst (N := 2) rfl ?_); refine box_event ?hg (N := 2) ?hd (cs := #[.int .i64 a0_0, .int .i64 a0_1]) (t := 23) ?hr ?_; (case hd => rfl); (case hg => rfl); (case hr => first | (go_simp; done) | (go_simp; rfl)); intro gb177 hg w47 hbox hb; have n0_ := bst HB hb; have n1_ := Aside0.mk (hbox); have n2_ := bsz HB hg; have n3_ := bsz HB hg; clear HB; have HB := n0_; have BK177 := n1_; have GW177 := n2_; have GE177 := n3_; clear n0_ n1_ n2_ n3_; clear hb hbox hg) | ((with_reducible refine gate_dst (N := 3) rfl ?_); refine box_event ?hg (N := 3) ?hd (cs := #[.int .i64 a1_0, .int .i64 a1_1]) (t := 23) ?hr ?_; (case hd => rfl); (case hg => rfl); (case hr => first | (go_simp; done) | (go_simp; rfl)); intro gb178 hg w48 hbox hb; have n0_ := bst HB hb; have n1_ := Aside0.mk (hbox); have n2_ := bsz HB hg; have n3_ := bsz HB hg; have n4_ := bn1 BK177 hg; have n5_ := bn2 BK177 hg; replace BK177 := bbw BK177 hb; clear HB; have HB := n0_; have BK178 := n1_; have GW178 := n2_; have GE178 := n3_; have NB177_178 := n4_; have NB178_177 := n5_; clear n0_ n1_ n2_ n3_ n4_ n5_; clear hb hbox hg) | ((with_reducible refine gate_dst (N := 4) rfl ?_); refine box_event ?hg (N := 4) ?hd (cs := #[.int .i64 0, .int .i64 0]) (t := 23) ?hr ?_; (case hd => rfl); (case hg => rfl); (case hr => first | (go_simp; done) | (go_simp; rfl)); intro gb179 hg w49 hbox hb; have n0_ := bst HB hb; have n1_ := Aside0.mk (hbox); have n2_ := bsz HB hg; have n3_ := bsz HB hg; have n4_ := bn1 BK177 hg; have n5_ := bn2 BK177 hg; have n6_ := bn1 BK178 hg; have n7_ := bn2 BK178 hg; replace BK177 := bbw BK177 hb; replace BK178 := bbw BK178 hb; clear HB; have HB := n0_; have BK179 := n1_; have GW179 := n2_; have GE179 := n3_; have NB177_179 := n4_; have NB179_177 := n5_; have NB178_179 := n6_; have NB179_178 := n7_; clear n0_ n1_ n2_ n3_ n4_ n5_ n6_ n7_; clear hb hbox hg))
    have n0_ := Aside0.mk (blk_drew BK177.out)
    have n1_ := Aside0.mk (blk_drew BK178.out)
    have n2_ := Aside0.mk (blk_drew BK179.out)
    have n3_ := Aside0.mk (below_drew1 HB.out)
    clear BK177
    clear BK178
    clear BK179
    clear HB
    have BK177 := n0_
    have BK178 := n1_
    have BK179 := n2_
    have HB := n3_
    clear n0_ n1_ n2_ n3_
    refine start_ (n := 6) (S := fun w' => w'.cell? ⟨gb177, 0, none⟩ = some (.int .i64 a0_0) ∧ w'.cell? ⟨gb177, 1, none⟩ = some (.int .i64 a0_1) ∧ w'.cell? ⟨gb178, 0, none⟩ = some (.int .i64 a1_0) ∧ w'.cell? ⟨gb178, 1, none⟩ = some (.int .i64 a1_1)) (ds := [4, 5]) #[false, false, false, false, false, false] (by kernel_rfl) rfl rfl ⟨hcz BK177 0, hcz BK177 1, hcz BK178 0, hcz BK178 1⟩ (fun hHeld => ?_)
    generalize w49.drew = w50 at BK177 BK178 BK179 HB hHeld ⊢
    refine take_ (i := 0) (N := some 5) (v := ?_) (a' := ?_) #[true, false, false, false, false, false] rfl rfl (by kernel_rfl) (fun _ _ _ h => h) (Or.inl ⟨by rfl, ?_⟩) hHeld ?_ ?_
    rotate_left
    ·
     rintro w' ⟨s0, s1, s2, s3⟩
     go_simp
     with_reducible rfl
    rotate_left
    ·
     simp only [Act.put, List.setIfInBounds_toArray, List.set_cons_zero, List.set_cons_succ, i64_w, i32_w]
     rfl
    refine take_ (i := 2) (N := some 7) (v := ?_) (a' := ?_) #[true, false, true, false, false, false] rfl rfl (by kernel_rfl) (fun _ _ _ h => h) (Or.inl ⟨by rfl, ?_⟩) hHeld ?_ ?_
    rotate_left
    ·
     rintro w' ⟨s0, s1, s2, s3⟩
     go_simp
     with_reducible rfl
    rotate_left
    ·
     simp only [Act.put, List.setIfInBounds_toArray, List.set_cons_zero, List.set_cons_succ, i64_w, i32_w]
     rfl
    refine one_ (i := 1) (N := some 6) #[true, true, true, false, false, false] rfl rfl (by kernel_rfl) (by decide) (fun K hK => ?_)
    refine goesQ Try.func59 #[.agg #[.int .i64 a0_0, .int .i64 a0_1]] ?_
    with_reducible refine (itv_sound.calls a0_0 a0_1 t180 t181 _ A3.out).mono ?_
    rintro e w51 ⟨rfl, hb⟩
    refine ⟨_, rfl, ?_⟩
    have n0_ := bst HB hb
    replace BK177 := bbw BK177 hb
    replace BK178 := bbw BK178 hb
    replace BK179 := bbw BK179 hb
    clear HB
    have HB := n0_
    clear n0_
    (try clear hb)
    (try clear hb2)
    (try clear hk)
    (try clear hi)
    refine hK.out _ _ ⟨hcz BK177 0, hcz BK177 1, hcz BK178 0, hcz BK178 1⟩ (fun hHeld => ?_)
    clear hK K
    refine normQ (N := 6) ?_
    refine one_ (i := 3) (N := some 8) #[true, true, true, true, false, false] rfl rfl (by kernel_rfl) (by decide) (fun K hK => ?_)
    refine goesQ Try.func59 #[.agg #[.int .i64 a1_0, .int .i64 a1_1]] ?_
    with_reducible refine (itv_sound.calls a1_0 a1_1 t182 t183 _ A4.out).mono ?_
    rintro e w52 ⟨rfl, hb⟩
    refine ⟨_, rfl, ?_⟩
    have n0_ := bst HB hb
    replace BK177 := bbw BK177 hb
    replace BK178 := bbw BK178 hb
    replace BK179 := bbw BK179 hb
    clear HB
    have HB := n0_
    clear n0_
    (try clear hb)
    (try clear hb2)
    (try clear hk)
    (try clear hi)
    refine hK.out _ _ ⟨hcz BK177 0, hcz BK177 1, hcz BK178 0, hcz BK178 1⟩ (fun hHeld => ?_)
    clear hK K
    refine normQ (N := 8) ?_
    refine last_ (i := 4) (N := none) #[true, true, true, true, true, false] rfl rfl (by kernel_rfl) (by decide) (fun K hK => ?_)
    have hs53 : w52.cell? ⟨gb177, 0, none⟩ = some (.int .i64 a0_0) := hcz BK177 0
    have hfs53 := blk_frozen BK177.out 0
    have hns53_1 := NB178_177.out
    have hns53_2 := NB179_177.out
    have hms53_1 := NB177_178.out
    have hms53_2 := NB177_179.out
    have hs54 : w52.cell? ⟨gb177, 1, none⟩ = some (.int .i64 a0_1) := hcz BK177 1
    have hfs54 := blk_frozen BK177.out 1
    have hns54_1 := NB178_177.out
    have hns54_2 := NB179_177.out
    have hms54_1 := NB177_178.out
    have hms54_2 := NB177_179.out
    refine skip_ (w1 := ?_) (by rfl) rfl ?_ ?_
    rotate_left
    ·
     go_simp
     rfl
    refine hK.out _ _ ?_
    clear hK K
    refine last_ (i := 5) (N := none) #[true, true, true, true, true, true] rfl rfl (by kernel_rfl) (by decide) (fun K hK => ?_)
    have hs55 : w52.cell? ⟨gb178, 0, none⟩ = some (.int .i64 a1_0) := hcz BK178 0
    have hfs55 := blk_frozen BK178.out 0
    have hns55_0 := NB177_178.out
    have hns55_2 := NB179_178.out
    have hms55_0 := NB178_177.out
    have hms55_2 := NB178_179.out
    have hs56 : w52.cell? ⟨gb178, 1, none⟩ = some (.int .i64 a1_1) := hcz BK178 1
    have hfs56 := blk_frozen BK178.out 1
    have hns56_0 := NB177_178.out
    have hns56_2 := NB179_178.out
    have hms56_0 := NB178_177.out
    have hms56_2 := NB178_179.out
    refine skip_ (w1 := ?_) (by rfl) rfl ?_ ?_
    rotate_left
    ·
     go_simp
     rfl
    refine hK.out _ _ ?_
    clear hK K
    refine done_ (by kernel_rfl) ?_
    have hnb57 := NB177_178.out
    have hnc57 := NB178_177.out
    have hnb58 := NB177_179.out
    have hnc58 := NB179_177.out
    have hcz59_0 := hcz BK177 0
    have hcz59_1 := hcz BK177 1
    have hfz59_0 := blk_frozen BK177.out 0
    have hfz59_1 := blk_frozen BK177.out 1
    try go_wp2_with (first | ((with_reducible refine gate_callee (f := 21) rfl ?_); refine goesL_ (some 11) rfl rfl Try.func21 (by kernel_rfl) rfl #[.agg #[.int .i64 t180, .int .i64 t181]] rfl (by (try simp only [List.map_toArray, List.map_cons, List.map_nil]); first | done | rfl | (simp only [List.length_drop, List.length_take]; rfl)) ?_; (with_reducible refine (itv_None.calls t180 t181 false _ A5.out).mono ?_); rintro e w60 ⟨rfl, hb⟩; refine ⟨_, rfl, ?_⟩; have n0_ := Aside0.mk (blk_below (g := gb177) (o := .cells #[.int .i64 t180, .int .i64 t181] 23 (0, 0)) (by refine pkB ?_; refine blk_far ?_ NB177_178.out _; refine pkB ?_; refine blk_far ?_ NB177_178.out _; refine pkB ?_; refine blk_put (cs := #[.int .i64 t180, .int .i64 a0_1]) ?_ 1 _ (by first | rfl | (subst_vars; rfl)); refine pkB ?_; refine blk_put (cs := #[.int .i64 a0_0, .int .i64 a0_1]) ?_ 0 _ (by first | rfl | (subst_vars; rfl)); refine pkB ?_; exact BK177.out) hb); have n1_ := Aside0.mk (blk_below (g := gb178) (o := .cells #[.int .i64 t182, .int .i64 t183] 23 (0, 0)) (by refine pkB ?_; refine blk_put (cs := #[.int .i64 t182, .int .i64 a1_1]) ?_ 1 _ (by first | rfl | (subst_vars; rfl)); refine pkB ?_; refine blk_put (cs := #[.int .i64 a1_0, .int .i64 a1_1]) ?_ 0 _ (by first | rfl | (subst_vars; rfl)); refine pkB ?_; refine blk_far ?_ NB178_177.out _; refine pkB ?_; refine blk_far ?_ NB178_177.out _; refine pkB ?_; exact BK178.out) hb); have n2_ := Aside0.mk (blk_below (g := gb179) (o := .cells #[.int .i64 0, .int .i64 0] 23 (0, 0)) (by refine pkB ?_; refine blk_far ?_ NB179_178.out _; refine pkB ?_; refine blk_far ?_ NB179_178.out _; refine pkB ?_; refine blk_far ?_ NB179_177.out _; refine pkB ?_; refine blk_far ?_ NB179_177.out _; refine pkB ?_; exact BK179.out) hb); have n3_ := bst HB hb; clear BK177; clear BK178; clear BK179; clear HB; have BK177 := n0_; have BK178 := n1_; have BK179 := n2_; have HB := n3_; clear n0_ n1_ n2_ n3_; (try clear hb); (try clear hb2); (try clear hk); (try clear hi); have hnb61 := NB178_179.out; have hnc61 := NB179_178.out; have hcz62_0 := hcz BK178 0; have hcz62_1 := hcz BK178 1; have hfz62_0 := blk_frozen BK178.out 0; have hfz62_1 := blk_frozen BK178.out 1) | ((with_reducible refine gate_callee (f := 21) rfl ?_); refine goesL_ (some 15) rfl rfl Try.func21 (by kernel_rfl) rfl #[.agg #[.int .i64 t182, .int .i64 t183]] rfl (by (try simp only [List.map_toArray, List.map_cons, List.map_nil]); first | done | rfl | (simp only [List.length_drop, List.length_take]; rfl)) ?_; (with_reducible refine (itv_None.calls t182 t183 false _ A24.out).mono ?_); rintro e w63 ⟨rfl, hb⟩; refine ⟨_, rfl, ?_⟩; have n0_ := bst HB hb; replace BK177 := bbw BK177 hb; replace BK178 := bbw BK178 hb; replace BK179 := bbw BK179 hb; clear HB; have HB := n0_; clear n0_; (try clear hb); (try clear hb2); (try clear hk); (try clear hi); have hcz64_0 := hcz BK177 0; have hcz64_1 := hcz BK177 1; have hfz64_0 := blk_frozen BK177.out 0; have hfz64_1 := blk_frozen BK177.out 1; have hcz65_0 := hcz BK178 0; have hcz65_1 := hcz BK178 1; have hfz65_0 := blk_frozen BK178.out 0; have hfz65_1 := blk_frozen BK178.out 1; have hcz66_0 := hcz BK179 0; have hcz66_1 := hcz BK179 1; have hfz66_0 := blk_frozen BK179.out 0; have hfz66_1 := blk_frozen BK179.out 1))
    refine bodyPost_ret (results_cell_row rfl _ _ gb179 23 #[.int .i64 ji45, .int .i64 ji46] (0, 0) _ rfl (by refine pkB ?_; refine blk_put (cs := #[.int .i64 ji45, .int .i64 0]) ?_ 1 _ (by first | rfl | (subst_vars; rfl)); refine pkB ?_; refine blk_put (cs := #[.int .i64 0, .int .i64 0]) ?_ 0 _ (by first | rfl | (subst_vars; rfl)); refine pkB ?_; exact BK179.out) Try.underlying23 rfl (by kernel_rfl)) rfl ?_
    exact ⟨by first | rfl | (simp [errW_none, errW_some] <;> rfl) | (simp only [← hji45, ← hji46]; first | rfl | (simp [errW_none, errW_some] <;> rfl)) | (simp [*, errW_none, errW_some] <;> rfl) | kernel_rfl, by repeat (first | (with_reducible first | exact HB.out | apply below_alloc | apply pw_below_drewN | apply below_drew1 | refine below_set ?_ GE177.out | refine below_set ?_ GE178.out | refine below_set ?_ GE179.out) | exact HB.out)⟩
end Go.Proofs.Ytbbnpipmjadpoaa.P
