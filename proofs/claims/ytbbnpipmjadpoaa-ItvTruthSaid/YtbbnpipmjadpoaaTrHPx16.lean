/- What the law's proof needs of Px16. -/
import Derived.Test.YtbbnpipmjadpoaaTrHU2
import Derived.Test.YtbbnpipmjadpoaaTrHU
import Derived.Test.YtbbnpipmjadpoaaTrHPx0
import Derived.Test.YtbbnpipmjadpoaaTrHPx3
import Derived.Test.YtbbnpipmjadpoaaTrHPx15
-- PRINTED by print.py (a twelfth state) out of the translation. Not trusted: Lean checks it.
namespace Go.Proofs.Ytbbnpipmjadpoaa.P
open Go.RowKit Go.Proofs.YtbbnpipmjadpoaaW.PrintWords Go.Proofs.YtbbnpipmjadpoaaW.PrintLast Go.Proofs.YtbbnpipmjadpoaaW.PrintMore Go.Proofs.YtbbnpipmjadpoaaO
attribute [local go_sem] max2_int min2_int max_two min_two max_three min_three max_four min_four   -- for this text's walks alone
set_option linter.unusedVariables false
set_option linter.unusedSimpArgs false
mutual
def itv_Holds.j0 : Nat → Int → Bool → Int → Int → Int → Int → Option (Bool × Bool)
  | 0, _, _, _, _, _, _ => none
  | k + 1, x0, x22, x294000, x294001, x295000, x295001 => if x22 = true then (some (false, false)) else (if x0 < 14 then (itv_Holds.j1 k x0 true x294000 x294001 x295000 x295001) else (itv_Holds.j1 k x0 (decide (x0 > 19)) x294000 x294001 x295000 x295001))
def itv_Holds.j1 : Nat → Int → Bool → Int → Int → Int → Int → Option (Bool × Bool)
  | 0, _, _, _, _, _, _ => none
  | k + 1, x0, x28, x294000, x294001, x295000, x295001 => if x28 = true then (some (true, true)) else ((itv_Test.f k x0 x294000 x294001 x295000 x295001).bind fun bt302 => (if 0 ≤ (wrap64 (x0 - 14)) then (if (wrap64 (x0 - 14)) < 6 then ((itv_Test.f k (rd ([15, 14, 19, 18, 17, 16] : List Int) (wrap64 (x0 - 14))) x294000 x294001 x295000 x295001).bind fun bt309 => ((itv_None.f bt302.1 bt302.2.1).bind fun t315 => ((itv_None.f bt309.1 bt309.2.1).bind fun t316 => (some (!t315, !t316))))) else (none)) else (none)))
end
def itv_Holds.f (k : Nat) (a0 : Int) (a1_0 : Int) (a1_1 : Int) (a2_0 : Int) (a2_1 : Int) : Option (Bool × Bool) := (itv_sound.f a1_0 a1_1).bind fun bt295 => ((itv_sound.f a2_0 a2_1).bind fun bt297 => ((itv_None.f bt295.1 bt295.2).bind fun t299 => (if t299 = true then (itv_Holds.j0 k a0 true bt295.1 bt295.2 bt297.1 bt297.2) else ((itv_None.f bt297.1 bt297.2).bind fun t300 => (itv_Holds.j0 k a0 t300 bt295.1 bt295.2 bt297.1 bt297.2)))))
def itv_Holds.T8 : Bool × List (List Nat × List Nat) := (true, [([], []), ([0], [0]), ([1], [1]), ([2], [2]), ([], []), ([], []), ([3, 4, 5], [3, 4, 5]), ([6], [6]), ([7], [7]), ([7], [7]), ([], []), ([], []), ([10, 8, 6, 0, 1, 2, 3, 4, 5, 6, 7, 8, 10, 11], [8, 10]), ([11, 9, 12, 0, 1, 2, 3, 4, 5, 6, 7, 8, 9, 10, 11, 12], [9, 11])])
def itv_Holds.B8 : List Nat := [0, 1, 3, 7, 0, 0, 63, 127, 255, 255, 0, 0, 3583, 8191]
theorem itv_Holds.tab8 : rtab .any (opsOf Try.f34 8) = itv_Holds.T8 := by kernel_rfl
theorem itv_Holds.bits8 : waitsOk itv_Holds.T8.2 itv_Holds.B8 = true := by kernel_rfl
def itv_Holds.T9 : Bool × List (List Nat × List Nat) := (true, [([], []), ([0], [0]), ([1], [1]), ([], []), ([3, 1], [3]), ([4], [4]), ([2, 4, 0, 1, 2], [2]), ([5, 6, 0, 1, 2, 3, 4, 5, 6], [5])])
def itv_Holds.B9 : List Nat := [0, 1, 3, 0, 11, 27, 31, 127]
theorem itv_Holds.tab9 : rtab .any (opsOf Try.f34 9) = itv_Holds.T9 := by kernel_rfl
theorem itv_Holds.bits9 : waitsOk itv_Holds.T9.2 itv_Holds.B9 = true := by kernel_rfl
set_option maxHeartbeats 8000000 in
set_option maxRecDepth 100000 in
theorem itv_Holds.calls (k : Nat) (a0 : Int) (a1_0 : Int) (a1_1 : Int) (a2_0 : Int) (a2_1 : Int) (r1 : Bool) (r2 : Bool) (w : World) (h : itv_Holds.f k a0 a1_0 a1_1 a2_0 a2_1 = some (r1, r2)) :
    Calls Try.prog 34 #[.int .i64 a0, .agg #[.int .i64 a1_0, .int .i64 a1_1], .agg #[.int .i64 a2_0, .int .i64 a2_1]] w fun e w' => e = .returned (.tuple #[.bool r1, .bool r2]) ∧ Below w.heap.size w w' := by
  have hu23 := Try.underlying23
  have hu54 := Try.underlying54
  have HB := Aside0.mk (Below.refl w.heap.size w)
  have H : ((itv_sound.f a1_0 a1_1).bind fun bt295 => ((itv_sound.f a2_0 a2_1).bind fun bt297 => ((itv_None.f bt295.1 bt295.2).bind fun t299 => (if t299 = true then (itv_Holds.j0 k a0 true bt295.1 bt295.2 bt297.1 bt297.2) else ((itv_None.f bt297.1 bt297.2).bind fun t300 => (itv_Holds.j0 k a0 t300 bt295.1 bt295.2 bt297.1 bt297.2)))))) = some (r1, r2) := h
  clear h
  replace H := Option.bind_eq_some_iff.mp H
  obtain ⟨⟨t295, t296⟩, A40, H⟩ := H
  replace H : ((itv_sound.f a2_0 a2_1).bind fun bt297 => ((itv_None.f t295 t296).bind fun t299 => (if t299 = true then (itv_Holds.j0 k a0 true t295 t296 bt297.1 bt297.2) else ((itv_None.f bt297.1 bt297.2).bind fun t300 => (itv_Holds.j0 k a0 t300 t295 t296 bt297.1 bt297.2))))) = some (r1, r2) := H
  have A4 := Aside0.mk A40
  clear A40
  replace H := Option.bind_eq_some_iff.mp H
  obtain ⟨⟨t297, t298⟩, A50, H⟩ := H
  replace H : ((itv_None.f t295 t296).bind fun t299 => (if t299 = true then (itv_Holds.j0 k a0 true t295 t296 t297 t298) else ((itv_None.f t297 t298).bind fun t300 => (itv_Holds.j0 k a0 t300 t295 t296 t297 t298)))) = some (r1, r2) := H
  have A5 := Aside0.mk A50
  clear A50
  have HC6 := Aside0.mk H
  clear H
  go_enter Try.func34, Try.ntmps34
  try go_wp2_with (first | ((with_reducible refine gate_dst (N := 4) rfl ?_); refine box_event ?hg (N := 4) ?hd (cs := #[.int .i64 a1_0, .int .i64 a1_1]) (t := 23) ?hr ?_; (case hd => rfl); (case hg => rfl); (case hr => first | (go_simp; done) | (go_simp; rfl)); intro gb293 hg w7 hbox hb; have n0_ := bst HB hb; have n1_ := Aside0.mk (hbox); have n2_ := bsz HB hg; have n3_ := bsz HB hg; clear HB; have HB := n0_; have BK293 := n1_; have GW293 := n2_; have GE293 := n3_; clear n0_ n1_ n2_ n3_; clear hb hbox hg) | ((with_reducible refine gate_dst (N := 5) rfl ?_); refine box_event ?hg (N := 5) ?hd (cs := #[.int .i64 a2_0, .int .i64 a2_1]) (t := 23) ?hr ?_; (case hd => rfl); (case hg => rfl); (case hr => first | (go_simp; done) | (go_simp; rfl)); intro gb294 hg w8 hbox hb; have n0_ := bst HB hb; have n1_ := Aside0.mk (hbox); have n2_ := bsz HB hg; have n3_ := bsz HB hg; have n4_ := bn1 BK293 hg; have n5_ := bn2 BK293 hg; replace BK293 := bbw BK293 hb; clear HB; have HB := n0_; have BK294 := n1_; have GW294 := n2_; have GE294 := n3_; have NB293_294 := n4_; have NB294_293 := n5_; clear n0_ n1_ n2_ n3_ n4_ n5_; clear hb hbox hg))
  have n0_ := Aside0.mk (blk_drew BK293.out)
  have n1_ := Aside0.mk (blk_drew BK294.out)
  have n2_ := Aside0.mk (below_drew1 HB.out)
  clear BK293
  clear BK294
  clear HB
  have BK293 := n0_
  have BK294 := n1_
  have HB := n2_
  clear n0_ n1_ n2_
  refine start_ (n := 6) (S := fun w' => w'.cell? ⟨gb293, 0, none⟩ = some (.int .i64 a1_0) ∧ w'.cell? ⟨gb293, 1, none⟩ = some (.int .i64 a1_1) ∧ w'.cell? ⟨gb294, 0, none⟩ = some (.int .i64 a2_0) ∧ w'.cell? ⟨gb294, 1, none⟩ = some (.int .i64 a2_1)) (ds := [4, 5]) #[false, false, false, false, false, false] (by kernel_rfl) rfl rfl ⟨hcz BK293 0, hcz BK293 1, hcz BK294 0, hcz BK294 1⟩ (fun hHeld => ?_)
  generalize w8.drew = w9 at BK293 BK294 HB hHeld ⊢
  refine take_ (i := 0) (N := some 13) (v := ?_) (a' := ?_) #[true, false, false, false, false, false] rfl rfl (by kernel_rfl) (fun _ _ _ h => h) (Or.inl ⟨by rfl, ?_⟩) hHeld ?_ ?_
  rotate_left
  ·
   rintro w' ⟨s0, s1, s2, s3⟩
   go_simp
   with_reducible rfl
  rotate_left
  ·
   simp only [Act.put, List.setIfInBounds_toArray, List.set_cons_zero, List.set_cons_succ, i64_w, i32_w]
   rfl
  refine take_ (i := 2) (N := some 15) (v := ?_) (a' := ?_) #[true, false, true, false, false, false] rfl rfl (by kernel_rfl) (fun _ _ _ h => h) (Or.inl ⟨by rfl, ?_⟩) hHeld ?_ ?_
  rotate_left
  ·
   rintro w' ⟨s0, s1, s2, s3⟩
   go_simp
   with_reducible rfl
  rotate_left
  ·
   simp only [Act.put, List.setIfInBounds_toArray, List.set_cons_zero, List.set_cons_succ, i64_w, i32_w]
   rfl
  refine one_ (i := 1) (N := some 14) #[true, true, true, false, false, false] rfl rfl (by kernel_rfl) (by decide) (fun K hK => ?_)
  refine goesQ Try.func59 #[.agg #[.int .i64 a1_0, .int .i64 a1_1]] ?_
  with_reducible refine (itv_sound.calls a1_0 a1_1 t295 t296 _ A4.out).mono ?_
  rintro e w10 ⟨rfl, hb⟩
  refine ⟨_, rfl, ?_⟩
  have n0_ := bst HB hb
  replace BK293 := bbw BK293 hb
  replace BK294 := bbw BK294 hb
  clear HB
  have HB := n0_
  clear n0_
  (try clear hb)
  (try clear hb2)
  (try clear hk)
  (try clear hi)
  refine hK.out _ _ ⟨hcz BK293 0, hcz BK293 1, hcz BK294 0, hcz BK294 1⟩ (fun hHeld => ?_)
  clear hK K
  refine normQ (N := 14) ?_
  refine one_ (i := 3) (N := some 16) #[true, true, true, true, false, false] rfl rfl (by kernel_rfl) (by decide) (fun K hK => ?_)
  refine goesQ Try.func59 #[.agg #[.int .i64 a2_0, .int .i64 a2_1]] ?_
  with_reducible refine (itv_sound.calls a2_0 a2_1 t297 t298 _ A5.out).mono ?_
  rintro e w11 ⟨rfl, hb⟩
  refine ⟨_, rfl, ?_⟩
  have n0_ := bst HB hb
  replace BK293 := bbw BK293 hb
  replace BK294 := bbw BK294 hb
  clear HB
  have HB := n0_
  clear n0_
  (try clear hb)
  (try clear hb2)
  (try clear hk)
  (try clear hi)
  refine hK.out _ _ ⟨hcz BK293 0, hcz BK293 1, hcz BK294 0, hcz BK294 1⟩ (fun hHeld => ?_)
  clear hK K
  refine normQ (N := 16) ?_
  refine last_ (i := 4) (N := none) #[true, true, true, true, true, false] rfl rfl (by kernel_rfl) (by decide) (fun K hK => ?_)
  have hs12 : w11.cell? ⟨gb293, 0, none⟩ = some (.int .i64 a1_0) := hcz BK293 0
  have hfs12 := blk_frozen BK293.out 0
  have hns12_1 := NB294_293.out
  have hms12_1 := NB293_294.out
  have hs13 : w11.cell? ⟨gb293, 1, none⟩ = some (.int .i64 a1_1) := hcz BK293 1
  have hfs13 := blk_frozen BK293.out 1
  have hns13_1 := NB294_293.out
  have hms13_1 := NB293_294.out
  refine skip_ (w1 := ?_) (by rfl) rfl ?_ ?_
  rotate_left
  ·
   go_simp
   rfl
  refine hK.out _ _ ?_
  clear hK K
  refine last_ (i := 5) (N := none) #[true, true, true, true, true, true] rfl rfl (by kernel_rfl) (by decide) (fun K hK => ?_)
  have hs14 : w11.cell? ⟨gb294, 0, none⟩ = some (.int .i64 a2_0) := hcz BK294 0
  have hfs14 := blk_frozen BK294.out 0
  have hns14_0 := NB293_294.out
  have hms14_0 := NB294_293.out
  have hs15 : w11.cell? ⟨gb294, 1, none⟩ = some (.int .i64 a2_1) := hcz BK294 1
  have hfs15 := blk_frozen BK294.out 1
  have hns15_0 := NB293_294.out
  have hms15_0 := NB294_293.out
  refine skip_ (w1 := ?_) (by rfl) rfl ?_ ?_
  rotate_left
  ·
   go_simp
   rfl
  refine hK.out _ _ ?_
  clear hK K
  refine done_ (by kernel_rfl) ?_
  go_upto_region 2 with (fail)
  go_cut [22] (fun v22 wc => ∃ (kq : Nat) (x22_5 : Bool), v22 = .bool x22_5 ∧ Aside0 (itv_Holds.j0 kq a0 x22_5 t295 t296 t297 t298 = some (r1, r2)) ∧ Aside0 (kq ≤ k) ∧ Aside0 (wc.heap[gb293]? = some (.cells #[.int .i64 t295, .int .i64 t296] 23 (0, 0))) ∧ Aside0 (wc.heap[gb294]? = some (.cells #[.int .i64 t297, .int .i64 t298] 23 (0, 0))) ∧ Aside0 (Below w.heap.size w wc))
  case first =>
   have H := HC6.out
   clear HC6
   replace H := Option.bind_eq_some_iff.mp H
   obtain ⟨t299, A160, H⟩ := H
   replace H : (if t299 = true then (itv_Holds.j0 k a0 true t295 t296 t297 t298) else ((itv_None.f t297 t298).bind fun t300 => (itv_Holds.j0 k a0 t300 t295 t296 t297 t298))) = some (r1, r2) := H
   have A16 := Aside0.mk A160
   clear A160
   by_cases c17 : t299 = true
   ·
    subst c17
    have H1 : (itv_Holds.j0 k a0 true t295 t296 t297 t298) = some (r1, r2) := by rw [if_pos rfl] at H; exact H
    clear H
    have H := H1
    clear H1
    have H' := Aside0.mk H
    clear H
    have hnb18 := NB293_294.out
    have hnc18 := NB294_293.out
    have hcz19_0 := hcz BK293 0
    have hcz19_1 := hcz BK293 1
    have hfz19_0 := blk_frozen BK293.out 0
    have hfz19_1 := blk_frozen BK293.out 1
    go_wp2_with (first | ((with_reducible refine gate_callee (f := 21) rfl ?_); refine goesL_ (some 18) rfl rfl Try.func21 (by kernel_rfl) rfl #[.agg #[.int .i64 t295, .int .i64 t296]] rfl (by (try simp only [List.map_toArray, List.map_cons, List.map_nil]); first | done | rfl | (simp only [List.length_drop, List.length_take]; rfl)) ?_; (with_reducible refine (itv_None.calls t295 t296 true _ A16.out).mono ?_); rintro e w20 ⟨rfl, hb⟩; refine ⟨_, rfl, ?_⟩; have n0_ := Aside0.mk (blk_below (g := gb293) (o := .cells #[.int .i64 t295, .int .i64 t296] 23 (0, 0)) (by refine pkB ?_; refine blk_far ?_ NB293_294.out _; refine pkB ?_; refine blk_far ?_ NB293_294.out _; refine pkB ?_; refine blk_put (cs := #[.int .i64 t295, .int .i64 a1_1]) ?_ 1 _ (by first | rfl | (subst_vars; rfl)); refine pkB ?_; refine blk_put (cs := #[.int .i64 a1_0, .int .i64 a1_1]) ?_ 0 _ (by first | rfl | (subst_vars; rfl)); refine pkB ?_; exact BK293.out) hb); have n1_ := Aside0.mk (blk_below (g := gb294) (o := .cells #[.int .i64 t297, .int .i64 t298] 23 (0, 0)) (by refine pkB ?_; refine blk_put (cs := #[.int .i64 t297, .int .i64 a2_1]) ?_ 1 _ (by first | rfl | (subst_vars; rfl)); refine pkB ?_; refine blk_put (cs := #[.int .i64 a2_0, .int .i64 a2_1]) ?_ 0 _ (by first | rfl | (subst_vars; rfl)); refine pkB ?_; refine blk_far ?_ NB294_293.out _; refine pkB ?_; refine blk_far ?_ NB294_293.out _; refine pkB ?_; exact BK294.out) hb); have n2_ := bst HB hb; clear BK293; clear BK294; clear HB; have BK293 := n0_; have BK294 := n1_; have HB := n2_; clear n0_ n1_ n2_; (try clear hb); (try clear hb2); (try clear hk); (try clear hi)))
    go_meet
    case rel => exact ⟨_, (true), (by first | rfl | (simp; done) | (simp [*]; done)), H', ⟨by first | omega | exact Nat.le_refl _⟩, pkA BK293, pkA BK294, bpk HB⟩
   ·
    replace c17 := Bool.eq_false_iff.mpr c17
    subst c17
    have H1 : ((itv_None.f t297 t298).bind fun t300 => (itv_Holds.j0 k a0 t300 t295 t296 t297 t298)) = some (r1, r2) := by rw [if_neg (show ¬ (false = true) by decide)] at H; exact H
    clear H
    have H := H1
    clear H1
    replace H := Option.bind_eq_some_iff.mp H
    obtain ⟨t300, A210, H⟩ := H
    replace H : (itv_Holds.j0 k a0 t300 t295 t296 t297 t298) = some (r1, r2) := H
    have A21 := Aside0.mk A210
    clear A210
    have H' := Aside0.mk H
    clear H
    have hnb22 := NB293_294.out
    have hnc22 := NB294_293.out
    have hcz23_0 := hcz BK293 0
    have hcz23_1 := hcz BK293 1
    have hfz23_0 := blk_frozen BK293.out 0
    have hfz23_1 := blk_frozen BK293.out 1
    go_wp2_with (first | ((with_reducible refine gate_callee (f := 21) rfl ?_); refine goesL_ (some 18) rfl rfl Try.func21 (by kernel_rfl) rfl #[.agg #[.int .i64 t295, .int .i64 t296]] rfl (by (try simp only [List.map_toArray, List.map_cons, List.map_nil]); first | done | rfl | (simp only [List.length_drop, List.length_take]; rfl)) ?_; (with_reducible refine (itv_None.calls t295 t296 false _ A16.out).mono ?_); rintro e w24 ⟨rfl, hb⟩; refine ⟨_, rfl, ?_⟩; have n0_ := Aside0.mk (blk_below (g := gb293) (o := .cells #[.int .i64 t295, .int .i64 t296] 23 (0, 0)) (by refine pkB ?_; refine blk_far ?_ NB293_294.out _; refine pkB ?_; refine blk_far ?_ NB293_294.out _; refine pkB ?_; refine blk_put (cs := #[.int .i64 t295, .int .i64 a1_1]) ?_ 1 _ (by first | rfl | (subst_vars; rfl)); refine pkB ?_; refine blk_put (cs := #[.int .i64 a1_0, .int .i64 a1_1]) ?_ 0 _ (by first | rfl | (subst_vars; rfl)); refine pkB ?_; exact BK293.out) hb); have n1_ := Aside0.mk (blk_below (g := gb294) (o := .cells #[.int .i64 t297, .int .i64 t298] 23 (0, 0)) (by refine pkB ?_; refine blk_put (cs := #[.int .i64 t297, .int .i64 a2_1]) ?_ 1 _ (by first | rfl | (subst_vars; rfl)); refine pkB ?_; refine blk_put (cs := #[.int .i64 a2_0, .int .i64 a2_1]) ?_ 0 _ (by first | rfl | (subst_vars; rfl)); refine pkB ?_; refine blk_far ?_ NB294_293.out _; refine pkB ?_; refine blk_far ?_ NB294_293.out _; refine pkB ?_; exact BK294.out) hb); have n2_ := bst HB hb; clear BK293; clear BK294; clear HB; have BK293 := n0_; have BK294 := n1_; have HB := n2_; clear n0_ n1_ n2_; (try clear hb); (try clear hb2); (try clear hk); (try clear hi); have hcz25_0 := hcz BK294 0; have hcz25_1 := hcz BK294 1; have hfz25_0 := blk_frozen BK294.out 0; have hfz25_1 := blk_frozen BK294.out 1) | (go_at_call 21; (with_reducible refine (itv_None.calls t297 t298 t300 _ A21.out).mono ?_); rintro e w26 ⟨rfl, hb⟩; have n0_ := bst HB hb; replace BK293 := bbw BK293 hb; replace BK294 := bbw BK294 hb; clear HB; have HB := n0_; clear n0_; (try clear hb); (try clear hb2); (try clear hk); (try clear hi)))
    go_meet
    case rel => exact ⟨_, (t300), (by first | rfl | (simp; done) | (simp [*]; done)), H', ⟨by first | omega | exact Nat.le_refl _⟩, pkA BK293, pkA BK294, bpk HB⟩
  case rest =>
   clear HC6
   try clear c1
   try clear c2
   try clear p2
   try clear c3
   try clear c5
   try clear c17
   try clear c18
   try clear c21
   try clear c22
   try clear hcz19_0
   try clear hcz19_1
   try clear hcz23_0
   try clear hcz23_1
   try clear hcz25_0
   try clear hcz25_1
   try clear hfz19_0
   try clear hfz19_1
   try clear hfz23_0
   try clear hfz23_1
   try clear hfz25_0
   try clear hfz25_1
   obtain ⟨kq, x22_5, rfl, HA, HJ5, BK293, BK294, HB⟩ := hcut
   cases kq with
   | zero => exact absurd HA.out (by simp [itv_Holds.j0])
   | succ kj5 =>
    have H := HA.out
    clear HA
    simp only [itv_Holds.j0] at H
    by_cases c27 : x22_5 = true
    ·
     subst c27
     have H1 : (some (false, false)) = some (r1, r2) := by rw [if_pos rfl] at H; exact H
     clear H
     have H := H1
     clear H1
     simp only [Option.some.injEq, Prod.mk.injEq] at H
     obtain ⟨rfl, rfl⟩ := H
     go_wp2
     go_ret2
     exact ⟨by first | rfl | (simp [errW_none, errW_some] <;> rfl) | (simp [*, errW_none, errW_some] <;> rfl) | kernel_rfl, by repeat (first | (with_reducible first | exact HB.out | apply below_alloc | apply pw_below_drewN | apply below_drew1 | refine below_set ?_ GE293.out | refine below_set ?_ GE294.out) | exact HB.out)⟩
    ·
     replace c27 := Bool.eq_false_iff.mpr c27
     subst c27
     have H1 : (if a0 < 14 then (itv_Holds.j1 kj5 a0 true t295 t296 t297 t298) else (itv_Holds.j1 kj5 a0 (decide (a0 > 19)) t295 t296 t297 t298)) = some (r1, r2) := by rw [if_neg (show ¬ (false = true) by decide)] at H; exact H
     clear H
     have H := H1
     clear H1
     have HC28 := Aside0.mk H
     clear H
     go_upto_region 4 with (fail)
     go_cut [28] (fun v28 wc => ∃ (kq : Nat) (x28_27 : Bool), v28 = .bool x28_27 ∧ Aside0 (itv_Holds.j1 kq a0 x28_27 t295 t296 t297 t298 = some (r1, r2)) ∧ Aside0 (kq ≤ kj5) ∧ Aside0 (wc.heap[gb293]? = some (.cells #[.int .i64 t295, .int .i64 t296] 23 (0, 0))) ∧ Aside0 (wc.heap[gb294]? = some (.cells #[.int .i64 t297, .int .i64 t298] 23 (0, 0))) ∧ Aside0 (Below w.heap.size w wc))
     case first =>
      have H := HC28.out
      clear HC28
      by_cases c29 : a0 < 14
      ·
       rw [if_pos c29] at H
       have c29b0 : decide (a0 < 14) = true := decide_eq_true c29
       clear c29
       (first | rw [c29b0] | (simp only [i64_w, i32_w]; rw [c29b0]) | skip)
       have H' := Aside0.mk H
       clear H
       go_wp2
       go_meet
       case rel => exact ⟨_, (true), (by first | rfl | (simp; done) | (simp [*]; done)), H', ⟨by have := HJ5.out; first | omega | exact Nat.le_refl _⟩, pkA BK293, pkA BK294, bpk HB⟩
      ·
       rw [if_neg c29] at H
       have c29b0 : decide (a0 < 14) = false := decide_eq_false c29
       clear c29
       (first | rw [c29b0] | (simp only [i64_w, i32_w]; rw [c29b0]) | skip)
       have H' := Aside0.mk H
       clear H
       go_wp2
       go_meet
       case rel => exact ⟨_, (decide (a0 > 19)), (by first | rfl | (simp; done) | (simp [*]; done)), H', ⟨by have := HJ5.out; first | omega | exact Nat.le_refl _⟩, pkA BK293, pkA BK294, bpk HB⟩
     case rest =>
      clear HC28
      try clear c1
      try clear c2
      try clear p2
      try clear c3
      try clear c5
      try clear c17
      try clear c18
      try clear c21
      try clear c22
      try clear c27
      try clear c29
      try clear c29b0
      try clear hcz19_0
      try clear hcz19_1
      try clear hcz23_0
      try clear hcz23_1
      try clear hcz25_0
      try clear hcz25_1
      try clear hfz19_0
      try clear hfz19_1
      try clear hfz23_0
      try clear hfz23_1
      try clear hfz25_0
      try clear hfz25_1
      try clear p2
      obtain ⟨kq, x28_27, rfl, HA, HJ27, BK293, BK294, HB⟩ := hcut
      cases kq with
      | zero => exact absurd HA.out (by simp [itv_Holds.j1])
      | succ kj27 =>
       have H := HA.out
       clear HA
       simp only [itv_Holds.j1] at H
       by_cases c30 : x28_27 = true
       ·
        subst c30
        have H1 : (some (true, true)) = some (r1, r2) := by rw [if_pos rfl] at H; exact H
        clear H
        have H := H1
        clear H1
        simp only [Option.some.injEq, Prod.mk.injEq] at H
        obtain ⟨rfl, rfl⟩ := H
        go_wp2
        go_ret2
        exact ⟨by first | rfl | (simp [errW_none, errW_some] <;> rfl) | (simp [*, errW_none, errW_some] <;> rfl) | kernel_rfl, by repeat (first | (with_reducible first | exact HB.out | apply below_alloc | apply pw_below_drewN | apply below_drew1 | refine below_set ?_ GE293.out | refine below_set ?_ GE294.out) | exact HB.out)⟩
       ·
        replace c30 := Bool.eq_false_iff.mpr c30
        subst c30
        have H1 : ((itv_Test.f kj27 a0 t295 t296 t297 t298).bind fun bt302 => (if 0 ≤ (wrap64 (a0 - 14)) then (if (wrap64 (a0 - 14)) < 6 then ((itv_Test.f kj27 (rd ([15, 14, 19, 18, 17, 16] : List Int) (wrap64 (a0 - 14))) t295 t296 t297 t298).bind fun bt309 => ((itv_None.f bt302.1 bt302.2.1).bind fun t315 => ((itv_None.f bt309.1 bt309.2.1).bind fun t316 => (some (!t315, !t316))))) else (none)) else (none))) = some (r1, r2) := by rw [if_neg (show ¬ (false = true) by decide)] at H; exact H
        clear H
        have H := H1
        clear H1
        replace H := Option.bind_eq_some_iff.mp H
        obtain ⟨⟨t302, t303, t304, t305⟩, A310, H⟩ := H
        replace H : (if 0 ≤ (wrap64 (a0 - 14)) then (if (wrap64 (a0 - 14)) < 6 then ((itv_Test.f kj27 (rd ([15, 14, 19, 18, 17, 16] : List Int) (wrap64 (a0 - 14))) t295 t296 t297 t298).bind fun bt309 => ((itv_None.f t302 t303).bind fun t315 => ((itv_None.f bt309.1 bt309.2.1).bind fun t316 => (some (!t315, !t316))))) else (none)) else (none)) = some (r1, r2) := H
        have A31 := Aside0.mk A310
        clear A310
        obtain ⟨ji32, hji32⟩ : ∃ j_ : Int, (wrap64 (a0 - 14)) = j_ := ⟨_, rfl⟩
        replace H : (if 0 ≤ (ji32) then (if (ji32) < 6 then ((itv_Test.f kj27 (rd ([15, 14, 19, 18, 17, 16] : List Int) (ji32)) t295 t296 t297 t298).bind fun bt309 => ((itv_None.f t302 t303).bind fun t315 => ((itv_None.f bt309.1 bt309.2.1).bind fun t316 => (some (!t315, !t316))))) else (none)) else (none)) = some (r1, r2) := by first | (rw [hji32] at H; exact H) | (simp only [hji32] at H ⊢; exact H)
        (try rw [hji32] at A31)
        have hji32w : (IntKind.i64.wrap (a0 - 14)) = ji32 := (i64_w _).trans hji32
        by_cases c33 : 0 ≤ (ji32)
        ·
         rw [if_pos c33] at H
         have c33b0 : decide (0 ≤ (ji32)) = true := decide_eq_true c33
         clear c33
         by_cases c34 : (ji32) < 6
         ·
          rw [if_pos c34] at H
          have c34b0 : decide ((ji32) < 6) = true := decide_eq_true c34
          clear c34
          replace H := Option.bind_eq_some_iff.mp H
          obtain ⟨⟨t309, t310, t311, t312⟩, A350, H⟩ := H
          replace H : ((itv_None.f t302 t303).bind fun t315 => ((itv_None.f t309 t310).bind fun t316 => (some (!t315, !t316)))) = some (r1, r2) := H
          have A35 := Aside0.mk A350
          clear A350
          replace H := Option.bind_eq_some_iff.mp H
          obtain ⟨t315, A360, H⟩ := H
          replace H : ((itv_None.f t309 t310).bind fun t316 => (some (!t315, !t316))) = some (r1, r2) := H
          have A36 := Aside0.mk A360
          clear A360
          replace H := Option.bind_eq_some_iff.mp H
          obtain ⟨t316, A370, H⟩ := H
          replace H : (some (!t315, !t316)) = some (r1, r2) := H
          have A37 := Aside0.mk A370
          clear A370
          simp only [Option.some.injEq, Prod.mk.injEq] at H
          obtain ⟨rfl, rfl⟩ := H
          try go_wp2_with (first | ((with_reducible refine gate_dst (N := 8) rfl ?_); refine box_event ?hg (N := 8) ?hd (cs := #[.int .i64 0, .int .i64 0, .int .i64 0, .int .i64 0, .int .i64 0, .int .i64 0]) (t := 54) ?hr ?_; (case hd => rfl); (case hg => rfl); (case hr => first | (go_simp; done) | (go_simp; rfl)); intro gb301 hg w38 hbox hb; have n0_ := bst HB hb; have n1_ := Aside0.mk (hbox); have n2_ := bsz HB hg; have n3_ := bsz HB hg; have n4_ := bn1 BK293 hg; have n5_ := bn2 BK293 hg; have n6_ := bn1 BK294 hg; have n7_ := bn2 BK294 hg; replace BK293 := bbw BK293 hb; replace BK294 := bbw BK294 hb; clear HB; have HB := n0_; have BK301 := n1_; have GW301 := n2_; have GE301 := n3_; have NB293_301 := n4_; have NB301_293 := n5_; have NB294_301 := n6_; have NB301_294 := n7_; clear n0_ n1_ n2_ n3_ n4_ n5_ n6_ n7_; clear hb hbox hg; have hnb39 := NB301_293.out; have hnc39 := NB293_301.out; have hnb40 := NB301_294.out; have hnc40 := NB294_301.out; have hcz41_0 := hcz BK301 0; have hcz41_1 := hcz BK301 1; have hcz41_2 := hcz BK301 2; have hcz41_3 := hcz BK301 3; have hcz41_4 := hcz BK301 4; have hcz41_5 := hcz BK301 5; have hfz41_0 := blk_frozen BK301.out 0; have hfz41_1 := blk_frozen BK301.out 1; have hfz41_2 := blk_frozen BK301.out 2; have hfz41_3 := blk_frozen BK301.out 3; have hfz41_4 := blk_frozen BK301.out 4; have hfz41_5 := blk_frozen BK301.out 5; have hnb42 := NB293_294.out; have hnc42 := NB294_293.out; have hcz43_0 := hcz BK293 0; have hcz43_1 := hcz BK293 1; have hfz43_0 := blk_frozen BK293.out 0; have hfz43_1 := blk_frozen BK293.out 1; have hcz44_0 := hcz BK294 0; have hcz44_1 := hcz BK294 1; have hfz44_0 := blk_frozen BK294.out 0; have hfz44_1 := blk_frozen BK294.out 1) | ((with_reducible refine gate_callee (f := 33) rfl ?_); refine goesL_ (some 34) rfl rfl Try.func33 (by kernel_rfl) rfl #[.int .i64 a0, .agg #[.int .i64 t295, .int .i64 t296], .agg #[.int .i64 t297, .int .i64 t298]] rfl (by (try simp only [List.map_toArray, List.map_cons, List.map_nil]); first | done | rfl | (simp only [List.length_drop, List.length_take]; rfl)) ?_; (with_reducible refine (itv_Test.calls kj27 a0 t295 t296 t297 t298 t302 t303 t304 t305 _ A31.out).mono ?_); rintro e w45 ⟨rfl, hb⟩; refine ⟨_, rfl, ?_⟩; have n0_ := Aside0.mk (blk_below (g := gb293) (o := .cells #[.int .i64 t295, .int .i64 t296] 23 (0, 0)) (by refine pkB ?_; refine blk_far ?_ NB293_301.out _; refine pkB ?_; refine blk_far ?_ NB293_301.out _; refine pkB ?_; refine blk_far ?_ NB293_301.out _; refine pkB ?_; refine blk_far ?_ NB293_301.out _; refine pkB ?_; refine blk_far ?_ NB293_301.out _; refine pkB ?_; refine blk_far ?_ NB293_301.out _; refine pkB ?_; exact BK293.out) hb); have n1_ := Aside0.mk (blk_below (g := gb294) (o := .cells #[.int .i64 t297, .int .i64 t298] 23 (0, 0)) (by refine pkB ?_; refine blk_far ?_ NB294_301.out _; refine pkB ?_; refine blk_far ?_ NB294_301.out _; refine pkB ?_; refine blk_far ?_ NB294_301.out _; refine pkB ?_; refine blk_far ?_ NB294_301.out _; refine pkB ?_; refine blk_far ?_ NB294_301.out _; refine pkB ?_; refine blk_far ?_ NB294_301.out _; refine pkB ?_; exact BK294.out) hb); have n2_ := Aside0.mk (blk_below (g := gb301) (o := .cells #[.int .i64 15, .int .i64 14, .int .i64 19, .int .i64 18, .int .i64 17, .int .i64 16] 54 (0, 0)) (by refine pkB ?_; refine blk_put (cs := #[.int .i64 15, .int .i64 14, .int .i64 19, .int .i64 18, .int .i64 17, .int .i64 0]) ?_ 5 _ (by first | rfl | (subst_vars; rfl)); refine pkB ?_; refine blk_put (cs := #[.int .i64 15, .int .i64 14, .int .i64 19, .int .i64 18, .int .i64 0, .int .i64 0]) ?_ 4 _ (by first | rfl | (subst_vars; rfl)); refine pkB ?_; refine blk_put (cs := #[.int .i64 15, .int .i64 14, .int .i64 19, .int .i64 0, .int .i64 0, .int .i64 0]) ?_ 3 _ (by first | rfl | (subst_vars; rfl)); refine pkB ?_; refine blk_put (cs := #[.int .i64 15, .int .i64 14, .int .i64 0, .int .i64 0, .int .i64 0, .int .i64 0]) ?_ 2 _ (by first | rfl | (subst_vars; rfl)); refine pkB ?_; refine blk_put (cs := #[.int .i64 15, .int .i64 0, .int .i64 0, .int .i64 0, .int .i64 0, .int .i64 0]) ?_ 1 _ (by first | rfl | (subst_vars; rfl)); refine pkB ?_; refine blk_put (cs := #[.int .i64 0, .int .i64 0, .int .i64 0, .int .i64 0, .int .i64 0, .int .i64 0]) ?_ 0 _ (by first | rfl | (subst_vars; rfl)); refine pkB ?_; exact BK301.out) hb); have n3_ := bst HB hb; clear BK293; clear BK294; clear BK301; clear HB; have BK293 := n0_; have BK294 := n1_; have BK301 := n2_; have HB := n3_; clear n0_ n1_ n2_ n3_; (try clear hb); (try clear hb2); (try clear hk); (try clear hi)) | ((with_reducible refine gate_dst (N := 9) rfl ?_); refine box_event ?hg (N := 9) ?hd (cs := #[.int .i64 0, .int .i64 0]) (t := 23) ?hr ?_; (case hd => rfl); (case hg => rfl); (case hr => first | (go_simp; done) | (go_simp; rfl)); intro gb306 hg w46 hbox hb; have n0_ := bst HB hb; have n1_ := Aside0.mk (hbox); have n2_ := bsz HB hg; have n3_ := bsz HB hg; have n4_ := bn1 BK293 hg; have n5_ := bn2 BK293 hg; have n6_ := bn1 BK294 hg; have n7_ := bn2 BK294 hg; have n8_ := bn1 BK301 hg; have n9_ := bn2 BK301 hg; replace BK293 := bbw BK293 hb; replace BK294 := bbw BK294 hb; replace BK301 := bbw BK301 hb; clear HB; have HB := n0_; have BK306 := n1_; have GW306 := n2_; have GE306 := n3_; have NB293_306 := n4_; have NB306_293 := n5_; have NB294_306 := n6_; have NB306_294 := n7_; have NB301_306 := n8_; have NB306_301 := n9_; clear n0_ n1_ n2_ n3_ n4_ n5_ n6_ n7_ n8_ n9_; clear hb hbox hg) | ((with_reducible refine gate_dst (N := 10) rfl ?_); refine box_event ?hg (N := 10) ?hd (cs := #[.int .i64 0, .int .i64 0]) (t := 23) ?hr ?_; (case hd => rfl); (case hg => rfl); (case hr => first | (go_simp; done) | (go_simp; rfl)); intro gb307 hg w47 hbox hb; have n0_ := bst HB hb; have n1_ := Aside0.mk (hbox); have n2_ := bsz HB hg; have n3_ := bsz HB hg; have n4_ := bn1 BK293 hg; have n5_ := bn2 BK293 hg; have n6_ := bn1 BK294 hg; have n7_ := bn2 BK294 hg; have n8_ := bn1 BK301 hg; have n9_ := bn2 BK301 hg; have n10_ := bn1 BK306 hg; have n11_ := bn2 BK306 hg; replace BK293 := bbw BK293 hb; replace BK294 := bbw BK294 hb; replace BK301 := bbw BK301 hb; replace BK306 := bbw BK306 hb; clear HB; have HB := n0_; have BK307 := n1_; have GW307 := n2_; have GE307 := n3_; have NB293_307 := n4_; have NB307_293 := n5_; have NB294_307 := n6_; have NB307_294 := n7_; have NB301_307 := n8_; have NB307_301 := n9_; have NB306_307 := n10_; have NB307_306 := n11_; clear n0_ n1_ n2_ n3_ n4_ n5_ n6_ n7_ n8_ n9_ n10_ n11_; clear hb hbox hg; have hnb48 := NB306_293.out; have hnc48 := NB293_306.out; have hnb49 := NB306_294.out; have hnc49 := NB294_306.out; have hnb50 := NB306_301.out; have hnc50 := NB301_306.out; have hnb51 := NB306_307.out; have hnc51 := NB307_306.out; have hcz52_0 := hcz BK306 0; have hcz52_1 := hcz BK306 1; have hfz52_0 := blk_frozen BK306.out 0; have hfz52_1 := blk_frozen BK306.out 1; have hnb53 := NB307_293.out; have hnc53 := NB293_307.out; have hnb54 := NB307_294.out; have hnc54 := NB294_307.out; have hnb55 := NB307_301.out; have hnc55 := NB301_307.out; have hcz56_0 := hcz BK307 0; have hcz56_1 := hcz BK307 1; have hfz56_0 := blk_frozen BK307.out 0; have hfz56_1 := blk_frozen BK307.out 1))
          have n0_ : Aside0 (((((w47.setCell ⟨gb306, 0, none⟩ (.int .i64 t302)).setCell ⟨gb306, 1, none⟩ (.int .i64 t303)).setCell ⟨gb307, 0, none⟩ (.int .i64 t304)).setCell ⟨gb307, 1, none⟩ (.int .i64 t305)).heap[gb293]? = some (.cells #[.int .i64 t295, .int .i64 t296] 23 (0, 0))) := ⟨by refine pkB ?_; refine blk_far ?_ NB293_307.out _; refine pkB ?_; refine blk_far ?_ NB293_307.out _; refine pkB ?_; refine blk_far ?_ NB293_306.out _; refine pkB ?_; refine blk_far ?_ NB293_306.out _; refine pkB ?_; exact BK293.out⟩
          have n1_ : Aside0 (((((w47.setCell ⟨gb306, 0, none⟩ (.int .i64 t302)).setCell ⟨gb306, 1, none⟩ (.int .i64 t303)).setCell ⟨gb307, 0, none⟩ (.int .i64 t304)).setCell ⟨gb307, 1, none⟩ (.int .i64 t305)).heap[gb294]? = some (.cells #[.int .i64 t297, .int .i64 t298] 23 (0, 0))) := ⟨by refine pkB ?_; refine blk_far ?_ NB294_307.out _; refine pkB ?_; refine blk_far ?_ NB294_307.out _; refine pkB ?_; refine blk_far ?_ NB294_306.out _; refine pkB ?_; refine blk_far ?_ NB294_306.out _; refine pkB ?_; exact BK294.out⟩
          have n2_ : Aside0 (((((w47.setCell ⟨gb306, 0, none⟩ (.int .i64 t302)).setCell ⟨gb306, 1, none⟩ (.int .i64 t303)).setCell ⟨gb307, 0, none⟩ (.int .i64 t304)).setCell ⟨gb307, 1, none⟩ (.int .i64 t305)).heap[gb301]? = some (.cells #[.int .i64 15, .int .i64 14, .int .i64 19, .int .i64 18, .int .i64 17, .int .i64 16] 54 (0, 0))) := ⟨by refine pkB ?_; refine blk_far ?_ NB301_307.out _; refine pkB ?_; refine blk_far ?_ NB301_307.out _; refine pkB ?_; refine blk_far ?_ NB301_306.out _; refine pkB ?_; refine blk_far ?_ NB301_306.out _; refine pkB ?_; exact BK301.out⟩
          have n3_ : Aside0 (((((w47.setCell ⟨gb306, 0, none⟩ (.int .i64 t302)).setCell ⟨gb306, 1, none⟩ (.int .i64 t303)).setCell ⟨gb307, 0, none⟩ (.int .i64 t304)).setCell ⟨gb307, 1, none⟩ (.int .i64 t305)).heap[gb306]? = some (.cells #[.int .i64 t302, .int .i64 t303] 23 (0, 0))) := ⟨by refine pkB ?_; refine blk_far ?_ NB306_307.out _; refine pkB ?_; refine blk_far ?_ NB306_307.out _; refine pkB ?_; refine blk_put (cs := #[.int .i64 t302, .int .i64 0]) ?_ 1 _ (by first | rfl | (subst_vars; rfl)); refine pkB ?_; refine blk_put (cs := #[.int .i64 0, .int .i64 0]) ?_ 0 _ (by first | rfl | (subst_vars; rfl)); refine pkB ?_; exact BK306.out⟩
          have n4_ : Aside0 (((((w47.setCell ⟨gb306, 0, none⟩ (.int .i64 t302)).setCell ⟨gb306, 1, none⟩ (.int .i64 t303)).setCell ⟨gb307, 0, none⟩ (.int .i64 t304)).setCell ⟨gb307, 1, none⟩ (.int .i64 t305)).heap[gb307]? = some (.cells #[.int .i64 t304, .int .i64 t305] 23 (0, 0))) := ⟨by refine pkB ?_; refine blk_put (cs := #[.int .i64 t304, .int .i64 0]) ?_ 1 _ (by first | rfl | (subst_vars; rfl)); refine pkB ?_; refine blk_put (cs := #[.int .i64 0, .int .i64 0]) ?_ 0 _ (by first | rfl | (subst_vars; rfl)); refine pkB ?_; refine blk_far ?_ NB307_306.out _; refine pkB ?_; refine blk_far ?_ NB307_306.out _; refine pkB ?_; exact BK307.out⟩
          have n5_ : Aside0 (Below w.heap.size w ((((w47.setCell ⟨gb306, 0, none⟩ (.int .i64 t302)).setCell ⟨gb306, 1, none⟩ (.int .i64 t303)).setCell ⟨gb307, 0, none⟩ (.int .i64 t304)).setCell ⟨gb307, 1, none⟩ (.int .i64 t305))) := bpk HB
          (try clear BK293)
          (try clear BK294)
          (try clear BK301)
          (try clear BK306)
          (try clear BK307)
          (try clear HB)
          generalize ((((w47.setCell ⟨gb306, 0, none⟩ (.int .i64 t302)).setCell ⟨gb306, 1, none⟩ (.int .i64 t303)).setCell ⟨gb307, 0, none⟩ (.int .i64 t304)).setCell ⟨gb307, 1, none⟩ (.int .i64 t305)) = w57 at n0_ n1_ n2_ n3_ n4_ n5_ ⊢
          have BK293 := n0_
          have BK294 := n1_
          have BK301 := n2_
          have BK306 := n3_
          have BK307 := n4_
          have HB := n5_
          clear n0_ n1_ n2_ n3_ n4_ n5_
          have n0_ := Aside0.mk (blk_drew BK293.out)
          have n1_ := Aside0.mk (blk_drew BK294.out)
          have n2_ := Aside0.mk (blk_drew BK301.out)
          have n3_ := Aside0.mk (blk_drew BK306.out)
          have n4_ := Aside0.mk (blk_drew BK307.out)
          have n5_ := Aside0.mk (below_drew1 HB.out)
          clear BK293
          clear BK294
          clear BK301
          clear BK306
          clear BK307
          clear HB
          have BK293 := n0_
          have BK294 := n1_
          have BK301 := n2_
          have BK306 := n3_
          have BK307 := n4_
          have HB := n5_
          clear n0_ n1_ n2_ n3_ n4_ n5_
          have p308 : 0 ≤ ((ji32) : Int) := of_decide_eq_true (by first | (with_reducible assumption) | assumption)
          have q308 : (ji32) < (6 : Int) := of_decide_eq_true (by first | (with_reducible assumption) | assumption)
          have hx308_0 := box_at (l := ([15, 14, 19, 18, 17, 16] : List Int)) (t := 54) (show _ = some (Obj.cells ((([15, 14, 19, 18, 17, 16] : List Int)).map (Value.int .i64)).toArray 54 (0, 0)) from pk BK301.out) ((ji32)) p308 q308
          (first | simp only [add_plain] at hx308_0 | simp only [Addr.add, Nat.zero_add] at hx308_0 | skip)
          replace p308 := eq_true p308
          replace q308 := eq_true q308
          refine start_ (n := 14) (S := fun w' => w'.cell? ⟨gb293, 0, none⟩ = some (.int .i64 t295) ∧ w'.cell? ⟨gb293, 1, none⟩ = some (.int .i64 t296) ∧ w'.cell? ⟨gb294, 0, none⟩ = some (.int .i64 t297) ∧ w'.cell? ⟨gb294, 1, none⟩ = some (.int .i64 t298) ∧ w'.cell? ⟨gb301, ((ji32)).toNat, none⟩ = some (.int .i64 (rd ([15, 14, 19, 18, 17, 16] : List Int) (ji32)))) (ds := []) #[false, false, false, false, false, false, false, false, false, false, false, false, false, false] (by kernel_rfl) rfl rfl ⟨hcz BK293 0, hcz BK293 1, hcz BK294 0, hcz BK294 1, (box_at2 (l := ([15, 14, 19, 18, 17, 16] : List Int)) (t := 54) (show _ = some (Obj.cells ((([15, 14, 19, 18, 17, 16] : List Int)).map (Value.int .i64)).toArray 54 (0, 0)) from BK301.out) ((ji32)) (of_eq_true p308) (of_eq_true q308))⟩ (fun hHeld => ?_); refine with_tabW itv_Holds.tab8 itv_Holds.bits8 (fun HT_ HW_ => ?_)
          generalize w57.drew = w58 at BK293 BK294 BK301 BK306 BK307 HB hx308_0 hHeld ⊢
          refine pureQ 0 38 HT_.out ?_
          refine pureQ 1 39 HT_.out ?_
          refine pureQ 2 40 HT_.out ?_
          refine takeQ 3 41 HT_.out HW_.out hHeld ?_
          refine takeQ 4 42 HT_.out HW_.out hHeld ?_
          refine takeQ 5 43 HT_.out HW_.out hHeld ?_
          refine join_ (σ := Nat × Nat) 2 #[true, true, true, true, true, true, true, true, true, true, true, true, false, false] (fun s_ => [(44, .tuple #[.agg #[.int .i64 t309, .int .i64 t310], .agg #[.int .i64 t311, .int .i64 t312]]), (11, .pointer (some ⟨s_.1, 0, none⟩)), (12, .pointer (some ⟨s_.2, 0, none⟩)), (37, .tuple #[.agg #[.int .i64 t309, .int .i64 t310], .agg #[.int .i64 t311, .int .i64 t312]]), (45, .agg #[.int .i64 t309, .int .i64 t310]), (46, .agg #[.int .i64 t311, .int .i64 t312])]) (fun s_ w' => (w'.cell? ⟨gb293, 0, none⟩ = some (.int .i64 t295) ∧ w'.cell? ⟨gb293, 1, none⟩ = some (.int .i64 t296) ∧ w'.cell? ⟨gb294, 0, none⟩ = some (.int .i64 t297) ∧ w'.cell? ⟨gb294, 1, none⟩ = some (.int .i64 t298) ∧ w'.cell? ⟨gb301, ((ji32)).toNat, none⟩ = some (.int .i64 (rd ([15, 14, 19, 18, 17, 16] : List Int) (ji32)))) ∧ (w'.heap[gb293]? = some (.cells #[.int .i64 t295, .int .i64 t296] 23 (0, 0))) ∧ (w'.heap[gb294]? = some (.cells #[.int .i64 t297, .int .i64 t298] 23 (0, 0))) ∧ (w'.heap[gb301]? = some (.cells #[.int .i64 15, .int .i64 14, .int .i64 19, .int .i64 18, .int .i64 17, .int .i64 16] 54 (0, 0))) ∧ (w'.heap[gb306]? = some (.cells #[.int .i64 t302, .int .i64 t303] 23 (0, 0))) ∧ (w'.heap[gb307]? = some (.cells #[.int .i64 t304, .int .i64 t305] 23 (0, 0))) ∧ (w'.heap[s_.1]? = some (.cells #[.int .i64 0, .int .i64 0] 23 (0, 0))) ∧ (w'.heap[s_.2]? = some (.cells #[.int .i64 0, .int .i64 0] 23 (0, 0))) ∧ (w.heap.size ≤ s_.1) ∧ (w.heap.size ≤ s_.1) ∧ (gb293 ≠ s_.1) ∧ (s_.1 ≠ gb293) ∧ (gb294 ≠ s_.1) ∧ (s_.1 ≠ gb294) ∧ (gb301 ≠ s_.1) ∧ (s_.1 ≠ gb301) ∧ (gb306 ≠ s_.1) ∧ (s_.1 ≠ gb306) ∧ (gb307 ≠ s_.1) ∧ (s_.1 ≠ gb307) ∧ (s_.2 ≠ s_.1) ∧ (s_.1 ≠ s_.2) ∧ (w.heap.size ≤ s_.2) ∧ (w.heap.size ≤ s_.2) ∧ (gb293 ≠ s_.2) ∧ (s_.2 ≠ gb293) ∧ (gb294 ≠ s_.2) ∧ (s_.2 ≠ gb294) ∧ (gb301 ≠ s_.2) ∧ (s_.2 ≠ gb301) ∧ (gb306 ≠ s_.2) ∧ (s_.2 ≠ gb306) ∧ (gb307 ≠ s_.2) ∧ (s_.2 ≠ gb307) ∧ (Below w.heap.size w w')) ?_ ?_
          rotate_left
          ·
           intro hJ6_10_11
           refine join_ (σ := Nat) 3 #[true, true, true, true, true, true, true, true, true, true, true, false, false, false] (fun s_ => [(44, .tuple #[.agg #[.int .i64 t309, .int .i64 t310], .agg #[.int .i64 t311, .int .i64 t312]]), (11, .pointer (some ⟨s_, 0, none⟩)), (37, .tuple #[.agg #[.int .i64 t309, .int .i64 t310], .agg #[.int .i64 t311, .int .i64 t312]]), (45, .agg #[.int .i64 t309, .int .i64 t310]), (46, .agg #[.int .i64 t311, .int .i64 t312])]) (fun s_ w' => (w'.cell? ⟨gb293, 0, none⟩ = some (.int .i64 t295) ∧ w'.cell? ⟨gb293, 1, none⟩ = some (.int .i64 t296) ∧ w'.cell? ⟨gb294, 0, none⟩ = some (.int .i64 t297) ∧ w'.cell? ⟨gb294, 1, none⟩ = some (.int .i64 t298) ∧ w'.cell? ⟨gb301, ((ji32)).toNat, none⟩ = some (.int .i64 (rd ([15, 14, 19, 18, 17, 16] : List Int) (ji32)))) ∧ (w'.heap[gb293]? = some (.cells #[.int .i64 t295, .int .i64 t296] 23 (0, 0))) ∧ (w'.heap[gb294]? = some (.cells #[.int .i64 t297, .int .i64 t298] 23 (0, 0))) ∧ (w'.heap[gb301]? = some (.cells #[.int .i64 15, .int .i64 14, .int .i64 19, .int .i64 18, .int .i64 17, .int .i64 16] 54 (0, 0))) ∧ (w'.heap[gb306]? = some (.cells #[.int .i64 t302, .int .i64 t303] 23 (0, 0))) ∧ (w'.heap[gb307]? = some (.cells #[.int .i64 t304, .int .i64 t305] 23 (0, 0))) ∧ (w'.heap[s_]? = some (.cells #[.int .i64 0, .int .i64 0] 23 (0, 0))) ∧ (w.heap.size ≤ s_) ∧ (w.heap.size ≤ s_) ∧ (gb293 ≠ s_) ∧ (s_ ≠ gb293) ∧ (gb294 ≠ s_) ∧ (s_ ≠ gb294) ∧ (gb301 ≠ s_) ∧ (s_ ≠ gb301) ∧ (gb306 ≠ s_) ∧ (s_ ≠ gb306) ∧ (gb307 ≠ s_) ∧ (s_ ≠ gb307) ∧ (Below w.heap.size w w')) ?_ ?_
           rotate_left
           · intro hJ6_10
             refine join_ (σ := Nat) 3 #[true, true, true, true, true, true, true, true, true, true, false, true, false, false] (fun s_ => [(44, .tuple #[.agg #[.int .i64 t309, .int .i64 t310], .agg #[.int .i64 t311, .int .i64 t312]]), (12, .pointer (some ⟨s_, 0, none⟩)), (37, .tuple #[.agg #[.int .i64 t309, .int .i64 t310], .agg #[.int .i64 t311, .int .i64 t312]]), (45, .agg #[.int .i64 t309, .int .i64 t310]), (46, .agg #[.int .i64 t311, .int .i64 t312])]) (fun s_ w' => (w'.cell? ⟨gb293, 0, none⟩ = some (.int .i64 t295) ∧ w'.cell? ⟨gb293, 1, none⟩ = some (.int .i64 t296) ∧ w'.cell? ⟨gb294, 0, none⟩ = some (.int .i64 t297) ∧ w'.cell? ⟨gb294, 1, none⟩ = some (.int .i64 t298) ∧ w'.cell? ⟨gb301, ((ji32)).toNat, none⟩ = some (.int .i64 (rd ([15, 14, 19, 18, 17, 16] : List Int) (ji32)))) ∧ (w'.heap[gb293]? = some (.cells #[.int .i64 t295, .int .i64 t296] 23 (0, 0))) ∧ (w'.heap[gb294]? = some (.cells #[.int .i64 t297, .int .i64 t298] 23 (0, 0))) ∧ (w'.heap[gb301]? = some (.cells #[.int .i64 15, .int .i64 14, .int .i64 19, .int .i64 18, .int .i64 17, .int .i64 16] 54 (0, 0))) ∧ (w'.heap[gb306]? = some (.cells #[.int .i64 t302, .int .i64 t303] 23 (0, 0))) ∧ (w'.heap[gb307]? = some (.cells #[.int .i64 t304, .int .i64 t305] 23 (0, 0))) ∧ (w'.heap[s_]? = some (.cells #[.int .i64 0, .int .i64 0] 23 (0, 0))) ∧ (w.heap.size ≤ s_) ∧ (w.heap.size ≤ s_) ∧ (gb293 ≠ s_) ∧ (s_ ≠ gb293) ∧ (gb294 ≠ s_) ∧ (s_ ≠ gb294) ∧ (gb301 ≠ s_) ∧ (s_ ≠ gb301) ∧ (gb306 ≠ s_) ∧ (s_ ≠ gb306) ∧ (gb307 ≠ s_) ∧ (s_ ≠ gb307) ∧ (Below w.heap.size w w')) ?_ ?_
             rotate_left
             · intro hJ6_11
               refine join_ (σ := Nat × Nat) 6 #[true, true, true, true, true, true, false, false, false, false, true, true, false, false] (fun s_ => [(11, .pointer (some ⟨s_.1, 0, none⟩)), (12, .pointer (some ⟨s_.2, 0, none⟩))]) (fun s_ w' => (w'.cell? ⟨gb293, 0, none⟩ = some (.int .i64 t295) ∧ w'.cell? ⟨gb293, 1, none⟩ = some (.int .i64 t296) ∧ w'.cell? ⟨gb294, 0, none⟩ = some (.int .i64 t297) ∧ w'.cell? ⟨gb294, 1, none⟩ = some (.int .i64 t298) ∧ w'.cell? ⟨gb301, ((ji32)).toNat, none⟩ = some (.int .i64 (rd ([15, 14, 19, 18, 17, 16] : List Int) (ji32)))) ∧ (w'.heap[gb293]? = some (.cells #[.int .i64 t295, .int .i64 t296] 23 (0, 0))) ∧ (w'.heap[gb294]? = some (.cells #[.int .i64 t297, .int .i64 t298] 23 (0, 0))) ∧ (w'.heap[gb301]? = some (.cells #[.int .i64 15, .int .i64 14, .int .i64 19, .int .i64 18, .int .i64 17, .int .i64 16] 54 (0, 0))) ∧ (w'.heap[gb306]? = some (.cells #[.int .i64 t302, .int .i64 t303] 23 (0, 0))) ∧ (w'.heap[gb307]? = some (.cells #[.int .i64 t304, .int .i64 t305] 23 (0, 0))) ∧ (w'.heap[s_.1]? = some (.cells #[.int .i64 0, .int .i64 0] 23 (0, 0))) ∧ (w'.heap[s_.2]? = some (.cells #[.int .i64 0, .int .i64 0] 23 (0, 0))) ∧ (w.heap.size ≤ s_.1) ∧ (w.heap.size ≤ s_.1) ∧ (gb293 ≠ s_.1) ∧ (s_.1 ≠ gb293) ∧ (gb294 ≠ s_.1) ∧ (s_.1 ≠ gb294) ∧ (gb301 ≠ s_.1) ∧ (s_.1 ≠ gb301) ∧ (gb306 ≠ s_.1) ∧ (s_.1 ≠ gb306) ∧ (gb307 ≠ s_.1) ∧ (s_.1 ≠ gb307) ∧ (s_.2 ≠ s_.1) ∧ (s_.1 ≠ s_.2) ∧ (w.heap.size ≤ s_.2) ∧ (w.heap.size ≤ s_.2) ∧ (gb293 ≠ s_.2) ∧ (s_.2 ≠ gb293) ∧ (gb294 ≠ s_.2) ∧ (s_.2 ≠ gb294) ∧ (gb301 ≠ s_.2) ∧ (s_.2 ≠ gb301) ∧ (gb306 ≠ s_.2) ∧ (s_.2 ≠ gb306) ∧ (gb307 ≠ s_.2) ∧ (s_.2 ≠ gb307) ∧ (Below w.heap.size w w')) ?_ ?_
               rotate_left
               · intro hJ10_11
                 refine join_ (σ := Unit) 4 #[true, true, true, true, true, true, true, true, true, true, false, false, false, false] (fun s_ => [(44, .tuple #[.agg #[.int .i64 t309, .int .i64 t310], .agg #[.int .i64 t311, .int .i64 t312]]), (37, .tuple #[.agg #[.int .i64 t309, .int .i64 t310], .agg #[.int .i64 t311, .int .i64 t312]]), (45, .agg #[.int .i64 t309, .int .i64 t310]), (46, .agg #[.int .i64 t311, .int .i64 t312])]) (fun s_ w' => (w'.cell? ⟨gb293, 0, none⟩ = some (.int .i64 t295) ∧ w'.cell? ⟨gb293, 1, none⟩ = some (.int .i64 t296) ∧ w'.cell? ⟨gb294, 0, none⟩ = some (.int .i64 t297) ∧ w'.cell? ⟨gb294, 1, none⟩ = some (.int .i64 t298) ∧ w'.cell? ⟨gb301, ((ji32)).toNat, none⟩ = some (.int .i64 (rd ([15, 14, 19, 18, 17, 16] : List Int) (ji32)))) ∧ (w'.heap[gb293]? = some (.cells #[.int .i64 t295, .int .i64 t296] 23 (0, 0))) ∧ (w'.heap[gb294]? = some (.cells #[.int .i64 t297, .int .i64 t298] 23 (0, 0))) ∧ (w'.heap[gb301]? = some (.cells #[.int .i64 15, .int .i64 14, .int .i64 19, .int .i64 18, .int .i64 17, .int .i64 16] 54 (0, 0))) ∧ (w'.heap[gb306]? = some (.cells #[.int .i64 t302, .int .i64 t303] 23 (0, 0))) ∧ (w'.heap[gb307]? = some (.cells #[.int .i64 t304, .int .i64 t305] 23 (0, 0))) ∧ (Below w.heap.size w w')) ?_ ?_
                 rotate_left
                 · intro hJ6
                   refine join_ (σ := Nat) 7 #[true, true, true, true, true, true, false, false, false, false, true, false, false, false] (fun s_ => [(11, .pointer (some ⟨s_, 0, none⟩))]) (fun s_ w' => (w'.cell? ⟨gb293, 0, none⟩ = some (.int .i64 t295) ∧ w'.cell? ⟨gb293, 1, none⟩ = some (.int .i64 t296) ∧ w'.cell? ⟨gb294, 0, none⟩ = some (.int .i64 t297) ∧ w'.cell? ⟨gb294, 1, none⟩ = some (.int .i64 t298) ∧ w'.cell? ⟨gb301, ((ji32)).toNat, none⟩ = some (.int .i64 (rd ([15, 14, 19, 18, 17, 16] : List Int) (ji32)))) ∧ (w'.heap[gb293]? = some (.cells #[.int .i64 t295, .int .i64 t296] 23 (0, 0))) ∧ (w'.heap[gb294]? = some (.cells #[.int .i64 t297, .int .i64 t298] 23 (0, 0))) ∧ (w'.heap[gb301]? = some (.cells #[.int .i64 15, .int .i64 14, .int .i64 19, .int .i64 18, .int .i64 17, .int .i64 16] 54 (0, 0))) ∧ (w'.heap[gb306]? = some (.cells #[.int .i64 t302, .int .i64 t303] 23 (0, 0))) ∧ (w'.heap[gb307]? = some (.cells #[.int .i64 t304, .int .i64 t305] 23 (0, 0))) ∧ (w'.heap[s_]? = some (.cells #[.int .i64 0, .int .i64 0] 23 (0, 0))) ∧ (w.heap.size ≤ s_) ∧ (w.heap.size ≤ s_) ∧ (gb293 ≠ s_) ∧ (s_ ≠ gb293) ∧ (gb294 ≠ s_) ∧ (s_ ≠ gb294) ∧ (gb301 ≠ s_) ∧ (s_ ≠ gb301) ∧ (gb306 ≠ s_) ∧ (s_ ≠ gb306) ∧ (gb307 ≠ s_) ∧ (s_ ≠ gb307) ∧ (Below w.heap.size w w')) ?_ ?_
                   rotate_left
                   · intro hJ10
                     refine join_ (σ := Nat) 7 #[true, true, true, true, true, true, false, false, false, false, false, true, false, false] (fun s_ => [(12, .pointer (some ⟨s_, 0, none⟩))]) (fun s_ w' => (w'.cell? ⟨gb293, 0, none⟩ = some (.int .i64 t295) ∧ w'.cell? ⟨gb293, 1, none⟩ = some (.int .i64 t296) ∧ w'.cell? ⟨gb294, 0, none⟩ = some (.int .i64 t297) ∧ w'.cell? ⟨gb294, 1, none⟩ = some (.int .i64 t298) ∧ w'.cell? ⟨gb301, ((ji32)).toNat, none⟩ = some (.int .i64 (rd ([15, 14, 19, 18, 17, 16] : List Int) (ji32)))) ∧ (w'.heap[gb293]? = some (.cells #[.int .i64 t295, .int .i64 t296] 23 (0, 0))) ∧ (w'.heap[gb294]? = some (.cells #[.int .i64 t297, .int .i64 t298] 23 (0, 0))) ∧ (w'.heap[gb301]? = some (.cells #[.int .i64 15, .int .i64 14, .int .i64 19, .int .i64 18, .int .i64 17, .int .i64 16] 54 (0, 0))) ∧ (w'.heap[gb306]? = some (.cells #[.int .i64 t302, .int .i64 t303] 23 (0, 0))) ∧ (w'.heap[gb307]? = some (.cells #[.int .i64 t304, .int .i64 t305] 23 (0, 0))) ∧ (w'.heap[s_]? = some (.cells #[.int .i64 0, .int .i64 0] 23 (0, 0))) ∧ (w.heap.size ≤ s_) ∧ (w.heap.size ≤ s_) ∧ (gb293 ≠ s_) ∧ (s_ ≠ gb293) ∧ (gb294 ≠ s_) ∧ (s_ ≠ gb294) ∧ (gb301 ≠ s_) ∧ (s_ ≠ gb301) ∧ (gb306 ≠ s_) ∧ (s_ ≠ gb306) ∧ (gb307 ≠ s_) ∧ (s_ ≠ gb307) ∧ (Below w.heap.size w w')) ?_ ?_
                     rotate_left
                     · intro hJ11
                       refine three_ (i := 6) (j := 10) (k := 11) (Ni := some 44) (Nj := some 11) (Nk := some 12) #[true, true, true, true, true, true, true, false, false, false, false, false, false, false] #[true, true, true, true, true, true, false, false, false, false, true, false, false, false] #[true, true, true, true, true, true, false, false, false, false, false, true, false, false] rfl rfl rfl rfl rfl rfl (three_of HT_.out (by kernel_rfl)) (by decide) (by decide) (by decide) (fun K hK => ?_) (fun K hK => ?_) (fun K hK => ?_)
                       · skip
                         refine goes_ Try.func33 (by kernel_rfl) rfl #[.int .i64 (rd ([15, 14, 19, 18, 17, 16] : List Int) (ji32)), .agg #[.int .i64 t295, .int .i64 t296], .agg #[.int .i64 t297, .int .i64 t298]] (by rfl) rfl rfl (by (try simp only [List.map_toArray, List.map_cons, List.map_nil]); first | done | (simp only [hji32]; rfl) | rfl | (simp only [List.length_drop, List.length_take]; rfl)) ?_
                         with_reducible refine (itv_Test.calls kj27 (rd ([15, 14, 19, 18, 17, 16] : List Int) (ji32)) t295 t296 t297 t298 t309 t310 t311 t312 _ A35.out).mono ?_
                         rintro e w59 ⟨rfl, hb⟩
                         refine ⟨_, rfl, ?_⟩
                         have n0_ := bst HB hb
                         replace BK293 := bbw BK293 hb
                         replace BK294 := bbw BK294 hb
                         replace BK301 := bbw BK301 hb
                         replace BK306 := bbw BK306 hb
                         replace BK307 := bbw BK307 hb
                         clear HB
                         have HB := n0_
                         clear n0_
                         (try clear hb)
                         (try clear hb2)
                         (try clear hk)
                         (try clear hi)
                         refine hK.out _ _ ⟨hcz BK293 0, hcz BK293 1, hcz BK294 0, hcz BK294 1, (box_at2 (l := ([15, 14, 19, 18, 17, 16] : List Int)) (t := 54) (show _ = some (Obj.cells ((([15, 14, 19, 18, 17, 16] : List Int)).map (Value.int .i64)).toArray 54 (0, 0)) from BK301.out) ((ji32)) (of_eq_true p308) (of_eq_true q308))⟩ (fun hHeld => ?_)
                         clear hK K
                         refine norm_ (a' := ?_) ?_ ?_
                         rotate_left
                         · show Act.put _ (some 44) _ = _
                           simp only [Act.put, List.setIfInBounds_toArray, List.set_cons_zero, List.set_cons_succ, i64_w, i32_w]
                           rfl
                         refine pure_ (i := 7) (N := some 37) (v := ?_) (a' := ?_) #[true, true, true, true, true, true, true, true, false, false, false, false, false, false] rfl rfl (any_of HT_.out (by kernel_rfl)) (fun _ _ _ h => h) (Or.inl ⟨by rfl, ?_⟩) ?_ ?_
                         rotate_left
                         · intro w'
                           go_simp
                           with_reducible rfl
                         rotate_left
                         · simp only [Act.put, List.setIfInBounds_toArray, List.set_cons_zero, List.set_cons_succ, i64_w, i32_w]
                           rfl
                         refine pure_ (i := 8) (N := some 45) (v := ?_) (a' := ?_) #[true, true, true, true, true, true, true, true, true, false, false, false, false, false] rfl rfl (any_of HT_.out (by kernel_rfl)) (fun _ _ _ h => h) (Or.inl ⟨by rfl, ?_⟩) ?_ ?_
                         rotate_left
                         · intro w'
                           go_simp
                           with_reducible rfl
                         rotate_left
                         · simp only [Act.put, List.setIfInBounds_toArray, List.set_cons_zero, List.set_cons_succ, i64_w, i32_w]
                           rfl
                         refine pure_ (i := 9) (N := some 46) (v := ?_) (a' := ?_) #[true, true, true, true, true, true, true, true, true, true, false, false, false, false] rfl rfl (any_of HT_.out (by kernel_rfl)) (fun _ _ _ h => h) (Or.inl ⟨by rfl, ?_⟩) ?_ ?_
                         rotate_left
                         · intro w'
                           go_simp
                           with_reducible rfl
                         rotate_left
                         · simp only [Act.put, List.setIfInBounds_toArray, List.set_cons_zero, List.set_cons_succ, i64_w, i32_w]
                           rfl
                         exact norm_ (by first | (simp only [putAll, Act.put, List.setIfInBounds_toArray, List.set_cons_zero, List.set_cons_succ]; done) | (simp only [putAll, Act.put, List.setIfInBounds_toArray, List.set_cons_zero, List.set_cons_succ]; rfl)) (hJ6 () _ ⟨hHeld, (pk BK293.out), (pk BK294.out), (pk BK301.out), (pk BK306.out), (pk BK307.out), (by repeat (first | (with_reducible first | exact HB.out | apply below_alloc | apply pw_below_drewN | apply below_drew1 | refine below_set ?_ GE293.out | refine below_set ?_ GE294.out | refine below_set ?_ GE301.out | refine below_set ?_ GE306.out | refine below_set ?_ GE307.out) | exact HB.out))⟩)
                       · skip
                         refine box_step ?hg (N := 11) ?hd (cs := #[.int .i64 0, .int .i64 0]) (t := 23) ?hr ?_; (case hd => rfl); (case hg => rfl); (case hr => first | (go_simp; done) | (go_simp; rfl))
                         intro gb313 hg w59 hbox hb
                         have n0_ := bst HB hb
                         have n1_ := Aside0.mk (hbox)
                         have n2_ := bsz HB hg
                         have n3_ := bsz HB hg
                         have n4_ := bn1 BK293 hg
                         have n5_ := bn2 BK293 hg
                         have n6_ := bn1 BK294 hg
                         have n7_ := bn2 BK294 hg
                         have n8_ := bn1 BK301 hg
                         have n9_ := bn2 BK301 hg
                         have n10_ := bn1 BK306 hg
                         have n11_ := bn2 BK306 hg
                         have n12_ := bn1 BK307 hg
                         have n13_ := bn2 BK307 hg
                         replace BK293 := bbw BK293 hb
                         replace BK294 := bbw BK294 hb
                         replace BK301 := bbw BK301 hb
                         replace BK306 := bbw BK306 hb
                         replace BK307 := bbw BK307 hb
                         clear HB
                         have HB := n0_
                         have BK313 := n1_
                         have GW313 := n2_
                         have GE313 := n3_
                         have NB293_313 := n4_
                         have NB313_293 := n5_
                         have NB294_313 := n6_
                         have NB313_294 := n7_
                         have NB301_313 := n8_
                         have NB313_301 := n9_
                         have NB306_313 := n10_
                         have NB313_306 := n11_
                         have NB307_313 := n12_
                         have NB313_307 := n13_
                         clear n0_ n1_ n2_ n3_ n4_ n5_ n6_ n7_ n8_ n9_ n10_ n11_ n12_ n13_
                         clear hb hbox hg
                         refine hK.out _ _ ⟨hcz BK293 0, hcz BK293 1, hcz BK294 0, hcz BK294 1, (box_at2 (l := ([15, 14, 19, 18, 17, 16] : List Int)) (t := 54) (show _ = some (Obj.cells ((([15, 14, 19, 18, 17, 16] : List Int)).map (Value.int .i64)).toArray 54 (0, 0)) from BK301.out) ((ji32)) (of_eq_true p308) (of_eq_true q308))⟩ (fun hHeld => ?_)
                         clear hK K
                         refine norm_ (a' := ?_) ?_ ?_
                         rotate_left
                         · show Act.put _ (some 11) _ = _
                           simp only [Act.put, List.setIfInBounds_toArray, List.set_cons_zero, List.set_cons_succ, i64_w, i32_w]
                           rfl
                         exact norm_ (by first | (simp only [putAll, Act.put, List.setIfInBounds_toArray, List.set_cons_zero, List.set_cons_succ]; done) | (simp only [putAll, Act.put, List.setIfInBounds_toArray, List.set_cons_zero, List.set_cons_succ]; rfl)) (hJ10 (gb313) _ ⟨hHeld, (pk BK293.out), (pk BK294.out), (pk BK301.out), (pk BK306.out), (pk BK307.out), (pk BK313.out), GW313.out, GE313.out, NB293_313.out, NB313_293.out, NB294_313.out, NB313_294.out, NB301_313.out, NB313_301.out, NB306_313.out, NB313_306.out, NB307_313.out, NB313_307.out, (by repeat (first | (with_reducible first | exact HB.out | apply below_alloc | apply pw_below_drewN | apply below_drew1 | refine below_set ?_ GE293.out | refine below_set ?_ GE294.out | refine below_set ?_ GE301.out | refine below_set ?_ GE306.out | refine below_set ?_ GE307.out | refine below_set ?_ GE313.out) | exact HB.out))⟩)
                       · skip
                         refine box_step ?hg (N := 12) ?hd (cs := #[.int .i64 0, .int .i64 0]) (t := 23) ?hr ?_; (case hd => rfl); (case hg => rfl); (case hr => first | (go_simp; done) | (go_simp; rfl))
                         intro gb314 hg w59 hbox hb
                         have n0_ := bst HB hb
                         have n1_ := Aside0.mk (hbox)
                         have n2_ := bsz HB hg
                         have n3_ := bsz HB hg
                         have n4_ := bn1 BK293 hg
                         have n5_ := bn2 BK293 hg
                         have n6_ := bn1 BK294 hg
                         have n7_ := bn2 BK294 hg
                         have n8_ := bn1 BK301 hg
                         have n9_ := bn2 BK301 hg
                         have n10_ := bn1 BK306 hg
                         have n11_ := bn2 BK306 hg
                         have n12_ := bn1 BK307 hg
                         have n13_ := bn2 BK307 hg
                         replace BK293 := bbw BK293 hb
                         replace BK294 := bbw BK294 hb
                         replace BK301 := bbw BK301 hb
                         replace BK306 := bbw BK306 hb
                         replace BK307 := bbw BK307 hb
                         clear HB
                         have HB := n0_
                         have BK314 := n1_
                         have GW314 := n2_
                         have GE314 := n3_
                         have NB293_314 := n4_
                         have NB314_293 := n5_
                         have NB294_314 := n6_
                         have NB314_294 := n7_
                         have NB301_314 := n8_
                         have NB314_301 := n9_
                         have NB306_314 := n10_
                         have NB314_306 := n11_
                         have NB307_314 := n12_
                         have NB314_307 := n13_
                         clear n0_ n1_ n2_ n3_ n4_ n5_ n6_ n7_ n8_ n9_ n10_ n11_ n12_ n13_
                         clear hb hbox hg
                         refine hK.out _ _ ⟨hcz BK293 0, hcz BK293 1, hcz BK294 0, hcz BK294 1, (box_at2 (l := ([15, 14, 19, 18, 17, 16] : List Int)) (t := 54) (show _ = some (Obj.cells ((([15, 14, 19, 18, 17, 16] : List Int)).map (Value.int .i64)).toArray 54 (0, 0)) from BK301.out) ((ji32)) (of_eq_true p308) (of_eq_true q308))⟩ (fun hHeld => ?_)
                         clear hK K
                         refine norm_ (a' := ?_) ?_ ?_
                         rotate_left
                         · show Act.put _ (some 12) _ = _
                           simp only [Act.put, List.setIfInBounds_toArray, List.set_cons_zero, List.set_cons_succ, i64_w, i32_w]
                           rfl
                         exact norm_ (by first | (simp only [putAll, Act.put, List.setIfInBounds_toArray, List.set_cons_zero, List.set_cons_succ]; done) | (simp only [putAll, Act.put, List.setIfInBounds_toArray, List.set_cons_zero, List.set_cons_succ]; rfl)) (hJ11 (gb314) _ ⟨hHeld, (pk BK293.out), (pk BK294.out), (pk BK301.out), (pk BK306.out), (pk BK307.out), (pk BK314.out), GW314.out, GE314.out, NB293_314.out, NB314_293.out, NB294_314.out, NB314_294.out, NB301_314.out, NB314_301.out, NB306_314.out, NB314_306.out, NB307_314.out, NB314_307.out, (by repeat (first | (with_reducible first | exact HB.out | apply below_alloc | apply pw_below_drewN | apply below_drew1 | refine below_set ?_ GE293.out | refine below_set ?_ GE294.out | refine below_set ?_ GE301.out | refine below_set ?_ GE306.out | refine below_set ?_ GE307.out | refine below_set ?_ GE314.out) | exact HB.out))⟩)
                     · skip
                       rintro gb314 w60 ⟨hS_, h0_, h1_, h2_, h3_, h4_, h5_, h6_, h7_, h8_, h9_, h10_, h11_, h12_, h13_, h14_, h15_, h16_, h17_, h18_⟩
                       have n0_ : Aside0 (w60.heap[gb293]? = some (.cells #[.int .i64 t295, .int .i64 t296] 23 (0, 0))) := ⟨h0_⟩
                       have n1_ : Aside0 (w60.heap[gb294]? = some (.cells #[.int .i64 t297, .int .i64 t298] 23 (0, 0))) := ⟨h1_⟩
                       have n2_ : Aside0 (w60.heap[gb301]? = some (.cells #[.int .i64 15, .int .i64 14, .int .i64 19, .int .i64 18, .int .i64 17, .int .i64 16] 54 (0, 0))) := ⟨h2_⟩
                       have n3_ : Aside0 (w60.heap[gb306]? = some (.cells #[.int .i64 t302, .int .i64 t303] 23 (0, 0))) := ⟨h3_⟩
                       have n4_ : Aside0 (w60.heap[gb307]? = some (.cells #[.int .i64 t304, .int .i64 t305] 23 (0, 0))) := ⟨h4_⟩
                       have n5_ : Aside0 (w60.heap[gb314]? = some (.cells #[.int .i64 0, .int .i64 0] 23 (0, 0))) := ⟨h5_⟩
                       have n6_ : Aside0 (w.heap.size ≤ gb314) := ⟨h6_⟩
                       have n7_ : Aside0 (w.heap.size ≤ gb314) := ⟨h7_⟩
                       have n8_ : Aside0 (gb293 ≠ gb314) := ⟨h8_⟩
                       have n9_ : Aside0 (gb314 ≠ gb293) := ⟨h9_⟩
                       have n10_ : Aside0 (gb294 ≠ gb314) := ⟨h10_⟩
                       have n11_ : Aside0 (gb314 ≠ gb294) := ⟨h11_⟩
                       have n12_ : Aside0 (gb301 ≠ gb314) := ⟨h12_⟩
                       have n13_ : Aside0 (gb314 ≠ gb301) := ⟨h13_⟩
                       have n14_ : Aside0 (gb306 ≠ gb314) := ⟨h14_⟩
                       have n15_ : Aside0 (gb314 ≠ gb306) := ⟨h15_⟩
                       have n16_ : Aside0 (gb307 ≠ gb314) := ⟨h16_⟩
                       have n17_ : Aside0 (gb314 ≠ gb307) := ⟨h17_⟩
                       have n18_ : Aside0 (Below w.heap.size w w60) := ⟨h18_⟩
                       clear BK293
                       clear BK294
                       clear BK301
                       clear BK306
                       clear BK307
                       clear HB
                       clear h0_ h1_ h2_ h3_ h4_ h5_ h6_ h7_ h8_ h9_ h10_ h11_ h12_ h13_ h14_ h15_ h16_ h17_ h18_
                       have BK293 := n0_
                       have BK294 := n1_
                       have BK301 := n2_
                       have BK306 := n3_
                       have BK307 := n4_
                       have BK314 := n5_
                       have GW314 := n6_
                       have GE314 := n7_
                       have NB293_314 := n8_
                       have NB314_293 := n9_
                       have NB294_314 := n10_
                       have NB314_294 := n11_
                       have NB301_314 := n12_
                       have NB314_301 := n13_
                       have NB306_314 := n14_
                       have NB314_306 := n15_
                       have NB307_314 := n16_
                       have NB314_307 := n17_
                       have HB := n18_
                       clear n0_ n1_ n2_ n3_ n4_ n5_ n6_ n7_ n8_ n9_ n10_ n11_ n12_ n13_ n14_ n15_ n16_ n17_ n18_
                       have hHeld : w60.cell? ⟨gb293, 0, none⟩ = some (.int .i64 t295) ∧ w60.cell? ⟨gb293, 1, none⟩ = some (.int .i64 t296) ∧ w60.cell? ⟨gb294, 0, none⟩ = some (.int .i64 t297) ∧ w60.cell? ⟨gb294, 1, none⟩ = some (.int .i64 t298) ∧ w60.cell? ⟨gb301, ((ji32)).toNat, none⟩ = some (.int .i64 (rd ([15, 14, 19, 18, 17, 16] : List Int) (ji32))) := hS_
                       refine norm_ (a' := ?_) ?_ ?_
                       rotate_left
                       · simp only [putAll, Act.put, List.setIfInBounds_toArray, List.set_cons_zero, List.set_cons_succ]
                         rfl
                       refine two_ (i := 6) (j := 10) (Ni := some 44) (Nj := some 11) #[true, true, true, true, true, true, true, false, false, false, false, true, false, false] #[true, true, true, true, true, true, false, false, false, false, true, true, false, false] rfl rfl rfl rfl (two_of HT_.out (by kernel_rfl)) (by decide) (by decide) (fun K hK => ?_) (fun K hK => ?_)
                       · skip
                         refine goes_ Try.func33 (by kernel_rfl) rfl #[.int .i64 (rd ([15, 14, 19, 18, 17, 16] : List Int) (ji32)), .agg #[.int .i64 t295, .int .i64 t296], .agg #[.int .i64 t297, .int .i64 t298]] (by rfl) rfl rfl (by (try simp only [List.map_toArray, List.map_cons, List.map_nil]); first | done | (simp only [hji32]; rfl) | rfl | (simp only [List.length_drop, List.length_take]; rfl)) ?_
                         with_reducible refine (itv_Test.calls kj27 (rd ([15, 14, 19, 18, 17, 16] : List Int) (ji32)) t295 t296 t297 t298 t309 t310 t311 t312 _ A35.out).mono ?_
                         rintro e w61 ⟨rfl, hb⟩
                         refine ⟨_, rfl, ?_⟩
                         have n0_ := bst HB hb
                         replace BK293 := bbw BK293 hb
                         replace BK294 := bbw BK294 hb
                         replace BK301 := bbw BK301 hb
                         replace BK306 := bbw BK306 hb
                         replace BK307 := bbw BK307 hb
                         replace BK314 := bbw BK314 hb
                         clear HB
                         have HB := n0_
                         clear n0_
                         (try clear hb)
                         (try clear hb2)
                         (try clear hk)
                         (try clear hi)
                         refine hK.out _ _ ⟨hcz BK293 0, hcz BK293 1, hcz BK294 0, hcz BK294 1, (box_at2 (l := ([15, 14, 19, 18, 17, 16] : List Int)) (t := 54) (show _ = some (Obj.cells ((([15, 14, 19, 18, 17, 16] : List Int)).map (Value.int .i64)).toArray 54 (0, 0)) from BK301.out) ((ji32)) (of_eq_true p308) (of_eq_true q308))⟩ (fun hHeld => ?_)
                         clear hK K
                         refine norm_ (a' := ?_) ?_ ?_
                         rotate_left
                         · show Act.put _ (some 44) _ = _
                           simp only [Act.put, List.setIfInBounds_toArray, List.set_cons_zero, List.set_cons_succ, i64_w, i32_w]
                           rfl
                         refine pure_ (i := 7) (N := some 37) (v := ?_) (a' := ?_) #[true, true, true, true, true, true, true, true, false, false, false, true, false, false] rfl rfl (any_of HT_.out (by kernel_rfl)) (fun _ _ _ h => h) (Or.inl ⟨by rfl, ?_⟩) ?_ ?_
                         rotate_left
                         · intro w'
                           go_simp
                           with_reducible rfl
                         rotate_left
                         · simp only [Act.put, List.setIfInBounds_toArray, List.set_cons_zero, List.set_cons_succ, i64_w, i32_w]
                           rfl
                         refine pure_ (i := 8) (N := some 45) (v := ?_) (a' := ?_) #[true, true, true, true, true, true, true, true, true, false, false, true, false, false] rfl rfl (any_of HT_.out (by kernel_rfl)) (fun _ _ _ h => h) (Or.inl ⟨by rfl, ?_⟩) ?_ ?_
                         rotate_left
                         · intro w'
                           go_simp
                           with_reducible rfl
                         rotate_left
                         · simp only [Act.put, List.setIfInBounds_toArray, List.set_cons_zero, List.set_cons_succ, i64_w, i32_w]
                           rfl
                         refine pure_ (i := 9) (N := some 46) (v := ?_) (a' := ?_) #[true, true, true, true, true, true, true, true, true, true, false, true, false, false] rfl rfl (any_of HT_.out (by kernel_rfl)) (fun _ _ _ h => h) (Or.inl ⟨by rfl, ?_⟩) ?_ ?_
                         rotate_left
                         · intro w'
                           go_simp
                           with_reducible rfl
                         rotate_left
                         · simp only [Act.put, List.setIfInBounds_toArray, List.set_cons_zero, List.set_cons_succ, i64_w, i32_w]
                           rfl
                         exact norm_ (by first | (simp only [putAll, Act.put, List.setIfInBounds_toArray, List.set_cons_zero, List.set_cons_succ]; done) | (simp only [putAll, Act.put, List.setIfInBounds_toArray, List.set_cons_zero, List.set_cons_succ]; rfl)) (hJ6_11 (gb314) _ ⟨hHeld, (pk BK293.out), (pk BK294.out), (pk BK301.out), (pk BK306.out), (pk BK307.out), (pk BK314.out), GW314.out, GE314.out, NB293_314.out, NB314_293.out, NB294_314.out, NB314_294.out, NB301_314.out, NB314_301.out, NB306_314.out, NB314_306.out, NB307_314.out, NB314_307.out, (by repeat (first | (with_reducible first | exact HB.out | apply below_alloc | apply pw_below_drewN | apply below_drew1 | refine below_set ?_ GE293.out | refine below_set ?_ GE294.out | refine below_set ?_ GE301.out | refine below_set ?_ GE306.out | refine below_set ?_ GE307.out | refine below_set ?_ GE314.out) | exact HB.out))⟩)
                       · skip
                         refine box_step ?hg (N := 11) ?hd (cs := #[.int .i64 0, .int .i64 0]) (t := 23) ?hr ?_; (case hd => rfl); (case hg => rfl); (case hr => first | (go_simp; done) | (go_simp; rfl))
                         intro gb313 hg w61 hbox hb
                         have n0_ := bst HB hb
                         have n1_ := Aside0.mk (hbox)
                         have n2_ := bsz HB hg
                         have n3_ := bsz HB hg
                         have n4_ := bn1 BK293 hg
                         have n5_ := bn2 BK293 hg
                         have n6_ := bn1 BK294 hg
                         have n7_ := bn2 BK294 hg
                         have n8_ := bn1 BK301 hg
                         have n9_ := bn2 BK301 hg
                         have n10_ := bn1 BK306 hg
                         have n11_ := bn2 BK306 hg
                         have n12_ := bn1 BK307 hg
                         have n13_ := bn2 BK307 hg
                         have n14_ := bn1 BK314 hg
                         have n15_ := bn2 BK314 hg
                         replace BK293 := bbw BK293 hb
                         replace BK294 := bbw BK294 hb
                         replace BK301 := bbw BK301 hb
                         replace BK306 := bbw BK306 hb
                         replace BK307 := bbw BK307 hb
                         replace BK314 := bbw BK314 hb
                         clear HB
                         have HB := n0_
                         have BK313 := n1_
                         have GW313 := n2_
                         have GE313 := n3_
                         have NB293_313 := n4_
                         have NB313_293 := n5_
                         have NB294_313 := n6_
                         have NB313_294 := n7_
                         have NB301_313 := n8_
                         have NB313_301 := n9_
                         have NB306_313 := n10_
                         have NB313_306 := n11_
                         have NB307_313 := n12_
                         have NB313_307 := n13_
                         have NB314_313 := n14_
                         have NB313_314 := n15_
                         clear n0_ n1_ n2_ n3_ n4_ n5_ n6_ n7_ n8_ n9_ n10_ n11_ n12_ n13_ n14_ n15_
                         clear hb hbox hg
                         refine hK.out _ _ ⟨hcz BK293 0, hcz BK293 1, hcz BK294 0, hcz BK294 1, (box_at2 (l := ([15, 14, 19, 18, 17, 16] : List Int)) (t := 54) (show _ = some (Obj.cells ((([15, 14, 19, 18, 17, 16] : List Int)).map (Value.int .i64)).toArray 54 (0, 0)) from BK301.out) ((ji32)) (of_eq_true p308) (of_eq_true q308))⟩ (fun hHeld => ?_)
                         clear hK K
                         refine norm_ (a' := ?_) ?_ ?_
                         rotate_left
                         · show Act.put _ (some 11) _ = _
                           simp only [Act.put, List.setIfInBounds_toArray, List.set_cons_zero, List.set_cons_succ, i64_w, i32_w]
                           rfl
                         exact norm_ (by first | (simp only [putAll, Act.put, List.setIfInBounds_toArray, List.set_cons_zero, List.set_cons_succ]; done) | (simp only [putAll, Act.put, List.setIfInBounds_toArray, List.set_cons_zero, List.set_cons_succ]; rfl)) (hJ10_11 (gb313, gb314) _ ⟨hHeld, (pk BK293.out), (pk BK294.out), (pk BK301.out), (pk BK306.out), (pk BK307.out), (pk BK313.out), (pk BK314.out), GW313.out, GE313.out, NB293_313.out, NB313_293.out, NB294_313.out, NB313_294.out, NB301_313.out, NB313_301.out, NB306_313.out, NB313_306.out, NB307_313.out, NB313_307.out, NB314_313.out, NB313_314.out, GW314.out, GE314.out, NB293_314.out, NB314_293.out, NB294_314.out, NB314_294.out, NB301_314.out, NB314_301.out, NB306_314.out, NB314_306.out, NB307_314.out, NB314_307.out, (by repeat (first | (with_reducible first | exact HB.out | apply below_alloc | apply pw_below_drewN | apply below_drew1 | refine below_set ?_ GE293.out | refine below_set ?_ GE294.out | refine below_set ?_ GE301.out | refine below_set ?_ GE306.out | refine below_set ?_ GE307.out | refine below_set ?_ GE314.out | refine below_set ?_ GE313.out) | exact HB.out))⟩)
                   · skip
                     rintro gb313 w60 ⟨hS_, h0_, h1_, h2_, h3_, h4_, h5_, h6_, h7_, h8_, h9_, h10_, h11_, h12_, h13_, h14_, h15_, h16_, h17_, h18_⟩
                     have n0_ : Aside0 (w60.heap[gb293]? = some (.cells #[.int .i64 t295, .int .i64 t296] 23 (0, 0))) := ⟨h0_⟩
                     have n1_ : Aside0 (w60.heap[gb294]? = some (.cells #[.int .i64 t297, .int .i64 t298] 23 (0, 0))) := ⟨h1_⟩
                     have n2_ : Aside0 (w60.heap[gb301]? = some (.cells #[.int .i64 15, .int .i64 14, .int .i64 19, .int .i64 18, .int .i64 17, .int .i64 16] 54 (0, 0))) := ⟨h2_⟩
                     have n3_ : Aside0 (w60.heap[gb306]? = some (.cells #[.int .i64 t302, .int .i64 t303] 23 (0, 0))) := ⟨h3_⟩
                     have n4_ : Aside0 (w60.heap[gb307]? = some (.cells #[.int .i64 t304, .int .i64 t305] 23 (0, 0))) := ⟨h4_⟩
                     have n5_ : Aside0 (w60.heap[gb313]? = some (.cells #[.int .i64 0, .int .i64 0] 23 (0, 0))) := ⟨h5_⟩
                     have n6_ : Aside0 (w.heap.size ≤ gb313) := ⟨h6_⟩
                     have n7_ : Aside0 (w.heap.size ≤ gb313) := ⟨h7_⟩
                     have n8_ : Aside0 (gb293 ≠ gb313) := ⟨h8_⟩
                     have n9_ : Aside0 (gb313 ≠ gb293) := ⟨h9_⟩
                     have n10_ : Aside0 (gb294 ≠ gb313) := ⟨h10_⟩
                     have n11_ : Aside0 (gb313 ≠ gb294) := ⟨h11_⟩
                     have n12_ : Aside0 (gb301 ≠ gb313) := ⟨h12_⟩
                     have n13_ : Aside0 (gb313 ≠ gb301) := ⟨h13_⟩
                     have n14_ : Aside0 (gb306 ≠ gb313) := ⟨h14_⟩
                     have n15_ : Aside0 (gb313 ≠ gb306) := ⟨h15_⟩
                     have n16_ : Aside0 (gb307 ≠ gb313) := ⟨h16_⟩
                     have n17_ : Aside0 (gb313 ≠ gb307) := ⟨h17_⟩
                     have n18_ : Aside0 (Below w.heap.size w w60) := ⟨h18_⟩
                     clear BK293
                     clear BK294
                     clear BK301
                     clear BK306
                     clear BK307
                     clear HB
                     clear h0_ h1_ h2_ h3_ h4_ h5_ h6_ h7_ h8_ h9_ h10_ h11_ h12_ h13_ h14_ h15_ h16_ h17_ h18_
                     have BK293 := n0_
                     have BK294 := n1_
                     have BK301 := n2_
                     have BK306 := n3_
                     have BK307 := n4_
                     have BK313 := n5_
                     have GW313 := n6_
                     have GE313 := n7_
                     have NB293_313 := n8_
                     have NB313_293 := n9_
                     have NB294_313 := n10_
                     have NB313_294 := n11_
                     have NB301_313 := n12_
                     have NB313_301 := n13_
                     have NB306_313 := n14_
                     have NB313_306 := n15_
                     have NB307_313 := n16_
                     have NB313_307 := n17_
                     have HB := n18_
                     clear n0_ n1_ n2_ n3_ n4_ n5_ n6_ n7_ n8_ n9_ n10_ n11_ n12_ n13_ n14_ n15_ n16_ n17_ n18_
                     have hHeld : w60.cell? ⟨gb293, 0, none⟩ = some (.int .i64 t295) ∧ w60.cell? ⟨gb293, 1, none⟩ = some (.int .i64 t296) ∧ w60.cell? ⟨gb294, 0, none⟩ = some (.int .i64 t297) ∧ w60.cell? ⟨gb294, 1, none⟩ = some (.int .i64 t298) ∧ w60.cell? ⟨gb301, ((ji32)).toNat, none⟩ = some (.int .i64 (rd ([15, 14, 19, 18, 17, 16] : List Int) (ji32))) := hS_
                     refine norm_ (a' := ?_) ?_ ?_
                     rotate_left
                     · simp only [putAll, Act.put, List.setIfInBounds_toArray, List.set_cons_zero, List.set_cons_succ]
                       rfl
                     refine two_ (i := 6) (j := 11) (Ni := some 44) (Nj := some 12) #[true, true, true, true, true, true, true, false, false, false, true, false, false, false] #[true, true, true, true, true, true, false, false, false, false, true, true, false, false] rfl rfl rfl rfl (two_of HT_.out (by kernel_rfl)) (by decide) (by decide) (fun K hK => ?_) (fun K hK => ?_)
                     · skip
                       refine goes_ Try.func33 (by kernel_rfl) rfl #[.int .i64 (rd ([15, 14, 19, 18, 17, 16] : List Int) (ji32)), .agg #[.int .i64 t295, .int .i64 t296], .agg #[.int .i64 t297, .int .i64 t298]] (by rfl) rfl rfl (by (try simp only [List.map_toArray, List.map_cons, List.map_nil]); first | done | (simp only [hji32]; rfl) | rfl | (simp only [List.length_drop, List.length_take]; rfl)) ?_
                       with_reducible refine (itv_Test.calls kj27 (rd ([15, 14, 19, 18, 17, 16] : List Int) (ji32)) t295 t296 t297 t298 t309 t310 t311 t312 _ A35.out).mono ?_
                       rintro e w61 ⟨rfl, hb⟩
                       refine ⟨_, rfl, ?_⟩
                       have n0_ := bst HB hb
                       replace BK293 := bbw BK293 hb
                       replace BK294 := bbw BK294 hb
                       replace BK301 := bbw BK301 hb
                       replace BK306 := bbw BK306 hb
                       replace BK307 := bbw BK307 hb
                       replace BK313 := bbw BK313 hb
                       clear HB
                       have HB := n0_
                       clear n0_
                       (try clear hb)
                       (try clear hb2)
                       (try clear hk)
                       (try clear hi)
                       refine hK.out _ _ ⟨hcz BK293 0, hcz BK293 1, hcz BK294 0, hcz BK294 1, (box_at2 (l := ([15, 14, 19, 18, 17, 16] : List Int)) (t := 54) (show _ = some (Obj.cells ((([15, 14, 19, 18, 17, 16] : List Int)).map (Value.int .i64)).toArray 54 (0, 0)) from BK301.out) ((ji32)) (of_eq_true p308) (of_eq_true q308))⟩ (fun hHeld => ?_)
                       clear hK K
                       refine norm_ (a' := ?_) ?_ ?_
                       rotate_left
                       · show Act.put _ (some 44) _ = _
                         simp only [Act.put, List.setIfInBounds_toArray, List.set_cons_zero, List.set_cons_succ, i64_w, i32_w]
                         rfl
                       refine pure_ (i := 7) (N := some 37) (v := ?_) (a' := ?_) #[true, true, true, true, true, true, true, true, false, false, true, false, false, false] rfl rfl (any_of HT_.out (by kernel_rfl)) (fun _ _ _ h => h) (Or.inl ⟨by rfl, ?_⟩) ?_ ?_
                       rotate_left
                       · intro w'
                         go_simp
                         with_reducible rfl
                       rotate_left
                       · simp only [Act.put, List.setIfInBounds_toArray, List.set_cons_zero, List.set_cons_succ, i64_w, i32_w]
                         rfl
                       refine pure_ (i := 8) (N := some 45) (v := ?_) (a' := ?_) #[true, true, true, true, true, true, true, true, true, false, true, false, false, false] rfl rfl (any_of HT_.out (by kernel_rfl)) (fun _ _ _ h => h) (Or.inl ⟨by rfl, ?_⟩) ?_ ?_
                       rotate_left
                       · intro w'
                         go_simp
                         with_reducible rfl
                       rotate_left
                       · simp only [Act.put, List.setIfInBounds_toArray, List.set_cons_zero, List.set_cons_succ, i64_w, i32_w]
                         rfl
                       refine pure_ (i := 9) (N := some 46) (v := ?_) (a' := ?_) #[true, true, true, true, true, true, true, true, true, true, true, false, false, false] rfl rfl (any_of HT_.out (by kernel_rfl)) (fun _ _ _ h => h) (Or.inl ⟨by rfl, ?_⟩) ?_ ?_
                       rotate_left
                       · intro w'
                         go_simp
                         with_reducible rfl
                       rotate_left
                       · simp only [Act.put, List.setIfInBounds_toArray, List.set_cons_zero, List.set_cons_succ, i64_w, i32_w]
                         rfl
                       exact norm_ (by first | (simp only [putAll, Act.put, List.setIfInBounds_toArray, List.set_cons_zero, List.set_cons_succ]; done) | (simp only [putAll, Act.put, List.setIfInBounds_toArray, List.set_cons_zero, List.set_cons_succ]; rfl)) (hJ6_10 (gb313) _ ⟨hHeld, (pk BK293.out), (pk BK294.out), (pk BK301.out), (pk BK306.out), (pk BK307.out), (pk BK313.out), GW313.out, GE313.out, NB293_313.out, NB313_293.out, NB294_313.out, NB313_294.out, NB301_313.out, NB313_301.out, NB306_313.out, NB313_306.out, NB307_313.out, NB313_307.out, (by repeat (first | (with_reducible first | exact HB.out | apply below_alloc | apply pw_below_drewN | apply below_drew1 | refine below_set ?_ GE293.out | refine below_set ?_ GE294.out | refine below_set ?_ GE301.out | refine below_set ?_ GE306.out | refine below_set ?_ GE307.out | refine below_set ?_ GE313.out) | exact HB.out))⟩)
                     · skip
                       refine box_step ?hg (N := 12) ?hd (cs := #[.int .i64 0, .int .i64 0]) (t := 23) ?hr ?_; (case hd => rfl); (case hg => rfl); (case hr => first | (go_simp; done) | (go_simp; rfl))
                       intro gb314 hg w61 hbox hb
                       have n0_ := bst HB hb
                       have n1_ := Aside0.mk (hbox)
                       have n2_ := bsz HB hg
                       have n3_ := bsz HB hg
                       have n4_ := bn1 BK293 hg
                       have n5_ := bn2 BK293 hg
                       have n6_ := bn1 BK294 hg
                       have n7_ := bn2 BK294 hg
                       have n8_ := bn1 BK301 hg
                       have n9_ := bn2 BK301 hg
                       have n10_ := bn1 BK306 hg
                       have n11_ := bn2 BK306 hg
                       have n12_ := bn1 BK307 hg
                       have n13_ := bn2 BK307 hg
                       have n14_ := bn1 BK313 hg
                       have n15_ := bn2 BK313 hg
                       replace BK293 := bbw BK293 hb
                       replace BK294 := bbw BK294 hb
                       replace BK301 := bbw BK301 hb
                       replace BK306 := bbw BK306 hb
                       replace BK307 := bbw BK307 hb
                       replace BK313 := bbw BK313 hb
                       clear HB
                       have HB := n0_
                       have BK314 := n1_
                       have GW314 := n2_
                       have GE314 := n3_
                       have NB293_314 := n4_
                       have NB314_293 := n5_
                       have NB294_314 := n6_
                       have NB314_294 := n7_
                       have NB301_314 := n8_
                       have NB314_301 := n9_
                       have NB306_314 := n10_
                       have NB314_306 := n11_
                       have NB307_314 := n12_
                       have NB314_307 := n13_
                       have NB313_314 := n14_
                       have NB314_313 := n15_
                       clear n0_ n1_ n2_ n3_ n4_ n5_ n6_ n7_ n8_ n9_ n10_ n11_ n12_ n13_ n14_ n15_
                       clear hb hbox hg
                       refine hK.out _ _ ⟨hcz BK293 0, hcz BK293 1, hcz BK294 0, hcz BK294 1, (box_at2 (l := ([15, 14, 19, 18, 17, 16] : List Int)) (t := 54) (show _ = some (Obj.cells ((([15, 14, 19, 18, 17, 16] : List Int)).map (Value.int .i64)).toArray 54 (0, 0)) from BK301.out) ((ji32)) (of_eq_true p308) (of_eq_true q308))⟩ (fun hHeld => ?_)
                       clear hK K
                       refine norm_ (a' := ?_) ?_ ?_
                       rotate_left
                       · show Act.put _ (some 12) _ = _
                         simp only [Act.put, List.setIfInBounds_toArray, List.set_cons_zero, List.set_cons_succ, i64_w, i32_w]
                         rfl
                       exact norm_ (by first | (simp only [putAll, Act.put, List.setIfInBounds_toArray, List.set_cons_zero, List.set_cons_succ]; done) | (simp only [putAll, Act.put, List.setIfInBounds_toArray, List.set_cons_zero, List.set_cons_succ]; rfl)) (hJ10_11 (gb313, gb314) _ ⟨hHeld, (pk BK293.out), (pk BK294.out), (pk BK301.out), (pk BK306.out), (pk BK307.out), (pk BK313.out), (pk BK314.out), GW313.out, GE313.out, NB293_313.out, NB313_293.out, NB294_313.out, NB313_294.out, NB301_313.out, NB313_301.out, NB306_313.out, NB313_306.out, NB307_313.out, NB313_307.out, NB314_313.out, NB313_314.out, GW314.out, GE314.out, NB293_314.out, NB314_293.out, NB294_314.out, NB314_294.out, NB301_314.out, NB314_301.out, NB306_314.out, NB314_306.out, NB307_314.out, NB314_307.out, (by repeat (first | (with_reducible first | exact HB.out | apply below_alloc | apply pw_below_drewN | apply below_drew1 | refine below_set ?_ GE293.out | refine below_set ?_ GE294.out | refine below_set ?_ GE301.out | refine below_set ?_ GE306.out | refine below_set ?_ GE307.out | refine below_set ?_ GE313.out | refine below_set ?_ GE314.out) | exact HB.out))⟩)
                 · skip
                   rintro _ w60 ⟨hS_, h0_, h1_, h2_, h3_, h4_, h5_⟩
                   have n0_ : Aside0 (w60.heap[gb293]? = some (.cells #[.int .i64 t295, .int .i64 t296] 23 (0, 0))) := ⟨h0_⟩
                   have n1_ : Aside0 (w60.heap[gb294]? = some (.cells #[.int .i64 t297, .int .i64 t298] 23 (0, 0))) := ⟨h1_⟩
                   have n2_ : Aside0 (w60.heap[gb301]? = some (.cells #[.int .i64 15, .int .i64 14, .int .i64 19, .int .i64 18, .int .i64 17, .int .i64 16] 54 (0, 0))) := ⟨h2_⟩
                   have n3_ : Aside0 (w60.heap[gb306]? = some (.cells #[.int .i64 t302, .int .i64 t303] 23 (0, 0))) := ⟨h3_⟩
                   have n4_ : Aside0 (w60.heap[gb307]? = some (.cells #[.int .i64 t304, .int .i64 t305] 23 (0, 0))) := ⟨h4_⟩
                   have n5_ : Aside0 (Below w.heap.size w w60) := ⟨h5_⟩
                   clear BK293
                   clear BK294
                   clear BK301
                   clear BK306
                   clear BK307
                   clear HB
                   clear h0_ h1_ h2_ h3_ h4_ h5_
                   have BK293 := n0_
                   have BK294 := n1_
                   have BK301 := n2_
                   have BK306 := n3_
                   have BK307 := n4_
                   have HB := n5_
                   clear n0_ n1_ n2_ n3_ n4_ n5_
                   have hHeld : w60.cell? ⟨gb293, 0, none⟩ = some (.int .i64 t295) ∧ w60.cell? ⟨gb293, 1, none⟩ = some (.int .i64 t296) ∧ w60.cell? ⟨gb294, 0, none⟩ = some (.int .i64 t297) ∧ w60.cell? ⟨gb294, 1, none⟩ = some (.int .i64 t298) ∧ w60.cell? ⟨gb301, ((ji32)).toNat, none⟩ = some (.int .i64 (rd ([15, 14, 19, 18, 17, 16] : List Int) (ji32))) := hS_
                   refine norm_ (a' := ?_) ?_ ?_
                   rotate_left
                   · simp only [putAll, Act.put, List.setIfInBounds_toArray, List.set_cons_zero, List.set_cons_succ]
                     rfl
                   refine two_ (i := 10) (j := 11) (Ni := some 11) (Nj := some 12) #[true, true, true, true, true, true, true, true, true, true, true, false, false, false] #[true, true, true, true, true, true, true, true, true, true, false, true, false, false] rfl rfl rfl rfl (two_of HT_.out (by kernel_rfl)) (by decide) (by decide) (fun K hK => ?_) (fun K hK => ?_)
                   · skip
                     refine box_step ?hg (N := 11) ?hd (cs := #[.int .i64 0, .int .i64 0]) (t := 23) ?hr ?_; (case hd => rfl); (case hg => rfl); (case hr => first | (go_simp; done) | (go_simp; rfl))
                     intro gb313 hg w61 hbox hb
                     have n0_ := bst HB hb
                     have n1_ := Aside0.mk (hbox)
                     have n2_ := bsz HB hg
                     have n3_ := bsz HB hg
                     have n4_ := bn1 BK293 hg
                     have n5_ := bn2 BK293 hg
                     have n6_ := bn1 BK294 hg
                     have n7_ := bn2 BK294 hg
                     have n8_ := bn1 BK301 hg
                     have n9_ := bn2 BK301 hg
                     have n10_ := bn1 BK306 hg
                     have n11_ := bn2 BK306 hg
                     have n12_ := bn1 BK307 hg
                     have n13_ := bn2 BK307 hg
                     replace BK293 := bbw BK293 hb
                     replace BK294 := bbw BK294 hb
                     replace BK301 := bbw BK301 hb
                     replace BK306 := bbw BK306 hb
                     replace BK307 := bbw BK307 hb
                     clear HB
                     have HB := n0_
                     have BK313 := n1_
                     have GW313 := n2_
                     have GE313 := n3_
                     have NB293_313 := n4_
                     have NB313_293 := n5_
                     have NB294_313 := n6_
                     have NB313_294 := n7_
                     have NB301_313 := n8_
                     have NB313_301 := n9_
                     have NB306_313 := n10_
                     have NB313_306 := n11_
                     have NB307_313 := n12_
                     have NB313_307 := n13_
                     clear n0_ n1_ n2_ n3_ n4_ n5_ n6_ n7_ n8_ n9_ n10_ n11_ n12_ n13_
                     clear hb hbox hg
                     refine hK.out _ _ ⟨hcz BK293 0, hcz BK293 1, hcz BK294 0, hcz BK294 1, (box_at2 (l := ([15, 14, 19, 18, 17, 16] : List Int)) (t := 54) (show _ = some (Obj.cells ((([15, 14, 19, 18, 17, 16] : List Int)).map (Value.int .i64)).toArray 54 (0, 0)) from BK301.out) ((ji32)) (of_eq_true p308) (of_eq_true q308))⟩ (fun hHeld => ?_)
                     clear hK K
                     refine norm_ (a' := ?_) ?_ ?_
                     rotate_left
                     · show Act.put _ (some 11) _ = _
                       simp only [Act.put, List.setIfInBounds_toArray, List.set_cons_zero, List.set_cons_succ, i64_w, i32_w]
                       rfl
                     exact norm_ (by first | (simp only [putAll, Act.put, List.setIfInBounds_toArray, List.set_cons_zero, List.set_cons_succ]; done) | (simp only [putAll, Act.put, List.setIfInBounds_toArray, List.set_cons_zero, List.set_cons_succ]; rfl)) (hJ6_10 (gb313) _ ⟨hHeld, (pk BK293.out), (pk BK294.out), (pk BK301.out), (pk BK306.out), (pk BK307.out), (pk BK313.out), GW313.out, GE313.out, NB293_313.out, NB313_293.out, NB294_313.out, NB313_294.out, NB301_313.out, NB313_301.out, NB306_313.out, NB313_306.out, NB307_313.out, NB313_307.out, (by repeat (first | (with_reducible first | exact HB.out | apply below_alloc | apply pw_below_drewN | apply below_drew1 | refine below_set ?_ GE293.out | refine below_set ?_ GE294.out | refine below_set ?_ GE301.out | refine below_set ?_ GE306.out | refine below_set ?_ GE307.out | refine below_set ?_ GE313.out) | exact HB.out))⟩)
                   · skip
                     refine box_step ?hg (N := 12) ?hd (cs := #[.int .i64 0, .int .i64 0]) (t := 23) ?hr ?_; (case hd => rfl); (case hg => rfl); (case hr => first | (go_simp; done) | (go_simp; rfl))
                     intro gb314 hg w61 hbox hb
                     have n0_ := bst HB hb
                     have n1_ := Aside0.mk (hbox)
                     have n2_ := bsz HB hg
                     have n3_ := bsz HB hg
                     have n4_ := bn1 BK293 hg
                     have n5_ := bn2 BK293 hg
                     have n6_ := bn1 BK294 hg
                     have n7_ := bn2 BK294 hg
                     have n8_ := bn1 BK301 hg
                     have n9_ := bn2 BK301 hg
                     have n10_ := bn1 BK306 hg
                     have n11_ := bn2 BK306 hg
                     have n12_ := bn1 BK307 hg
                     have n13_ := bn2 BK307 hg
                     replace BK293 := bbw BK293 hb
                     replace BK294 := bbw BK294 hb
                     replace BK301 := bbw BK301 hb
                     replace BK306 := bbw BK306 hb
                     replace BK307 := bbw BK307 hb
                     clear HB
                     have HB := n0_
                     have BK314 := n1_
                     have GW314 := n2_
                     have GE314 := n3_
                     have NB293_314 := n4_
                     have NB314_293 := n5_
                     have NB294_314 := n6_
                     have NB314_294 := n7_
                     have NB301_314 := n8_
                     have NB314_301 := n9_
                     have NB306_314 := n10_
                     have NB314_306 := n11_
                     have NB307_314 := n12_
                     have NB314_307 := n13_
                     clear n0_ n1_ n2_ n3_ n4_ n5_ n6_ n7_ n8_ n9_ n10_ n11_ n12_ n13_
                     clear hb hbox hg
                     refine hK.out _ _ ⟨hcz BK293 0, hcz BK293 1, hcz BK294 0, hcz BK294 1, (box_at2 (l := ([15, 14, 19, 18, 17, 16] : List Int)) (t := 54) (show _ = some (Obj.cells ((([15, 14, 19, 18, 17, 16] : List Int)).map (Value.int .i64)).toArray 54 (0, 0)) from BK301.out) ((ji32)) (of_eq_true p308) (of_eq_true q308))⟩ (fun hHeld => ?_)
                     clear hK K
                     refine norm_ (a' := ?_) ?_ ?_
                     rotate_left
                     · show Act.put _ (some 12) _ = _
                       simp only [Act.put, List.setIfInBounds_toArray, List.set_cons_zero, List.set_cons_succ, i64_w, i32_w]
                       rfl
                     exact norm_ (by first | (simp only [putAll, Act.put, List.setIfInBounds_toArray, List.set_cons_zero, List.set_cons_succ]; done) | (simp only [putAll, Act.put, List.setIfInBounds_toArray, List.set_cons_zero, List.set_cons_succ]; rfl)) (hJ6_11 (gb314) _ ⟨hHeld, (pk BK293.out), (pk BK294.out), (pk BK301.out), (pk BK306.out), (pk BK307.out), (pk BK314.out), GW314.out, GE314.out, NB293_314.out, NB314_293.out, NB294_314.out, NB314_294.out, NB301_314.out, NB314_301.out, NB306_314.out, NB314_306.out, NB307_314.out, NB314_307.out, (by repeat (first | (with_reducible first | exact HB.out | apply below_alloc | apply pw_below_drewN | apply below_drew1 | refine below_set ?_ GE293.out | refine below_set ?_ GE294.out | refine below_set ?_ GE301.out | refine below_set ?_ GE306.out | refine below_set ?_ GE307.out | refine below_set ?_ GE314.out) | exact HB.out))⟩)
               · skip
                 rintro ⟨gb313, gb314⟩ w61 ⟨hS_, h0_, h1_, h2_, h3_, h4_, h5_, h6_, h7_, h8_, h9_, h10_, h11_, h12_, h13_, h14_, h15_, h16_, h17_, h18_, h19_, h20_, h21_, h22_, h23_, h24_, h25_, h26_, h27_, h28_, h29_, h30_, h31_, h32_, h33_⟩
                 have n0_ : Aside0 (w61.heap[gb293]? = some (.cells #[.int .i64 t295, .int .i64 t296] 23 (0, 0))) := ⟨h0_⟩
                 have n1_ : Aside0 (w61.heap[gb294]? = some (.cells #[.int .i64 t297, .int .i64 t298] 23 (0, 0))) := ⟨h1_⟩
                 have n2_ : Aside0 (w61.heap[gb301]? = some (.cells #[.int .i64 15, .int .i64 14, .int .i64 19, .int .i64 18, .int .i64 17, .int .i64 16] 54 (0, 0))) := ⟨h2_⟩
                 have n3_ : Aside0 (w61.heap[gb306]? = some (.cells #[.int .i64 t302, .int .i64 t303] 23 (0, 0))) := ⟨h3_⟩
                 have n4_ : Aside0 (w61.heap[gb307]? = some (.cells #[.int .i64 t304, .int .i64 t305] 23 (0, 0))) := ⟨h4_⟩
                 have n5_ : Aside0 (w61.heap[gb313]? = some (.cells #[.int .i64 0, .int .i64 0] 23 (0, 0))) := ⟨h5_⟩
                 have n6_ : Aside0 (w61.heap[gb314]? = some (.cells #[.int .i64 0, .int .i64 0] 23 (0, 0))) := ⟨h6_⟩
                 have n7_ : Aside0 (w.heap.size ≤ gb313) := ⟨h7_⟩
                 have n8_ : Aside0 (w.heap.size ≤ gb313) := ⟨h8_⟩
                 have n9_ : Aside0 (gb293 ≠ gb313) := ⟨h9_⟩
                 have n10_ : Aside0 (gb313 ≠ gb293) := ⟨h10_⟩
                 have n11_ : Aside0 (gb294 ≠ gb313) := ⟨h11_⟩
                 have n12_ : Aside0 (gb313 ≠ gb294) := ⟨h12_⟩
                 have n13_ : Aside0 (gb301 ≠ gb313) := ⟨h13_⟩
                 have n14_ : Aside0 (gb313 ≠ gb301) := ⟨h14_⟩
                 have n15_ : Aside0 (gb306 ≠ gb313) := ⟨h15_⟩
                 have n16_ : Aside0 (gb313 ≠ gb306) := ⟨h16_⟩
                 have n17_ : Aside0 (gb307 ≠ gb313) := ⟨h17_⟩
                 have n18_ : Aside0 (gb313 ≠ gb307) := ⟨h18_⟩
                 have n19_ : Aside0 (gb314 ≠ gb313) := ⟨h19_⟩
                 have n20_ : Aside0 (gb313 ≠ gb314) := ⟨h20_⟩
                 have n21_ : Aside0 (w.heap.size ≤ gb314) := ⟨h21_⟩
                 have n22_ : Aside0 (w.heap.size ≤ gb314) := ⟨h22_⟩
                 have n23_ : Aside0 (gb293 ≠ gb314) := ⟨h23_⟩
                 have n24_ : Aside0 (gb314 ≠ gb293) := ⟨h24_⟩
                 have n25_ : Aside0 (gb294 ≠ gb314) := ⟨h25_⟩
                 have n26_ : Aside0 (gb314 ≠ gb294) := ⟨h26_⟩
                 have n27_ : Aside0 (gb301 ≠ gb314) := ⟨h27_⟩
                 have n28_ : Aside0 (gb314 ≠ gb301) := ⟨h28_⟩
                 have n29_ : Aside0 (gb306 ≠ gb314) := ⟨h29_⟩
                 have n30_ : Aside0 (gb314 ≠ gb306) := ⟨h30_⟩
                 have n31_ : Aside0 (gb307 ≠ gb314) := ⟨h31_⟩
                 have n32_ : Aside0 (gb314 ≠ gb307) := ⟨h32_⟩
                 have n33_ : Aside0 (Below w.heap.size w w61) := ⟨h33_⟩
                 clear BK293
                 clear BK294
                 clear BK301
                 clear BK306
                 clear BK307
                 clear HB
                 clear h0_ h1_ h2_ h3_ h4_ h5_ h6_ h7_ h8_ h9_ h10_ h11_ h12_ h13_ h14_ h15_ h16_ h17_ h18_ h19_ h20_ h21_ h22_ h23_ h24_ h25_ h26_ h27_ h28_ h29_ h30_ h31_ h32_ h33_
                 have BK293 := n0_
                 have BK294 := n1_
                 have BK301 := n2_
                 have BK306 := n3_
                 have BK307 := n4_
                 have BK313 := n5_
                 have BK314 := n6_
                 have GW313 := n7_
                 have GE313 := n8_
                 have NB293_313 := n9_
                 have NB313_293 := n10_
                 have NB294_313 := n11_
                 have NB313_294 := n12_
                 have NB301_313 := n13_
                 have NB313_301 := n14_
                 have NB306_313 := n15_
                 have NB313_306 := n16_
                 have NB307_313 := n17_
                 have NB313_307 := n18_
                 have NB314_313 := n19_
                 have NB313_314 := n20_
                 have GW314 := n21_
                 have GE314 := n22_
                 have NB293_314 := n23_
                 have NB314_293 := n24_
                 have NB294_314 := n25_
                 have NB314_294 := n26_
                 have NB301_314 := n27_
                 have NB314_301 := n28_
                 have NB306_314 := n29_
                 have NB314_306 := n30_
                 have NB307_314 := n31_
                 have NB314_307 := n32_
                 have HB := n33_
                 clear n0_ n1_ n2_ n3_ n4_ n5_ n6_ n7_ n8_ n9_ n10_ n11_ n12_ n13_ n14_ n15_ n16_ n17_ n18_ n19_ n20_ n21_ n22_ n23_ n24_ n25_ n26_ n27_ n28_ n29_ n30_ n31_ n32_ n33_
                 have hHeld : w61.cell? ⟨gb293, 0, none⟩ = some (.int .i64 t295) ∧ w61.cell? ⟨gb293, 1, none⟩ = some (.int .i64 t296) ∧ w61.cell? ⟨gb294, 0, none⟩ = some (.int .i64 t297) ∧ w61.cell? ⟨gb294, 1, none⟩ = some (.int .i64 t298) ∧ w61.cell? ⟨gb301, ((ji32)).toNat, none⟩ = some (.int .i64 (rd ([15, 14, 19, 18, 17, 16] : List Int) (ji32))) := hS_
                 refine norm_ (a' := ?_) ?_ ?_
                 rotate_left
                 · simp only [putAll, Act.put, List.setIfInBounds_toArray, List.set_cons_zero, List.set_cons_succ]
                   rfl
                 refine oneQ 6 44 HT_.out (fun K hK => ?_)
                 refine goes_ Try.func33 (by kernel_rfl) rfl #[.int .i64 (rd ([15, 14, 19, 18, 17, 16] : List Int) (ji32)), .agg #[.int .i64 t295, .int .i64 t296], .agg #[.int .i64 t297, .int .i64 t298]] (by rfl) rfl rfl (by (try simp only [List.map_toArray, List.map_cons, List.map_nil]); first | done | (simp only [hji32]; rfl) | rfl | (simp only [List.length_drop, List.length_take]; rfl)) ?_
                 with_reducible refine (itv_Test.calls kj27 (rd ([15, 14, 19, 18, 17, 16] : List Int) (ji32)) t295 t296 t297 t298 t309 t310 t311 t312 _ A35.out).mono ?_
                 rintro e w62 ⟨rfl, hb⟩
                 refine ⟨_, rfl, ?_⟩
                 have n0_ := bst HB hb
                 replace BK293 := bbw BK293 hb
                 replace BK294 := bbw BK294 hb
                 replace BK301 := bbw BK301 hb
                 replace BK306 := bbw BK306 hb
                 replace BK307 := bbw BK307 hb
                 replace BK313 := bbw BK313 hb
                 replace BK314 := bbw BK314 hb
                 clear HB
                 have HB := n0_
                 clear n0_
                 (try clear hb)
                 (try clear hb2)
                 (try clear hk)
                 (try clear hi)
                 refine hK.out _ _ ⟨hcz BK293 0, hcz BK293 1, hcz BK294 0, hcz BK294 1, (box_at2 (l := ([15, 14, 19, 18, 17, 16] : List Int)) (t := 54) (show _ = some (Obj.cells ((([15, 14, 19, 18, 17, 16] : List Int)).map (Value.int .i64)).toArray 54 (0, 0)) from BK301.out) ((ji32)) (of_eq_true p308) (of_eq_true q308))⟩ (fun hHeld => ?_)
                 clear hK K
                 refine norm_ (a' := ?_) ?_ ?_
                 rotate_left
                 · show Act.put _ (some 44) _ = _
                   simp only [Act.put, List.setIfInBounds_toArray, List.set_cons_zero, List.set_cons_succ, i64_w, i32_w]
                   rfl
                 refine pure_ (i := 7) (N := some 37) (v := ?_) (a' := ?_) #[true, true, true, true, true, true, true, true, false, false, true, true, false, false] rfl rfl (any_of HT_.out (by kernel_rfl)) (fun _ _ _ h => h) (Or.inl ⟨by rfl, ?_⟩) ?_ ?_
                 rotate_left
                 · intro w'
                   go_simp
                   with_reducible rfl
                 rotate_left
                 · simp only [Act.put, List.setIfInBounds_toArray, List.set_cons_zero, List.set_cons_succ, i64_w, i32_w]
                   rfl
                 refine pure_ (i := 8) (N := some 45) (v := ?_) (a' := ?_) #[true, true, true, true, true, true, true, true, true, false, true, true, false, false] rfl rfl (any_of HT_.out (by kernel_rfl)) (fun _ _ _ h => h) (Or.inl ⟨by rfl, ?_⟩) ?_ ?_
                 rotate_left
                 · intro w'
                   go_simp
                   with_reducible rfl
                 rotate_left
                 · simp only [Act.put, List.setIfInBounds_toArray, List.set_cons_zero, List.set_cons_succ, i64_w, i32_w]
                   rfl
                 refine pure_ (i := 9) (N := some 46) (v := ?_) (a' := ?_) #[true, true, true, true, true, true, true, true, true, true, true, true, false, false] rfl rfl (any_of HT_.out (by kernel_rfl)) (fun _ _ _ h => h) (Or.inl ⟨by rfl, ?_⟩) ?_ ?_
                 rotate_left
                 · intro w'
                   go_simp
                   with_reducible rfl
                 rotate_left
                 · simp only [Act.put, List.setIfInBounds_toArray, List.set_cons_zero, List.set_cons_succ, i64_w, i32_w]
                   rfl
                 exact norm_ (by first | (simp only [putAll, Act.put, List.setIfInBounds_toArray, List.set_cons_zero, List.set_cons_succ]; done) | (simp only [putAll, Act.put, List.setIfInBounds_toArray, List.set_cons_zero, List.set_cons_succ]; rfl)) (hJ6_10_11 (gb313, gb314) _ ⟨hHeld, (pk BK293.out), (pk BK294.out), (pk BK301.out), (pk BK306.out), (pk BK307.out), (pk BK313.out), (pk BK314.out), GW313.out, GE313.out, NB293_313.out, NB313_293.out, NB294_313.out, NB313_294.out, NB301_313.out, NB313_301.out, NB306_313.out, NB313_306.out, NB307_313.out, NB313_307.out, NB314_313.out, NB313_314.out, GW314.out, GE314.out, NB293_314.out, NB314_293.out, NB294_314.out, NB314_294.out, NB301_314.out, NB314_301.out, NB306_314.out, NB314_306.out, NB307_314.out, NB314_307.out, (by repeat (first | (with_reducible first | exact HB.out | apply below_alloc | apply pw_below_drewN | apply below_drew1 | refine below_set ?_ GE293.out | refine below_set ?_ GE294.out | refine below_set ?_ GE301.out | refine below_set ?_ GE306.out | refine below_set ?_ GE307.out | refine below_set ?_ GE313.out | refine below_set ?_ GE314.out) | exact HB.out))⟩)
             · skip
               rintro gb314 w61 ⟨hS_, h0_, h1_, h2_, h3_, h4_, h5_, h6_, h7_, h8_, h9_, h10_, h11_, h12_, h13_, h14_, h15_, h16_, h17_, h18_⟩
               have n0_ : Aside0 (w61.heap[gb293]? = some (.cells #[.int .i64 t295, .int .i64 t296] 23 (0, 0))) := ⟨h0_⟩
               have n1_ : Aside0 (w61.heap[gb294]? = some (.cells #[.int .i64 t297, .int .i64 t298] 23 (0, 0))) := ⟨h1_⟩
               have n2_ : Aside0 (w61.heap[gb301]? = some (.cells #[.int .i64 15, .int .i64 14, .int .i64 19, .int .i64 18, .int .i64 17, .int .i64 16] 54 (0, 0))) := ⟨h2_⟩
               have n3_ : Aside0 (w61.heap[gb306]? = some (.cells #[.int .i64 t302, .int .i64 t303] 23 (0, 0))) := ⟨h3_⟩
               have n4_ : Aside0 (w61.heap[gb307]? = some (.cells #[.int .i64 t304, .int .i64 t305] 23 (0, 0))) := ⟨h4_⟩
               have n5_ : Aside0 (w61.heap[gb314]? = some (.cells #[.int .i64 0, .int .i64 0] 23 (0, 0))) := ⟨h5_⟩
               have n6_ : Aside0 (w.heap.size ≤ gb314) := ⟨h6_⟩
               have n7_ : Aside0 (w.heap.size ≤ gb314) := ⟨h7_⟩
               have n8_ : Aside0 (gb293 ≠ gb314) := ⟨h8_⟩
               have n9_ : Aside0 (gb314 ≠ gb293) := ⟨h9_⟩
               have n10_ : Aside0 (gb294 ≠ gb314) := ⟨h10_⟩
               have n11_ : Aside0 (gb314 ≠ gb294) := ⟨h11_⟩
               have n12_ : Aside0 (gb301 ≠ gb314) := ⟨h12_⟩
               have n13_ : Aside0 (gb314 ≠ gb301) := ⟨h13_⟩
               have n14_ : Aside0 (gb306 ≠ gb314) := ⟨h14_⟩
               have n15_ : Aside0 (gb314 ≠ gb306) := ⟨h15_⟩
               have n16_ : Aside0 (gb307 ≠ gb314) := ⟨h16_⟩
               have n17_ : Aside0 (gb314 ≠ gb307) := ⟨h17_⟩
               have n18_ : Aside0 (Below w.heap.size w w61) := ⟨h18_⟩
               clear BK293
               clear BK294
               clear BK301
               clear BK306
               clear BK307
               clear HB
               clear h0_ h1_ h2_ h3_ h4_ h5_ h6_ h7_ h8_ h9_ h10_ h11_ h12_ h13_ h14_ h15_ h16_ h17_ h18_
               have BK293 := n0_
               have BK294 := n1_
               have BK301 := n2_
               have BK306 := n3_
               have BK307 := n4_
               have BK314 := n5_
               have GW314 := n6_
               have GE314 := n7_
               have NB293_314 := n8_
               have NB314_293 := n9_
               have NB294_314 := n10_
               have NB314_294 := n11_
               have NB301_314 := n12_
               have NB314_301 := n13_
               have NB306_314 := n14_
               have NB314_306 := n15_
               have NB307_314 := n16_
               have NB314_307 := n17_
               have HB := n18_
               clear n0_ n1_ n2_ n3_ n4_ n5_ n6_ n7_ n8_ n9_ n10_ n11_ n12_ n13_ n14_ n15_ n16_ n17_ n18_
               have hHeld : w61.cell? ⟨gb293, 0, none⟩ = some (.int .i64 t295) ∧ w61.cell? ⟨gb293, 1, none⟩ = some (.int .i64 t296) ∧ w61.cell? ⟨gb294, 0, none⟩ = some (.int .i64 t297) ∧ w61.cell? ⟨gb294, 1, none⟩ = some (.int .i64 t298) ∧ w61.cell? ⟨gb301, ((ji32)).toNat, none⟩ = some (.int .i64 (rd ([15, 14, 19, 18, 17, 16] : List Int) (ji32))) := hS_
               refine norm_ (a' := ?_) ?_ ?_
               rotate_left
               · simp only [putAll, Act.put, List.setIfInBounds_toArray, List.set_cons_zero, List.set_cons_succ]
                 rfl
               refine oneQ 10 11 HT_.out (fun K hK => ?_)
               refine box_step ?hg (N := 11) ?hd (cs := #[.int .i64 0, .int .i64 0]) (t := 23) ?hr ?_; (case hd => rfl); (case hg => rfl); (case hr => first | (go_simp; done) | (go_simp; rfl))
               intro gb313 hg w62 hbox hb
               have n0_ := bst HB hb
               have n1_ := Aside0.mk (hbox)
               have n2_ := bsz HB hg
               have n3_ := bsz HB hg
               have n4_ := bn1 BK293 hg
               have n5_ := bn2 BK293 hg
               have n6_ := bn1 BK294 hg
               have n7_ := bn2 BK294 hg
               have n8_ := bn1 BK301 hg
               have n9_ := bn2 BK301 hg
               have n10_ := bn1 BK306 hg
               have n11_ := bn2 BK306 hg
               have n12_ := bn1 BK307 hg
               have n13_ := bn2 BK307 hg
               have n14_ := bn1 BK314 hg
               have n15_ := bn2 BK314 hg
               replace BK293 := bbw BK293 hb
               replace BK294 := bbw BK294 hb
               replace BK301 := bbw BK301 hb
               replace BK306 := bbw BK306 hb
               replace BK307 := bbw BK307 hb
               replace BK314 := bbw BK314 hb
               clear HB
               have HB := n0_
               have BK313 := n1_
               have GW313 := n2_
               have GE313 := n3_
               have NB293_313 := n4_
               have NB313_293 := n5_
               have NB294_313 := n6_
               have NB313_294 := n7_
               have NB301_313 := n8_
               have NB313_301 := n9_
               have NB306_313 := n10_
               have NB313_306 := n11_
               have NB307_313 := n12_
               have NB313_307 := n13_
               have NB314_313 := n14_
               have NB313_314 := n15_
               clear n0_ n1_ n2_ n3_ n4_ n5_ n6_ n7_ n8_ n9_ n10_ n11_ n12_ n13_ n14_ n15_
               clear hb hbox hg
               refine hK.out _ _ ⟨hcz BK293 0, hcz BK293 1, hcz BK294 0, hcz BK294 1, (box_at2 (l := ([15, 14, 19, 18, 17, 16] : List Int)) (t := 54) (show _ = some (Obj.cells ((([15, 14, 19, 18, 17, 16] : List Int)).map (Value.int .i64)).toArray 54 (0, 0)) from BK301.out) ((ji32)) (of_eq_true p308) (of_eq_true q308))⟩ (fun hHeld => ?_)
               clear hK K
               refine norm_ (a' := ?_) ?_ ?_
               rotate_left
               · show Act.put _ (some 11) _ = _
                 simp only [Act.put, List.setIfInBounds_toArray, List.set_cons_zero, List.set_cons_succ, i64_w, i32_w]
                 rfl
               exact norm_ (by first | (simp only [putAll, Act.put, List.setIfInBounds_toArray, List.set_cons_zero, List.set_cons_succ]; done) | (simp only [putAll, Act.put, List.setIfInBounds_toArray, List.set_cons_zero, List.set_cons_succ]; rfl)) (hJ6_10_11 (gb313, gb314) _ ⟨hHeld, (pk BK293.out), (pk BK294.out), (pk BK301.out), (pk BK306.out), (pk BK307.out), (pk BK313.out), (pk BK314.out), GW313.out, GE313.out, NB293_313.out, NB313_293.out, NB294_313.out, NB313_294.out, NB301_313.out, NB313_301.out, NB306_313.out, NB313_306.out, NB307_313.out, NB313_307.out, NB314_313.out, NB313_314.out, GW314.out, GE314.out, NB293_314.out, NB314_293.out, NB294_314.out, NB314_294.out, NB301_314.out, NB314_301.out, NB306_314.out, NB314_306.out, NB307_314.out, NB314_307.out, (by repeat (first | (with_reducible first | exact HB.out | apply below_alloc | apply pw_below_drewN | apply below_drew1 | refine below_set ?_ GE293.out | refine below_set ?_ GE294.out | refine below_set ?_ GE301.out | refine below_set ?_ GE306.out | refine below_set ?_ GE307.out | refine below_set ?_ GE314.out | refine below_set ?_ GE313.out) | exact HB.out))⟩)
           · skip
             rintro gb313 w61 ⟨hS_, h0_, h1_, h2_, h3_, h4_, h5_, h6_, h7_, h8_, h9_, h10_, h11_, h12_, h13_, h14_, h15_, h16_, h17_, h18_⟩
             have n0_ : Aside0 (w61.heap[gb293]? = some (.cells #[.int .i64 t295, .int .i64 t296] 23 (0, 0))) := ⟨h0_⟩
             have n1_ : Aside0 (w61.heap[gb294]? = some (.cells #[.int .i64 t297, .int .i64 t298] 23 (0, 0))) := ⟨h1_⟩
             have n2_ : Aside0 (w61.heap[gb301]? = some (.cells #[.int .i64 15, .int .i64 14, .int .i64 19, .int .i64 18, .int .i64 17, .int .i64 16] 54 (0, 0))) := ⟨h2_⟩
             have n3_ : Aside0 (w61.heap[gb306]? = some (.cells #[.int .i64 t302, .int .i64 t303] 23 (0, 0))) := ⟨h3_⟩
             have n4_ : Aside0 (w61.heap[gb307]? = some (.cells #[.int .i64 t304, .int .i64 t305] 23 (0, 0))) := ⟨h4_⟩
             have n5_ : Aside0 (w61.heap[gb313]? = some (.cells #[.int .i64 0, .int .i64 0] 23 (0, 0))) := ⟨h5_⟩
             have n6_ : Aside0 (w.heap.size ≤ gb313) := ⟨h6_⟩
             have n7_ : Aside0 (w.heap.size ≤ gb313) := ⟨h7_⟩
             have n8_ : Aside0 (gb293 ≠ gb313) := ⟨h8_⟩
             have n9_ : Aside0 (gb313 ≠ gb293) := ⟨h9_⟩
             have n10_ : Aside0 (gb294 ≠ gb313) := ⟨h10_⟩
             have n11_ : Aside0 (gb313 ≠ gb294) := ⟨h11_⟩
             have n12_ : Aside0 (gb301 ≠ gb313) := ⟨h12_⟩
             have n13_ : Aside0 (gb313 ≠ gb301) := ⟨h13_⟩
             have n14_ : Aside0 (gb306 ≠ gb313) := ⟨h14_⟩
             have n15_ : Aside0 (gb313 ≠ gb306) := ⟨h15_⟩
             have n16_ : Aside0 (gb307 ≠ gb313) := ⟨h16_⟩
             have n17_ : Aside0 (gb313 ≠ gb307) := ⟨h17_⟩
             have n18_ : Aside0 (Below w.heap.size w w61) := ⟨h18_⟩
             clear BK293
             clear BK294
             clear BK301
             clear BK306
             clear BK307
             clear HB
             clear h0_ h1_ h2_ h3_ h4_ h5_ h6_ h7_ h8_ h9_ h10_ h11_ h12_ h13_ h14_ h15_ h16_ h17_ h18_
             have BK293 := n0_
             have BK294 := n1_
             have BK301 := n2_
             have BK306 := n3_
             have BK307 := n4_
             have BK313 := n5_
             have GW313 := n6_
             have GE313 := n7_
             have NB293_313 := n8_
             have NB313_293 := n9_
             have NB294_313 := n10_
             have NB313_294 := n11_
             have NB301_313 := n12_
             have NB313_301 := n13_
             have NB306_313 := n14_
             have NB313_306 := n15_
             have NB307_313 := n16_
             have NB313_307 := n17_
             have HB := n18_
             clear n0_ n1_ n2_ n3_ n4_ n5_ n6_ n7_ n8_ n9_ n10_ n11_ n12_ n13_ n14_ n15_ n16_ n17_ n18_
             have hHeld : w61.cell? ⟨gb293, 0, none⟩ = some (.int .i64 t295) ∧ w61.cell? ⟨gb293, 1, none⟩ = some (.int .i64 t296) ∧ w61.cell? ⟨gb294, 0, none⟩ = some (.int .i64 t297) ∧ w61.cell? ⟨gb294, 1, none⟩ = some (.int .i64 t298) ∧ w61.cell? ⟨gb301, ((ji32)).toNat, none⟩ = some (.int .i64 (rd ([15, 14, 19, 18, 17, 16] : List Int) (ji32))) := hS_
             refine norm_ (a' := ?_) ?_ ?_
             rotate_left
             · simp only [putAll, Act.put, List.setIfInBounds_toArray, List.set_cons_zero, List.set_cons_succ]
               rfl
             refine oneQ 11 12 HT_.out (fun K hK => ?_)
             refine box_step ?hg (N := 12) ?hd (cs := #[.int .i64 0, .int .i64 0]) (t := 23) ?hr ?_; (case hd => rfl); (case hg => rfl); (case hr => first | (go_simp; done) | (go_simp; rfl))
             intro gb314 hg w62 hbox hb
             have n0_ := bst HB hb
             have n1_ := Aside0.mk (hbox)
             have n2_ := bsz HB hg
             have n3_ := bsz HB hg
             have n4_ := bn1 BK293 hg
             have n5_ := bn2 BK293 hg
             have n6_ := bn1 BK294 hg
             have n7_ := bn2 BK294 hg
             have n8_ := bn1 BK301 hg
             have n9_ := bn2 BK301 hg
             have n10_ := bn1 BK306 hg
             have n11_ := bn2 BK306 hg
             have n12_ := bn1 BK307 hg
             have n13_ := bn2 BK307 hg
             have n14_ := bn1 BK313 hg
             have n15_ := bn2 BK313 hg
             replace BK293 := bbw BK293 hb
             replace BK294 := bbw BK294 hb
             replace BK301 := bbw BK301 hb
             replace BK306 := bbw BK306 hb
             replace BK307 := bbw BK307 hb
             replace BK313 := bbw BK313 hb
             clear HB
             have HB := n0_
             have BK314 := n1_
             have GW314 := n2_
             have GE314 := n3_
             have NB293_314 := n4_
             have NB314_293 := n5_
             have NB294_314 := n6_
             have NB314_294 := n7_
             have NB301_314 := n8_
             have NB314_301 := n9_
             have NB306_314 := n10_
             have NB314_306 := n11_
             have NB307_314 := n12_
             have NB314_307 := n13_
             have NB313_314 := n14_
             have NB314_313 := n15_
             clear n0_ n1_ n2_ n3_ n4_ n5_ n6_ n7_ n8_ n9_ n10_ n11_ n12_ n13_ n14_ n15_
             clear hb hbox hg
             refine hK.out _ _ ⟨hcz BK293 0, hcz BK293 1, hcz BK294 0, hcz BK294 1, (box_at2 (l := ([15, 14, 19, 18, 17, 16] : List Int)) (t := 54) (show _ = some (Obj.cells ((([15, 14, 19, 18, 17, 16] : List Int)).map (Value.int .i64)).toArray 54 (0, 0)) from BK301.out) ((ji32)) (of_eq_true p308) (of_eq_true q308))⟩ (fun hHeld => ?_)
             clear hK K
             refine norm_ (a' := ?_) ?_ ?_
             rotate_left
             · show Act.put _ (some 12) _ = _
               simp only [Act.put, List.setIfInBounds_toArray, List.set_cons_zero, List.set_cons_succ, i64_w, i32_w]
               rfl
             exact norm_ (by first | (simp only [putAll, Act.put, List.setIfInBounds_toArray, List.set_cons_zero, List.set_cons_succ]; done) | (simp only [putAll, Act.put, List.setIfInBounds_toArray, List.set_cons_zero, List.set_cons_succ]; rfl)) (hJ6_10_11 (gb313, gb314) _ ⟨hHeld, (pk BK293.out), (pk BK294.out), (pk BK301.out), (pk BK306.out), (pk BK307.out), (pk BK313.out), (pk BK314.out), GW313.out, GE313.out, NB293_313.out, NB313_293.out, NB294_313.out, NB313_294.out, NB301_313.out, NB313_301.out, NB306_313.out, NB313_306.out, NB307_313.out, NB313_307.out, NB314_313.out, NB313_314.out, GW314.out, GE314.out, NB293_314.out, NB314_293.out, NB294_314.out, NB314_294.out, NB301_314.out, NB314_301.out, NB306_314.out, NB314_306.out, NB307_314.out, NB314_307.out, (by repeat (first | (with_reducible first | exact HB.out | apply below_alloc | apply pw_below_drewN | apply below_drew1 | refine below_set ?_ GE293.out | refine below_set ?_ GE294.out | refine below_set ?_ GE301.out | refine below_set ?_ GE306.out | refine below_set ?_ GE307.out | refine below_set ?_ GE313.out | refine below_set ?_ GE314.out) | exact HB.out))⟩)
          rintro ⟨gb313, gb314⟩ w62 ⟨hS_, h0_, h1_, h2_, h3_, h4_, h5_, h6_, h7_, h8_, h9_, h10_, h11_, h12_, h13_, h14_, h15_, h16_, h17_, h18_, h19_, h20_, h21_, h22_, h23_, h24_, h25_, h26_, h27_, h28_, h29_, h30_, h31_, h32_, h33_⟩
          have n0_ : Aside0 (w62.heap[gb293]? = some (.cells #[.int .i64 t295, .int .i64 t296] 23 (0, 0))) := ⟨h0_⟩
          have n1_ : Aside0 (w62.heap[gb294]? = some (.cells #[.int .i64 t297, .int .i64 t298] 23 (0, 0))) := ⟨h1_⟩
          have n2_ : Aside0 (w62.heap[gb301]? = some (.cells #[.int .i64 15, .int .i64 14, .int .i64 19, .int .i64 18, .int .i64 17, .int .i64 16] 54 (0, 0))) := ⟨h2_⟩
          have n3_ : Aside0 (w62.heap[gb306]? = some (.cells #[.int .i64 t302, .int .i64 t303] 23 (0, 0))) := ⟨h3_⟩
          have n4_ : Aside0 (w62.heap[gb307]? = some (.cells #[.int .i64 t304, .int .i64 t305] 23 (0, 0))) := ⟨h4_⟩
          have n5_ : Aside0 (w62.heap[gb313]? = some (.cells #[.int .i64 0, .int .i64 0] 23 (0, 0))) := ⟨h5_⟩
          have n6_ : Aside0 (w62.heap[gb314]? = some (.cells #[.int .i64 0, .int .i64 0] 23 (0, 0))) := ⟨h6_⟩
          have n7_ : Aside0 (w.heap.size ≤ gb313) := ⟨h7_⟩
          have n8_ : Aside0 (w.heap.size ≤ gb313) := ⟨h8_⟩
          have n9_ : Aside0 (gb293 ≠ gb313) := ⟨h9_⟩
          have n10_ : Aside0 (gb313 ≠ gb293) := ⟨h10_⟩
          have n11_ : Aside0 (gb294 ≠ gb313) := ⟨h11_⟩
          have n12_ : Aside0 (gb313 ≠ gb294) := ⟨h12_⟩
          have n13_ : Aside0 (gb301 ≠ gb313) := ⟨h13_⟩
          have n14_ : Aside0 (gb313 ≠ gb301) := ⟨h14_⟩
          have n15_ : Aside0 (gb306 ≠ gb313) := ⟨h15_⟩
          have n16_ : Aside0 (gb313 ≠ gb306) := ⟨h16_⟩
          have n17_ : Aside0 (gb307 ≠ gb313) := ⟨h17_⟩
          have n18_ : Aside0 (gb313 ≠ gb307) := ⟨h18_⟩
          have n19_ : Aside0 (gb314 ≠ gb313) := ⟨h19_⟩
          have n20_ : Aside0 (gb313 ≠ gb314) := ⟨h20_⟩
          have n21_ : Aside0 (w.heap.size ≤ gb314) := ⟨h21_⟩
          have n22_ : Aside0 (w.heap.size ≤ gb314) := ⟨h22_⟩
          have n23_ : Aside0 (gb293 ≠ gb314) := ⟨h23_⟩
          have n24_ : Aside0 (gb314 ≠ gb293) := ⟨h24_⟩
          have n25_ : Aside0 (gb294 ≠ gb314) := ⟨h25_⟩
          have n26_ : Aside0 (gb314 ≠ gb294) := ⟨h26_⟩
          have n27_ : Aside0 (gb301 ≠ gb314) := ⟨h27_⟩
          have n28_ : Aside0 (gb314 ≠ gb301) := ⟨h28_⟩
          have n29_ : Aside0 (gb306 ≠ gb314) := ⟨h29_⟩
          have n30_ : Aside0 (gb314 ≠ gb306) := ⟨h30_⟩
          have n31_ : Aside0 (gb307 ≠ gb314) := ⟨h31_⟩
          have n32_ : Aside0 (gb314 ≠ gb307) := ⟨h32_⟩
          have n33_ : Aside0 (Below w.heap.size w w62) := ⟨h33_⟩
          clear BK293
          clear BK294
          clear BK301
          clear BK306
          clear BK307
          clear HB
          clear h0_ h1_ h2_ h3_ h4_ h5_ h6_ h7_ h8_ h9_ h10_ h11_ h12_ h13_ h14_ h15_ h16_ h17_ h18_ h19_ h20_ h21_ h22_ h23_ h24_ h25_ h26_ h27_ h28_ h29_ h30_ h31_ h32_ h33_
          have BK293 := n0_
          have BK294 := n1_
          have BK301 := n2_
          have BK306 := n3_
          have BK307 := n4_
          have BK313 := n5_
          have BK314 := n6_
          have GW313 := n7_
          have GE313 := n8_
          have NB293_313 := n9_
          have NB313_293 := n10_
          have NB294_313 := n11_
          have NB313_294 := n12_
          have NB301_313 := n13_
          have NB313_301 := n14_
          have NB306_313 := n15_
          have NB313_306 := n16_
          have NB307_313 := n17_
          have NB313_307 := n18_
          have NB314_313 := n19_
          have NB313_314 := n20_
          have GW314 := n21_
          have GE314 := n22_
          have NB293_314 := n23_
          have NB314_293 := n24_
          have NB294_314 := n25_
          have NB314_294 := n26_
          have NB301_314 := n27_
          have NB314_301 := n28_
          have NB306_314 := n29_
          have NB314_306 := n30_
          have NB307_314 := n31_
          have NB314_307 := n32_
          have HB := n33_
          clear n0_ n1_ n2_ n3_ n4_ n5_ n6_ n7_ n8_ n9_ n10_ n11_ n12_ n13_ n14_ n15_ n16_ n17_ n18_ n19_ n20_ n21_ n22_ n23_ n24_ n25_ n26_ n27_ n28_ n29_ n30_ n31_ n32_ n33_
          have hHeld : w62.cell? ⟨gb293, 0, none⟩ = some (.int .i64 t295) ∧ w62.cell? ⟨gb293, 1, none⟩ = some (.int .i64 t296) ∧ w62.cell? ⟨gb294, 0, none⟩ = some (.int .i64 t297) ∧ w62.cell? ⟨gb294, 1, none⟩ = some (.int .i64 t298) ∧ w62.cell? ⟨gb301, ((ji32)).toNat, none⟩ = some (.int .i64 (rd ([15, 14, 19, 18, 17, 16] : List Int) (ji32))) := hS_
          refine norm_ (a' := ?_) ?_ ?_
          rotate_left
          ·
           simp only [putAll, Act.put, List.setIfInBounds_toArray, List.set_cons_zero, List.set_cons_succ]
           rfl
          refine one_ (i := 12) (N := none) #[true, true, true, true, true, true, true, true, true, true, true, true, true, false] rfl rfl (one_of HT_.out (by kernel_rfl)) (by decide) (fun K hK => ?_)
          have hs63 : w62.cell? ⟨gb313, 0, none⟩ = some (.int .i64 0) := hcz BK313 0
          have hfs63 := blk_frozen BK313.out 0
          have hns63_0 := NB293_313.out
          have hns63_1 := NB294_313.out
          have hns63_2 := NB301_313.out
          have hns63_3 := NB306_313.out
          have hns63_4 := NB307_313.out
          have hns63_6 := NB314_313.out
          have hms63_0 := NB313_293.out
          have hms63_1 := NB313_294.out
          have hms63_2 := NB313_301.out
          have hms63_3 := NB313_306.out
          have hms63_4 := NB313_307.out
          have hms63_6 := NB313_314.out
          have hs64 : w62.cell? ⟨gb313, 1, none⟩ = some (.int .i64 0) := hcz BK313 1
          have hfs64 := blk_frozen BK313.out 1
          have hns64_0 := NB293_313.out
          have hns64_1 := NB294_313.out
          have hns64_2 := NB301_313.out
          have hns64_3 := NB306_313.out
          have hns64_4 := NB307_313.out
          have hns64_6 := NB314_313.out
          have hms64_0 := NB313_293.out
          have hms64_1 := NB313_294.out
          have hms64_2 := NB313_301.out
          have hms64_3 := NB313_306.out
          have hms64_4 := NB313_307.out
          have hms64_6 := NB313_314.out
          refine skip_ (w1 := ?_) (by rfl) rfl ?_ ?_
          rotate_left
          ·
           go_simp
           rfl
          refine hK.out _ _ ⟨((cell_far (p := ⟨gb313, _, none⟩) NB293_313.out _).trans (((cell_far (p := ⟨gb313, _, none⟩) NB293_313.out _).trans (hHeld.1)))), ((cell_far (p := ⟨gb313, _, none⟩) NB293_313.out _).trans (((cell_far (p := ⟨gb313, _, none⟩) NB293_313.out _).trans (hHeld.2.1)))), ((cell_far (p := ⟨gb313, _, none⟩) NB294_313.out _).trans (((cell_far (p := ⟨gb313, _, none⟩) NB294_313.out _).trans (hHeld.2.2.1)))), ((cell_far (p := ⟨gb313, _, none⟩) NB294_313.out _).trans (((cell_far (p := ⟨gb313, _, none⟩) NB294_313.out _).trans (hHeld.2.2.2.1)))), ((cell_far (p := ⟨gb313, _, none⟩) NB301_313.out _).trans (((cell_far (p := ⟨gb313, _, none⟩) NB301_313.out _).trans (hHeld.2.2.2.2))))⟩ (fun hHeld => ?_)
          clear hK K
          refine one_ (i := 13) (N := none) #[true, true, true, true, true, true, true, true, true, true, true, true, true, true] rfl rfl (one_of HT_.out (by kernel_rfl)) (by decide) (fun K hK => ?_)
          have hs65 : w62.cell? ⟨gb314, 0, none⟩ = some (.int .i64 0) := hcz BK314 0
          have hfs65 := blk_frozen BK314.out 0
          have hns65_0 := NB293_314.out
          have hns65_1 := NB294_314.out
          have hns65_2 := NB301_314.out
          have hns65_3 := NB306_314.out
          have hns65_4 := NB307_314.out
          have hns65_5 := NB313_314.out
          have hms65_0 := NB314_293.out
          have hms65_1 := NB314_294.out
          have hms65_2 := NB314_301.out
          have hms65_3 := NB314_306.out
          have hms65_4 := NB314_307.out
          have hms65_5 := NB314_313.out
          have hs66 : w62.cell? ⟨gb314, 1, none⟩ = some (.int .i64 0) := hcz BK314 1
          have hfs66 := blk_frozen BK314.out 1
          have hns66_0 := NB293_314.out
          have hns66_1 := NB294_314.out
          have hns66_2 := NB301_314.out
          have hns66_3 := NB306_314.out
          have hns66_4 := NB307_314.out
          have hns66_5 := NB313_314.out
          have hms66_0 := NB314_293.out
          have hms66_1 := NB314_294.out
          have hms66_2 := NB314_301.out
          have hms66_3 := NB314_306.out
          have hms66_4 := NB314_307.out
          have hms66_5 := NB314_313.out
          refine skip_ (w1 := ?_) (by rfl) rfl ?_ ?_
          rotate_left
          ·
           go_simp
           rfl
          refine hK.out _ _ ⟨((cell_far (p := ⟨gb314, _, none⟩) NB293_314.out _).trans (((cell_far (p := ⟨gb314, _, none⟩) NB293_314.out _).trans (hHeld.1)))), ((cell_far (p := ⟨gb314, _, none⟩) NB293_314.out _).trans (((cell_far (p := ⟨gb314, _, none⟩) NB293_314.out _).trans (hHeld.2.1)))), ((cell_far (p := ⟨gb314, _, none⟩) NB294_314.out _).trans (((cell_far (p := ⟨gb314, _, none⟩) NB294_314.out _).trans (hHeld.2.2.1)))), ((cell_far (p := ⟨gb314, _, none⟩) NB294_314.out _).trans (((cell_far (p := ⟨gb314, _, none⟩) NB294_314.out _).trans (hHeld.2.2.2.1)))), ((cell_far (p := ⟨gb314, _, none⟩) NB301_314.out _).trans (((cell_far (p := ⟨gb314, _, none⟩) NB301_314.out _).trans (hHeld.2.2.2.2))))⟩ (fun hHeld => ?_)
          clear hK K
          refine done_ (done_of HT_.out (by kernel_rfl)) ?_
          try go_wp2
          have n0_ : Aside0 (((((w62.setCell ⟨gb313, 0, none⟩ (.int .i64 t309)).setCell ⟨gb313, 1, none⟩ (.int .i64 t310)).setCell ⟨gb314, 0, none⟩ (.int .i64 t311)).setCell ⟨gb314, 1, none⟩ (.int .i64 t312)).heap[gb293]? = some (.cells #[.int .i64 t295, .int .i64 t296] 23 (0, 0))) := ⟨by refine pkB ?_; refine blk_far ?_ NB293_314.out _; refine pkB ?_; refine blk_far ?_ NB293_314.out _; refine pkB ?_; refine blk_far ?_ NB293_313.out _; refine pkB ?_; refine blk_far ?_ NB293_313.out _; refine pkB ?_; exact BK293.out⟩
          have n1_ : Aside0 (((((w62.setCell ⟨gb313, 0, none⟩ (.int .i64 t309)).setCell ⟨gb313, 1, none⟩ (.int .i64 t310)).setCell ⟨gb314, 0, none⟩ (.int .i64 t311)).setCell ⟨gb314, 1, none⟩ (.int .i64 t312)).heap[gb294]? = some (.cells #[.int .i64 t297, .int .i64 t298] 23 (0, 0))) := ⟨by refine pkB ?_; refine blk_far ?_ NB294_314.out _; refine pkB ?_; refine blk_far ?_ NB294_314.out _; refine pkB ?_; refine blk_far ?_ NB294_313.out _; refine pkB ?_; refine blk_far ?_ NB294_313.out _; refine pkB ?_; exact BK294.out⟩
          have n2_ : Aside0 (((((w62.setCell ⟨gb313, 0, none⟩ (.int .i64 t309)).setCell ⟨gb313, 1, none⟩ (.int .i64 t310)).setCell ⟨gb314, 0, none⟩ (.int .i64 t311)).setCell ⟨gb314, 1, none⟩ (.int .i64 t312)).heap[gb301]? = some (.cells #[.int .i64 15, .int .i64 14, .int .i64 19, .int .i64 18, .int .i64 17, .int .i64 16] 54 (0, 0))) := ⟨by refine pkB ?_; refine blk_far ?_ NB301_314.out _; refine pkB ?_; refine blk_far ?_ NB301_314.out _; refine pkB ?_; refine blk_far ?_ NB301_313.out _; refine pkB ?_; refine blk_far ?_ NB301_313.out _; refine pkB ?_; exact BK301.out⟩
          have n3_ : Aside0 (((((w62.setCell ⟨gb313, 0, none⟩ (.int .i64 t309)).setCell ⟨gb313, 1, none⟩ (.int .i64 t310)).setCell ⟨gb314, 0, none⟩ (.int .i64 t311)).setCell ⟨gb314, 1, none⟩ (.int .i64 t312)).heap[gb306]? = some (.cells #[.int .i64 t302, .int .i64 t303] 23 (0, 0))) := ⟨by refine pkB ?_; refine blk_far ?_ NB306_314.out _; refine pkB ?_; refine blk_far ?_ NB306_314.out _; refine pkB ?_; refine blk_far ?_ NB306_313.out _; refine pkB ?_; refine blk_far ?_ NB306_313.out _; refine pkB ?_; exact BK306.out⟩
          have n4_ : Aside0 (((((w62.setCell ⟨gb313, 0, none⟩ (.int .i64 t309)).setCell ⟨gb313, 1, none⟩ (.int .i64 t310)).setCell ⟨gb314, 0, none⟩ (.int .i64 t311)).setCell ⟨gb314, 1, none⟩ (.int .i64 t312)).heap[gb307]? = some (.cells #[.int .i64 t304, .int .i64 t305] 23 (0, 0))) := ⟨by refine pkB ?_; refine blk_far ?_ NB307_314.out _; refine pkB ?_; refine blk_far ?_ NB307_314.out _; refine pkB ?_; refine blk_far ?_ NB307_313.out _; refine pkB ?_; refine blk_far ?_ NB307_313.out _; refine pkB ?_; exact BK307.out⟩
          have n5_ : Aside0 (((((w62.setCell ⟨gb313, 0, none⟩ (.int .i64 t309)).setCell ⟨gb313, 1, none⟩ (.int .i64 t310)).setCell ⟨gb314, 0, none⟩ (.int .i64 t311)).setCell ⟨gb314, 1, none⟩ (.int .i64 t312)).heap[gb313]? = some (.cells #[.int .i64 t309, .int .i64 t310] 23 (0, 0))) := ⟨by refine pkB ?_; refine blk_far ?_ NB313_314.out _; refine pkB ?_; refine blk_far ?_ NB313_314.out _; refine pkB ?_; refine blk_put (cs := #[.int .i64 t309, .int .i64 0]) ?_ 1 _ (by first | rfl | (subst_vars; rfl)); refine pkB ?_; refine blk_put (cs := #[.int .i64 0, .int .i64 0]) ?_ 0 _ (by first | rfl | (subst_vars; rfl)); refine pkB ?_; exact BK313.out⟩
          have n6_ : Aside0 (((((w62.setCell ⟨gb313, 0, none⟩ (.int .i64 t309)).setCell ⟨gb313, 1, none⟩ (.int .i64 t310)).setCell ⟨gb314, 0, none⟩ (.int .i64 t311)).setCell ⟨gb314, 1, none⟩ (.int .i64 t312)).heap[gb314]? = some (.cells #[.int .i64 t311, .int .i64 t312] 23 (0, 0))) := ⟨by refine pkB ?_; refine blk_put (cs := #[.int .i64 t311, .int .i64 0]) ?_ 1 _ (by first | rfl | (subst_vars; rfl)); refine pkB ?_; refine blk_put (cs := #[.int .i64 0, .int .i64 0]) ?_ 0 _ (by first | rfl | (subst_vars; rfl)); refine pkB ?_; refine blk_far ?_ NB314_313.out _; refine pkB ?_; refine blk_far ?_ NB314_313.out _; refine pkB ?_; exact BK314.out⟩
          have n7_ : Aside0 (Below w.heap.size w ((((w62.setCell ⟨gb313, 0, none⟩ (.int .i64 t309)).setCell ⟨gb313, 1, none⟩ (.int .i64 t310)).setCell ⟨gb314, 0, none⟩ (.int .i64 t311)).setCell ⟨gb314, 1, none⟩ (.int .i64 t312))) := bpk HB
          (try clear BK293)
          (try clear BK294)
          (try clear BK301)
          (try clear BK306)
          (try clear BK307)
          (try clear BK313)
          (try clear BK314)
          (try clear HB)
          generalize ((((w62.setCell ⟨gb313, 0, none⟩ (.int .i64 t309)).setCell ⟨gb313, 1, none⟩ (.int .i64 t310)).setCell ⟨gb314, 0, none⟩ (.int .i64 t311)).setCell ⟨gb314, 1, none⟩ (.int .i64 t312)) = w67 at n0_ n1_ n2_ n3_ n4_ n5_ n6_ n7_ ⊢
          have BK293 := n0_
          have BK294 := n1_
          have BK301 := n2_
          have BK306 := n3_
          have BK307 := n4_
          have BK313 := n5_
          have BK314 := n6_
          have HB := n7_
          clear n0_ n1_ n2_ n3_ n4_ n5_ n6_ n7_
          have n0_ := Aside0.mk (blk_drew BK293.out)
          have n1_ := Aside0.mk (blk_drew BK294.out)
          have n2_ := Aside0.mk (blk_drew BK301.out)
          have n3_ := Aside0.mk (blk_drew BK306.out)
          have n4_ := Aside0.mk (blk_drew BK307.out)
          have n5_ := Aside0.mk (blk_drew BK313.out)
          have n6_ := Aside0.mk (blk_drew BK314.out)
          have n7_ := Aside0.mk (below_drew1 HB.out)
          clear BK293
          clear BK294
          clear BK301
          clear BK306
          clear BK307
          clear BK313
          clear BK314
          clear HB
          have BK293 := n0_
          have BK294 := n1_
          have BK301 := n2_
          have BK306 := n3_
          have BK307 := n4_
          have BK313 := n5_
          have BK314 := n6_
          have HB := n7_
          clear n0_ n1_ n2_ n3_ n4_ n5_ n6_ n7_
          refine start_ (n := 8) (S := fun w' => w'.cell? ⟨gb306, 0, none⟩ = some (.int .i64 t302) ∧ w'.cell? ⟨gb306, 1, none⟩ = some (.int .i64 t303) ∧ w'.cell? ⟨gb313, 0, none⟩ = some (.int .i64 t309) ∧ w'.cell? ⟨gb313, 1, none⟩ = some (.int .i64 t310)) (ds := []) #[false, false, false, false, false, false, false, false] (by kernel_rfl) rfl rfl ⟨hcz BK306 0, hcz BK306 1, hcz BK313 0, hcz BK313 1⟩ (fun hHeld => ?_); refine with_tabW itv_Holds.tab9 itv_Holds.bits9 (fun HT_ HW_ => ?_)
          generalize w67.drew = w68 at BK293 BK294 BK301 BK306 BK307 BK313 BK314 HB hHeld ⊢
          refine takeQ 0 47 HT_.out HW_.out hHeld ?_
          refine takeQ 3 50 HT_.out HW_.out hHeld ?_
          refine oneQ 1 48 HT_.out (fun K hK => ?_)
          refine goesQ Try.func21 #[.agg #[.int .i64 t302, .int .i64 t303]] ?_
          with_reducible refine (itv_None.calls t302 t303 t315 _ A36.out).mono ?_
          rintro e w69 ⟨rfl, hb⟩
          refine ⟨_, rfl, ?_⟩
          have n0_ := bst HB hb
          replace BK293 := bbw BK293 hb
          replace BK294 := bbw BK294 hb
          replace BK301 := bbw BK301 hb
          replace BK306 := bbw BK306 hb
          replace BK307 := bbw BK307 hb
          replace BK313 := bbw BK313 hb
          replace BK314 := bbw BK314 hb
          clear HB
          have HB := n0_
          clear n0_
          (try clear hb)
          (try clear hb2)
          (try clear hk)
          (try clear hi)
          refine hK.out _ _ ⟨hcz BK306 0, hcz BK306 1, hcz BK313 0, hcz BK313 1⟩ (fun hHeld => ?_)
          clear hK K
          refine normQ (N := 48) ?_
          refine pureQ 2 49 HT_.out ?_
          refine oneQ 4 51 HT_.out (fun K hK => ?_)
          refine goesQ Try.func21 #[.agg #[.int .i64 t309, .int .i64 t310]] ?_
          with_reducible refine (itv_None.calls t309 t310 t316 _ A37.out).mono ?_
          rintro e w70 ⟨rfl, hb⟩
          refine ⟨_, rfl, ?_⟩
          have n0_ := bst HB hb
          replace BK293 := bbw BK293 hb
          replace BK294 := bbw BK294 hb
          replace BK301 := bbw BK301 hb
          replace BK306 := bbw BK306 hb
          replace BK307 := bbw BK307 hb
          replace BK313 := bbw BK313 hb
          replace BK314 := bbw BK314 hb
          clear HB
          have HB := n0_
          clear n0_
          (try clear hb)
          (try clear hb2)
          (try clear hk)
          (try clear hi)
          refine hK.out _ _ ⟨hcz BK306 0, hcz BK306 1, hcz BK313 0, hcz BK313 1⟩ (fun hHeld => ?_)
          clear hK K
          refine normQ (N := 51) ?_
          refine pureQ 5 52 HT_.out ?_
          refine pureQ 6 6 HT_.out ?_
          refine pureQ 7 7 HT_.out ?_
          refine done_ (done_of HT_.out (by kernel_rfl)) ?_
          try go_wp2
          go_ret2
          exact ⟨by first | rfl | (simp [errW_none, errW_some] <;> rfl) | (simp only [← hji32]; first | rfl | (simp [errW_none, errW_some] <;> rfl)) | (simp [*, errW_none, errW_some] <;> rfl) | kernel_rfl, by repeat (first | (with_reducible first | exact HB.out | apply below_alloc | apply pw_below_drewN | apply below_drew1 | refine below_set ?_ GE293.out | refine below_set ?_ GE294.out | refine below_set ?_ GE301.out | refine below_set ?_ GE306.out | refine below_set ?_ GE307.out | refine below_set ?_ GE313.out | refine below_set ?_ GE314.out) | exact HB.out)⟩
         ·
          rw [if_neg c34] at H
          exact absurd H (by simp)
        ·
         rw [if_neg c33] at H
         exact absurd H (by simp)
end Go.Proofs.Ytbbnpipmjadpoaa.P
