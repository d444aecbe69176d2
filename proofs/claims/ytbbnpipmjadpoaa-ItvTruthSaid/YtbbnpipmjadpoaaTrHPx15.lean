/- What the law's proof needs of Px15. -/
import Derived.Test.YtbbnpipmjadpoaaTrHU2
import Derived.Test.YtbbnpipmjadpoaaTrHU
import Derived.Test.YtbbnpipmjadpoaaTrHPx0
import Derived.Test.YtbbnpipmjadpoaaTrHPx2
import Derived.Test.YtbbnpipmjadpoaaTrHPx3
import Derived.Test.YtbbnpipmjadpoaaTrHPx10
import Derived.Test.YtbbnpipmjadpoaaTrHPx14
-- PRINTED by print.py (a twelfth state) out of the translation. Not trusted: Lean checks it.
namespace Go.Proofs.Ytbbnpipmjadpoaa.P
open Go.RowKit Go.Proofs.YtbbnpipmjadpoaaW.PrintWords Go.Proofs.YtbbnpipmjadpoaaW.PrintLast Go.Proofs.YtbbnpipmjadpoaaW.PrintMore Go.Proofs.YtbbnpipmjadpoaaO
attribute [local go_sem] max2_int min2_int max_two min_two max_three min_three max_four min_four   -- for this text's walks alone
set_option linter.unusedVariables false
set_option linter.unusedSimpArgs false
mutual
def itv_Test.j0 : Nat → Int → Bool → Int → Int → Int → Int → Option (Int × Int × Int × Int)
  | 0, _, _, _, _, _, _ => none
  | k + 1, x0, x21, x262000, x262001, x263000, x263001 => if x21 = true then (some (x262000, x262001, x263000, x263001)) else ((itv_None.f x262000 x262001).bind fun t269 => (if t269 = true then (itv_Test.j1 k x0 true x262000 x262001 x263000 x263001) else ((itv_None.f x263000 x263001).bind fun t270 => (itv_Test.j1 k x0 t270 x262000 x262001 x263000 x263001))))
def itv_Test.j1 : Nat → Int → Bool → Int → Int → Int → Int → Option (Int × Int × Int × Int)
  | 0, _, _, _, _, _, _ => none
  | k + 1, x0, x29, x262000, x262001, x263000, x263001 => if x29 = true then ((itv_Empty.f).bind fun bt271 => ((itv_Empty.f).bind fun bt273 => (some (bt271.1, bt271.2, bt273.1, bt273.2)))) else (if x0 = 14 then ((itv_Meet.f k x262000 x262001 x263000 x263001).bind fun bt277 => (itv_Test.j5 k bt277.1 bt277.2 bt277.1 bt277.2)) else (if x0 = 15 then ((itv_without.f k x262000 x262001 x263000 x263001).bind fun bt279 => ((itv_without.f k x263000 x263001 x262000 x262001).bind fun bt281 => (itv_Test.j5 k bt279.1 bt279.2 bt281.1 bt281.2))) else (if x0 = 18 then (itv_Test.j2 k 16 true x263000 x263001 x262000 x262001) else (if x0 = 19 then (itv_Test.j2 k 17 true x263000 x263001 x262000 x262001) else (itv_Test.j2 k x0 false x262000 x262001 x263000 x263001)))))
def itv_Test.j5 : Nat → Int → Int → Int → Int → Option (Int × Int × Int × Int)
  | 0, _, _, _, _ => none
  | k + 1, x276000, x276001, x277000, x277001 => (itv_None.f x276000 x276001).bind fun t287 => (if t287 = true then (itv_Test.j6 k true x276000 x276001 x277000 x277001) else ((itv_None.f x277000 x277001).bind fun t288 => (itv_Test.j6 k t288 x276000 x276001 x277000 x277001)))
def itv_Test.j6 : Nat → Bool → Int → Int → Int → Int → Option (Int × Int × Int × Int)
  | 0, _, _, _, _, _ => none
  | k + 1, x87, x276000, x276001, x277000, x277001 => if x87 = true then ((itv_Empty.f).bind fun bt289 => ((itv_Empty.f).bind fun bt291 => (some (bt289.1, bt289.2, bt291.1, bt291.2)))) else (some (x276000, x276001, x277000, x277001))
def itv_Test.j2 : Nat → Int → Bool → Int → Int → Int → Int → Option (Int × Int × Int × Int)
  | 0, _, _, _, _, _, _ => none
  | k + 1, x0, x10, x262000, x262001, x263000, x263001 => if x0 = 16 then (itv_Test.j3 k x10 1 x262000 x262001 x263000 x263001) else (itv_Test.j3 k x10 0 x262000 x262001 x263000 x263001)
def itv_Test.j3 : Nat → Bool → Int → Int → Int → Int → Int → Option (Int × Int × Int × Int)
  | 0, _, _, _, _, _, _ => none
  | k + 1, x10, x11, x262000, x262001, x263000, x263001 => if x263001 < 4611686018427387904 then ((itv_upTo.f k x262000 x262001 (wrap64 (x263001 - x11))).bind fun bt283 => (itv_Test.j4 k x10 x11 x262000 x262001 x263000 x263001 bt283.1 bt283.2 x263000 x263001)) else (itv_Test.j4 k x10 x11 x262000 x262001 x263000 x263001 x262000 x262001 x263000 x263001)
def itv_Test.j4 : Nat → Bool → Int → Int → Int → Int → Int → Int → Int → Int → Int → Option (Int × Int × Int × Int)
  | 0, _, _, _, _, _, _, _, _, _, _ => none
  | k + 1, x10, x11, x262000, x262001, x263000, x263001, x276000, x276001, x277000, x277001 => if x262000 > (-4611686018427387904) then ((itv_from.f k x263000 x263001 (wrap64 (x262000 + x11))).bind fun bt285 => (if x10 = true then (itv_Test.j5 k bt285.1 bt285.2 x276000 x276001) else (itv_Test.j5 k x276000 x276001 bt285.1 bt285.2))) else (if x10 = true then (itv_Test.j5 k x277000 x277001 x276000 x276001) else (itv_Test.j5 k x276000 x276001 x277000 x277001))
end
def itv_Test.f (k : Nat) (a0 : Int) (a1_0 : Int) (a1_1 : Int) (a2_0 : Int) (a2_1 : Int) : Option (Int × Int × Int × Int) := (itv_sound.f a1_0 a1_1).bind fun bt265 => ((itv_sound.f a2_0 a2_1).bind fun bt267 => (if a0 < 14 then (itv_Test.j0 k a0 true bt265.1 bt265.2 bt267.1 bt267.2) else (itv_Test.j0 k a0 (decide (a0 > 19)) bt265.1 bt265.2 bt267.1 bt267.2)))
def itv_Test.T15 : Bool × List (List Nat × List Nat) := (true, [([], []), ([], []), ([0, 1], [0, 1]), ([], []), ([], []), ([3, 4, 2], [3, 4]), ([2, 5, 0, 1, 2], [2]), ([5, 6, 0, 1, 2, 3, 4, 5, 6], [5])])
def itv_Test.B15 : List Nat := [0, 0, 3, 0, 0, 31, 63, 127]
theorem itv_Test.tab15 : rtab .any (opsOf Try.f33 15) = itv_Test.T15 := by kernel_rfl
theorem itv_Test.bits15 : waitsOk itv_Test.T15.2 itv_Test.B15 = true := by kernel_rfl
set_option maxHeartbeats 8000000 in
set_option maxRecDepth 100000 in
theorem itv_Test.calls (k : Nat) (a0 : Int) (a1_0 : Int) (a1_1 : Int) (a2_0 : Int) (a2_1 : Int) (r1 : Int) (r2 : Int) (r3 : Int) (r4 : Int) (w : World) (h : itv_Test.f k a0 a1_0 a1_1 a2_0 a2_1 = some (r1, r2, r3, r4)) :
    Calls Try.prog 33 #[.int .i64 a0, .agg #[.int .i64 a1_0, .int .i64 a1_1], .agg #[.int .i64 a2_0, .int .i64 a2_1]] w fun e w' => e = .returned (.tuple #[.agg #[.int .i64 r1, .int .i64 r2], .agg #[.int .i64 r3, .int .i64 r4]]) ∧ Below w.heap.size w w' := by
  have hu23 := Try.underlying23
  have HB := Aside0.mk (Below.refl w.heap.size w)
  have H : ((itv_sound.f a1_0 a1_1).bind fun bt265 => ((itv_sound.f a2_0 a2_1).bind fun bt267 => (if a0 < 14 then (itv_Test.j0 k a0 true bt265.1 bt265.2 bt267.1 bt267.2) else (itv_Test.j0 k a0 (decide (a0 > 19)) bt265.1 bt265.2 bt267.1 bt267.2)))) = some (r1, r2, r3, r4) := h
  clear h
  replace H := Option.bind_eq_some_iff.mp H
  obtain ⟨⟨t265, t266⟩, A40, H⟩ := H
  replace H : ((itv_sound.f a2_0 a2_1).bind fun bt267 => (if a0 < 14 then (itv_Test.j0 k a0 true t265 t266 bt267.1 bt267.2) else (itv_Test.j0 k a0 (decide (a0 > 19)) t265 t266 bt267.1 bt267.2))) = some (r1, r2, r3, r4) := H
  have A4 := Aside0.mk A40
  clear A40
  replace H := Option.bind_eq_some_iff.mp H
  obtain ⟨⟨t267, t268⟩, A50, H⟩ := H
  replace H : (if a0 < 14 then (itv_Test.j0 k a0 true t265 t266 t267 t268) else (itv_Test.j0 k a0 (decide (a0 > 19)) t265 t266 t267 t268)) = some (r1, r2, r3, r4) := H
  have A5 := Aside0.mk A50
  clear A50
  have HC6 := Aside0.mk H
  clear H
  go_enter Try.func33, Try.ntmps33
  try go_wp2_with (first | ((with_reducible refine gate_dst (N := 4) rfl ?_); refine box_event ?hg (N := 4) ?hd (cs := #[.int .i64 a1_0, .int .i64 a1_1]) (t := 23) ?hr ?_; (case hd => rfl); (case hg => rfl); (case hr => first | (go_simp; done) | (go_simp; rfl)); intro gb261 hg w7 hbox hb; have n0_ := bst HB hb; have n1_ := Aside0.mk (hbox); have n2_ := bsz HB hg; have n3_ := bsz HB hg; clear HB; have HB := n0_; have BK261 := n1_; have GW261 := n2_; have GE261 := n3_; clear n0_ n1_ n2_ n3_; clear hb hbox hg) | ((with_reducible refine gate_dst (N := 5) rfl ?_); refine box_event ?hg (N := 5) ?hd (cs := #[.int .i64 a2_0, .int .i64 a2_1]) (t := 23) ?hr ?_; (case hd => rfl); (case hg => rfl); (case hr => first | (go_simp; done) | (go_simp; rfl)); intro gb262 hg w8 hbox hb; have n0_ := bst HB hb; have n1_ := Aside0.mk (hbox); have n2_ := bsz HB hg; have n3_ := bsz HB hg; have n4_ := bn1 BK261 hg; have n5_ := bn2 BK261 hg; replace BK261 := bbw BK261 hb; clear HB; have HB := n0_; have BK262 := n1_; have GW262 := n2_; have GE262 := n3_; have NB261_262 := n4_; have NB262_261 := n5_; clear n0_ n1_ n2_ n3_ n4_ n5_; clear hb hbox hg) | ((with_reducible refine gate_dst (N := 6) rfl ?_); refine box_event ?hg (N := 6) ?hd (cs := #[.int .i64 0, .int .i64 0]) (t := 23) ?hr ?_; (case hd => rfl); (case hg => rfl); (case hr => first | (go_simp; done) | (go_simp; rfl)); intro gb263 hg w9 hbox hb; have n0_ := bst HB hb; have n1_ := Aside0.mk (hbox); have n2_ := bsz HB hg; have n3_ := bsz HB hg; have n4_ := bn1 BK261 hg; have n5_ := bn2 BK261 hg; have n6_ := bn1 BK262 hg; have n7_ := bn2 BK262 hg; replace BK261 := bbw BK261 hb; replace BK262 := bbw BK262 hb; clear HB; have HB := n0_; have BK263 := n1_; have GW263 := n2_; have GE263 := n3_; have NB261_263 := n4_; have NB263_261 := n5_; have NB262_263 := n6_; have NB263_262 := n7_; clear n0_ n1_ n2_ n3_ n4_ n5_ n6_ n7_; clear hb hbox hg) | ((with_reducible refine gate_dst (N := 7) rfl ?_); refine box_event ?hg (N := 7) ?hd (cs := #[.int .i64 0, .int .i64 0]) (t := 23) ?hr ?_; (case hd => rfl); (case hg => rfl); (case hr => first | (go_simp; done) | (go_simp; rfl)); intro gb264 hg w10 hbox hb; have n0_ := bst HB hb; have n1_ := Aside0.mk (hbox); have n2_ := bsz HB hg; have n3_ := bsz HB hg; have n4_ := bn1 BK261 hg; have n5_ := bn2 BK261 hg; have n6_ := bn1 BK262 hg; have n7_ := bn2 BK262 hg; have n8_ := bn1 BK263 hg; have n9_ := bn2 BK263 hg; replace BK261 := bbw BK261 hb; replace BK262 := bbw BK262 hb; replace BK263 := bbw BK263 hb; clear HB; have HB := n0_; have BK264 := n1_; have GW264 := n2_; have GE264 := n3_; have NB261_264 := n4_; have NB264_261 := n5_; have NB262_264 := n6_; have NB264_262 := n7_; have NB263_264 := n8_; have NB264_263 := n9_; clear n0_ n1_ n2_ n3_ n4_ n5_ n6_ n7_ n8_ n9_; clear hb hbox hg))
  have n0_ := Aside0.mk (blk_drew BK261.out)
  have n1_ := Aside0.mk (blk_drew BK262.out)
  have n2_ := Aside0.mk (blk_drew BK263.out)
  have n3_ := Aside0.mk (blk_drew BK264.out)
  have n4_ := Aside0.mk (below_drew1 HB.out)
  clear BK261
  clear BK262
  clear BK263
  clear BK264
  clear HB
  have BK261 := n0_
  have BK262 := n1_
  have BK263 := n2_
  have BK264 := n3_
  have HB := n4_
  clear n0_ n1_ n2_ n3_ n4_
  refine start_ (n := 6) (S := fun w' => w'.cell? ⟨gb261, 0, none⟩ = some (.int .i64 a1_0) ∧ w'.cell? ⟨gb261, 1, none⟩ = some (.int .i64 a1_1) ∧ w'.cell? ⟨gb262, 0, none⟩ = some (.int .i64 a2_0) ∧ w'.cell? ⟨gb262, 1, none⟩ = some (.int .i64 a2_1)) (ds := [4, 5]) #[false, false, false, false, false, false] (by kernel_rfl) rfl rfl ⟨hcz BK261 0, hcz BK261 1, hcz BK262 0, hcz BK262 1⟩ (fun hHeld => ?_)
  generalize w10.drew = w11 at BK261 BK262 BK263 BK264 HB hHeld ⊢
  refine take_ (i := 0) (N := some 12) (v := ?_) (a' := ?_) #[true, false, false, false, false, false] rfl rfl (by kernel_rfl) (fun _ _ _ h => h) (Or.inl ⟨by rfl, ?_⟩) hHeld ?_ ?_
  rotate_left
  ·
   rintro w' ⟨s0, s1, s2, s3⟩
   go_simp
   with_reducible rfl
  rotate_left
  ·
   simp only [Act.put, List.setIfInBounds_toArray, List.set_cons_zero, List.set_cons_succ, i64_w, i32_w]
   rfl
  refine take_ (i := 2) (N := some 14) (v := ?_) (a' := ?_) #[true, false, true, false, false, false] rfl rfl (by kernel_rfl) (fun _ _ _ h => h) (Or.inl ⟨by rfl, ?_⟩) hHeld ?_ ?_
  rotate_left
  ·
   rintro w' ⟨s0, s1, s2, s3⟩
   go_simp
   with_reducible rfl
  rotate_left
  ·
   simp only [Act.put, List.setIfInBounds_toArray, List.set_cons_zero, List.set_cons_succ, i64_w, i32_w]
   rfl
  refine one_ (i := 1) (N := some 13) #[true, true, true, false, false, false] rfl rfl (by kernel_rfl) (by decide) (fun K hK => ?_)
  refine goesQ Try.func59 #[.agg #[.int .i64 a1_0, .int .i64 a1_1]] ?_
  with_reducible refine (itv_sound.calls a1_0 a1_1 t265 t266 _ A4.out).mono ?_
  rintro e w12 ⟨rfl, hb⟩
  refine ⟨_, rfl, ?_⟩
  have n0_ := bst HB hb
  replace BK261 := bbw BK261 hb
  replace BK262 := bbw BK262 hb
  replace BK263 := bbw BK263 hb
  replace BK264 := bbw BK264 hb
  clear HB
  have HB := n0_
  clear n0_
  (try clear hb)
  (try clear hb2)
  (try clear hk)
  (try clear hi)
  refine hK.out _ _ ⟨hcz BK261 0, hcz BK261 1, hcz BK262 0, hcz BK262 1⟩ (fun hHeld => ?_)
  clear hK K
  refine normQ (N := 13) ?_
  refine one_ (i := 3) (N := some 15) #[true, true, true, true, false, false] rfl rfl (by kernel_rfl) (by decide) (fun K hK => ?_)
  refine goesQ Try.func59 #[.agg #[.int .i64 a2_0, .int .i64 a2_1]] ?_
  with_reducible refine (itv_sound.calls a2_0 a2_1 t267 t268 _ A5.out).mono ?_
  rintro e w13 ⟨rfl, hb⟩
  refine ⟨_, rfl, ?_⟩
  have n0_ := bst HB hb
  replace BK261 := bbw BK261 hb
  replace BK262 := bbw BK262 hb
  replace BK263 := bbw BK263 hb
  replace BK264 := bbw BK264 hb
  clear HB
  have HB := n0_
  clear n0_
  (try clear hb)
  (try clear hb2)
  (try clear hk)
  (try clear hi)
  refine hK.out _ _ ⟨hcz BK261 0, hcz BK261 1, hcz BK262 0, hcz BK262 1⟩ (fun hHeld => ?_)
  clear hK K
  refine normQ (N := 15) ?_
  refine last_ (i := 4) (N := none) #[true, true, true, true, true, false] rfl rfl (by kernel_rfl) (by decide) (fun K hK => ?_)
  have hs14 : w13.cell? ⟨gb261, 0, none⟩ = some (.int .i64 a1_0) := hcz BK261 0
  have hfs14 := blk_frozen BK261.out 0
  have hns14_1 := NB262_261.out
  have hns14_2 := NB263_261.out
  have hns14_3 := NB264_261.out
  have hms14_1 := NB261_262.out
  have hms14_2 := NB261_263.out
  have hms14_3 := NB261_264.out
  have hs15 : w13.cell? ⟨gb261, 1, none⟩ = some (.int .i64 a1_1) := hcz BK261 1
  have hfs15 := blk_frozen BK261.out 1
  have hns15_1 := NB262_261.out
  have hns15_2 := NB263_261.out
  have hns15_3 := NB264_261.out
  have hms15_1 := NB261_262.out
  have hms15_2 := NB261_263.out
  have hms15_3 := NB261_264.out
  refine skip_ (w1 := ?_) (by rfl) rfl ?_ ?_
  rotate_left
  ·
   go_simp
   rfl
  refine hK.out _ _ ?_
  clear hK K
  refine last_ (i := 5) (N := none) #[true, true, true, true, true, true] rfl rfl (by kernel_rfl) (by decide) (fun K hK => ?_)
  have hs16 : w13.cell? ⟨gb262, 0, none⟩ = some (.int .i64 a2_0) := hcz BK262 0
  have hfs16 := blk_frozen BK262.out 0
  have hns16_0 := NB261_262.out
  have hns16_2 := NB263_262.out
  have hns16_3 := NB264_262.out
  have hms16_0 := NB262_261.out
  have hms16_2 := NB262_263.out
  have hms16_3 := NB262_264.out
  have hs17 : w13.cell? ⟨gb262, 1, none⟩ = some (.int .i64 a2_1) := hcz BK262 1
  have hfs17 := blk_frozen BK262.out 1
  have hns17_0 := NB261_262.out
  have hns17_2 := NB263_262.out
  have hns17_3 := NB264_262.out
  have hms17_0 := NB262_261.out
  have hms17_2 := NB262_263.out
  have hms17_3 := NB262_264.out
  refine skip_ (w1 := ?_) (by rfl) rfl ?_ ?_
  rotate_left
  ·
   go_simp
   rfl
  refine hK.out _ _ ?_
  clear hK K
  refine done_ (by kernel_rfl) ?_
  go_upto_region 2 with (fail)
  go_cut [21] (fun v21 wc => ∃ (kq : Nat) (x21_5 : Bool), v21 = .bool x21_5 ∧ Aside0 (itv_Test.j0 kq a0 x21_5 t265 t266 t267 t268 = some (r1, r2, r3, r4)) ∧ Aside0 (kq ≤ k) ∧ Aside0 (wc.heap[gb261]? = some (.cells #[.int .i64 t265, .int .i64 t266] 23 (0, 0))) ∧ Aside0 (wc.heap[gb262]? = some (.cells #[.int .i64 t267, .int .i64 t268] 23 (0, 0))) ∧ Aside0 (wc.heap[gb263]? = some (.cells #[.int .i64 0, .int .i64 0] 23 (0, 0))) ∧ Aside0 (wc.heap[gb264]? = some (.cells #[.int .i64 0, .int .i64 0] 23 (0, 0))) ∧ Aside0 (Below w.heap.size w wc))
  case first =>
   have H := HC6.out
   clear HC6
   by_cases c18 : a0 < 14
   ·
    rw [if_pos c18] at H
    have c18b0 : decide (a0 < 14) = true := decide_eq_true c18
    clear c18
    (first | rw [c18b0] | (simp only [i64_w, i32_w]; rw [c18b0]) | skip)
    have H' := Aside0.mk H
    clear H
    go_wp2
    go_meet
    case rel => exact ⟨_, (true), (by first | rfl | (simp; done) | (simp [*]; done)), H', ⟨by first | omega | exact Nat.le_refl _⟩, ⟨by refine pkB ?_; refine blk_far ?_ NB261_262.out _; refine pkB ?_; refine blk_far ?_ NB261_262.out _; refine pkB ?_; refine blk_put (cs := #[.int .i64 t265, .int .i64 a1_1]) ?_ 1 _ (by first | rfl | (subst_vars; rfl)); refine pkB ?_; refine blk_put (cs := #[.int .i64 a1_0, .int .i64 a1_1]) ?_ 0 _ (by first | rfl | (subst_vars; rfl)); refine pkB ?_; exact BK261.out⟩, ⟨by refine pkB ?_; refine blk_put (cs := #[.int .i64 t267, .int .i64 a2_1]) ?_ 1 _ (by first | rfl | (subst_vars; rfl)); refine pkB ?_; refine blk_put (cs := #[.int .i64 a2_0, .int .i64 a2_1]) ?_ 0 _ (by first | rfl | (subst_vars; rfl)); refine pkB ?_; refine blk_far ?_ NB262_261.out _; refine pkB ?_; refine blk_far ?_ NB262_261.out _; refine pkB ?_; exact BK262.out⟩, ⟨by refine pkB ?_; refine blk_far ?_ NB263_262.out _; refine pkB ?_; refine blk_far ?_ NB263_262.out _; refine pkB ?_; refine blk_far ?_ NB263_261.out _; refine pkB ?_; refine blk_far ?_ NB263_261.out _; refine pkB ?_; exact BK263.out⟩, ⟨by refine pkB ?_; refine blk_far ?_ NB264_262.out _; refine pkB ?_; refine blk_far ?_ NB264_262.out _; refine pkB ?_; refine blk_far ?_ NB264_261.out _; refine pkB ?_; refine blk_far ?_ NB264_261.out _; refine pkB ?_; exact BK264.out⟩, bpk HB⟩
   ·
    rw [if_neg c18] at H
    have c18b0 : decide (a0 < 14) = false := decide_eq_false c18
    clear c18
    (first | rw [c18b0] | (simp only [i64_w, i32_w]; rw [c18b0]) | skip)
    have H' := Aside0.mk H
    clear H
    go_wp2
    go_meet
    case rel => exact ⟨_, (decide (a0 > 19)), (by first | rfl | (simp; done) | (simp [*]; done)), H', ⟨by first | omega | exact Nat.le_refl _⟩, ⟨by refine pkB ?_; refine blk_far ?_ NB261_262.out _; refine pkB ?_; refine blk_far ?_ NB261_262.out _; refine pkB ?_; refine blk_put (cs := #[.int .i64 t265, .int .i64 a1_1]) ?_ 1 _ (by first | rfl | (subst_vars; rfl)); refine pkB ?_; refine blk_put (cs := #[.int .i64 a1_0, .int .i64 a1_1]) ?_ 0 _ (by first | rfl | (subst_vars; rfl)); refine pkB ?_; exact BK261.out⟩, ⟨by refine pkB ?_; refine blk_put (cs := #[.int .i64 t267, .int .i64 a2_1]) ?_ 1 _ (by first | rfl | (subst_vars; rfl)); refine pkB ?_; refine blk_put (cs := #[.int .i64 a2_0, .int .i64 a2_1]) ?_ 0 _ (by first | rfl | (subst_vars; rfl)); refine pkB ?_; refine blk_far ?_ NB262_261.out _; refine pkB ?_; refine blk_far ?_ NB262_261.out _; refine pkB ?_; exact BK262.out⟩, ⟨by refine pkB ?_; refine blk_far ?_ NB263_262.out _; refine pkB ?_; refine blk_far ?_ NB263_262.out _; refine pkB ?_; refine blk_far ?_ NB263_261.out _; refine pkB ?_; refine blk_far ?_ NB263_261.out _; refine pkB ?_; exact BK263.out⟩, ⟨by refine pkB ?_; refine blk_far ?_ NB264_262.out _; refine pkB ?_; refine blk_far ?_ NB264_262.out _; refine pkB ?_; refine blk_far ?_ NB264_261.out _; refine pkB ?_; refine blk_far ?_ NB264_261.out _; refine pkB ?_; exact BK264.out⟩, bpk HB⟩
  case rest =>
   clear HC6
   try clear c1
   try clear p2
   try clear c3
   try clear c5
   try clear c18
   try clear c18b0
   obtain ⟨kq, x21_5, rfl, HA, HJ5, BK261, BK262, BK263, BK264, HB⟩ := hcut
   cases kq with
   | zero => exact absurd HA.out (by simp [itv_Test.j0])
   | succ kj5 =>
    have H := HA.out
    clear HA
    simp only [itv_Test.j0] at H
    by_cases c19 : x21_5 = true
    ·
     subst c19
     have H1 : (some (t265, t266, t267, t268)) = some (r1, r2, r3, r4) := by rw [if_pos rfl] at H; exact H
     clear H
     have H := H1
     clear H1
     simp only [Option.some.injEq, Prod.mk.injEq] at H
     obtain ⟨rfl, rfl, rfl, rfl⟩ := H
     try go_wp2
     have n0_ := Aside0.mk (blk_drew BK261.out)
     have n1_ := Aside0.mk (blk_drew BK262.out)
     have n2_ := Aside0.mk (blk_drew BK263.out)
     have n3_ := Aside0.mk (blk_drew BK264.out)
     have n4_ := Aside0.mk (below_drew1 HB.out)
     clear BK261
     clear BK262
     clear BK263
     clear BK264
     clear HB
     have BK261 := n0_
     have BK262 := n1_
     have BK263 := n2_
     have BK264 := n3_
     have HB := n4_
     clear n0_ n1_ n2_ n3_ n4_
     refine start_ (n := 4) (S := fun w' => w'.cell? ⟨gb261, 0, none⟩ = some (.int .i64 t265) ∧ w'.cell? ⟨gb261, 1, none⟩ = some (.int .i64 t266) ∧ w'.cell? ⟨gb262, 0, none⟩ = some (.int .i64 t267) ∧ w'.cell? ⟨gb262, 1, none⟩ = some (.int .i64 t268)) (ds := []) #[false, false, false, false] (by kernel_rfl) rfl rfl ⟨hcz BK261 0, hcz BK261 1, hcz BK262 0, hcz BK262 1⟩ (fun hHeld => ?_)
     generalize wc.drew = w20 at BK261 BK262 BK263 BK264 HB hHeld ⊢
     refine take_ (i := 0) (N := some 22) (v := ?_) (a' := ?_) #[true, false, false, false] rfl rfl (by kernel_rfl) (fun _ _ _ h => h) (Or.inl ⟨by rfl, ?_⟩) hHeld ?_ ?_
     rotate_left
     ·
      rintro w' ⟨s0, s1, s2, s3⟩
      go_simp
      with_reducible rfl
     rotate_left
     ·
      simp only [Act.put, List.setIfInBounds_toArray, List.set_cons_zero, List.set_cons_succ, i64_w, i32_w]
      rfl
     refine take_ (i := 1) (N := some 23) (v := ?_) (a' := ?_) #[true, true, false, false] rfl rfl (by kernel_rfl) (fun _ _ _ h => h) (Or.inl ⟨by rfl, ?_⟩) hHeld ?_ ?_
     rotate_left
     ·
      rintro w' ⟨s0, s1, s2, s3⟩
      go_simp
      with_reducible rfl
     rotate_left
     ·
      simp only [Act.put, List.setIfInBounds_toArray, List.set_cons_zero, List.set_cons_succ, i64_w, i32_w]
      rfl
     refine one_ (i := 2) (N := none) #[true, true, true, false] rfl rfl (by kernel_rfl) (by decide) (fun K hK => ?_)
     have hs21 : w20.cell? ⟨gb263, 0, none⟩ = some (.int .i64 0) := hcz BK263 0
     have hfs21 := blk_frozen BK263.out 0
     have hns21_0 := NB261_263.out
     have hns21_1 := NB262_263.out
     have hns21_3 := NB264_263.out
     have hms21_0 := NB263_261.out
     have hms21_1 := NB263_262.out
     have hms21_3 := NB263_264.out
     have hs22 : w20.cell? ⟨gb263, 1, none⟩ = some (.int .i64 0) := hcz BK263 1
     have hfs22 := blk_frozen BK263.out 1
     have hns22_0 := NB261_263.out
     have hns22_1 := NB262_263.out
     have hns22_3 := NB264_263.out
     have hms22_0 := NB263_261.out
     have hms22_1 := NB263_262.out
     have hms22_3 := NB263_264.out
     refine skip_ (w1 := ?_) (by rfl) rfl ?_ ?_
     rotate_left
     ·
      go_simp
      rfl
     refine hK.out _ _ ⟨((cell_far (p := ⟨gb263, _, none⟩) NB261_263.out _).trans (((cell_far (p := ⟨gb263, _, none⟩) NB261_263.out _).trans (hHeld.1)))), ((cell_far (p := ⟨gb263, _, none⟩) NB261_263.out _).trans (((cell_far (p := ⟨gb263, _, none⟩) NB261_263.out _).trans (hHeld.2.1)))), ((cell_far (p := ⟨gb263, _, none⟩) NB262_263.out _).trans (((cell_far (p := ⟨gb263, _, none⟩) NB262_263.out _).trans (hHeld.2.2.1)))), ((cell_far (p := ⟨gb263, _, none⟩) NB262_263.out _).trans (((cell_far (p := ⟨gb263, _, none⟩) NB262_263.out _).trans (hHeld.2.2.2))))⟩ (fun hHeld => ?_)
     clear hK K
     refine one_ (i := 3) (N := none) #[true, true, true, true] rfl rfl (by kernel_rfl) (by decide) (fun K hK => ?_)
     have hs23 : w20.cell? ⟨gb264, 0, none⟩ = some (.int .i64 0) := hcz BK264 0
     have hfs23 := blk_frozen BK264.out 0
     have hns23_0 := NB261_264.out
     have hns23_1 := NB262_264.out
     have hns23_2 := NB263_264.out
     have hms23_0 := NB264_261.out
     have hms23_1 := NB264_262.out
     have hms23_2 := NB264_263.out
     have hs24 : w20.cell? ⟨gb264, 1, none⟩ = some (.int .i64 0) := hcz BK264 1
     have hfs24 := blk_frozen BK264.out 1
     have hns24_0 := NB261_264.out
     have hns24_1 := NB262_264.out
     have hns24_2 := NB263_264.out
     have hms24_0 := NB264_261.out
     have hms24_1 := NB264_262.out
     have hms24_2 := NB264_263.out
     refine skip_ (w1 := ?_) (by rfl) rfl ?_ ?_
     rotate_left
     ·
      go_simp
      rfl
     refine hK.out _ _ ⟨((cell_far (p := ⟨gb264, _, none⟩) NB261_264.out _).trans (((cell_far (p := ⟨gb264, _, none⟩) NB261_264.out _).trans (hHeld.1)))), ((cell_far (p := ⟨gb264, _, none⟩) NB261_264.out _).trans (((cell_far (p := ⟨gb264, _, none⟩) NB261_264.out _).trans (hHeld.2.1)))), ((cell_far (p := ⟨gb264, _, none⟩) NB262_264.out _).trans (((cell_far (p := ⟨gb264, _, none⟩) NB262_264.out _).trans (hHeld.2.2.1)))), ((cell_far (p := ⟨gb264, _, none⟩) NB262_264.out _).trans (((cell_far (p := ⟨gb264, _, none⟩) NB262_264.out _).trans (hHeld.2.2.2))))⟩ (fun hHeld => ?_)
     clear hK K
     refine done_ (by kernel_rfl) ?_
     try go_wp2
     refine bodyPost_ret (results_cc rfl _ _ gb263 gb264 23 23 #[.int .i64 t265, .int .i64 t266] #[.int .i64 t267, .int .i64 t268] (0, 0) (0, 0) _ _ rfl (by refine pkB ?_; refine blk_far ?_ NB263_264.out _; refine pkB ?_; refine blk_far ?_ NB263_264.out _; refine pkB ?_; refine blk_put (cs := #[.int .i64 t265, .int .i64 0]) ?_ 1 _ (by first | rfl | (subst_vars; rfl)); refine pkB ?_; refine blk_put (cs := #[.int .i64 0, .int .i64 0]) ?_ 0 _ (by first | rfl | (subst_vars; rfl)); refine pkB ?_; exact BK263.out) Try.underlying23 rfl (by kernel_rfl) rfl (by refine pkB ?_; refine blk_put (cs := #[.int .i64 t267, .int .i64 0]) ?_ 1 _ (by first | rfl | (subst_vars; rfl)); refine pkB ?_; refine blk_put (cs := #[.int .i64 0, .int .i64 0]) ?_ 0 _ (by first | rfl | (subst_vars; rfl)); refine pkB ?_; refine blk_far ?_ NB264_263.out _; refine pkB ?_; refine blk_far ?_ NB264_263.out _; refine pkB ?_; exact BK264.out) Try.underlying23 rfl (by kernel_rfl)) rfl ?_
     exact ⟨by first | rfl | (simp [errW_none, errW_some] <;> rfl) | (simp [*, errW_none, errW_some] <;> rfl) | kernel_rfl, by repeat (first | (with_reducible first | exact HB.out | apply below_alloc | apply pw_below_drewN | apply below_drew1 | refine below_set ?_ GE261.out | refine below_set ?_ GE262.out | refine below_set ?_ GE263.out | refine below_set ?_ GE264.out) | exact HB.out)⟩
    ·
     replace c19 := Bool.eq_false_iff.mpr c19
     subst c19
     have H1 : ((itv_None.f t265 t266).bind fun t269 => (if t269 = true then (itv_Test.j1 kj5 a0 true t265 t266 t267 t268) else ((itv_None.f t267 t268).bind fun t270 => (itv_Test.j1 kj5 a0 t270 t265 t266 t267 t268)))) = some (r1, r2, r3, r4) := by rw [if_neg (show ¬ (false = true) by decide)] at H; exact H
     clear H
     have H := H1
     clear H1
     have HC25 := Aside0.mk H
     clear H
     go_upto_region 4 with (fail)
     go_cut [29] (fun v29 wc => ∃ (kq : Nat) (x29_24 : Bool), v29 = .bool x29_24 ∧ Aside0 (itv_Test.j1 kq a0 x29_24 t265 t266 t267 t268 = some (r1, r2, r3, r4)) ∧ Aside0 (kq ≤ kj5) ∧ Aside0 (wc.heap[gb261]? = some (.cells #[.int .i64 t265, .int .i64 t266] 23 (0, 0))) ∧ Aside0 (wc.heap[gb262]? = some (.cells #[.int .i64 t267, .int .i64 t268] 23 (0, 0))) ∧ Aside0 (wc.heap[gb263]? = some (.cells #[.int .i64 0, .int .i64 0] 23 (0, 0))) ∧ Aside0 (wc.heap[gb264]? = some (.cells #[.int .i64 0, .int .i64 0] 23 (0, 0))) ∧ Aside0 (Below w.heap.size w wc))
     case first =>
      have H := HC25.out
      clear HC25
      replace H := Option.bind_eq_some_iff.mp H
      obtain ⟨t269, A260, H⟩ := H
      replace H : (if t269 = true then (itv_Test.j1 kj5 a0 true t265 t266 t267 t268) else ((itv_None.f t267 t268).bind fun t270 => (itv_Test.j1 kj5 a0 t270 t265 t266 t267 t268))) = some (r1, r2, r3, r4) := H
      have A26 := Aside0.mk A260
      clear A260
      by_cases c27 : t269 = true
      ·
       subst c27
       have H1 : (itv_Test.j1 kj5 a0 true t265 t266 t267 t268) = some (r1, r2, r3, r4) := by rw [if_pos rfl] at H; exact H
       clear H
       have H := H1
       clear H1
       have H' := Aside0.mk H
       clear H
       have hnb28 := NB261_262.out
       have hnc28 := NB262_261.out
       have hnb29 := NB261_263.out
       have hnc29 := NB263_261.out
       have hnb30 := NB261_264.out
       have hnc30 := NB264_261.out
       have hcz31_0 := hcz BK261 0
       have hcz31_1 := hcz BK261 1
       have hfz31_0 := blk_frozen BK261.out 0
       have hfz31_1 := blk_frozen BK261.out 1
       go_wp2_with (first | ((with_reducible refine gate_callee (f := 21) rfl ?_); refine goesL_ (some 25) rfl rfl Try.func21 (by kernel_rfl) rfl #[.agg #[.int .i64 t265, .int .i64 t266]] rfl (by (try simp only [List.map_toArray, List.map_cons, List.map_nil]); first | done | rfl | (simp only [List.length_drop, List.length_take]; rfl)) ?_; (with_reducible refine (itv_None.calls t265 t266 true _ A26.out).mono ?_); rintro e w32 ⟨rfl, hb⟩; refine ⟨_, rfl, ?_⟩; have n0_ := bst HB hb; replace BK261 := bbw BK261 hb; replace BK262 := bbw BK262 hb; replace BK263 := bbw BK263 hb; replace BK264 := bbw BK264 hb; clear HB; have HB := n0_; clear n0_; (try clear hb); (try clear hb2); (try clear hk); (try clear hi)))
       go_meet
       case rel => exact ⟨_, (true), (by first | rfl | (simp; done) | (simp [*]; done)), H', ⟨by have := HJ5.out; first | omega | exact Nat.le_refl _⟩, pkA BK261, pkA BK262, pkA BK263, pkA BK264, bpk HB⟩
      ·
       replace c27 := Bool.eq_false_iff.mpr c27
       subst c27
       have H1 : ((itv_None.f t267 t268).bind fun t270 => (itv_Test.j1 kj5 a0 t270 t265 t266 t267 t268)) = some (r1, r2, r3, r4) := by rw [if_neg (show ¬ (false = true) by decide)] at H; exact H
       clear H
       have H := H1
       clear H1
       replace H := Option.bind_eq_some_iff.mp H
       obtain ⟨t270, A330, H⟩ := H
       replace H : (itv_Test.j1 kj5 a0 t270 t265 t266 t267 t268) = some (r1, r2, r3, r4) := H
       have A33 := Aside0.mk A330
       clear A330
       have H' := Aside0.mk H
       clear H
       have hnb34 := NB261_262.out
       have hnc34 := NB262_261.out
       have hnb35 := NB261_263.out
       have hnc35 := NB263_261.out
       have hnb36 := NB261_264.out
       have hnc36 := NB264_261.out
       have hcz37_0 := hcz BK261 0
       have hcz37_1 := hcz BK261 1
       have hfz37_0 := blk_frozen BK261.out 0
       have hfz37_1 := blk_frozen BK261.out 1
       go_wp2_with (first | ((with_reducible refine gate_callee (f := 21) rfl ?_); refine goesL_ (some 25) rfl rfl Try.func21 (by kernel_rfl) rfl #[.agg #[.int .i64 t265, .int .i64 t266]] rfl (by (try simp only [List.map_toArray, List.map_cons, List.map_nil]); first | done | rfl | (simp only [List.length_drop, List.length_take]; rfl)) ?_; (with_reducible refine (itv_None.calls t265 t266 false _ A26.out).mono ?_); rintro e w38 ⟨rfl, hb⟩; refine ⟨_, rfl, ?_⟩; have n0_ := bst HB hb; replace BK261 := bbw BK261 hb; replace BK262 := bbw BK262 hb; replace BK263 := bbw BK263 hb; replace BK264 := bbw BK264 hb; clear HB; have HB := n0_; clear n0_; (try clear hb); (try clear hb2); (try clear hk); (try clear hi); have hnb39 := NB262_263.out; have hnc39 := NB263_262.out; have hnb40 := NB262_264.out; have hnc40 := NB264_262.out; have hcz41_0 := hcz BK262 0; have hcz41_1 := hcz BK262 1; have hfz41_0 := blk_frozen BK262.out 0; have hfz41_1 := blk_frozen BK262.out 1) | (go_at_call 21; (with_reducible refine (itv_None.calls t267 t268 t270 _ A33.out).mono ?_); rintro e w42 ⟨rfl, hb⟩; have n0_ := bst HB hb; replace BK261 := bbw BK261 hb; replace BK262 := bbw BK262 hb; replace BK263 := bbw BK263 hb; replace BK264 := bbw BK264 hb; clear HB; have HB := n0_; clear n0_; (try clear hb); (try clear hb2); (try clear hk); (try clear hi)))
       go_meet
       case rel => exact ⟨_, (t270), (by first | rfl | (simp; done) | (simp [*]; done)), H', ⟨by have := HJ5.out; first | omega | exact Nat.le_refl _⟩, pkA BK261, pkA BK262, pkA BK263, pkA BK264, bpk HB⟩
     case rest =>
      clear HC25
      try clear c1
      try clear c2
      try clear p2
      try clear c3
      try clear c4
      try clear c5
      try clear c18
      try clear c18b0
      try clear c19
      try clear c21
      try clear c27
      try clear c28
      try clear c29
      try clear c30
      try clear c33
      try clear c34
      try clear c35
      try clear c36
      try clear c39
      try clear c40
      try clear hcz31_0
      try clear hcz31_1
      try clear hcz37_0
      try clear hcz37_1
      try clear hcz41_0
      try clear hcz41_1
      try clear hfz31_0
      try clear hfz31_1
      try clear hfz37_0
      try clear hfz37_1
      try clear hfz41_0
      try clear hfz41_1
      try clear p2
      obtain ⟨kq, x29_24, rfl, HA, HJ24, BK261, BK262, BK263, BK264, HB⟩ := hcut
      cases kq with
      | zero => exact absurd HA.out (by simp [itv_Test.j1])
      | succ kj24 =>
       have H := HA.out
       clear HA
       simp only [itv_Test.j1] at H
       by_cases c43 : x29_24 = true
       ·
        subst c43
        have H1 : ((itv_Empty.f).bind fun bt271 => ((itv_Empty.f).bind fun bt273 => (some (bt271.1, bt271.2, bt273.1, bt273.2)))) = some (r1, r2, r3, r4) := by rw [if_pos rfl] at H; exact H
        clear H
        have H := H1
        clear H1
        replace H := Option.bind_eq_some_iff.mp H
        obtain ⟨⟨t271, t272⟩, A440, H⟩ := H
        replace H : ((itv_Empty.f).bind fun bt273 => (some (t271, t272, bt273.1, bt273.2))) = some (r1, r2, r3, r4) := H
        have A44 := Aside0.mk A440
        clear A440
        replace H := Option.bind_eq_some_iff.mp H
        obtain ⟨⟨t273, t274⟩, A450, H⟩ := H
        replace H : (some (t271, t272, t273, t274)) = some (r1, r2, r3, r4) := H
        have A45 := Aside0.mk A450
        clear A450
        simp only [Option.some.injEq, Prod.mk.injEq] at H
        obtain ⟨rfl, rfl, rfl, rfl⟩ := H
        go_wp2_with (first | ((with_reducible refine gate_callee (f := 15) rfl ?_); refine goesL_ (some 30) rfl rfl Try.func15 (by kernel_rfl) rfl #[] rfl (by (try simp only [List.map_toArray, List.map_cons, List.map_nil]); first | done | rfl | (simp only [List.length_drop, List.length_take]; rfl)) ?_; (with_reducible refine (itv_Empty.calls  t271 t272 _ A44.out).mono ?_); rintro e w46 ⟨rfl, hb⟩; refine ⟨_, rfl, ?_⟩; have n0_ := bst HB hb; replace BK261 := bbw BK261 hb; replace BK262 := bbw BK262 hb; replace BK263 := bbw BK263 hb; replace BK264 := bbw BK264 hb; clear HB; have HB := n0_; clear n0_; (try clear hb); (try clear hb2); (try clear hk); (try clear hi)) | ((with_reducible refine gate_callee (f := 15) rfl ?_); refine goesL_ (some 31) rfl rfl Try.func15 (by kernel_rfl) rfl #[] rfl (by (try simp only [List.map_toArray, List.map_cons, List.map_nil]); first | done | rfl | (simp only [List.length_drop, List.length_take]; rfl)) ?_; (with_reducible refine (itv_Empty.calls  t273 t274 _ A45.out).mono ?_); rintro e w47 ⟨rfl, hb⟩; refine ⟨_, rfl, ?_⟩; have n0_ := bst HB hb; replace BK261 := bbw BK261 hb; replace BK262 := bbw BK262 hb; replace BK263 := bbw BK263 hb; replace BK264 := bbw BK264 hb; clear HB; have HB := n0_; clear n0_; (try clear hb); (try clear hb2); (try clear hk); (try clear hi); have hnb48 := NB263_261.out; have hnc48 := NB261_263.out; have hnb49 := NB263_262.out; have hnc49 := NB262_263.out; have hnb50 := NB263_264.out; have hnc50 := NB264_263.out; have hcz51_0 := hcz BK263 0; have hcz51_1 := hcz BK263 1; have hfz51_0 := blk_frozen BK263.out 0; have hfz51_1 := blk_frozen BK263.out 1; have hnb52 := NB264_261.out; have hnc52 := NB261_264.out; have hnb53 := NB264_262.out; have hnc53 := NB262_264.out; have hcz54_0 := hcz BK264 0; have hcz54_1 := hcz BK264 1; have hfz54_0 := blk_frozen BK264.out 0; have hfz54_1 := blk_frozen BK264.out 1))
        refine bodyPost_ret (results_cc rfl _ _ gb263 gb264 23 23 #[.int .i64 t271, .int .i64 t272] #[.int .i64 t273, .int .i64 t274] (0, 0) (0, 0) _ _ rfl (by refine pkB ?_; refine blk_far ?_ NB263_264.out _; refine pkB ?_; refine blk_far ?_ NB263_264.out _; refine pkB ?_; refine blk_put (cs := #[.int .i64 t271, .int .i64 0]) ?_ 1 _ (by first | rfl | (subst_vars; rfl)); refine pkB ?_; refine blk_put (cs := #[.int .i64 0, .int .i64 0]) ?_ 0 _ (by first | rfl | (subst_vars; rfl)); refine pkB ?_; exact BK263.out) Try.underlying23 rfl (by kernel_rfl) rfl (by refine pkB ?_; refine blk_put (cs := #[.int .i64 t273, .int .i64 0]) ?_ 1 _ (by first | rfl | (subst_vars; rfl)); refine pkB ?_; refine blk_put (cs := #[.int .i64 0, .int .i64 0]) ?_ 0 _ (by first | rfl | (subst_vars; rfl)); refine pkB ?_; refine blk_far ?_ NB264_263.out _; refine pkB ?_; refine blk_far ?_ NB264_263.out _; refine pkB ?_; exact BK264.out) Try.underlying23 rfl (by kernel_rfl)) rfl ?_
        exact ⟨by first | rfl | (simp [errW_none, errW_some] <;> rfl) | (simp [*, errW_none, errW_some] <;> rfl) | kernel_rfl, by repeat (first | (with_reducible first | exact HB.out | apply below_alloc | apply pw_below_drewN | apply below_drew1 | refine below_set ?_ GE261.out | refine below_set ?_ GE262.out | refine below_set ?_ GE263.out | refine below_set ?_ GE264.out) | exact HB.out)⟩
       ·
        replace c43 := Bool.eq_false_iff.mpr c43
        subst c43
        have H1 : (if a0 = 14 then ((itv_Meet.f kj24 t265 t266 t267 t268).bind fun bt277 => (itv_Test.j5 kj24 bt277.1 bt277.2 bt277.1 bt277.2)) else (if a0 = 15 then ((itv_without.f kj24 t265 t266 t267 t268).bind fun bt279 => ((itv_without.f kj24 t267 t268 t265 t266).bind fun bt281 => (itv_Test.j5 kj24 bt279.1 bt279.2 bt281.1 bt281.2))) else (if a0 = 18 then (itv_Test.j2 kj24 16 true t267 t268 t265 t266) else (if a0 = 19 then (itv_Test.j2 kj24 17 true t267 t268 t265 t266) else (itv_Test.j2 kj24 a0 false t265 t266 t267 t268))))) = some (r1, r2, r3, r4) := by rw [if_neg (show ¬ (false = true) by decide)] at H; exact H
        clear H
        have H := H1
        clear H1
        have HC55 := Aside0.mk H
        clear H
        try go_wp2
        have n0_ := Aside0.mk (blk_drew BK261.out)
        have n1_ := Aside0.mk (blk_drew BK262.out)
        have n2_ := Aside0.mk (blk_drew BK263.out)
        have n3_ := Aside0.mk (blk_drew BK264.out)
        have n4_ := Aside0.mk (below_drew1 HB.out)
        clear BK261
        clear BK262
        clear BK263
        clear BK264
        clear HB
        have BK261 := n0_
        have BK262 := n1_
        have BK263 := n2_
        have BK264 := n3_
        have HB := n4_
        clear n0_ n1_ n2_ n3_ n4_
        refine start_ (n := 6) (S := fun w' => w'.cell? ⟨gb261, 0, none⟩ = some (.int .i64 t265) ∧ w'.cell? ⟨gb261, 1, none⟩ = some (.int .i64 t266) ∧ w'.cell? ⟨gb262, 0, none⟩ = some (.int .i64 t267) ∧ w'.cell? ⟨gb262, 1, none⟩ = some (.int .i64 t268)) (ds := []) #[false, false, false, false, false, false] (by kernel_rfl) rfl rfl ⟨hcz BK261 0, hcz BK261 1, hcz BK262 0, hcz BK262 1⟩ (fun hHeld => ?_)
        generalize wc.drew = w56 at BK261 BK262 BK263 BK264 HB hHeld ⊢
        refine take_ (i := 0) (N := some 32) (v := ?_) (a' := ?_) #[true, false, false, false, false, false] rfl rfl (by kernel_rfl) (fun _ _ _ h => h) (Or.inl ⟨by rfl, ?_⟩) hHeld ?_ ?_
        rotate_left
        ·
         rintro w' ⟨s0, s1, s2, s3⟩
         go_simp
         with_reducible rfl
        rotate_left
        ·
         simp only [Act.put, List.setIfInBounds_toArray, List.set_cons_zero, List.set_cons_succ, i64_w, i32_w]
         rfl
        refine take_ (i := 1) (N := some 33) (v := ?_) (a' := ?_) #[true, true, false, false, false, false] rfl rfl (by kernel_rfl) (fun _ _ _ h => h) (Or.inl ⟨by rfl, ?_⟩) hHeld ?_ ?_
        rotate_left
        ·
         rintro w' ⟨s0, s1, s2, s3⟩
         go_simp
         with_reducible rfl
        rotate_left
        ·
         simp only [Act.put, List.setIfInBounds_toArray, List.set_cons_zero, List.set_cons_succ, i64_w, i32_w]
         rfl
        refine join_ (σ := Nat × Nat) 2 #[true, true, true, true, false, false] (fun s_ => [(8, .pointer (some ⟨s_.1, 0, none⟩)), (9, .pointer (some ⟨s_.2, 0, none⟩))]) (fun s_ w' => (w'.cell? ⟨gb261, 0, none⟩ = some (.int .i64 t265) ∧ w'.cell? ⟨gb261, 1, none⟩ = some (.int .i64 t266) ∧ w'.cell? ⟨gb262, 0, none⟩ = some (.int .i64 t267) ∧ w'.cell? ⟨gb262, 1, none⟩ = some (.int .i64 t268)) ∧ (w'.heap[gb261]? = some (.cells #[.int .i64 t265, .int .i64 t266] 23 (0, 0))) ∧ (w'.heap[gb262]? = some (.cells #[.int .i64 t267, .int .i64 t268] 23 (0, 0))) ∧ (w'.heap[gb263]? = some (.cells #[.int .i64 0, .int .i64 0] 23 (0, 0))) ∧ (w'.heap[gb264]? = some (.cells #[.int .i64 0, .int .i64 0] 23 (0, 0))) ∧ (w'.heap[s_.1]? = some (.cells #[.int .i64 0, .int .i64 0] 23 (0, 0))) ∧ (w'.heap[s_.2]? = some (.cells #[.int .i64 0, .int .i64 0] 23 (0, 0))) ∧ (w.heap.size ≤ s_.1) ∧ (w.heap.size ≤ s_.1) ∧ (gb261 ≠ s_.1) ∧ (s_.1 ≠ gb261) ∧ (gb262 ≠ s_.1) ∧ (s_.1 ≠ gb262) ∧ (gb263 ≠ s_.1) ∧ (s_.1 ≠ gb263) ∧ (gb264 ≠ s_.1) ∧ (s_.1 ≠ gb264) ∧ (s_.2 ≠ s_.1) ∧ (s_.1 ≠ s_.2) ∧ (w.heap.size ≤ s_.2) ∧ (w.heap.size ≤ s_.2) ∧ (gb261 ≠ s_.2) ∧ (s_.2 ≠ gb261) ∧ (gb262 ≠ s_.2) ∧ (s_.2 ≠ gb262) ∧ (gb263 ≠ s_.2) ∧ (s_.2 ≠ gb263) ∧ (gb264 ≠ s_.2) ∧ (s_.2 ≠ gb264) ∧ (Below w.heap.size w w')) ?_ ?_
        rotate_left
        ·
         intro hCont
         refine two_ (i := 2) (j := 3) (Ni := some 8) (Nj := some 9) #[true, true, true, false, false, false] #[true, true, false, true, false, false] rfl rfl rfl rfl (by kernel_rfl) (by decide) (by decide) (fun K hK => ?_) (fun K hK => ?_)
         · skip
           refine box_step ?hg (N := 8) ?hd (cs := #[.int .i64 0, .int .i64 0]) (t := 23) ?hr ?_; (case hd => rfl); (case hg => rfl); (case hr => first | (go_simp; done) | (go_simp; rfl))
           intro gb275 hg w57 hbox hb
           have n0_ := bst HB hb
           have n1_ := Aside0.mk (hbox)
           have n2_ := bsz HB hg
           have n3_ := bsz HB hg
           have n4_ := bn1 BK261 hg
           have n5_ := bn2 BK261 hg
           have n6_ := bn1 BK262 hg
           have n7_ := bn2 BK262 hg
           have n8_ := bn1 BK263 hg
           have n9_ := bn2 BK263 hg
           have n10_ := bn1 BK264 hg
           have n11_ := bn2 BK264 hg
           replace BK261 := bbw BK261 hb
           replace BK262 := bbw BK262 hb
           replace BK263 := bbw BK263 hb
           replace BK264 := bbw BK264 hb
           clear HB
           have HB := n0_
           have BK275 := n1_
           have GW275 := n2_
           have GE275 := n3_
           have NB261_275 := n4_
           have NB275_261 := n5_
           have NB262_275 := n6_
           have NB275_262 := n7_
           have NB263_275 := n8_
           have NB275_263 := n9_
           have NB264_275 := n10_
           have NB275_264 := n11_
           clear n0_ n1_ n2_ n3_ n4_ n5_ n6_ n7_ n8_ n9_ n10_ n11_
           clear hb hbox hg
           refine hK.out _ _ ⟨hcz BK261 0, hcz BK261 1, hcz BK262 0, hcz BK262 1⟩ (fun hHeld => ?_)
           clear hK K
           refine norm_ (a' := ?_) ?_ ?_
           rotate_left
           · show Act.put _ (some 8) _ = _
             simp only [Act.put, List.setIfInBounds_toArray, List.set_cons_zero, List.set_cons_succ, i64_w, i32_w]
             rfl
           refine one_ (i := 3) (N := some 9) #[true, true, true, true, false, false] rfl rfl (by kernel_rfl) (by decide) (fun K hK => ?_)
           refine box_step ?hg (N := 9) ?hd (cs := #[.int .i64 0, .int .i64 0]) (t := 23) ?hr ?_; (case hd => rfl); (case hg => rfl); (case hr => first | (go_simp; done) | (go_simp; rfl))
           intro gb276 hg w58 hbox hb
           have n0_ := bst HB hb
           have n1_ := Aside0.mk (hbox)
           have n2_ := bsz HB hg
           have n3_ := bsz HB hg
           have n4_ := bn1 BK261 hg
           have n5_ := bn2 BK261 hg
           have n6_ := bn1 BK262 hg
           have n7_ := bn2 BK262 hg
           have n8_ := bn1 BK263 hg
           have n9_ := bn2 BK263 hg
           have n10_ := bn1 BK264 hg
           have n11_ := bn2 BK264 hg
           have n12_ := bn1 BK275 hg
           have n13_ := bn2 BK275 hg
           replace BK261 := bbw BK261 hb
           replace BK262 := bbw BK262 hb
           replace BK263 := bbw BK263 hb
           replace BK264 := bbw BK264 hb
           replace BK275 := bbw BK275 hb
           clear HB
           have HB := n0_
           have BK276 := n1_
           have GW276 := n2_
           have GE276 := n3_
           have NB261_276 := n4_
           have NB276_261 := n5_
           have NB262_276 := n6_
           have NB276_262 := n7_
           have NB263_276 := n8_
           have NB276_263 := n9_
           have NB264_276 := n10_
           have NB276_264 := n11_
           have NB275_276 := n12_
           have NB276_275 := n13_
           clear n0_ n1_ n2_ n3_ n4_ n5_ n6_ n7_ n8_ n9_ n10_ n11_ n12_ n13_
           clear hb hbox hg
           refine hK.out _ _ ⟨hcz BK261 0, hcz BK261 1, hcz BK262 0, hcz BK262 1⟩ (fun hHeld => ?_)
           clear hK K
           refine norm_ (a' := ?_) ?_ ?_
           rotate_left
           · show Act.put _ (some 9) _ = _
             simp only [Act.put, List.setIfInBounds_toArray, List.set_cons_zero, List.set_cons_succ, i64_w, i32_w]
             rfl
           exact norm_ (by simp only [putAll, Act.put, List.setIfInBounds_toArray, List.set_cons_zero, List.set_cons_succ]) (hCont (gb275, gb276) _ ⟨hHeld, (pk BK261.out), (pk BK262.out), (pk BK263.out), (pk BK264.out), (pk BK275.out), (pk BK276.out), GW275.out, GE275.out, NB261_275.out, NB275_261.out, NB262_275.out, NB275_262.out, NB263_275.out, NB275_263.out, NB264_275.out, NB275_264.out, NB276_275.out, NB275_276.out, GW276.out, GE276.out, NB261_276.out, NB276_261.out, NB262_276.out, NB276_262.out, NB263_276.out, NB276_263.out, NB264_276.out, NB276_264.out, (by repeat (first | (with_reducible first | exact HB.out | apply below_alloc | apply pw_below_drewN | apply below_drew1 | refine below_set ?_ GE261.out | refine below_set ?_ GE262.out | refine below_set ?_ GE263.out | refine below_set ?_ GE264.out | refine below_set ?_ GE275.out | refine below_set ?_ GE276.out) | exact HB.out))⟩)
         · skip
           refine box_step ?hg (N := 9) ?hd (cs := #[.int .i64 0, .int .i64 0]) (t := 23) ?hr ?_; (case hd => rfl); (case hg => rfl); (case hr => first | (go_simp; done) | (go_simp; rfl))
           intro gb276 hg w57 hbox hb
           have n0_ := bst HB hb
           have n1_ := Aside0.mk (hbox)
           have n2_ := bsz HB hg
           have n3_ := bsz HB hg
           have n4_ := bn1 BK261 hg
           have n5_ := bn2 BK261 hg
           have n6_ := bn1 BK262 hg
           have n7_ := bn2 BK262 hg
           have n8_ := bn1 BK263 hg
           have n9_ := bn2 BK263 hg
           have n10_ := bn1 BK264 hg
           have n11_ := bn2 BK264 hg
           replace BK261 := bbw BK261 hb
           replace BK262 := bbw BK262 hb
           replace BK263 := bbw BK263 hb
           replace BK264 := bbw BK264 hb
           clear HB
           have HB := n0_
           have BK276 := n1_
           have GW276 := n2_
           have GE276 := n3_
           have NB261_276 := n4_
           have NB276_261 := n5_
           have NB262_276 := n6_
           have NB276_262 := n7_
           have NB263_276 := n8_
           have NB276_263 := n9_
           have NB264_276 := n10_
           have NB276_264 := n11_
           clear n0_ n1_ n2_ n3_ n4_ n5_ n6_ n7_ n8_ n9_ n10_ n11_
           clear hb hbox hg
           refine hK.out _ _ ⟨hcz BK261 0, hcz BK261 1, hcz BK262 0, hcz BK262 1⟩ (fun hHeld => ?_)
           clear hK K
           refine norm_ (a' := ?_) ?_ ?_
           rotate_left
           · show Act.put _ (some 9) _ = _
             simp only [Act.put, List.setIfInBounds_toArray, List.set_cons_zero, List.set_cons_succ, i64_w, i32_w]
             rfl
           refine one_ (i := 2) (N := some 8) #[true, true, true, true, false, false] rfl rfl (by kernel_rfl) (by decide) (fun K hK => ?_)
           refine box_step ?hg (N := 8) ?hd (cs := #[.int .i64 0, .int .i64 0]) (t := 23) ?hr ?_; (case hd => rfl); (case hg => rfl); (case hr => first | (go_simp; done) | (go_simp; rfl))
           intro gb275 hg w58 hbox hb
           have n0_ := bst HB hb
           have n1_ := Aside0.mk (hbox)
           have n2_ := bsz HB hg
           have n3_ := bsz HB hg
           have n4_ := bn1 BK261 hg
           have n5_ := bn2 BK261 hg
           have n6_ := bn1 BK262 hg
           have n7_ := bn2 BK262 hg
           have n8_ := bn1 BK263 hg
           have n9_ := bn2 BK263 hg
           have n10_ := bn1 BK264 hg
           have n11_ := bn2 BK264 hg
           have n12_ := bn1 BK276 hg
           have n13_ := bn2 BK276 hg
           replace BK261 := bbw BK261 hb
           replace BK262 := bbw BK262 hb
           replace BK263 := bbw BK263 hb
           replace BK264 := bbw BK264 hb
           replace BK276 := bbw BK276 hb
           clear HB
           have HB := n0_
           have BK275 := n1_
           have GW275 := n2_
           have GE275 := n3_
           have NB261_275 := n4_
           have NB275_261 := n5_
           have NB262_275 := n6_
           have NB275_262 := n7_
           have NB263_275 := n8_
           have NB275_263 := n9_
           have NB264_275 := n10_
           have NB275_264 := n11_
           have NB276_275 := n12_
           have NB275_276 := n13_
           clear n0_ n1_ n2_ n3_ n4_ n5_ n6_ n7_ n8_ n9_ n10_ n11_ n12_ n13_
           clear hb hbox hg
           refine hK.out _ _ ⟨hcz BK261 0, hcz BK261 1, hcz BK262 0, hcz BK262 1⟩ (fun hHeld => ?_)
           clear hK K
           refine norm_ (a' := ?_) ?_ ?_
           rotate_left
           · show Act.put _ (some 8) _ = _
             simp only [Act.put, List.setIfInBounds_toArray, List.set_cons_zero, List.set_cons_succ, i64_w, i32_w]
             rfl
           exact norm_ (by simp only [putAll, Act.put, List.setIfInBounds_toArray, List.set_cons_zero, List.set_cons_succ]) (hCont (gb275, gb276) _ ⟨hHeld, (pk BK261.out), (pk BK262.out), (pk BK263.out), (pk BK264.out), (pk BK275.out), (pk BK276.out), GW275.out, GE275.out, NB261_275.out, NB275_261.out, NB262_275.out, NB275_262.out, NB263_275.out, NB275_263.out, NB264_275.out, NB275_264.out, NB276_275.out, NB275_276.out, GW276.out, GE276.out, NB261_276.out, NB276_261.out, NB262_276.out, NB276_262.out, NB263_276.out, NB276_263.out, NB264_276.out, NB276_264.out, (by repeat (first | (with_reducible first | exact HB.out | apply below_alloc | apply pw_below_drewN | apply below_drew1 | refine below_set ?_ GE261.out | refine below_set ?_ GE262.out | refine below_set ?_ GE263.out | refine below_set ?_ GE264.out | refine below_set ?_ GE276.out | refine below_set ?_ GE275.out) | exact HB.out))⟩)
        rintro ⟨gb275, gb276⟩ w59 ⟨hS_, h0_, h1_, h2_, h3_, h4_, h5_, h6_, h7_, h8_, h9_, h10_, h11_, h12_, h13_, h14_, h15_, h16_, h17_, h18_, h19_, h20_, h21_, h22_, h23_, h24_, h25_, h26_, h27_, h28_⟩
        have n0_ : Aside0 (w59.heap[gb261]? = some (.cells #[.int .i64 t265, .int .i64 t266] 23 (0, 0))) := ⟨h0_⟩
        have n1_ : Aside0 (w59.heap[gb262]? = some (.cells #[.int .i64 t267, .int .i64 t268] 23 (0, 0))) := ⟨h1_⟩
        have n2_ : Aside0 (w59.heap[gb263]? = some (.cells #[.int .i64 0, .int .i64 0] 23 (0, 0))) := ⟨h2_⟩
        have n3_ : Aside0 (w59.heap[gb264]? = some (.cells #[.int .i64 0, .int .i64 0] 23 (0, 0))) := ⟨h3_⟩
        have n4_ : Aside0 (w59.heap[gb275]? = some (.cells #[.int .i64 0, .int .i64 0] 23 (0, 0))) := ⟨h4_⟩
        have n5_ : Aside0 (w59.heap[gb276]? = some (.cells #[.int .i64 0, .int .i64 0] 23 (0, 0))) := ⟨h5_⟩
        have n6_ : Aside0 (w.heap.size ≤ gb275) := ⟨h6_⟩
        have n7_ : Aside0 (w.heap.size ≤ gb275) := ⟨h7_⟩
        have n8_ : Aside0 (gb261 ≠ gb275) := ⟨h8_⟩
        have n9_ : Aside0 (gb275 ≠ gb261) := ⟨h9_⟩
        have n10_ : Aside0 (gb262 ≠ gb275) := ⟨h10_⟩
        have n11_ : Aside0 (gb275 ≠ gb262) := ⟨h11_⟩
        have n12_ : Aside0 (gb263 ≠ gb275) := ⟨h12_⟩
        have n13_ : Aside0 (gb275 ≠ gb263) := ⟨h13_⟩
        have n14_ : Aside0 (gb264 ≠ gb275) := ⟨h14_⟩
        have n15_ : Aside0 (gb275 ≠ gb264) := ⟨h15_⟩
        have n16_ : Aside0 (gb276 ≠ gb275) := ⟨h16_⟩
        have n17_ : Aside0 (gb275 ≠ gb276) := ⟨h17_⟩
        have n18_ : Aside0 (w.heap.size ≤ gb276) := ⟨h18_⟩
        have n19_ : Aside0 (w.heap.size ≤ gb276) := ⟨h19_⟩
        have n20_ : Aside0 (gb261 ≠ gb276) := ⟨h20_⟩
        have n21_ : Aside0 (gb276 ≠ gb261) := ⟨h21_⟩
        have n22_ : Aside0 (gb262 ≠ gb276) := ⟨h22_⟩
        have n23_ : Aside0 (gb276 ≠ gb262) := ⟨h23_⟩
        have n24_ : Aside0 (gb263 ≠ gb276) := ⟨h24_⟩
        have n25_ : Aside0 (gb276 ≠ gb263) := ⟨h25_⟩
        have n26_ : Aside0 (gb264 ≠ gb276) := ⟨h26_⟩
        have n27_ : Aside0 (gb276 ≠ gb264) := ⟨h27_⟩
        have n28_ : Aside0 (Below w.heap.size w w59) := ⟨h28_⟩
        clear BK261
        clear BK262
        clear BK263
        clear BK264
        clear HB
        clear h0_ h1_ h2_ h3_ h4_ h5_ h6_ h7_ h8_ h9_ h10_ h11_ h12_ h13_ h14_ h15_ h16_ h17_ h18_ h19_ h20_ h21_ h22_ h23_ h24_ h25_ h26_ h27_ h28_
        have BK261 := n0_
        have BK262 := n1_
        have BK263 := n2_
        have BK264 := n3_
        have BK275 := n4_
        have BK276 := n5_
        have GW275 := n6_
        have GE275 := n7_
        have NB261_275 := n8_
        have NB275_261 := n9_
        have NB262_275 := n10_
        have NB275_262 := n11_
        have NB263_275 := n12_
        have NB275_263 := n13_
        have NB264_275 := n14_
        have NB275_264 := n15_
        have NB276_275 := n16_
        have NB275_276 := n17_
        have GW276 := n18_
        have GE276 := n19_
        have NB261_276 := n20_
        have NB276_261 := n21_
        have NB262_276 := n22_
        have NB276_262 := n23_
        have NB263_276 := n24_
        have NB276_263 := n25_
        have NB264_276 := n26_
        have NB276_264 := n27_
        have HB := n28_
        clear n0_ n1_ n2_ n3_ n4_ n5_ n6_ n7_ n8_ n9_ n10_ n11_ n12_ n13_ n14_ n15_ n16_ n17_ n18_ n19_ n20_ n21_ n22_ n23_ n24_ n25_ n26_ n27_ n28_
        have hHeld : w59.cell? ⟨gb261, 0, none⟩ = some (.int .i64 t265) ∧ w59.cell? ⟨gb261, 1, none⟩ = some (.int .i64 t266) ∧ w59.cell? ⟨gb262, 0, none⟩ = some (.int .i64 t267) ∧ w59.cell? ⟨gb262, 1, none⟩ = some (.int .i64 t268) := hS_
        refine norm_ (a' := ?_) ?_ ?_
        rotate_left
        ·
         simp only [putAll, Act.put, List.setIfInBounds_toArray, List.set_cons_zero, List.set_cons_succ]
         rfl
        refine one_ (i := 4) (N := none) #[true, true, true, true, true, false] rfl rfl (by kernel_rfl) (by decide) (fun K hK => ?_)
        have hs60 : w59.cell? ⟨gb275, 0, none⟩ = some (.int .i64 0) := hcz BK275 0
        have hfs60 := blk_frozen BK275.out 0
        have hns60_0 := NB261_275.out
        have hns60_1 := NB262_275.out
        have hns60_2 := NB263_275.out
        have hns60_3 := NB264_275.out
        have hns60_5 := NB276_275.out
        have hms60_0 := NB275_261.out
        have hms60_1 := NB275_262.out
        have hms60_2 := NB275_263.out
        have hms60_3 := NB275_264.out
        have hms60_5 := NB275_276.out
        have hs61 : w59.cell? ⟨gb275, 1, none⟩ = some (.int .i64 0) := hcz BK275 1
        have hfs61 := blk_frozen BK275.out 1
        have hns61_0 := NB261_275.out
        have hns61_1 := NB262_275.out
        have hns61_2 := NB263_275.out
        have hns61_3 := NB264_275.out
        have hns61_5 := NB276_275.out
        have hms61_0 := NB275_261.out
        have hms61_1 := NB275_262.out
        have hms61_2 := NB275_263.out
        have hms61_3 := NB275_264.out
        have hms61_5 := NB275_276.out
        refine skip_ (w1 := ?_) (by rfl) rfl ?_ ?_
        rotate_left
        ·
         go_simp
         rfl
        refine hK.out _ _ ⟨((cell_far (p := ⟨gb275, _, none⟩) NB261_275.out _).trans (((cell_far (p := ⟨gb275, _, none⟩) NB261_275.out _).trans (hHeld.1)))), ((cell_far (p := ⟨gb275, _, none⟩) NB261_275.out _).trans (((cell_far (p := ⟨gb275, _, none⟩) NB261_275.out _).trans (hHeld.2.1)))), ((cell_far (p := ⟨gb275, _, none⟩) NB262_275.out _).trans (((cell_far (p := ⟨gb275, _, none⟩) NB262_275.out _).trans (hHeld.2.2.1)))), ((cell_far (p := ⟨gb275, _, none⟩) NB262_275.out _).trans (((cell_far (p := ⟨gb275, _, none⟩) NB262_275.out _).trans (hHeld.2.2.2))))⟩ (fun hHeld => ?_)
        clear hK K
        refine one_ (i := 5) (N := none) #[true, true, true, true, true, true] rfl rfl (by kernel_rfl) (by decide) (fun K hK => ?_)
        have hs62 : w59.cell? ⟨gb276, 0, none⟩ = some (.int .i64 0) := hcz BK276 0
        have hfs62 := blk_frozen BK276.out 0
        have hns62_0 := NB261_276.out
        have hns62_1 := NB262_276.out
        have hns62_2 := NB263_276.out
        have hns62_3 := NB264_276.out
        have hns62_4 := NB275_276.out
        have hms62_0 := NB276_261.out
        have hms62_1 := NB276_262.out
        have hms62_2 := NB276_263.out
        have hms62_3 := NB276_264.out
        have hms62_4 := NB276_275.out
        have hs63 : w59.cell? ⟨gb276, 1, none⟩ = some (.int .i64 0) := hcz BK276 1
        have hfs63 := blk_frozen BK276.out 1
        have hns63_0 := NB261_276.out
        have hns63_1 := NB262_276.out
        have hns63_2 := NB263_276.out
        have hns63_3 := NB264_276.out
        have hns63_4 := NB275_276.out
        have hms63_0 := NB276_261.out
        have hms63_1 := NB276_262.out
        have hms63_2 := NB276_263.out
        have hms63_3 := NB276_264.out
        have hms63_4 := NB276_275.out
        refine skip_ (w1 := ?_) (by rfl) rfl ?_ ?_
        rotate_left
        ·
         go_simp
         rfl
        refine hK.out _ _ ⟨((cell_far (p := ⟨gb276, _, none⟩) NB261_276.out _).trans (((cell_far (p := ⟨gb276, _, none⟩) NB261_276.out _).trans (hHeld.1)))), ((cell_far (p := ⟨gb276, _, none⟩) NB261_276.out _).trans (((cell_far (p := ⟨gb276, _, none⟩) NB261_276.out _).trans (hHeld.2.1)))), ((cell_far (p := ⟨gb276, _, none⟩) NB262_276.out _).trans (((cell_far (p := ⟨gb276, _, none⟩) NB262_276.out _).trans (hHeld.2.2.1)))), ((cell_far (p := ⟨gb276, _, none⟩) NB262_276.out _).trans (((cell_far (p := ⟨gb276, _, none⟩) NB262_276.out _).trans (hHeld.2.2.2))))⟩ (fun hHeld => ?_)
        clear hK K
        refine done_ (by kernel_rfl) ?_
        go_upto_block 0 with (fail)
        go_cut [] (fun wc => ∃ (kq : Nat) (x262000_54 : Int) (x262001_54 : Int) (x263000_54 : Int) (x263001_54 : Int) (x276000_54 : Int) (x276001_54 : Int) (x277000_54 : Int) (x277001_54 : Int), Aside0 (itv_Test.j5 kq x276000_54 x276001_54 x277000_54 x277001_54 = some (r1, r2, r3, r4)) ∧ Aside0 (kq ≤ kj24) ∧ Aside0 (wc.heap[gb261]? = some (.cells #[.int .i64 x262000_54, .int .i64 x262001_54] 23 (0, 0))) ∧ Aside0 (wc.heap[gb262]? = some (.cells #[.int .i64 x263000_54, .int .i64 x263001_54] 23 (0, 0))) ∧ Aside0 (wc.heap[gb263]? = some (.cells #[.int .i64 0, .int .i64 0] 23 (0, 0))) ∧ Aside0 (wc.heap[gb264]? = some (.cells #[.int .i64 0, .int .i64 0] 23 (0, 0))) ∧ Aside0 (wc.heap[gb275]? = some (.cells #[.int .i64 x276000_54, .int .i64 x276001_54] 23 (0, 0))) ∧ Aside0 (wc.heap[gb276]? = some (.cells #[.int .i64 x277000_54, .int .i64 x277001_54] 23 (0, 0))) ∧ Aside0 (Below w.heap.size w wc))
        case first =>
         have H := HC55.out
         clear HC55
         have HC64 := Aside0.mk H
         clear H
         go_upto_block 5 with (fail)
         go_cut [0, 10] (fun v0 v10 wc => ∃ (kq : Nat) (x0_63 : Int) (x10_63 : Bool) (x262000_63 : Int) (x262001_63 : Int) (x263000_63 : Int) (x263001_63 : Int) (x276000_63 : Int) (x276001_63 : Int) (x277000_63 : Int) (x277001_63 : Int), v0 = .int .i64 x0_63 ∧ v10 = .bool x10_63 ∧ Aside0 (itv_Test.j2 kq x0_63 x10_63 x262000_63 x262001_63 x263000_63 x263001_63 = some (r1, r2, r3, r4)) ∧ Aside0 (kq ≤ kj24) ∧ Aside0 (wc.heap[gb261]? = some (.cells #[.int .i64 x262000_63, .int .i64 x262001_63] 23 (0, 0))) ∧ Aside0 (wc.heap[gb262]? = some (.cells #[.int .i64 x263000_63, .int .i64 x263001_63] 23 (0, 0))) ∧ Aside0 (wc.heap[gb263]? = some (.cells #[.int .i64 0, .int .i64 0] 23 (0, 0))) ∧ Aside0 (wc.heap[gb264]? = some (.cells #[.int .i64 0, .int .i64 0] 23 (0, 0))) ∧ Aside0 (wc.heap[gb275]? = some (.cells #[.int .i64 x276000_63, .int .i64 x276001_63] 23 (0, 0))) ∧ Aside0 (wc.heap[gb276]? = some (.cells #[.int .i64 x277000_63, .int .i64 x277001_63] 23 (0, 0))) ∧ Aside0 (Below w.heap.size w wc))
         case first =>
          have H := HC64.out
          clear HC64
          by_cases c65 : a0 = 14
          ·
           rw [if_pos c65] at H
           have c65b0 : (a0 == 14) = true := beq_iff_eq.mpr c65
           have c65b1 : (a0 != 14) = false := bne_eq_false_iff_eq.mpr c65
           clear c65
           (first | rw [c65b0] | (simp only [i64_w, i32_w]; rw [c65b0]) | skip)
           replace H := Option.bind_eq_some_iff.mp H
           obtain ⟨⟨t277, t278⟩, A660, H⟩ := H
           replace H : (itv_Test.j5 kj24 t277 t278 t277 t278) = some (r1, r2, r3, r4) := H
           have A66 := Aside0.mk A660
           clear A660
           have H' := Aside0.mk H
           clear H
           have hnb67 := NB261_262.out
           have hnc67 := NB262_261.out
           have hnb68 := NB261_263.out
           have hnc68 := NB263_261.out
           have hnb69 := NB261_264.out
           have hnc69 := NB264_261.out
           have hnb70 := NB261_275.out
           have hnc70 := NB275_261.out
           have hnb71 := NB261_276.out
           have hnc71 := NB276_261.out
           have hcz72_0 := hcz BK261 0
           have hcz72_1 := hcz BK261 1
           have hfz72_0 := blk_frozen BK261.out 0
           have hfz72_1 := blk_frozen BK261.out 1
           have hnb73 := NB262_263.out
           have hnc73 := NB263_262.out
           have hnb74 := NB262_264.out
           have hnc74 := NB264_262.out
           have hnb75 := NB262_275.out
           have hnc75 := NB275_262.out
           have hnb76 := NB262_276.out
           have hnc76 := NB276_262.out
           have hcz77_0 := hcz BK262 0
           have hcz77_1 := hcz BK262 1
           have hfz77_0 := blk_frozen BK262.out 0
           have hfz77_1 := blk_frozen BK262.out 1
           go_wp2_with (first | ((with_reducible refine gate_callee (f := 28) rfl ?_); refine goesL_ (some 45) rfl rfl Try.func28 (by kernel_rfl) rfl #[.agg #[.int .i64 t265, .int .i64 t266], .agg #[.int .i64 t267, .int .i64 t268]] rfl (by (try simp only [List.map_toArray, List.map_cons, List.map_nil]); first | done | rfl | (simp only [List.length_drop, List.length_take]; rfl)) ?_; (with_reducible refine (itv_Meet.calls kj24 t265 t266 t267 t268 t277 t278 _ A66.out).mono ?_); rintro e w78 ⟨rfl, hb⟩; refine ⟨_, rfl, ?_⟩; have n0_ := Aside0.mk (blk_below (g := gb261) (o := .cells #[.int .i64 t265, .int .i64 t266] 23 (0, 0)) (by refine pkB ?_; refine blk_far ?_ NB261_276.out _; refine pkB ?_; refine blk_far ?_ NB261_276.out _; refine pkB ?_; refine blk_far ?_ NB261_275.out _; refine pkB ?_; refine blk_far ?_ NB261_275.out _; refine pkB ?_; exact BK261.out) hb); have n1_ := Aside0.mk (blk_below (g := gb262) (o := .cells #[.int .i64 t267, .int .i64 t268] 23 (0, 0)) (by refine pkB ?_; refine blk_far ?_ NB262_276.out _; refine pkB ?_; refine blk_far ?_ NB262_276.out _; refine pkB ?_; refine blk_far ?_ NB262_275.out _; refine pkB ?_; refine blk_far ?_ NB262_275.out _; refine pkB ?_; exact BK262.out) hb); have n2_ := Aside0.mk (blk_below (g := gb263) (o := .cells #[.int .i64 0, .int .i64 0] 23 (0, 0)) (by refine pkB ?_; refine blk_far ?_ NB263_276.out _; refine pkB ?_; refine blk_far ?_ NB263_276.out _; refine pkB ?_; refine blk_far ?_ NB263_275.out _; refine pkB ?_; refine blk_far ?_ NB263_275.out _; refine pkB ?_; exact BK263.out) hb); have n3_ := Aside0.mk (blk_below (g := gb264) (o := .cells #[.int .i64 0, .int .i64 0] 23 (0, 0)) (by refine pkB ?_; refine blk_far ?_ NB264_276.out _; refine pkB ?_; refine blk_far ?_ NB264_276.out _; refine pkB ?_; refine blk_far ?_ NB264_275.out _; refine pkB ?_; refine blk_far ?_ NB264_275.out _; refine pkB ?_; exact BK264.out) hb); have n4_ := Aside0.mk (blk_below (g := gb275) (o := .cells #[.int .i64 t265, .int .i64 t266] 23 (0, 0)) (by refine pkB ?_; refine blk_far ?_ NB275_276.out _; refine pkB ?_; refine blk_far ?_ NB275_276.out _; refine pkB ?_; refine blk_put (cs := #[.int .i64 t265, .int .i64 0]) ?_ 1 _ (by first | rfl | (subst_vars; rfl)); refine pkB ?_; refine blk_put (cs := #[.int .i64 0, .int .i64 0]) ?_ 0 _ (by first | rfl | (subst_vars; rfl)); refine pkB ?_; exact BK275.out) hb); have n5_ := Aside0.mk (blk_below (g := gb276) (o := .cells #[.int .i64 t267, .int .i64 t268] 23 (0, 0)) (by refine pkB ?_; refine blk_put (cs := #[.int .i64 t267, .int .i64 0]) ?_ 1 _ (by first | rfl | (subst_vars; rfl)); refine pkB ?_; refine blk_put (cs := #[.int .i64 0, .int .i64 0]) ?_ 0 _ (by first | rfl | (subst_vars; rfl)); refine pkB ?_; refine blk_far ?_ NB276_275.out _; refine pkB ?_; refine blk_far ?_ NB276_275.out _; refine pkB ?_; exact BK276.out) hb); have n6_ := bst HB hb; clear BK261; clear BK262; clear BK263; clear BK264; clear BK275; clear BK276; clear HB; have BK261 := n0_; have BK262 := n1_; have BK263 := n2_; have BK264 := n3_; have BK275 := n4_; have BK276 := n5_; have HB := n6_; clear n0_ n1_ n2_ n3_ n4_ n5_ n6_; (try clear hb); (try clear hb2); (try clear hk); (try clear hi); have hnb79 := NB275_263.out; have hnc79 := NB263_275.out; have hnb80 := NB275_264.out; have hnc80 := NB264_275.out; have hnb81 := NB275_276.out; have hnc81 := NB276_275.out; have hcz82_0 := hcz BK275 0; have hcz82_1 := hcz BK275 1; have hfz82_0 := blk_frozen BK275.out 0; have hfz82_1 := blk_frozen BK275.out 1; have hnb83 := NB276_263.out; have hnc83 := NB263_276.out; have hnb84 := NB276_264.out; have hnc84 := NB264_276.out; have hcz85_0 := hcz BK276 0; have hcz85_1 := hcz BK276 1; have hfz85_0 := blk_frozen BK276.out 0; have hfz85_1 := blk_frozen BK276.out 1))
           go_meet
           case rel => exact ⟨_, (t265), (t266), (t267), (t268), (t277), (t278), (t277), (t278), H', ⟨by have := HJ5.out; have := HJ24.out; first | omega | exact Nat.le_refl _⟩, ⟨by refine pkB ?_; refine blk_far ?_ NB261_276.out _; refine pkB ?_; refine blk_far ?_ NB261_276.out _; refine pkB ?_; refine blk_far ?_ NB261_275.out _; refine pkB ?_; refine blk_far ?_ NB261_275.out _; refine pkB ?_; exact BK261.out⟩, ⟨by refine pkB ?_; refine blk_far ?_ NB262_276.out _; refine pkB ?_; refine blk_far ?_ NB262_276.out _; refine pkB ?_; refine blk_far ?_ NB262_275.out _; refine pkB ?_; refine blk_far ?_ NB262_275.out _; refine pkB ?_; exact BK262.out⟩, ⟨by refine pkB ?_; refine blk_far ?_ NB263_276.out _; refine pkB ?_; refine blk_far ?_ NB263_276.out _; refine pkB ?_; refine blk_far ?_ NB263_275.out _; refine pkB ?_; refine blk_far ?_ NB263_275.out _; refine pkB ?_; exact BK263.out⟩, ⟨by refine pkB ?_; refine blk_far ?_ NB264_276.out _; refine pkB ?_; refine blk_far ?_ NB264_276.out _; refine pkB ?_; refine blk_far ?_ NB264_275.out _; refine pkB ?_; refine blk_far ?_ NB264_275.out _; refine pkB ?_; exact BK264.out⟩, ⟨by refine pkB ?_; refine blk_far ?_ NB275_276.out _; refine pkB ?_; refine blk_far ?_ NB275_276.out _; refine pkB ?_; refine blk_put (cs := #[.int .i64 t277, .int .i64 t266]) ?_ 1 _ (by first | rfl | (subst_vars; rfl)); refine pkB ?_; refine blk_put (cs := #[.int .i64 t265, .int .i64 t266]) ?_ 0 _ (by first | rfl | (subst_vars; rfl)); refine pkB ?_; exact BK275.out⟩, ⟨by refine pkB ?_; refine blk_put (cs := #[.int .i64 t277, .int .i64 t268]) ?_ 1 _ (by first | rfl | (subst_vars; rfl)); refine pkB ?_; refine blk_put (cs := #[.int .i64 t267, .int .i64 t268]) ?_ 0 _ (by first | rfl | (subst_vars; rfl)); refine pkB ?_; refine blk_far ?_ NB276_275.out _; refine pkB ?_; refine blk_far ?_ NB276_275.out _; refine pkB ?_; exact BK276.out⟩, bpk HB⟩
          ·
           rw [if_neg c65] at H
           have c65b0 : (a0 == 14) = false := beq_eq_false_iff_ne.mpr c65
           have c65b1 : (a0 != 14) = true := bne_iff_ne.mpr c65
           (first | rw [c65b0] | (simp only [i64_w, i32_w]; rw [c65b0]) | skip)
           by_cases c86 : a0 = 15
           ·
            rw [if_pos c86] at H
            have c86b0 : (a0 == 15) = true := beq_iff_eq.mpr c86
            have c86b1 : (a0 != 15) = false := bne_eq_false_iff_eq.mpr c86
            clear c86
            replace H := Option.bind_eq_some_iff.mp H
            obtain ⟨⟨t279, t280⟩, A870, H⟩ := H
            replace H : ((itv_without.f kj24 t267 t268 t265 t266).bind fun bt281 => (itv_Test.j5 kj24 t279 t280 bt281.1 bt281.2)) = some (r1, r2, r3, r4) := H
            have A87 := Aside0.mk A870
            clear A870
            replace H := Option.bind_eq_some_iff.mp H
            obtain ⟨⟨t281, t282⟩, A880, H⟩ := H
            replace H : (itv_Test.j5 kj24 t279 t280 t281 t282) = some (r1, r2, r3, r4) := H
            have A88 := Aside0.mk A880
            clear A880
            have H' := Aside0.mk H
            clear H
            try go_wp2
            have n0_ : Aside0 (((((w59.setCell ⟨gb275, 0, none⟩ (.int .i64 t265)).setCell ⟨gb275, 1, none⟩ (.int .i64 t266)).setCell ⟨gb276, 0, none⟩ (.int .i64 t267)).setCell ⟨gb276, 1, none⟩ (.int .i64 t268)).heap[gb261]? = some (.cells #[.int .i64 t265, .int .i64 t266] 23 (0, 0))) := ⟨by refine pkB ?_; refine blk_far ?_ NB261_276.out _; refine pkB ?_; refine blk_far ?_ NB261_276.out _; refine pkB ?_; refine blk_far ?_ NB261_275.out _; refine pkB ?_; refine blk_far ?_ NB261_275.out _; refine pkB ?_; exact BK261.out⟩
            have n1_ : Aside0 (((((w59.setCell ⟨gb275, 0, none⟩ (.int .i64 t265)).setCell ⟨gb275, 1, none⟩ (.int .i64 t266)).setCell ⟨gb276, 0, none⟩ (.int .i64 t267)).setCell ⟨gb276, 1, none⟩ (.int .i64 t268)).heap[gb262]? = some (.cells #[.int .i64 t267, .int .i64 t268] 23 (0, 0))) := ⟨by refine pkB ?_; refine blk_far ?_ NB262_276.out _; refine pkB ?_; refine blk_far ?_ NB262_276.out _; refine pkB ?_; refine blk_far ?_ NB262_275.out _; refine pkB ?_; refine blk_far ?_ NB262_275.out _; refine pkB ?_; exact BK262.out⟩
            have n2_ : Aside0 (((((w59.setCell ⟨gb275, 0, none⟩ (.int .i64 t265)).setCell ⟨gb275, 1, none⟩ (.int .i64 t266)).setCell ⟨gb276, 0, none⟩ (.int .i64 t267)).setCell ⟨gb276, 1, none⟩ (.int .i64 t268)).heap[gb263]? = some (.cells #[.int .i64 0, .int .i64 0] 23 (0, 0))) := ⟨by refine pkB ?_; refine blk_far ?_ NB263_276.out _; refine pkB ?_; refine blk_far ?_ NB263_276.out _; refine pkB ?_; refine blk_far ?_ NB263_275.out _; refine pkB ?_; refine blk_far ?_ NB263_275.out _; refine pkB ?_; exact BK263.out⟩
            have n3_ : Aside0 (((((w59.setCell ⟨gb275, 0, none⟩ (.int .i64 t265)).setCell ⟨gb275, 1, none⟩ (.int .i64 t266)).setCell ⟨gb276, 0, none⟩ (.int .i64 t267)).setCell ⟨gb276, 1, none⟩ (.int .i64 t268)).heap[gb264]? = some (.cells #[.int .i64 0, .int .i64 0] 23 (0, 0))) := ⟨by refine pkB ?_; refine blk_far ?_ NB264_276.out _; refine pkB ?_; refine blk_far ?_ NB264_276.out _; refine pkB ?_; refine blk_far ?_ NB264_275.out _; refine pkB ?_; refine blk_far ?_ NB264_275.out _; refine pkB ?_; exact BK264.out⟩
            have n4_ : Aside0 (((((w59.setCell ⟨gb275, 0, none⟩ (.int .i64 t265)).setCell ⟨gb275, 1, none⟩ (.int .i64 t266)).setCell ⟨gb276, 0, none⟩ (.int .i64 t267)).setCell ⟨gb276, 1, none⟩ (.int .i64 t268)).heap[gb275]? = some (.cells #[.int .i64 t265, .int .i64 t266] 23 (0, 0))) := ⟨by refine pkB ?_; refine blk_far ?_ NB275_276.out _; refine pkB ?_; refine blk_far ?_ NB275_276.out _; refine pkB ?_; refine blk_put (cs := #[.int .i64 t265, .int .i64 0]) ?_ 1 _ (by first | rfl | (subst_vars; rfl)); refine pkB ?_; refine blk_put (cs := #[.int .i64 0, .int .i64 0]) ?_ 0 _ (by first | rfl | (subst_vars; rfl)); refine pkB ?_; exact BK275.out⟩
            have n5_ : Aside0 (((((w59.setCell ⟨gb275, 0, none⟩ (.int .i64 t265)).setCell ⟨gb275, 1, none⟩ (.int .i64 t266)).setCell ⟨gb276, 0, none⟩ (.int .i64 t267)).setCell ⟨gb276, 1, none⟩ (.int .i64 t268)).heap[gb276]? = some (.cells #[.int .i64 t267, .int .i64 t268] 23 (0, 0))) := ⟨by refine pkB ?_; refine blk_put (cs := #[.int .i64 t267, .int .i64 0]) ?_ 1 _ (by first | rfl | (subst_vars; rfl)); refine pkB ?_; refine blk_put (cs := #[.int .i64 0, .int .i64 0]) ?_ 0 _ (by first | rfl | (subst_vars; rfl)); refine pkB ?_; refine blk_far ?_ NB276_275.out _; refine pkB ?_; refine blk_far ?_ NB276_275.out _; refine pkB ?_; exact BK276.out⟩
            have n6_ : Aside0 (Below w.heap.size w ((((w59.setCell ⟨gb275, 0, none⟩ (.int .i64 t265)).setCell ⟨gb275, 1, none⟩ (.int .i64 t266)).setCell ⟨gb276, 0, none⟩ (.int .i64 t267)).setCell ⟨gb276, 1, none⟩ (.int .i64 t268))) := bpk HB
            (try clear BK261)
            (try clear BK262)
            (try clear BK263)
            (try clear BK264)
            (try clear BK275)
            (try clear BK276)
            (try clear HB)
            generalize ((((w59.setCell ⟨gb275, 0, none⟩ (.int .i64 t265)).setCell ⟨gb275, 1, none⟩ (.int .i64 t266)).setCell ⟨gb276, 0, none⟩ (.int .i64 t267)).setCell ⟨gb276, 1, none⟩ (.int .i64 t268)) = w89 at n0_ n1_ n2_ n3_ n4_ n5_ n6_ ⊢
            have BK261 := n0_
            have BK262 := n1_
            have BK263 := n2_
            have BK264 := n3_
            have BK275 := n4_
            have BK276 := n5_
            have HB := n6_
            clear n0_ n1_ n2_ n3_ n4_ n5_ n6_
            have n0_ := Aside0.mk (blk_drew BK261.out)
            have n1_ := Aside0.mk (blk_drew BK262.out)
            have n2_ := Aside0.mk (blk_drew BK263.out)
            have n3_ := Aside0.mk (blk_drew BK264.out)
            have n4_ := Aside0.mk (blk_drew BK275.out)
            have n5_ := Aside0.mk (blk_drew BK276.out)
            have n6_ := Aside0.mk (below_drew1 HB.out)
            clear BK261
            clear BK262
            clear BK263
            clear BK264
            clear BK275
            clear BK276
            clear HB
            have BK261 := n0_
            have BK262 := n1_
            have BK263 := n2_
            have BK264 := n3_
            have BK275 := n4_
            have BK276 := n5_
            have HB := n6_
            clear n0_ n1_ n2_ n3_ n4_ n5_ n6_
            refine start_ (n := 8) (S := fun w' => w'.cell? ⟨gb261, 0, none⟩ = some (.int .i64 t265) ∧ w'.cell? ⟨gb261, 1, none⟩ = some (.int .i64 t266) ∧ w'.cell? ⟨gb262, 0, none⟩ = some (.int .i64 t267) ∧ w'.cell? ⟨gb262, 1, none⟩ = some (.int .i64 t268)) (ds := []) #[false, false, false, false, false, false, false, false] (by kernel_rfl) rfl rfl ⟨hcz BK261 0, hcz BK261 1, hcz BK262 0, hcz BK262 1⟩ (fun hHeld => ?_); refine with_tabW itv_Test.tab15 itv_Test.bits15 (fun HT_ HW_ => ?_)
            generalize w89.drew = w90 at BK261 BK262 BK263 BK264 BK275 BK276 HB hHeld ⊢
            refine takeQ 0 47 HT_.out HW_.out hHeld ?_
            refine takeQ 1 48 HT_.out HW_.out hHeld ?_
            refine takeQ 3 50 HT_.out HW_.out hHeld ?_
            refine takeQ 4 51 HT_.out HW_.out hHeld ?_
            refine oneQ 2 49 HT_.out (fun K hK => ?_)
            refine goesQ Try.func64 #[.agg #[.int .i64 t265, .int .i64 t266], .agg #[.int .i64 t267, .int .i64 t268]] ?_
            with_reducible refine (itv_without.calls kj24 t265 t266 t267 t268 t279 t280 _ A87.out).mono ?_
            rintro e w91 ⟨rfl, hb⟩
            refine ⟨_, rfl, ?_⟩
            have n0_ := bst HB hb
            replace BK261 := bbw BK261 hb
            replace BK262 := bbw BK262 hb
            replace BK263 := bbw BK263 hb
            replace BK264 := bbw BK264 hb
            replace BK275 := bbw BK275 hb
            replace BK276 := bbw BK276 hb
            clear HB
            have HB := n0_
            clear n0_
            (try clear hb)
            (try clear hb2)
            (try clear hk)
            (try clear hi)
            refine hK.out _ _ ⟨hcz BK261 0, hcz BK261 1, hcz BK262 0, hcz BK262 1⟩ (fun hHeld => ?_)
            clear hK K
            refine normQ (N := 49) ?_
            refine oneQ 5 52 HT_.out (fun K hK => ?_)
            refine goesQ Try.func64 #[.agg #[.int .i64 t267, .int .i64 t268], .agg #[.int .i64 t265, .int .i64 t266]] ?_
            with_reducible refine (itv_without.calls kj24 t267 t268 t265 t266 t281 t282 _ A88.out).mono ?_
            rintro e w92 ⟨rfl, hb⟩
            refine ⟨_, rfl, ?_⟩
            have n0_ := bst HB hb
            replace BK261 := bbw BK261 hb
            replace BK262 := bbw BK262 hb
            replace BK263 := bbw BK263 hb
            replace BK264 := bbw BK264 hb
            replace BK275 := bbw BK275 hb
            replace BK276 := bbw BK276 hb
            clear HB
            have HB := n0_
            clear n0_
            (try clear hb)
            (try clear hb2)
            (try clear hk)
            (try clear hi)
            refine hK.out _ _ ⟨hcz BK261 0, hcz BK261 1, hcz BK262 0, hcz BK262 1⟩ (fun hHeld => ?_)
            clear hK K
            refine normQ (N := 52) ?_
            refine one_ (i := 6) (N := none) #[true, true, true, true, true, true, true, false] rfl rfl (one_of HT_.out (by kernel_rfl)) (by decide) (fun K hK => ?_)
            have hs93 : w92.cell? ⟨gb275, 0, none⟩ = some (.int .i64 t265) := hcz BK275 0
            have hfs93 := blk_frozen BK275.out 0
            have hns93_0 := NB261_275.out
            have hns93_1 := NB262_275.out
            have hns93_2 := NB263_275.out
            have hns93_3 := NB264_275.out
            have hns93_5 := NB276_275.out
            have hms93_0 := NB275_261.out
            have hms93_1 := NB275_262.out
            have hms93_2 := NB275_263.out
            have hms93_3 := NB275_264.out
            have hms93_5 := NB275_276.out
            have hs94 : w92.cell? ⟨gb275, 1, none⟩ = some (.int .i64 t266) := hcz BK275 1
            have hfs94 := blk_frozen BK275.out 1
            have hns94_0 := NB261_275.out
            have hns94_1 := NB262_275.out
            have hns94_2 := NB263_275.out
            have hns94_3 := NB264_275.out
            have hns94_5 := NB276_275.out
            have hms94_0 := NB275_261.out
            have hms94_1 := NB275_262.out
            have hms94_2 := NB275_263.out
            have hms94_3 := NB275_264.out
            have hms94_5 := NB275_276.out
            refine skip_ (w1 := ?_) (by rfl) rfl ?_ ?_
            rotate_left
            ·
             go_simp
             rfl
            refine hK.out _ _ ⟨((cell_far (p := ⟨gb275, _, none⟩) NB261_275.out _).trans (((cell_far (p := ⟨gb275, _, none⟩) NB261_275.out _).trans (hHeld.1)))), ((cell_far (p := ⟨gb275, _, none⟩) NB261_275.out _).trans (((cell_far (p := ⟨gb275, _, none⟩) NB261_275.out _).trans (hHeld.2.1)))), ((cell_far (p := ⟨gb275, _, none⟩) NB262_275.out _).trans (((cell_far (p := ⟨gb275, _, none⟩) NB262_275.out _).trans (hHeld.2.2.1)))), ((cell_far (p := ⟨gb275, _, none⟩) NB262_275.out _).trans (((cell_far (p := ⟨gb275, _, none⟩) NB262_275.out _).trans (hHeld.2.2.2))))⟩ (fun hHeld => ?_)
            clear hK K
            refine one_ (i := 7) (N := none) #[true, true, true, true, true, true, true, true] rfl rfl (one_of HT_.out (by kernel_rfl)) (by decide) (fun K hK => ?_)
            have hs95 : w92.cell? ⟨gb276, 0, none⟩ = some (.int .i64 t267) := hcz BK276 0
            have hfs95 := blk_frozen BK276.out 0
            have hns95_0 := NB261_276.out
            have hns95_1 := NB262_276.out
            have hns95_2 := NB263_276.out
            have hns95_3 := NB264_276.out
            have hns95_4 := NB275_276.out
            have hms95_0 := NB276_261.out
            have hms95_1 := NB276_262.out
            have hms95_2 := NB276_263.out
            have hms95_3 := NB276_264.out
            have hms95_4 := NB276_275.out
            have hs96 : w92.cell? ⟨gb276, 1, none⟩ = some (.int .i64 t268) := hcz BK276 1
            have hfs96 := blk_frozen BK276.out 1
            have hns96_0 := NB261_276.out
            have hns96_1 := NB262_276.out
            have hns96_2 := NB263_276.out
            have hns96_3 := NB264_276.out
            have hns96_4 := NB275_276.out
            have hms96_0 := NB276_261.out
            have hms96_1 := NB276_262.out
            have hms96_2 := NB276_263.out
            have hms96_3 := NB276_264.out
            have hms96_4 := NB276_275.out
            refine skip_ (w1 := ?_) (by rfl) rfl ?_ ?_
            rotate_left
            ·
             go_simp
             rfl
            refine hK.out _ _ ⟨((cell_far (p := ⟨gb276, _, none⟩) NB261_276.out _).trans (((cell_far (p := ⟨gb276, _, none⟩) NB261_276.out _).trans (hHeld.1)))), ((cell_far (p := ⟨gb276, _, none⟩) NB261_276.out _).trans (((cell_far (p := ⟨gb276, _, none⟩) NB261_276.out _).trans (hHeld.2.1)))), ((cell_far (p := ⟨gb276, _, none⟩) NB262_276.out _).trans (((cell_far (p := ⟨gb276, _, none⟩) NB262_276.out _).trans (hHeld.2.2.1)))), ((cell_far (p := ⟨gb276, _, none⟩) NB262_276.out _).trans (((cell_far (p := ⟨gb276, _, none⟩) NB262_276.out _).trans (hHeld.2.2.2))))⟩ (fun hHeld => ?_)
            clear hK K
            refine done_ (done_of HT_.out (by kernel_rfl)) ?_
            try go_wp2
            go_meet
            case rel => exact ⟨_, (t265), (t266), (t267), (t268), (t279), (t280), (t281), (t282), H', ⟨by have := HJ5.out; have := HJ24.out; first | omega | exact Nat.le_refl _⟩, ⟨by refine pkB ?_; refine blk_far ?_ NB261_276.out _; refine pkB ?_; refine blk_far ?_ NB261_276.out _; refine pkB ?_; refine blk_far ?_ NB261_275.out _; refine pkB ?_; refine blk_far ?_ NB261_275.out _; refine pkB ?_; exact BK261.out⟩, ⟨by refine pkB ?_; refine blk_far ?_ NB262_276.out _; refine pkB ?_; refine blk_far ?_ NB262_276.out _; refine pkB ?_; refine blk_far ?_ NB262_275.out _; refine pkB ?_; refine blk_far ?_ NB262_275.out _; refine pkB ?_; exact BK262.out⟩, ⟨by refine pkB ?_; refine blk_far ?_ NB263_276.out _; refine pkB ?_; refine blk_far ?_ NB263_276.out _; refine pkB ?_; refine blk_far ?_ NB263_275.out _; refine pkB ?_; refine blk_far ?_ NB263_275.out _; refine pkB ?_; exact BK263.out⟩, ⟨by refine pkB ?_; refine blk_far ?_ NB264_276.out _; refine pkB ?_; refine blk_far ?_ NB264_276.out _; refine pkB ?_; refine blk_far ?_ NB264_275.out _; refine pkB ?_; refine blk_far ?_ NB264_275.out _; refine pkB ?_; exact BK264.out⟩, ⟨by refine pkB ?_; refine blk_far ?_ NB275_276.out _; refine pkB ?_; refine blk_far ?_ NB275_276.out _; refine pkB ?_; refine blk_put (cs := #[.int .i64 t279, .int .i64 t266]) ?_ 1 _ (by first | rfl | (subst_vars; rfl)); refine pkB ?_; refine blk_put (cs := #[.int .i64 t265, .int .i64 t266]) ?_ 0 _ (by first | rfl | (subst_vars; rfl)); refine pkB ?_; exact BK275.out⟩, ⟨by refine pkB ?_; refine blk_put (cs := #[.int .i64 t281, .int .i64 t268]) ?_ 1 _ (by first | rfl | (subst_vars; rfl)); refine pkB ?_; refine blk_put (cs := #[.int .i64 t267, .int .i64 t268]) ?_ 0 _ (by first | rfl | (subst_vars; rfl)); refine pkB ?_; refine blk_far ?_ NB276_275.out _; refine pkB ?_; refine blk_far ?_ NB276_275.out _; refine pkB ?_; exact BK276.out⟩, bpk HB⟩
           ·
            rw [if_neg c86] at H
            have c86b0 : (a0 == 15) = false := beq_eq_false_iff_ne.mpr c86
            have c86b1 : (a0 != 15) = true := bne_iff_ne.mpr c86
            by_cases c97 : a0 = 18
            ·
             rw [if_pos c97] at H
             have c97b0 : (a0 == 18) = true := beq_iff_eq.mpr c97
             have c97b1 : (a0 != 18) = false := bne_eq_false_iff_eq.mpr c97
             clear c97
             have H' := Aside0.mk H
             clear H
             have hnb98 := NB262_261.out
             have hnc98 := NB261_262.out
             have hnb99 := NB262_263.out
             have hnc99 := NB263_262.out
             have hnb100 := NB262_264.out
             have hnc100 := NB264_262.out
             have hnb101 := NB262_275.out
             have hnc101 := NB275_262.out
             have hnb102 := NB262_276.out
             have hnc102 := NB276_262.out
             have hcz103_0 := hcz BK262 0
             have hcz103_1 := hcz BK262 1
             have hfz103_0 := blk_frozen BK262.out 0
             have hfz103_1 := blk_frozen BK262.out 1
             have hnb104 := NB261_263.out
             have hnc104 := NB263_261.out
             have hnb105 := NB261_264.out
             have hnc105 := NB264_261.out
             have hnb106 := NB261_275.out
             have hnc106 := NB275_261.out
             have hnb107 := NB261_276.out
             have hnc107 := NB276_261.out
             have hcz108_0 := hcz BK261 0
             have hcz108_1 := hcz BK261 1
             have hfz108_0 := blk_frozen BK261.out 0
             have hfz108_1 := blk_frozen BK261.out 1
             go_wp2
             go_meet
             case rel => exact ⟨_, (16), (true), (t267), (t268), (t265), (t266), (t265), (t266), (t267), (t268), (by first | rfl | (simp; done) | (simp [*]; done)), (by first | rfl | (simp; done) | (simp [*]; done)), H', ⟨by have := HJ5.out; have := HJ24.out; first | omega | exact Nat.le_refl _⟩, ⟨by refine pkB ?_; refine blk_far ?_ NB261_262.out _; refine pkB ?_; refine blk_far ?_ NB261_262.out _; refine pkB ?_; refine blk_put (cs := #[.int .i64 t267, .int .i64 t266]) ?_ 1 _ (by first | rfl | (subst_vars; rfl)); refine pkB ?_; refine blk_put (cs := #[.int .i64 t265, .int .i64 t266]) ?_ 0 _ (by first | rfl | (subst_vars; rfl)); refine pkB ?_; refine blk_far ?_ NB261_276.out _; refine pkB ?_; refine blk_far ?_ NB261_276.out _; refine pkB ?_; refine blk_far ?_ NB261_275.out _; refine pkB ?_; refine blk_far ?_ NB261_275.out _; refine pkB ?_; exact BK261.out⟩, ⟨by refine pkB ?_; refine blk_put (cs := #[.int .i64 t265, .int .i64 t268]) ?_ 1 _ (by first | rfl | (subst_vars; rfl)); refine pkB ?_; refine blk_put (cs := #[.int .i64 t267, .int .i64 t268]) ?_ 0 _ (by first | rfl | (subst_vars; rfl)); refine pkB ?_; refine blk_far ?_ NB262_261.out _; refine pkB ?_; refine blk_far ?_ NB262_261.out _; refine pkB ?_; refine blk_far ?_ NB262_276.out _; refine pkB ?_; refine blk_far ?_ NB262_276.out _; refine pkB ?_; refine blk_far ?_ NB262_275.out _; refine pkB ?_; refine blk_far ?_ NB262_275.out _; refine pkB ?_; exact BK262.out⟩, ⟨by refine pkB ?_; refine blk_far ?_ NB263_262.out _; refine pkB ?_; refine blk_far ?_ NB263_262.out _; refine pkB ?_; refine blk_far ?_ NB263_261.out _; refine pkB ?_; refine blk_far ?_ NB263_261.out _; refine pkB ?_; refine blk_far ?_ NB263_276.out _; refine pkB ?_; refine blk_far ?_ NB263_276.out _; refine pkB ?_; refine blk_far ?_ NB263_275.out _; refine pkB ?_; refine blk_far ?_ NB263_275.out _; refine pkB ?_; exact BK263.out⟩, ⟨by refine pkB ?_; refine blk_far ?_ NB264_262.out _; refine pkB ?_; refine blk_far ?_ NB264_262.out _; refine pkB ?_; refine blk_far ?_ NB264_261.out _; refine pkB ?_; refine blk_far ?_ NB264_261.out _; refine pkB ?_; refine blk_far ?_ NB264_276.out _; refine pkB ?_; refine blk_far ?_ NB264_276.out _; refine pkB ?_; refine blk_far ?_ NB264_275.out _; refine pkB ?_; refine blk_far ?_ NB264_275.out _; refine pkB ?_; exact BK264.out⟩, ⟨by refine pkB ?_; refine blk_far ?_ NB275_262.out _; refine pkB ?_; refine blk_far ?_ NB275_262.out _; refine pkB ?_; refine blk_far ?_ NB275_261.out _; refine pkB ?_; refine blk_far ?_ NB275_261.out _; refine pkB ?_; refine blk_far ?_ NB275_276.out _; refine pkB ?_; refine blk_far ?_ NB275_276.out _; refine pkB ?_; refine blk_put (cs := #[.int .i64 t265, .int .i64 0]) ?_ 1 _ (by first | rfl | (subst_vars; rfl)); refine pkB ?_; refine blk_put (cs := #[.int .i64 0, .int .i64 0]) ?_ 0 _ (by first | rfl | (subst_vars; rfl)); refine pkB ?_; exact BK275.out⟩, ⟨by refine pkB ?_; refine blk_far ?_ NB276_262.out _; refine pkB ?_; refine blk_far ?_ NB276_262.out _; refine pkB ?_; refine blk_far ?_ NB276_261.out _; refine pkB ?_; refine blk_far ?_ NB276_261.out _; refine pkB ?_; refine blk_put (cs := #[.int .i64 t267, .int .i64 0]) ?_ 1 _ (by first | rfl | (subst_vars; rfl)); refine pkB ?_; refine blk_put (cs := #[.int .i64 0, .int .i64 0]) ?_ 0 _ (by first | rfl | (subst_vars; rfl)); refine pkB ?_; refine blk_far ?_ NB276_275.out _; refine pkB ?_; refine blk_far ?_ NB276_275.out _; refine pkB ?_; exact BK276.out⟩, bpk HB⟩
            ·
             rw [if_neg c97] at H
             have c97b0 : (a0 == 18) = false := beq_eq_false_iff_ne.mpr c97
             have c97b1 : (a0 != 18) = true := bne_iff_ne.mpr c97
             by_cases c109 : a0 = 19
             ·
              rw [if_pos c109] at H
              have c109b0 : (a0 == 19) = true := beq_iff_eq.mpr c109
              have c109b1 : (a0 != 19) = false := bne_eq_false_iff_eq.mpr c109
              clear c109
              have H' := Aside0.mk H
              clear H
              have hnb110 := NB262_261.out
              have hnc110 := NB261_262.out
              have hnb111 := NB262_263.out
              have hnc111 := NB263_262.out
              have hnb112 := NB262_264.out
              have hnc112 := NB264_262.out
              have hnb113 := NB262_275.out
              have hnc113 := NB275_262.out
              have hnb114 := NB262_276.out
              have hnc114 := NB276_262.out
              have hcz115_0 := hcz BK262 0
              have hcz115_1 := hcz BK262 1
              have hfz115_0 := blk_frozen BK262.out 0
              have hfz115_1 := blk_frozen BK262.out 1
              have hnb116 := NB261_263.out
              have hnc116 := NB263_261.out
              have hnb117 := NB261_264.out
              have hnc117 := NB264_261.out
              have hnb118 := NB261_275.out
              have hnc118 := NB275_261.out
              have hnb119 := NB261_276.out
              have hnc119 := NB276_261.out
              have hcz120_0 := hcz BK261 0
              have hcz120_1 := hcz BK261 1
              have hfz120_0 := blk_frozen BK261.out 0
              have hfz120_1 := blk_frozen BK261.out 1
              go_wp2
              go_meet
              case rel => exact ⟨_, (17), (true), (t267), (t268), (t265), (t266), (t265), (t266), (t267), (t268), (by first | rfl | (simp; done) | (simp [*]; done)), (by first | rfl | (simp; done) | (simp [*]; done)), H', ⟨by have := HJ5.out; have := HJ24.out; first | omega | exact Nat.le_refl _⟩, ⟨by refine pkB ?_; refine blk_far ?_ NB261_262.out _; refine pkB ?_; refine blk_far ?_ NB261_262.out _; refine pkB ?_; refine blk_put (cs := #[.int .i64 t267, .int .i64 t266]) ?_ 1 _ (by first | rfl | (subst_vars; rfl)); refine pkB ?_; refine blk_put (cs := #[.int .i64 t265, .int .i64 t266]) ?_ 0 _ (by first | rfl | (subst_vars; rfl)); refine pkB ?_; refine blk_far ?_ NB261_276.out _; refine pkB ?_; refine blk_far ?_ NB261_276.out _; refine pkB ?_; refine blk_far ?_ NB261_275.out _; refine pkB ?_; refine blk_far ?_ NB261_275.out _; refine pkB ?_; exact BK261.out⟩, ⟨by refine pkB ?_; refine blk_put (cs := #[.int .i64 t265, .int .i64 t268]) ?_ 1 _ (by first | rfl | (subst_vars; rfl)); refine pkB ?_; refine blk_put (cs := #[.int .i64 t267, .int .i64 t268]) ?_ 0 _ (by first | rfl | (subst_vars; rfl)); refine pkB ?_; refine blk_far ?_ NB262_261.out _; refine pkB ?_; refine blk_far ?_ NB262_261.out _; refine pkB ?_; refine blk_far ?_ NB262_276.out _; refine pkB ?_; refine blk_far ?_ NB262_276.out _; refine pkB ?_; refine blk_far ?_ NB262_275.out _; refine pkB ?_; refine blk_far ?_ NB262_275.out _; refine pkB ?_; exact BK262.out⟩, ⟨by refine pkB ?_; refine blk_far ?_ NB263_262.out _; refine pkB ?_; refine blk_far ?_ NB263_262.out _; refine pkB ?_; refine blk_far ?_ NB263_261.out _; refine pkB ?_; refine blk_far ?_ NB263_261.out _; refine pkB ?_; refine blk_far ?_ NB263_276.out _; refine pkB ?_; refine blk_far ?_ NB263_276.out _; refine pkB ?_; refine blk_far ?_ NB263_275.out _; refine pkB ?_; refine blk_far ?_ NB263_275.out _; refine pkB ?_; exact BK263.out⟩, ⟨by refine pkB ?_; refine blk_far ?_ NB264_262.out _; refine pkB ?_; refine blk_far ?_ NB264_262.out _; refine pkB ?_; refine blk_far ?_ NB264_261.out _; refine pkB ?_; refine blk_far ?_ NB264_261.out _; refine pkB ?_; refine blk_far ?_ NB264_276.out _; refine pkB ?_; refine blk_far ?_ NB264_276.out _; refine pkB ?_; refine blk_far ?_ NB264_275.out _; refine pkB ?_; refine blk_far ?_ NB264_275.out _; refine pkB ?_; exact BK264.out⟩, ⟨by refine pkB ?_; refine blk_far ?_ NB275_262.out _; refine pkB ?_; refine blk_far ?_ NB275_262.out _; refine pkB ?_; refine blk_far ?_ NB275_261.out _; refine pkB ?_; refine blk_far ?_ NB275_261.out _; refine pkB ?_; refine blk_far ?_ NB275_276.out _; refine pkB ?_; refine blk_far ?_ NB275_276.out _; refine pkB ?_; refine blk_put (cs := #[.int .i64 t265, .int .i64 0]) ?_ 1 _ (by first | rfl | (subst_vars; rfl)); refine pkB ?_; refine blk_put (cs := #[.int .i64 0, .int .i64 0]) ?_ 0 _ (by first | rfl | (subst_vars; rfl)); refine pkB ?_; exact BK275.out⟩, ⟨by refine pkB ?_; refine blk_far ?_ NB276_262.out _; refine pkB ?_; refine blk_far ?_ NB276_262.out _; refine pkB ?_; refine blk_far ?_ NB276_261.out _; refine pkB ?_; refine blk_far ?_ NB276_261.out _; refine pkB ?_; refine blk_put (cs := #[.int .i64 t267, .int .i64 0]) ?_ 1 _ (by first | rfl | (subst_vars; rfl)); refine pkB ?_; refine blk_put (cs := #[.int .i64 0, .int .i64 0]) ?_ 0 _ (by first | rfl | (subst_vars; rfl)); refine pkB ?_; refine blk_far ?_ NB276_275.out _; refine pkB ?_; refine blk_far ?_ NB276_275.out _; refine pkB ?_; exact BK276.out⟩, bpk HB⟩
             ·
              rw [if_neg c109] at H
              have c109b0 : (a0 == 19) = false := beq_eq_false_iff_ne.mpr c109
              have c109b1 : (a0 != 19) = true := bne_iff_ne.mpr c109
              have H' := Aside0.mk H
              clear H
              go_wp2
              go_meet
              case rel => exact ⟨_, (a0), (false), (t265), (t266), (t267), (t268), (t265), (t266), (t267), (t268), (by first | rfl | (simp; done) | (simp [*]; done)), (by first | rfl | (simp; done) | (simp [*]; done)), H', ⟨by have := HJ5.out; have := HJ24.out; first | omega | exact Nat.le_refl _⟩, ⟨by refine pkB ?_; refine blk_far ?_ NB261_276.out _; refine pkB ?_; refine blk_far ?_ NB261_276.out _; refine pkB ?_; refine blk_far ?_ NB261_275.out _; refine pkB ?_; refine blk_far ?_ NB261_275.out _; refine pkB ?_; exact BK261.out⟩, ⟨by refine pkB ?_; refine blk_far ?_ NB262_276.out _; refine pkB ?_; refine blk_far ?_ NB262_276.out _; refine pkB ?_; refine blk_far ?_ NB262_275.out _; refine pkB ?_; refine blk_far ?_ NB262_275.out _; refine pkB ?_; exact BK262.out⟩, ⟨by refine pkB ?_; refine blk_far ?_ NB263_276.out _; refine pkB ?_; refine blk_far ?_ NB263_276.out _; refine pkB ?_; refine blk_far ?_ NB263_275.out _; refine pkB ?_; refine blk_far ?_ NB263_275.out _; refine pkB ?_; exact BK263.out⟩, ⟨by refine pkB ?_; refine blk_far ?_ NB264_276.out _; refine pkB ?_; refine blk_far ?_ NB264_276.out _; refine pkB ?_; refine blk_far ?_ NB264_275.out _; refine pkB ?_; refine blk_far ?_ NB264_275.out _; refine pkB ?_; exact BK264.out⟩, ⟨by refine pkB ?_; refine blk_far ?_ NB275_276.out _; refine pkB ?_; refine blk_far ?_ NB275_276.out _; refine pkB ?_; refine blk_put (cs := #[.int .i64 t265, .int .i64 0]) ?_ 1 _ (by first | rfl | (subst_vars; rfl)); refine pkB ?_; refine blk_put (cs := #[.int .i64 0, .int .i64 0]) ?_ 0 _ (by first | rfl | (subst_vars; rfl)); refine pkB ?_; exact BK275.out⟩, ⟨by refine pkB ?_; refine blk_put (cs := #[.int .i64 t267, .int .i64 0]) ?_ 1 _ (by first | rfl | (subst_vars; rfl)); refine pkB ?_; refine blk_put (cs := #[.int .i64 0, .int .i64 0]) ?_ 0 _ (by first | rfl | (subst_vars; rfl)); refine pkB ?_; refine blk_far ?_ NB276_275.out _; refine pkB ?_; refine blk_far ?_ NB276_275.out _; refine pkB ?_; exact BK276.out⟩, bpk HB⟩
         case rest =>
          clear HC64
          try clear c1
          try clear c2
          try clear p2
          try clear c6
          try clear c7
          try clear c8
          try clear c9
          try clear c10
          try clear c11
          try clear c28
          try clear c64
          try clear c65
          try clear c65b0
          try clear c65b1
          try clear c67
          try clear c68
          try clear c69
          try clear c70
          try clear c71
          try clear c73
          try clear c74
          try clear c75
          try clear c76
          try clear c79
          try clear c80
          try clear c81
          try clear c83
          try clear c84
          try clear c86
          try clear c86b0
          try clear c86b1
          try clear c97
          try clear c97b0
          try clear c97b1
          try clear c98
          try clear c99
          try clear c100
          try clear c101
          try clear c102
          try clear c104
          try clear c105
          try clear c106
          try clear c107
          try clear c109
          try clear c109b0
          try clear c109b1
          try clear c110
          try clear c111
          try clear c112
          try clear c113
          try clear c114
          try clear c116
          try clear c117
          try clear c118
          try clear c119
          try clear hcz103_0
          try clear hcz103_1
          try clear hcz108_0
          try clear hcz108_1
          try clear hcz115_0
          try clear hcz115_1
          try clear hcz120_0
          try clear hcz120_1
          try clear hcz72_0
          try clear hcz72_1
          try clear hcz77_0
          try clear hcz77_1
          try clear hcz82_0
          try clear hcz82_1
          try clear hcz85_0
          try clear hcz85_1
          try clear hfz103_0
          try clear hfz103_1
          try clear hfz108_0
          try clear hfz108_1
          try clear hfz115_0
          try clear hfz115_1
          try clear hfz120_0
          try clear hfz120_1
          try clear hfz72_0
          try clear hfz72_1
          try clear hfz77_0
          try clear hfz77_1
          try clear hfz82_0
          try clear hfz82_1
          try clear hfz85_0
          try clear hfz85_1
          obtain ⟨kq, x0_63, x10_63, x262000_63, x262001_63, x263000_63, x263001_63, x276000_63, x276001_63, x277000_63, x277001_63, rfl, rfl, HA, HJ63, BK261, BK262, BK263, BK264, BK275, BK276, HB⟩ := hcut
          cases kq with
          | zero => exact absurd HA.out (by simp [itv_Test.j2])
          | succ kj63 =>
           have H := HA.out
           clear HA
           simp only [itv_Test.j2] at H
           have HC121 := Aside0.mk H
           clear H
           go_upto_if 58 with (fail)
           go_cut [11] (fun v11 wc => ∃ (kq : Nat) (x11_120 : Int), v11 = .int .i64 x11_120 ∧ Aside0 (itv_Test.j3 kq x10_63 x11_120 x262000_63 x262001_63 x263000_63 x263001_63 = some (r1, r2, r3, r4)) ∧ Aside0 (kq ≤ kj63) ∧ Aside0 (wc.heap[gb261]? = some (.cells #[.int .i64 x262000_63, .int .i64 x262001_63] 23 (0, 0))) ∧ Aside0 (wc.heap[gb262]? = some (.cells #[.int .i64 x263000_63, .int .i64 x263001_63] 23 (0, 0))) ∧ Aside0 (wc.heap[gb263]? = some (.cells #[.int .i64 0, .int .i64 0] 23 (0, 0))) ∧ Aside0 (wc.heap[gb264]? = some (.cells #[.int .i64 0, .int .i64 0] 23 (0, 0))) ∧ Aside0 (wc.heap[gb275]? = some (.cells #[.int .i64 x276000_63, .int .i64 x276001_63] 23 (0, 0))) ∧ Aside0 (wc.heap[gb276]? = some (.cells #[.int .i64 x277000_63, .int .i64 x277001_63] 23 (0, 0))) ∧ Aside0 (Below w.heap.size w wc))
           case first =>
            have H := HC121.out
            clear HC121
            by_cases c122 : x0_63 = 16
            ·
             rw [if_pos c122] at H
             have c122b0 : (x0_63 == 16) = true := beq_iff_eq.mpr c122
             have c122b1 : (x0_63 != 16) = false := bne_eq_false_iff_eq.mpr c122
             clear c122
             (first | rw [c122b0] | (simp only [i64_w, i32_w]; rw [c122b0]) | skip)
             have H' := Aside0.mk H
             clear H
             go_wp2
             go_meet
             case rel => exact ⟨_, (1), (by first | rfl | (simp; done) | (simp [*]; done)), H', ⟨by have := HJ5.out; have := HJ24.out; have := HJ63.out; first | omega | exact Nat.le_refl _⟩, pkA BK261, pkA BK262, pkA BK263, pkA BK264, pkA BK275, pkA BK276, bpk HB⟩
            ·
             rw [if_neg c122] at H
             have c122b0 : (x0_63 == 16) = false := beq_eq_false_iff_ne.mpr c122
             have c122b1 : (x0_63 != 16) = true := bne_iff_ne.mpr c122
             (first | rw [c122b0] | (simp only [i64_w, i32_w]; rw [c122b0]) | skip)
             have H' := Aside0.mk H
             clear H
             go_wp2
             go_meet
             case rel => exact ⟨_, (0), (by first | rfl | (simp; done) | (simp [*]; done)), H', ⟨by have := HJ5.out; have := HJ24.out; have := HJ63.out; first | omega | exact Nat.le_refl _⟩, pkA BK261, pkA BK262, pkA BK263, pkA BK264, pkA BK275, pkA BK276, bpk HB⟩
           case rest =>
            clear HC121
            try clear c1
            try clear c2
            try clear p2
            try clear c6
            try clear c7
            try clear c8
            try clear c9
            try clear c10
            try clear c11
            try clear c12
            try clear c28
            try clear c64
            try clear c65
            try clear c65b0
            try clear c65b1
            try clear c67
            try clear c68
            try clear c69
            try clear c70
            try clear c71
            try clear c73
            try clear c74
            try clear c75
            try clear c76
            try clear c79
            try clear c80
            try clear c81
            try clear c83
            try clear c84
            try clear c86
            try clear c86b0
            try clear c86b1
            try clear c97
            try clear c97b0
            try clear c97b1
            try clear c98
            try clear c99
            try clear c100
            try clear c101
            try clear c102
            try clear c104
            try clear c105
            try clear c106
            try clear c107
            try clear c109
            try clear c109b0
            try clear c109b1
            try clear c110
            try clear c111
            try clear c112
            try clear c113
            try clear c114
            try clear c116
            try clear c117
            try clear c118
            try clear c119
            try clear c122
            try clear c122b0
            try clear c122b1
            try clear hcz103_0
            try clear hcz103_1
            try clear hcz108_0
            try clear hcz108_1
            try clear hcz115_0
            try clear hcz115_1
            try clear hcz120_0
            try clear hcz120_1
            try clear hcz72_0
            try clear hcz72_1
            try clear hcz77_0
            try clear hcz77_1
            try clear hcz82_0
            try clear hcz82_1
            try clear hcz85_0
            try clear hcz85_1
            try clear hfz103_0
            try clear hfz103_1
            try clear hfz108_0
            try clear hfz108_1
            try clear hfz115_0
            try clear hfz115_1
            try clear hfz120_0
            try clear hfz120_1
            try clear hfz72_0
            try clear hfz72_1
            try clear hfz77_0
            try clear hfz77_1
            try clear hfz82_0
            try clear hfz82_1
            try clear hfz85_0
            try clear hfz85_1
            try clear p2
            obtain ⟨kq, x11_120, rfl, HA, HJ120, BK261, BK262, BK263, BK264, BK275, BK276, HB⟩ := hcut
            cases kq with
            | zero => exact absurd HA.out (by simp [itv_Test.j3])
            | succ kj120 =>
             have H := HA.out
             clear HA
             simp only [itv_Test.j3] at H
             have HC123 := Aside0.mk H
             clear H
             try go_wp2
             have n0_ := Aside0.mk (blk_drew BK261.out)
             have n1_ := Aside0.mk (blk_drew BK262.out)
             have n2_ := Aside0.mk (blk_drew BK263.out)
             have n3_ := Aside0.mk (blk_drew BK264.out)
             have n4_ := Aside0.mk (blk_drew BK275.out)
             have n5_ := Aside0.mk (blk_drew BK276.out)
             have n6_ := Aside0.mk (below_drew1 HB.out)
             clear BK261
             clear BK262
             clear BK263
             clear BK264
             clear BK275
             clear BK276
             clear HB
             have BK261 := n0_
             have BK262 := n1_
             have BK263 := n2_
             have BK264 := n3_
             have BK275 := n4_
             have BK276 := n5_
             have HB := n6_
             clear n0_ n1_ n2_ n3_ n4_ n5_ n6_
             refine start_ (n := 4) (S := fun w' => w'.cell? ⟨gb261, 0, none⟩ = some (.int .i64 x262000_63) ∧ w'.cell? ⟨gb261, 1, none⟩ = some (.int .i64 x262001_63) ∧ w'.cell? ⟨gb262, 0, none⟩ = some (.int .i64 x263000_63) ∧ w'.cell? ⟨gb262, 1, none⟩ = some (.int .i64 x263001_63)) (ds := []) #[false, false, false, false] (by kernel_rfl) rfl rfl ⟨hcz BK261 0, hcz BK261 1, hcz BK262 0, hcz BK262 1⟩ (fun hHeld => ?_)
             generalize wc.drew = w124 at BK261 BK262 BK263 BK264 BK275 BK276 HB hHeld ⊢
             refine take_ (i := 0) (N := some 59) (v := ?_) (a' := ?_) #[true, false, false, false] rfl rfl (by kernel_rfl) (fun _ _ _ h => h) (Or.inl ⟨by rfl, ?_⟩) hHeld ?_ ?_
             rotate_left
             ·
              rintro w' ⟨s0, s1, s2, s3⟩
              go_simp
              with_reducible rfl
             rotate_left
             ·
              simp only [Act.put, List.setIfInBounds_toArray, List.set_cons_zero, List.set_cons_succ, i64_w, i32_w]
              rfl
             refine take_ (i := 1) (N := some 60) (v := ?_) (a' := ?_) #[true, true, false, false] rfl rfl (by kernel_rfl) (fun _ _ _ h => h) (Or.inl ⟨by rfl, ?_⟩) hHeld ?_ ?_
             rotate_left
             ·
              rintro w' ⟨s0, s1, s2, s3⟩
              go_simp
              with_reducible rfl
             rotate_left
             ·
              simp only [Act.put, List.setIfInBounds_toArray, List.set_cons_zero, List.set_cons_succ, i64_w, i32_w]
              rfl
             refine one_ (i := 2) (N := none) #[true, true, true, false] rfl rfl (by kernel_rfl) (by decide) (fun K hK => ?_)
             have hs125 : w124.cell? ⟨gb275, 0, none⟩ = some (.int .i64 x276000_63) := hcz BK275 0
             have hfs125 := blk_frozen BK275.out 0
             have hns125_0 := NB261_275.out
             have hns125_1 := NB262_275.out
             have hns125_2 := NB263_275.out
             have hns125_3 := NB264_275.out
             have hns125_5 := NB276_275.out
             have hms125_0 := NB275_261.out
             have hms125_1 := NB275_262.out
             have hms125_2 := NB275_263.out
             have hms125_3 := NB275_264.out
             have hms125_5 := NB275_276.out
             have hs126 : w124.cell? ⟨gb275, 1, none⟩ = some (.int .i64 x276001_63) := hcz BK275 1
             have hfs126 := blk_frozen BK275.out 1
             have hns126_0 := NB261_275.out
             have hns126_1 := NB262_275.out
             have hns126_2 := NB263_275.out
             have hns126_3 := NB264_275.out
             have hns126_5 := NB276_275.out
             have hms126_0 := NB275_261.out
             have hms126_1 := NB275_262.out
             have hms126_2 := NB275_263.out
             have hms126_3 := NB275_264.out
             have hms126_5 := NB275_276.out
             refine skip_ (w1 := ?_) (by rfl) rfl ?_ ?_
             rotate_left
             ·
              go_simp
              rfl
             refine hK.out _ _ ⟨((cell_far (p := ⟨gb275, _, none⟩) NB261_275.out _).trans (((cell_far (p := ⟨gb275, _, none⟩) NB261_275.out _).trans (hHeld.1)))), ((cell_far (p := ⟨gb275, _, none⟩) NB261_275.out _).trans (((cell_far (p := ⟨gb275, _, none⟩) NB261_275.out _).trans (hHeld.2.1)))), ((cell_far (p := ⟨gb275, _, none⟩) NB262_275.out _).trans (((cell_far (p := ⟨gb275, _, none⟩) NB262_275.out _).trans (hHeld.2.2.1)))), ((cell_far (p := ⟨gb275, _, none⟩) NB262_275.out _).trans (((cell_far (p := ⟨gb275, _, none⟩) NB262_275.out _).trans (hHeld.2.2.2))))⟩ (fun hHeld => ?_)
             clear hK K
             refine one_ (i := 3) (N := none) #[true, true, true, true] rfl rfl (by kernel_rfl) (by decide) (fun K hK => ?_)
             have hs127 : w124.cell? ⟨gb276, 0, none⟩ = some (.int .i64 x277000_63) := hcz BK276 0
             have hfs127 := blk_frozen BK276.out 0
             have hns127_0 := NB261_276.out
             have hns127_1 := NB262_276.out
             have hns127_2 := NB263_276.out
             have hns127_3 := NB264_276.out
             have hns127_4 := NB275_276.out
             have hms127_0 := NB276_261.out
             have hms127_1 := NB276_262.out
             have hms127_2 := NB276_263.out
             have hms127_3 := NB276_264.out
             have hms127_4 := NB276_275.out
             have hs128 : w124.cell? ⟨gb276, 1, none⟩ = some (.int .i64 x277001_63) := hcz BK276 1
             have hfs128 := blk_frozen BK276.out 1
             have hns128_0 := NB261_276.out
             have hns128_1 := NB262_276.out
             have hns128_2 := NB263_276.out
             have hns128_3 := NB264_276.out
             have hns128_4 := NB275_276.out
             have hms128_0 := NB276_261.out
             have hms128_1 := NB276_262.out
             have hms128_2 := NB276_263.out
             have hms128_3 := NB276_264.out
             have hms128_4 := NB276_275.out
             refine skip_ (w1 := ?_) (by rfl) rfl ?_ ?_
             rotate_left
             ·
              go_simp
              rfl
             refine hK.out _ _ ⟨((cell_far (p := ⟨gb276, _, none⟩) NB261_276.out _).trans (((cell_far (p := ⟨gb276, _, none⟩) NB261_276.out _).trans (hHeld.1)))), ((cell_far (p := ⟨gb276, _, none⟩) NB261_276.out _).trans (((cell_far (p := ⟨gb276, _, none⟩) NB261_276.out _).trans (hHeld.2.1)))), ((cell_far (p := ⟨gb276, _, none⟩) NB262_276.out _).trans (((cell_far (p := ⟨gb276, _, none⟩) NB262_276.out _).trans (hHeld.2.2.1)))), ((cell_far (p := ⟨gb276, _, none⟩) NB262_276.out _).trans (((cell_far (p := ⟨gb276, _, none⟩) NB262_276.out _).trans (hHeld.2.2.2))))⟩ (fun hHeld => ?_)
             clear hK K
             refine done_ (by kernel_rfl) ?_
             have hnb129 := NB262_261.out
             have hnc129 := NB261_262.out
             have hnb130 := NB262_263.out
             have hnc130 := NB263_262.out
             have hnb131 := NB262_264.out
             have hnc131 := NB264_262.out
             have hnb132 := NB262_275.out
             have hnc132 := NB275_262.out
             have hnb133 := NB262_276.out
             have hnc133 := NB276_262.out
             have hcz134_0 := hcz BK262 0
             have hcz134_1 := hcz BK262 1
             have hfz134_0 := blk_frozen BK262.out 0
             have hfz134_1 := blk_frozen BK262.out 1
             go_upto_if 63 with (fail)
             go_cut [] (fun wc => ∃ (kq : Nat) (x276000_122 : Int) (x276001_122 : Int), Aside0 (itv_Test.j4 kq x10_63 x11_120 x262000_63 x262001_63 x263000_63 x263001_63 x276000_122 x276001_122 x263000_63 x263001_63 = some (r1, r2, r3, r4)) ∧ Aside0 (kq ≤ kj120) ∧ Aside0 (wc.heap[gb261]? = some (.cells #[.int .i64 x262000_63, .int .i64 x262001_63] 23 (0, 0))) ∧ Aside0 (wc.heap[gb262]? = some (.cells #[.int .i64 x263000_63, .int .i64 x263001_63] 23 (0, 0))) ∧ Aside0 (wc.heap[gb263]? = some (.cells #[.int .i64 0, .int .i64 0] 23 (0, 0))) ∧ Aside0 (wc.heap[gb264]? = some (.cells #[.int .i64 0, .int .i64 0] 23 (0, 0))) ∧ Aside0 (wc.heap[gb275]? = some (.cells #[.int .i64 x276000_122, .int .i64 x276001_122] 23 (0, 0))) ∧ Aside0 (wc.heap[gb276]? = some (.cells #[.int .i64 x263000_63, .int .i64 x263001_63] 23 (0, 0))) ∧ Aside0 (Below w.heap.size w wc))
             case first =>
              have H := HC123.out
              clear HC123
              by_cases c135 : x263001_63 < 4611686018427387904
              ·
               rw [if_pos c135] at H
               have c135b0 : decide (x263001_63 < 4611686018427387904) = true := decide_eq_true c135
               clear c135
               (first | rw [c135b0] | (simp only [i64_w, i32_w]; rw [c135b0]) | skip)
               replace H := Option.bind_eq_some_iff.mp H
               obtain ⟨⟨t283, t284⟩, A1360, H⟩ := H
               replace H : (itv_Test.j4 kj120 x10_63 x11_120 x262000_63 x262001_63 x263000_63 x263001_63 t283 t284 x263000_63 x263001_63) = some (r1, r2, r3, r4) := H
               have A136 := Aside0.mk A1360
               clear A1360
               have H' := Aside0.mk H
               clear H
               have hnb137 := NB261_262.out
               have hnc137 := NB262_261.out
               have hnb138 := NB261_263.out
               have hnc138 := NB263_261.out
               have hnb139 := NB261_264.out
               have hnc139 := NB264_261.out
               have hnb140 := NB261_275.out
               have hnc140 := NB275_261.out
               have hnb141 := NB261_276.out
               have hnc141 := NB276_261.out
               have hcz142_0 := hcz BK261 0
               have hcz142_1 := hcz BK261 1
               have hfz142_0 := blk_frozen BK261.out 0
               have hfz142_1 := blk_frozen BK261.out 1
               have hnb143 := NB262_263.out
               have hnc143 := NB263_262.out
               have hnb144 := NB262_264.out
               have hnc144 := NB264_262.out
               have hnb145 := NB262_275.out
               have hnc145 := NB275_262.out
               have hnb146 := NB262_276.out
               have hnc146 := NB276_262.out
               have hcz147_0 := hcz BK262 0
               have hcz147_1 := hcz BK262 1
               have hfz147_0 := blk_frozen BK262.out 0
               have hfz147_1 := blk_frozen BK262.out 1
               go_wp2_with (first | ((with_reducible refine gate_callee (f := 65) rfl ?_); refine goesL_ (some 69) rfl rfl Try.func65 (by kernel_rfl) rfl #[.agg #[.int .i64 x262000_63, .int .i64 x262001_63], .int .i64 (wrap64 (x263001_63 - x11_120))] rfl (by (try simp only [List.map_toArray, List.map_cons, List.map_nil]); first | done | rfl | (simp only [List.length_drop, List.length_take]; rfl)) ?_; (with_reducible refine (itv_upTo.calls kj120 x262000_63 x262001_63 (wrap64 (x263001_63 - x11_120)) t283 t284 _ A136.out).mono ?_); rintro e w148 ⟨rfl, hb⟩; refine ⟨_, rfl, ?_⟩; have n0_ := Aside0.mk (blk_below (g := gb261) (o := .cells #[.int .i64 x262000_63, .int .i64 x262001_63] 23 (0, 0)) (by refine pkB ?_; refine blk_far ?_ NB261_276.out _; refine pkB ?_; refine blk_far ?_ NB261_276.out _; refine pkB ?_; refine blk_far ?_ NB261_275.out _; refine pkB ?_; refine blk_far ?_ NB261_275.out _; refine pkB ?_; exact BK261.out) hb); have n1_ := Aside0.mk (blk_below (g := gb262) (o := .cells #[.int .i64 x263000_63, .int .i64 x263001_63] 23 (0, 0)) (by refine pkB ?_; refine blk_far ?_ NB262_276.out _; refine pkB ?_; refine blk_far ?_ NB262_276.out _; refine pkB ?_; refine blk_far ?_ NB262_275.out _; refine pkB ?_; refine blk_far ?_ NB262_275.out _; refine pkB ?_; exact BK262.out) hb); have n2_ := Aside0.mk (blk_below (g := gb263) (o := .cells #[.int .i64 0, .int .i64 0] 23 (0, 0)) (by refine pkB ?_; refine blk_far ?_ NB263_276.out _; refine pkB ?_; refine blk_far ?_ NB263_276.out _; refine pkB ?_; refine blk_far ?_ NB263_275.out _; refine pkB ?_; refine blk_far ?_ NB263_275.out _; refine pkB ?_; exact BK263.out) hb); have n3_ := Aside0.mk (blk_below (g := gb264) (o := .cells #[.int .i64 0, .int .i64 0] 23 (0, 0)) (by refine pkB ?_; refine blk_far ?_ NB264_276.out _; refine pkB ?_; refine blk_far ?_ NB264_276.out _; refine pkB ?_; refine blk_far ?_ NB264_275.out _; refine pkB ?_; refine blk_far ?_ NB264_275.out _; refine pkB ?_; exact BK264.out) hb); have n4_ := Aside0.mk (blk_below (g := gb275) (o := .cells #[.int .i64 x262000_63, .int .i64 x262001_63] 23 (0, 0)) (by refine pkB ?_; refine blk_far ?_ NB275_276.out _; refine pkB ?_; refine blk_far ?_ NB275_276.out _; refine pkB ?_; refine blk_put (cs := #[.int .i64 x262000_63, .int .i64 x276001_63]) ?_ 1 _ (by first | rfl | (subst_vars; rfl)); refine pkB ?_; refine blk_put (cs := #[.int .i64 x276000_63, .int .i64 x276001_63]) ?_ 0 _ (by first | rfl | (subst_vars; rfl)); refine pkB ?_; exact BK275.out) hb); have n5_ := Aside0.mk (blk_below (g := gb276) (o := .cells #[.int .i64 x263000_63, .int .i64 x263001_63] 23 (0, 0)) (by refine pkB ?_; refine blk_put (cs := #[.int .i64 x263000_63, .int .i64 x277001_63]) ?_ 1 _ (by first | rfl | (subst_vars; rfl)); refine pkB ?_; refine blk_put (cs := #[.int .i64 x277000_63, .int .i64 x277001_63]) ?_ 0 _ (by first | rfl | (subst_vars; rfl)); refine pkB ?_; refine blk_far ?_ NB276_275.out _; refine pkB ?_; refine blk_far ?_ NB276_275.out _; refine pkB ?_; exact BK276.out) hb); have n6_ := bst HB hb; clear BK261; clear BK262; clear BK263; clear BK264; clear BK275; clear BK276; clear HB; have BK261 := n0_; have BK262 := n1_; have BK263 := n2_; have BK264 := n3_; have BK275 := n4_; have BK276 := n5_; have HB := n6_; clear n0_ n1_ n2_ n3_ n4_ n5_ n6_; (try clear hb); (try clear hb2); (try clear hk); (try clear hi); have hnb149 := NB275_263.out; have hnc149 := NB263_275.out; have hnb150 := NB275_264.out; have hnc150 := NB264_275.out; have hnb151 := NB275_276.out; have hnc151 := NB276_275.out; have hcz152_0 := hcz BK275 0; have hcz152_1 := hcz BK275 1; have hfz152_0 := blk_frozen BK275.out 0; have hfz152_1 := blk_frozen BK275.out 1))
               go_meet
               case rel => exact ⟨_, (t283), (t284), H', ⟨by have := HJ5.out; have := HJ24.out; have := HJ63.out; have := HJ120.out; first | omega | exact Nat.le_refl _⟩, far2 BK261 NB261_275, far2 BK262 NB262_275, far2 BK263 NB263_275, far2 BK264 NB264_275, ⟨by refine pkB ?_; refine blk_put (cs := #[.int .i64 t283, .int .i64 x262001_63]) ?_ 1 _ (by first | rfl | (subst_vars; rfl)); refine pkB ?_; refine blk_put (cs := #[.int .i64 x262000_63, .int .i64 x262001_63]) ?_ 0 _ (by first | rfl | (subst_vars; rfl)); refine pkB ?_; exact BK275.out⟩, far2 BK276 NB276_275, bpk HB⟩
              ·
               rw [if_neg c135] at H
               have c135b0 : decide (x263001_63 < 4611686018427387904) = false := decide_eq_false c135
               clear c135
               (first | rw [c135b0] | (simp only [i64_w, i32_w]; rw [c135b0]) | skip)
               have H' := Aside0.mk H
               clear H
               go_wp2
               go_meet
               case rel => exact ⟨_, (x262000_63), (x262001_63), H', ⟨by have := HJ5.out; have := HJ24.out; have := HJ63.out; have := HJ120.out; first | omega | exact Nat.le_refl _⟩, ⟨by refine pkB ?_; refine blk_far ?_ NB261_276.out _; refine pkB ?_; refine blk_far ?_ NB261_276.out _; refine pkB ?_; refine blk_far ?_ NB261_275.out _; refine pkB ?_; refine blk_far ?_ NB261_275.out _; refine pkB ?_; exact BK261.out⟩, ⟨by refine pkB ?_; refine blk_far ?_ NB262_276.out _; refine pkB ?_; refine blk_far ?_ NB262_276.out _; refine pkB ?_; refine blk_far ?_ NB262_275.out _; refine pkB ?_; refine blk_far ?_ NB262_275.out _; refine pkB ?_; exact BK262.out⟩, ⟨by refine pkB ?_; refine blk_far ?_ NB263_276.out _; refine pkB ?_; refine blk_far ?_ NB263_276.out _; refine pkB ?_; refine blk_far ?_ NB263_275.out _; refine pkB ?_; refine blk_far ?_ NB263_275.out _; refine pkB ?_; exact BK263.out⟩, ⟨by refine pkB ?_; refine blk_far ?_ NB264_276.out _; refine pkB ?_; refine blk_far ?_ NB264_276.out _; refine pkB ?_; refine blk_far ?_ NB264_275.out _; refine pkB ?_; refine blk_far ?_ NB264_275.out _; refine pkB ?_; exact BK264.out⟩, ⟨by refine pkB ?_; refine blk_far ?_ NB275_276.out _; refine pkB ?_; refine blk_far ?_ NB275_276.out _; refine pkB ?_; refine blk_put (cs := #[.int .i64 x262000_63, .int .i64 x276001_63]) ?_ 1 _ (by first | rfl | (subst_vars; rfl)); refine pkB ?_; refine blk_put (cs := #[.int .i64 x276000_63, .int .i64 x276001_63]) ?_ 0 _ (by first | rfl | (subst_vars; rfl)); refine pkB ?_; exact BK275.out⟩, ⟨by refine pkB ?_; refine blk_put (cs := #[.int .i64 x263000_63, .int .i64 x277001_63]) ?_ 1 _ (by first | rfl | (subst_vars; rfl)); refine pkB ?_; refine blk_put (cs := #[.int .i64 x277000_63, .int .i64 x277001_63]) ?_ 0 _ (by first | rfl | (subst_vars; rfl)); refine pkB ?_; refine blk_far ?_ NB276_275.out _; refine pkB ?_; refine blk_far ?_ NB276_275.out _; refine pkB ?_; exact BK276.out⟩, bpk HB⟩
             case rest =>
              clear HC123
              try clear c1
              try clear c2
              try clear p2
              try clear c6
              try clear p6
              try clear c7
              try clear c8
              try clear c9
              try clear c10
              try clear c11
              try clear c12
              try clear c13
              try clear c14
              try clear c15
              try clear c28
              try clear c64
              try clear p64
              try clear c65
              try clear c65b0
              try clear c65b1
              try clear c67
              try clear c68
              try clear c69
              try clear c70
              try clear c71
              try clear c73
              try clear c74
              try clear c75
              try clear c76
              try clear c79
              try clear c80
              try clear c81
              try clear c83
              try clear c84
              try clear c86
              try clear c86b0
              try clear c86b1
              try clear c97
              try clear c97b0
              try clear c97b1
              try clear c98
              try clear c99
              try clear c100
              try clear c101
              try clear c102
              try clear c104
              try clear c105
              try clear c106
              try clear c107
              try clear c109
              try clear c109b0
              try clear c109b1
              try clear c110
              try clear c111
              try clear c112
              try clear c113
              try clear c114
              try clear c116
              try clear c117
              try clear c118
              try clear c119
              try clear c122
              try clear c122b0
              try clear c122b1
              try clear c129
              try clear c130
              try clear c131
              try clear c132
              try clear c133
              try clear c135
              try clear c135b0
              try clear c137
              try clear c138
              try clear c139
              try clear c140
              try clear c141
              try clear c143
              try clear c144
              try clear c145
              try clear c146
              try clear c149
              try clear c150
              try clear c151
              try clear hcz103_0
              try clear hcz103_1
              try clear hcz108_0
              try clear hcz108_1
              try clear hcz115_0
              try clear hcz115_1
              try clear hcz120_0
              try clear hcz120_1
              try clear hcz134_0
              try clear hcz134_1
              try clear hcz142_0
              try clear hcz142_1
              try clear hcz147_0
              try clear hcz147_1
              try clear hcz152_0
              try clear hcz152_1
              try clear hcz72_0
              try clear hcz72_1
              try clear hcz77_0
              try clear hcz77_1
              try clear hcz82_0
              try clear hcz82_1
              try clear hcz85_0
              try clear hcz85_1
              try clear hfz103_0
              try clear hfz103_1
              try clear hfz108_0
              try clear hfz108_1
              try clear hfz115_0
              try clear hfz115_1
              try clear hfz120_0
              try clear hfz120_1
              try clear hfz134_0
              try clear hfz134_1
              try clear hfz142_0
              try clear hfz142_1
              try clear hfz147_0
              try clear hfz147_1
              try clear hfz152_0
              try clear hfz152_1
              try clear hfz72_0
              try clear hfz72_1
              try clear hfz77_0
              try clear hfz77_1
              try clear hfz82_0
              try clear hfz82_1
              try clear hfz85_0
              try clear hfz85_1
              try clear p2
              obtain ⟨kq, x276000_122, x276001_122, HA, HJ122, BK261, BK262, BK263, BK264, BK275, BK276, HB⟩ := hcut
              cases kq with
              | zero => exact absurd HA.out (by simp [itv_Test.j4])
              | succ kj122 =>
               have H := HA.out
               clear HA
               simp only [itv_Test.j4] at H
               by_cases c153 : x262000_63 > (-4611686018427387904)
               ·
                rw [if_pos c153] at H
                have c153b0 : decide ((-4611686018427387904) < x262000_63) = true := decide_eq_true c153
                clear c153
                replace H := Option.bind_eq_some_iff.mp H
                obtain ⟨⟨t285, t286⟩, A1540, H⟩ := H
                replace H : (if x10_63 = true then (itv_Test.j5 kj122 t285 t286 x276000_122 x276001_122) else (itv_Test.j5 kj122 x276000_122 x276001_122 t285 t286)) = some (r1, r2, r3, r4) := H
                have A154 := Aside0.mk A1540
                clear A1540
                by_cases c155 : x10_63 = true
                ·
                 subst c155
                 have H1 : (itv_Test.j5 kj122 t285 t286 x276000_122 x276001_122) = some (r1, r2, r3, r4) := by rw [if_pos rfl] at H; exact H
                 clear H
                 have H := H1
                 clear H1
                 have H' := Aside0.mk H
                 clear H
                 have hnb156 := NB261_262.out
                 have hnc156 := NB262_261.out
                 have hnb157 := NB261_263.out
                 have hnc157 := NB263_261.out
                 have hnb158 := NB261_264.out
                 have hnc158 := NB264_261.out
                 have hnb159 := NB261_275.out
                 have hnc159 := NB275_261.out
                 have hnb160 := NB261_276.out
                 have hnc160 := NB276_261.out
                 have hcz161_0 := hcz BK261 0
                 have hcz161_1 := hcz BK261 1
                 have hfz161_0 := blk_frozen BK261.out 0
                 have hfz161_1 := blk_frozen BK261.out 1
                 have hnb162 := NB262_263.out
                 have hnc162 := NB263_262.out
                 have hnb163 := NB262_264.out
                 have hnc163 := NB264_262.out
                 have hnb164 := NB262_275.out
                 have hnc164 := NB275_262.out
                 have hnb165 := NB262_276.out
                 have hnc165 := NB276_262.out
                 have hcz166_0 := hcz BK262 0
                 have hcz166_1 := hcz BK262 1
                 have hfz166_0 := blk_frozen BK262.out 0
                 have hfz166_1 := blk_frozen BK262.out 1
                 go_wp2_with (first | ((with_reducible refine gate_callee (f := 66) rfl ?_); refine goesL_ (some 78) rfl rfl Try.func66 (by kernel_rfl) rfl #[.agg #[.int .i64 x263000_63, .int .i64 x263001_63], .int .i64 (wrap64 (x262000_63 + x11_120))] rfl (by (try simp only [List.map_toArray, List.map_cons, List.map_nil]); first | done | rfl | (simp only [List.length_drop, List.length_take]; rfl)) ?_; (with_reducible refine (itv_from.calls kj122 x263000_63 x263001_63 (wrap64 (x262000_63 + x11_120)) t285 t286 _ A154.out).mono ?_); rintro e w167 ⟨rfl, hb⟩; refine ⟨_, rfl, ?_⟩; have n0_ := bst HB hb; replace BK261 := bbw BK261 hb; replace BK262 := bbw BK262 hb; replace BK263 := bbw BK263 hb; replace BK264 := bbw BK264 hb; replace BK275 := bbw BK275 hb; replace BK276 := bbw BK276 hb; clear HB; have HB := n0_; clear n0_; (try clear hb); (try clear hb2); (try clear hk); (try clear hi); have hnb168 := NB276_263.out; have hnc168 := NB263_276.out; have hnb169 := NB276_264.out; have hnc169 := NB264_276.out; have hnb170 := NB276_275.out; have hnc170 := NB275_276.out; have hcz171_0 := hcz BK276 0; have hcz171_1 := hcz BK276 1; have hfz171_0 := blk_frozen BK276.out 0; have hfz171_1 := blk_frozen BK276.out 1; have hnb172 := NB275_263.out; have hnc172 := NB263_275.out; have hnb173 := NB275_264.out; have hnc173 := NB264_275.out; have hcz174_0 := hcz BK275 0; have hcz174_1 := hcz BK275 1; have hfz174_0 := blk_frozen BK275.out 0; have hfz174_1 := blk_frozen BK275.out 1))
                 go_meet
                 case rel => exact ⟨_, (x262000_63), (x262001_63), (x263000_63), (x263001_63), (t285), (t286), (x276000_122), (x276001_122), H', ⟨by have := HJ5.out; have := HJ24.out; have := HJ63.out; have := HJ120.out; have := HJ122.out; first | omega | exact Nat.le_refl _⟩, ⟨by refine pkB ?_; refine blk_far ?_ NB261_276.out _; refine pkB ?_; refine blk_far ?_ NB261_276.out _; refine pkB ?_; refine blk_far ?_ NB261_275.out _; refine pkB ?_; refine blk_far ?_ NB261_275.out _; refine pkB ?_; refine blk_far ?_ NB261_276.out _; refine pkB ?_; refine blk_far ?_ NB261_276.out _; refine pkB ?_; exact BK261.out⟩, ⟨by refine pkB ?_; refine blk_far ?_ NB262_276.out _; refine pkB ?_; refine blk_far ?_ NB262_276.out _; refine pkB ?_; refine blk_far ?_ NB262_275.out _; refine pkB ?_; refine blk_far ?_ NB262_275.out _; refine pkB ?_; refine blk_far ?_ NB262_276.out _; refine pkB ?_; refine blk_far ?_ NB262_276.out _; refine pkB ?_; exact BK262.out⟩, ⟨by refine pkB ?_; refine blk_far ?_ NB263_276.out _; refine pkB ?_; refine blk_far ?_ NB263_276.out _; refine pkB ?_; refine blk_far ?_ NB263_275.out _; refine pkB ?_; refine blk_far ?_ NB263_275.out _; refine pkB ?_; refine blk_far ?_ NB263_276.out _; refine pkB ?_; refine blk_far ?_ NB263_276.out _; refine pkB ?_; exact BK263.out⟩, ⟨by refine pkB ?_; refine blk_far ?_ NB264_276.out _; refine pkB ?_; refine blk_far ?_ NB264_276.out _; refine pkB ?_; refine blk_far ?_ NB264_275.out _; refine pkB ?_; refine blk_far ?_ NB264_275.out _; refine pkB ?_; refine blk_far ?_ NB264_276.out _; refine pkB ?_; refine blk_far ?_ NB264_276.out _; refine pkB ?_; exact BK264.out⟩, ⟨by refine pkB ?_; refine blk_far ?_ NB275_276.out _; refine pkB ?_; refine blk_far ?_ NB275_276.out _; refine pkB ?_; refine blk_put (cs := #[.int .i64 t285, .int .i64 x276001_122]) ?_ 1 _ (by first | rfl | (subst_vars; rfl)); refine pkB ?_; refine blk_put (cs := #[.int .i64 x276000_122, .int .i64 x276001_122]) ?_ 0 _ (by first | rfl | (subst_vars; rfl)); refine pkB ?_; refine blk_far ?_ NB275_276.out _; refine pkB ?_; refine blk_far ?_ NB275_276.out _; refine pkB ?_; exact BK275.out⟩, ⟨by refine pkB ?_; refine blk_put (cs := #[.int .i64 x276000_122, .int .i64 t286]) ?_ 1 _ (by first | rfl | (subst_vars; rfl)); refine pkB ?_; refine blk_put (cs := #[.int .i64 t285, .int .i64 t286]) ?_ 0 _ (by first | rfl | (subst_vars; rfl)); refine pkB ?_; refine blk_far ?_ NB276_275.out _; refine pkB ?_; refine blk_far ?_ NB276_275.out _; refine pkB ?_; refine blk_put (cs := #[.int .i64 t285, .int .i64 x263001_63]) ?_ 1 _ (by first | rfl | (subst_vars; rfl)); refine pkB ?_; refine blk_put (cs := #[.int .i64 x263000_63, .int .i64 x263001_63]) ?_ 0 _ (by first | rfl | (subst_vars; rfl)); refine pkB ?_; exact BK276.out⟩, bpk HB⟩
                ·
                 replace c155 := Bool.eq_false_iff.mpr c155
                 subst c155
                 have H1 : (itv_Test.j5 kj122 x276000_122 x276001_122 t285 t286) = some (r1, r2, r3, r4) := by rw [if_neg (show ¬ (false = true) by decide)] at H; exact H
                 clear H
                 have H := H1
                 clear H1
                 have H' := Aside0.mk H
                 clear H
                 have hnb175 := NB261_262.out
                 have hnc175 := NB262_261.out
                 have hnb176 := NB261_263.out
                 have hnc176 := NB263_261.out
                 have hnb177 := NB261_264.out
                 have hnc177 := NB264_261.out
                 have hnb178 := NB261_275.out
                 have hnc178 := NB275_261.out
                 have hnb179 := NB261_276.out
                 have hnc179 := NB276_261.out
                 have hcz180_0 := hcz BK261 0
                 have hcz180_1 := hcz BK261 1
                 have hfz180_0 := blk_frozen BK261.out 0
                 have hfz180_1 := blk_frozen BK261.out 1
                 have hnb181 := NB262_263.out
                 have hnc181 := NB263_262.out
                 have hnb182 := NB262_264.out
                 have hnc182 := NB264_262.out
                 have hnb183 := NB262_275.out
                 have hnc183 := NB275_262.out
                 have hnb184 := NB262_276.out
                 have hnc184 := NB276_262.out
                 have hcz185_0 := hcz BK262 0
                 have hcz185_1 := hcz BK262 1
                 have hfz185_0 := blk_frozen BK262.out 0
                 have hfz185_1 := blk_frozen BK262.out 1
                 go_wp2_with (first | ((with_reducible refine gate_callee (f := 66) rfl ?_); refine goesL_ (some 78) rfl rfl Try.func66 (by kernel_rfl) rfl #[.agg #[.int .i64 x263000_63, .int .i64 x263001_63], .int .i64 (wrap64 (x262000_63 + x11_120))] rfl (by (try simp only [List.map_toArray, List.map_cons, List.map_nil]); first | done | rfl | (simp only [List.length_drop, List.length_take]; rfl)) ?_; (with_reducible refine (itv_from.calls kj122 x263000_63 x263001_63 (wrap64 (x262000_63 + x11_120)) t285 t286 _ A154.out).mono ?_); rintro e w186 ⟨rfl, hb⟩; refine ⟨_, rfl, ?_⟩; have n0_ := bst HB hb; replace BK261 := bbw BK261 hb; replace BK262 := bbw BK262 hb; replace BK263 := bbw BK263 hb; replace BK264 := bbw BK264 hb; replace BK275 := bbw BK275 hb; replace BK276 := bbw BK276 hb; clear HB; have HB := n0_; clear n0_; (try clear hb); (try clear hb2); (try clear hk); (try clear hi); have hnb187 := NB276_263.out; have hnc187 := NB263_276.out; have hnb188 := NB276_264.out; have hnc188 := NB264_276.out; have hnb189 := NB276_275.out; have hnc189 := NB275_276.out; have hcz190_0 := hcz BK276 0; have hcz190_1 := hcz BK276 1; have hfz190_0 := blk_frozen BK276.out 0; have hfz190_1 := blk_frozen BK276.out 1))
                 go_meet
                 case rel => exact ⟨_, (x262000_63), (x262001_63), (x263000_63), (x263001_63), (x276000_122), (x276001_122), (t285), (t286), H', ⟨by have := HJ5.out; have := HJ24.out; have := HJ63.out; have := HJ120.out; have := HJ122.out; first | omega | exact Nat.le_refl _⟩, far2 BK261 NB261_276, far2 BK262 NB262_276, far2 BK263 NB263_276, far2 BK264 NB264_276, far2 BK275 NB275_276, ⟨by refine pkB ?_; refine blk_put (cs := #[.int .i64 t285, .int .i64 x263001_63]) ?_ 1 _ (by first | rfl | (subst_vars; rfl)); refine pkB ?_; refine blk_put (cs := #[.int .i64 x263000_63, .int .i64 x263001_63]) ?_ 0 _ (by first | rfl | (subst_vars; rfl)); refine pkB ?_; exact BK276.out⟩, bpk HB⟩
               ·
                rw [if_neg c153] at H
                have c153b0 : decide ((-4611686018427387904) < x262000_63) = false := decide_eq_false c153
                clear c153
                by_cases c191 : x10_63 = true
                ·
                 subst c191
                 have H1 : (itv_Test.j5 kj122 x263000_63 x263001_63 x276000_122 x276001_122) = some (r1, r2, r3, r4) := by rw [if_pos rfl] at H; exact H
                 clear H
                 have H := H1
                 clear H1
                 have H' := Aside0.mk H
                 clear H
                 have hnb192 := NB261_262.out
                 have hnc192 := NB262_261.out
                 have hnb193 := NB261_263.out
                 have hnc193 := NB263_261.out
                 have hnb194 := NB261_264.out
                 have hnc194 := NB264_261.out
                 have hnb195 := NB261_275.out
                 have hnc195 := NB275_261.out
                 have hnb196 := NB261_276.out
                 have hnc196 := NB276_261.out
                 have hcz197_0 := hcz BK261 0
                 have hcz197_1 := hcz BK261 1
                 have hfz197_0 := blk_frozen BK261.out 0
                 have hfz197_1 := blk_frozen BK261.out 1
                 have hnb198 := NB276_262.out
                 have hnc198 := NB262_276.out
                 have hnb199 := NB276_263.out
                 have hnc199 := NB263_276.out
                 have hnb200 := NB276_264.out
                 have hnc200 := NB264_276.out
                 have hnb201 := NB276_275.out
                 have hnc201 := NB275_276.out
                 have hcz202_0 := hcz BK276 0
                 have hcz202_1 := hcz BK276 1
                 have hfz202_0 := blk_frozen BK276.out 0
                 have hfz202_1 := blk_frozen BK276.out 1
                 have hnb203 := NB275_262.out
                 have hnc203 := NB262_275.out
                 have hnb204 := NB275_263.out
                 have hnc204 := NB263_275.out
                 have hnb205 := NB275_264.out
                 have hnc205 := NB264_275.out
                 have hcz206_0 := hcz BK275 0
                 have hcz206_1 := hcz BK275 1
                 have hfz206_0 := blk_frozen BK275.out 0
                 have hfz206_1 := blk_frozen BK275.out 1
                 go_wp2
                 go_meet
                 case rel => exact ⟨_, (x262000_63), (x262001_63), (x263000_63), (x263001_63), (x263000_63), (x263001_63), (x276000_122), (x276001_122), H', ⟨by have := HJ5.out; have := HJ24.out; have := HJ63.out; have := HJ120.out; have := HJ122.out; first | omega | exact Nat.le_refl _⟩, ⟨by refine pkB ?_; refine blk_far ?_ NB261_276.out _; refine pkB ?_; refine blk_far ?_ NB261_276.out _; refine pkB ?_; refine blk_far ?_ NB261_275.out _; refine pkB ?_; refine blk_far ?_ NB261_275.out _; refine pkB ?_; exact BK261.out⟩, ⟨by refine pkB ?_; refine blk_far ?_ NB262_276.out _; refine pkB ?_; refine blk_far ?_ NB262_276.out _; refine pkB ?_; refine blk_far ?_ NB262_275.out _; refine pkB ?_; refine blk_far ?_ NB262_275.out _; refine pkB ?_; exact BK262.out⟩, ⟨by refine pkB ?_; refine blk_far ?_ NB263_276.out _; refine pkB ?_; refine blk_far ?_ NB263_276.out _; refine pkB ?_; refine blk_far ?_ NB263_275.out _; refine pkB ?_; refine blk_far ?_ NB263_275.out _; refine pkB ?_; exact BK263.out⟩, ⟨by refine pkB ?_; refine blk_far ?_ NB264_276.out _; refine pkB ?_; refine blk_far ?_ NB264_276.out _; refine pkB ?_; refine blk_far ?_ NB264_275.out _; refine pkB ?_; refine blk_far ?_ NB264_275.out _; refine pkB ?_; exact BK264.out⟩, ⟨by refine pkB ?_; refine blk_far ?_ NB275_276.out _; refine pkB ?_; refine blk_far ?_ NB275_276.out _; refine pkB ?_; refine blk_put (cs := #[.int .i64 x263000_63, .int .i64 x276001_122]) ?_ 1 _ (by first | rfl | (subst_vars; rfl)); refine pkB ?_; refine blk_put (cs := #[.int .i64 x276000_122, .int .i64 x276001_122]) ?_ 0 _ (by first | rfl | (subst_vars; rfl)); refine pkB ?_; exact BK275.out⟩, ⟨by refine pkB ?_; refine blk_put (cs := #[.int .i64 x276000_122, .int .i64 x263001_63]) ?_ 1 _ (by first | rfl | (subst_vars; rfl)); refine pkB ?_; refine blk_put (cs := #[.int .i64 x263000_63, .int .i64 x263001_63]) ?_ 0 _ (by first | rfl | (subst_vars; rfl)); refine pkB ?_; refine blk_far ?_ NB276_275.out _; refine pkB ?_; refine blk_far ?_ NB276_275.out _; refine pkB ?_; exact BK276.out⟩, bpk HB⟩
                ·
                 replace c191 := Bool.eq_false_iff.mpr c191
                 subst c191
                 have H1 : (itv_Test.j5 kj122 x276000_122 x276001_122 x263000_63 x263001_63) = some (r1, r2, r3, r4) := by rw [if_neg (show ¬ (false = true) by decide)] at H; exact H
                 clear H
                 have H := H1
                 clear H1
                 have H' := Aside0.mk H
                 clear H
                 have hnb207 := NB261_262.out
                 have hnc207 := NB262_261.out
                 have hnb208 := NB261_263.out
                 have hnc208 := NB263_261.out
                 have hnb209 := NB261_264.out
                 have hnc209 := NB264_261.out
                 have hnb210 := NB261_275.out
                 have hnc210 := NB275_261.out
                 have hnb211 := NB261_276.out
                 have hnc211 := NB276_261.out
                 have hcz212_0 := hcz BK261 0
                 have hcz212_1 := hcz BK261 1
                 have hfz212_0 := blk_frozen BK261.out 0
                 have hfz212_1 := blk_frozen BK261.out 1
                 go_wp2
                 go_meet
                 case rel => exact ⟨_, (x262000_63), (x262001_63), (x263000_63), (x263001_63), (x276000_122), (x276001_122), (x263000_63), (x263001_63), H', ⟨by have := HJ5.out; have := HJ24.out; have := HJ63.out; have := HJ120.out; have := HJ122.out; first | omega | exact Nat.le_refl _⟩, pkA BK261, pkA BK262, pkA BK263, pkA BK264, pkA BK275, pkA BK276, bpk HB⟩
        case rest =>
         clear HC55
         try clear c1
         try clear c2
         try clear p2
         try clear c6
         try clear p6
         try clear c7
         try clear c8
         try clear c9
         try clear c10
         try clear c11
         try clear c12
         try clear c13
         try clear c14
         try clear c15
         try clear c16
         try clear c17
         try clear c18
         try clear c19
         try clear c20
         try clear c21
         try clear c28
         try clear c64
         try clear p64
         try clear c65
         try clear c65b0
         try clear c65b1
         try clear c66
         try clear c67
         try clear c68
         try clear c69
         try clear c70
         try clear c71
         try clear c73
         try clear c74
         try clear c75
         try clear c76
         try clear c79
         try clear c80
         try clear c81
         try clear c83
         try clear c84
         try clear c86
         try clear c86b0
         try clear c86b1
         try clear c97
         try clear c97b0
         try clear c97b1
         try clear c98
         try clear c99
         try clear c100
         try clear c101
         try clear c102
         try clear c104
         try clear c105
         try clear c106
         try clear c107
         try clear c109
         try clear c109b0
         try clear c109b1
         try clear c110
         try clear c111
         try clear c112
         try clear c113
         try clear c114
         try clear c116
         try clear c117
         try clear c118
         try clear c119
         try clear c122
         try clear c122b0
         try clear c122b1
         try clear c129
         try clear c130
         try clear c131
         try clear c132
         try clear c133
         try clear c135
         try clear c135b0
         try clear c137
         try clear c138
         try clear c139
         try clear c140
         try clear c141
         try clear c143
         try clear c144
         try clear c145
         try clear c146
         try clear c149
         try clear c150
         try clear c151
         try clear c153
         try clear c153b0
         try clear c155
         try clear c156
         try clear c157
         try clear c158
         try clear c159
         try clear c160
         try clear c162
         try clear c163
         try clear c164
         try clear c165
         try clear c168
         try clear c169
         try clear c170
         try clear c172
         try clear c173
         try clear c175
         try clear c176
         try clear c177
         try clear c178
         try clear c179
         try clear c181
         try clear c182
         try clear c183
         try clear c184
         try clear c187
         try clear c188
         try clear c189
         try clear c191
         try clear c192
         try clear c193
         try clear c194
         try clear c195
         try clear c196
         try clear c198
         try clear c199
         try clear c200
         try clear c201
         try clear c203
         try clear c204
         try clear c205
         try clear c207
         try clear c208
         try clear c209
         try clear c210
         try clear c211
         try clear hcz103_0
         try clear hcz103_1
         try clear hcz108_0
         try clear hcz108_1
         try clear hcz115_0
         try clear hcz115_1
         try clear hcz120_0
         try clear hcz120_1
         try clear hcz134_0
         try clear hcz134_1
         try clear hcz142_0
         try clear hcz142_1
         try clear hcz147_0
         try clear hcz147_1
         try clear hcz152_0
         try clear hcz152_1
         try clear hcz161_0
         try clear hcz161_1
         try clear hcz166_0
         try clear hcz166_1
         try clear hcz171_0
         try clear hcz171_1
         try clear hcz174_0
         try clear hcz174_1
         try clear hcz180_0
         try clear hcz180_1
         try clear hcz185_0
         try clear hcz185_1
         try clear hcz190_0
         try clear hcz190_1
         try clear hcz197_0
         try clear hcz197_1
         try clear hcz202_0
         try clear hcz202_1
         try clear hcz206_0
         try clear hcz206_1
         try clear hcz212_0
         try clear hcz212_1
         try clear hcz72_0
         try clear hcz72_1
         try clear hcz77_0
         try clear hcz77_1
         try clear hcz82_0
         try clear hcz82_1
         try clear hcz85_0
         try clear hcz85_1
         try clear hfz103_0
         try clear hfz103_1
         try clear hfz108_0
         try clear hfz108_1
         try clear hfz115_0
         try clear hfz115_1
         try clear hfz120_0
         try clear hfz120_1
         try clear hfz134_0
         try clear hfz134_1
         try clear hfz142_0
         try clear hfz142_1
         try clear hfz147_0
         try clear hfz147_1
         try clear hfz152_0
         try clear hfz152_1
         try clear hfz161_0
         try clear hfz161_1
         try clear hfz166_0
         try clear hfz166_1
         try clear hfz171_0
         try clear hfz171_1
         try clear hfz174_0
         try clear hfz174_1
         try clear hfz180_0
         try clear hfz180_1
         try clear hfz185_0
         try clear hfz185_1
         try clear hfz190_0
         try clear hfz190_1
         try clear hfz197_0
         try clear hfz197_1
         try clear hfz202_0
         try clear hfz202_1
         try clear hfz206_0
         try clear hfz206_1
         try clear hfz212_0
         try clear hfz212_1
         try clear hfz72_0
         try clear hfz72_1
         try clear hfz77_0
         try clear hfz77_1
         try clear hfz82_0
         try clear hfz82_1
         try clear hfz85_0
         try clear hfz85_1
         try clear p2
         try clear p6
         try clear p64
         obtain ⟨kq, x262000_54, x262001_54, x263000_54, x263001_54, x276000_54, x276001_54, x277000_54, x277001_54, HA, HJ54, BK261, BK262, BK263, BK264, BK275, BK276, HB⟩ := hcut
         cases kq with
         | zero => exact absurd HA.out (by simp [itv_Test.j5])
         | succ kj54 =>
          have H := HA.out
          clear HA
          simp only [itv_Test.j5] at H
          have HC213 := Aside0.mk H
          clear H
          go_upto_region 30 with (fail)
          go_cut [87] (fun v87 wc => ∃ (kq : Nat) (x87_212 : Bool), v87 = .bool x87_212 ∧ Aside0 (itv_Test.j6 kq x87_212 x276000_54 x276001_54 x277000_54 x277001_54 = some (r1, r2, r3, r4)) ∧ Aside0 (kq ≤ kj54) ∧ Aside0 (wc.heap[gb261]? = some (.cells #[.int .i64 x262000_54, .int .i64 x262001_54] 23 (0, 0))) ∧ Aside0 (wc.heap[gb262]? = some (.cells #[.int .i64 x263000_54, .int .i64 x263001_54] 23 (0, 0))) ∧ Aside0 (wc.heap[gb263]? = some (.cells #[.int .i64 0, .int .i64 0] 23 (0, 0))) ∧ Aside0 (wc.heap[gb264]? = some (.cells #[.int .i64 0, .int .i64 0] 23 (0, 0))) ∧ Aside0 (wc.heap[gb275]? = some (.cells #[.int .i64 x276000_54, .int .i64 x276001_54] 23 (0, 0))) ∧ Aside0 (wc.heap[gb276]? = some (.cells #[.int .i64 x277000_54, .int .i64 x277001_54] 23 (0, 0))) ∧ Aside0 (Below w.heap.size w wc))
          case first =>
           have H := HC213.out
           clear HC213
           replace H := Option.bind_eq_some_iff.mp H
           obtain ⟨t287, A2140, H⟩ := H
           replace H : (if t287 = true then (itv_Test.j6 kj54 true x276000_54 x276001_54 x277000_54 x277001_54) else ((itv_None.f x277000_54 x277001_54).bind fun t288 => (itv_Test.j6 kj54 t288 x276000_54 x276001_54 x277000_54 x277001_54))) = some (r1, r2, r3, r4) := H
           have A214 := Aside0.mk A2140
           clear A2140
           by_cases c215 : t287 = true
           ·
            subst c215
            have H1 : (itv_Test.j6 kj54 true x276000_54 x276001_54 x277000_54 x277001_54) = some (r1, r2, r3, r4) := by rw [if_pos rfl] at H; exact H
            clear H
            have H := H1
            clear H1
            have H' := Aside0.mk H
            clear H
            have hnb216 := NB275_261.out
            have hnc216 := NB261_275.out
            have hnb217 := NB275_262.out
            have hnc217 := NB262_275.out
            have hnb218 := NB275_263.out
            have hnc218 := NB263_275.out
            have hnb219 := NB275_264.out
            have hnc219 := NB264_275.out
            have hnb220 := NB275_276.out
            have hnc220 := NB276_275.out
            have hcz221_0 := hcz BK275 0
            have hcz221_1 := hcz BK275 1
            have hfz221_0 := blk_frozen BK275.out 0
            have hfz221_1 := blk_frozen BK275.out 1
            go_wp2_with (first | ((with_reducible refine gate_callee (f := 21) rfl ?_); refine goesL_ (some 83) rfl rfl Try.func21 (by kernel_rfl) rfl #[.agg #[.int .i64 x276000_54, .int .i64 x276001_54]] rfl (by (try simp only [List.map_toArray, List.map_cons, List.map_nil]); first | done | rfl | (simp only [List.length_drop, List.length_take]; rfl)) ?_; (with_reducible refine (itv_None.calls x276000_54 x276001_54 true _ A214.out).mono ?_); rintro e w222 ⟨rfl, hb⟩; refine ⟨_, rfl, ?_⟩; have n0_ := bst HB hb; replace BK261 := bbw BK261 hb; replace BK262 := bbw BK262 hb; replace BK263 := bbw BK263 hb; replace BK264 := bbw BK264 hb; replace BK275 := bbw BK275 hb; replace BK276 := bbw BK276 hb; clear HB; have HB := n0_; clear n0_; (try clear hb); (try clear hb2); (try clear hk); (try clear hi)))
            go_meet
            case rel => exact ⟨_, (true), (by first | rfl | (simp; done) | (simp [*]; done)), H', ⟨by have := HJ5.out; have := HJ24.out; have := HJ54.out; first | omega | exact Nat.le_refl _⟩, pkA BK261, pkA BK262, pkA BK263, pkA BK264, pkA BK275, pkA BK276, bpk HB⟩
           ·
            replace c215 := Bool.eq_false_iff.mpr c215
            subst c215
            have H1 : ((itv_None.f x277000_54 x277001_54).bind fun t288 => (itv_Test.j6 kj54 t288 x276000_54 x276001_54 x277000_54 x277001_54)) = some (r1, r2, r3, r4) := by rw [if_neg (show ¬ (false = true) by decide)] at H; exact H
            clear H
            have H := H1
            clear H1
            replace H := Option.bind_eq_some_iff.mp H
            obtain ⟨t288, A2230, H⟩ := H
            replace H : (itv_Test.j6 kj54 t288 x276000_54 x276001_54 x277000_54 x277001_54) = some (r1, r2, r3, r4) := H
            have A223 := Aside0.mk A2230
            clear A2230
            have H' := Aside0.mk H
            clear H
            have hnb224 := NB275_261.out
            have hnc224 := NB261_275.out
            have hnb225 := NB275_262.out
            have hnc225 := NB262_275.out
            have hnb226 := NB275_263.out
            have hnc226 := NB263_275.out
            have hnb227 := NB275_264.out
            have hnc227 := NB264_275.out
            have hnb228 := NB275_276.out
            have hnc228 := NB276_275.out
            have hcz229_0 := hcz BK275 0
            have hcz229_1 := hcz BK275 1
            have hfz229_0 := blk_frozen BK275.out 0
            have hfz229_1 := blk_frozen BK275.out 1
            go_wp2_with (first | ((with_reducible refine gate_callee (f := 21) rfl ?_); refine goesL_ (some 83) rfl rfl Try.func21 (by kernel_rfl) rfl #[.agg #[.int .i64 x276000_54, .int .i64 x276001_54]] rfl (by (try simp only [List.map_toArray, List.map_cons, List.map_nil]); first | done | rfl | (simp only [List.length_drop, List.length_take]; rfl)) ?_; (with_reducible refine (itv_None.calls x276000_54 x276001_54 false _ A214.out).mono ?_); rintro e w230 ⟨rfl, hb⟩; refine ⟨_, rfl, ?_⟩; have n0_ := bst HB hb; replace BK261 := bbw BK261 hb; replace BK262 := bbw BK262 hb; replace BK263 := bbw BK263 hb; replace BK264 := bbw BK264 hb; replace BK275 := bbw BK275 hb; replace BK276 := bbw BK276 hb; clear HB; have HB := n0_; clear n0_; (try clear hb); (try clear hb2); (try clear hk); (try clear hi); have hnb231 := NB276_261.out; have hnc231 := NB261_276.out; have hnb232 := NB276_262.out; have hnc232 := NB262_276.out; have hnb233 := NB276_263.out; have hnc233 := NB263_276.out; have hnb234 := NB276_264.out; have hnc234 := NB264_276.out; have hcz235_0 := hcz BK276 0; have hcz235_1 := hcz BK276 1; have hfz235_0 := blk_frozen BK276.out 0; have hfz235_1 := blk_frozen BK276.out 1) | (go_at_call 21; (with_reducible refine (itv_None.calls x277000_54 x277001_54 t288 _ A223.out).mono ?_); rintro e w236 ⟨rfl, hb⟩; have n0_ := bst HB hb; replace BK261 := bbw BK261 hb; replace BK262 := bbw BK262 hb; replace BK263 := bbw BK263 hb; replace BK264 := bbw BK264 hb; replace BK275 := bbw BK275 hb; replace BK276 := bbw BK276 hb; clear HB; have HB := n0_; clear n0_; (try clear hb); (try clear hb2); (try clear hk); (try clear hi)))
            go_meet
            case rel => exact ⟨_, (t288), (by first | rfl | (simp; done) | (simp [*]; done)), H', ⟨by have := HJ5.out; have := HJ24.out; have := HJ54.out; first | omega | exact Nat.le_refl _⟩, pkA BK261, pkA BK262, pkA BK263, pkA BK264, pkA BK275, pkA BK276, bpk HB⟩
          case rest =>
           clear HC213
           try clear c1
           try clear c2
           try clear p2
           try clear c6
           try clear p6
           try clear c7
           try clear c8
           try clear c9
           try clear c10
           try clear c11
           try clear c12
           try clear c13
           try clear c14
           try clear c15
           try clear c16
           try clear c17
           try clear c18
           try clear c19
           try clear c20
           try clear c21
           try clear c22
           try clear c23
           try clear c28
           try clear c64
           try clear p64
           try clear c65
           try clear c65b0
           try clear c65b1
           try clear c66
           try clear c67
           try clear c68
           try clear c69
           try clear c70
           try clear c71
           try clear c73
           try clear c74
           try clear c75
           try clear c76
           try clear c79
           try clear c80
           try clear c81
           try clear c83
           try clear c84
           try clear c86
           try clear c86b0
           try clear c86b1
           try clear c97
           try clear c97b0
           try clear c97b1
           try clear c98
           try clear c99
           try clear c100
           try clear c101
           try clear c102
           try clear c104
           try clear c105
           try clear c106
           try clear c107
           try clear c109
           try clear c109b0
           try clear c109b1
           try clear c110
           try clear c111
           try clear c112
           try clear c113
           try clear c114
           try clear c116
           try clear c117
           try clear c118
           try clear c119
           try clear c122
           try clear c122b0
           try clear c122b1
           try clear c129
           try clear c130
           try clear c131
           try clear c132
           try clear c133
           try clear c135
           try clear c135b0
           try clear c137
           try clear c138
           try clear c139
           try clear c140
           try clear c141
           try clear c143
           try clear c144
           try clear c145
           try clear c146
           try clear c149
           try clear c150
           try clear c151
           try clear c153
           try clear c153b0
           try clear c155
           try clear c156
           try clear c157
           try clear c158
           try clear c159
           try clear c160
           try clear c162
           try clear c163
           try clear c164
           try clear c165
           try clear c168
           try clear c169
           try clear c170
           try clear c172
           try clear c173
           try clear c175
           try clear c176
           try clear c177
           try clear c178
           try clear c179
           try clear c181
           try clear c182
           try clear c183
           try clear c184
           try clear c187
           try clear c188
           try clear c189
           try clear c191
           try clear c192
           try clear c193
           try clear c194
           try clear c195
           try clear c196
           try clear c198
           try clear c199
           try clear c200
           try clear c201
           try clear c203
           try clear c204
           try clear c205
           try clear c207
           try clear c208
           try clear c209
           try clear c210
           try clear c211
           try clear c215
           try clear c216
           try clear c217
           try clear c218
           try clear c219
           try clear c220
           try clear c224
           try clear c225
           try clear c226
           try clear c227
           try clear c228
           try clear c231
           try clear c232
           try clear c233
           try clear c234
           try clear hcz103_0
           try clear hcz103_1
           try clear hcz108_0
           try clear hcz108_1
           try clear hcz115_0
           try clear hcz115_1
           try clear hcz120_0
           try clear hcz120_1
           try clear hcz134_0
           try clear hcz134_1
           try clear hcz142_0
           try clear hcz142_1
           try clear hcz147_0
           try clear hcz147_1
           try clear hcz152_0
           try clear hcz152_1
           try clear hcz161_0
           try clear hcz161_1
           try clear hcz166_0
           try clear hcz166_1
           try clear hcz171_0
           try clear hcz171_1
           try clear hcz174_0
           try clear hcz174_1
           try clear hcz180_0
           try clear hcz180_1
           try clear hcz185_0
           try clear hcz185_1
           try clear hcz190_0
           try clear hcz190_1
           try clear hcz197_0
           try clear hcz197_1
           try clear hcz202_0
           try clear hcz202_1
           try clear hcz206_0
           try clear hcz206_1
           try clear hcz212_0
           try clear hcz212_1
           try clear hcz221_0
           try clear hcz221_1
           try clear hcz229_0
           try clear hcz229_1
           try clear hcz235_0
           try clear hcz235_1
           try clear hcz72_0
           try clear hcz72_1
           try clear hcz77_0
           try clear hcz77_1
           try clear hcz82_0
           try clear hcz82_1
           try clear hcz85_0
           try clear hcz85_1
           try clear hfz103_0
           try clear hfz103_1
           try clear hfz108_0
           try clear hfz108_1
           try clear hfz115_0
           try clear hfz115_1
           try clear hfz120_0
           try clear hfz120_1
           try clear hfz134_0
           try clear hfz134_1
           try clear hfz142_0
           try clear hfz142_1
           try clear hfz147_0
           try clear hfz147_1
           try clear hfz152_0
           try clear hfz152_1
           try clear hfz161_0
           try clear hfz161_1
           try clear hfz166_0
           try clear hfz166_1
           try clear hfz171_0
           try clear hfz171_1
           try clear hfz174_0
           try clear hfz174_1
           try clear hfz180_0
           try clear hfz180_1
           try clear hfz185_0
           try clear hfz185_1
           try clear hfz190_0
           try clear hfz190_1
           try clear hfz197_0
           try clear hfz197_1
           try clear hfz202_0
           try clear hfz202_1
           try clear hfz206_0
           try clear hfz206_1
           try clear hfz212_0
           try clear hfz212_1
           try clear hfz221_0
           try clear hfz221_1
           try clear hfz229_0
           try clear hfz229_1
           try clear hfz235_0
           try clear hfz235_1
           try clear hfz72_0
           try clear hfz72_1
           try clear hfz77_0
           try clear hfz77_1
           try clear hfz82_0
           try clear hfz82_1
           try clear hfz85_0
           try clear hfz85_1
           try clear p2
           try clear p6
           try clear p64
           obtain ⟨kq, x87_212, rfl, HA, HJ212, BK261, BK262, BK263, BK264, BK275, BK276, HB⟩ := hcut
           cases kq with
           | zero => exact absurd HA.out (by simp [itv_Test.j6])
           | succ kj212 =>
            have H := HA.out
            clear HA
            simp only [itv_Test.j6] at H
            by_cases c237 : x87_212 = true
            ·
             subst c237
             have H1 : ((itv_Empty.f).bind fun bt289 => ((itv_Empty.f).bind fun bt291 => (some (bt289.1, bt289.2, bt291.1, bt291.2)))) = some (r1, r2, r3, r4) := by rw [if_pos rfl] at H; exact H
             clear H
             have H := H1
             clear H1
             replace H := Option.bind_eq_some_iff.mp H
             obtain ⟨⟨t289, t290⟩, A2380, H⟩ := H
             replace H : ((itv_Empty.f).bind fun bt291 => (some (t289, t290, bt291.1, bt291.2))) = some (r1, r2, r3, r4) := H
             have A238 := Aside0.mk A2380
             clear A2380
             replace H := Option.bind_eq_some_iff.mp H
             obtain ⟨⟨t291, t292⟩, A2390, H⟩ := H
             replace H : (some (t289, t290, t291, t292)) = some (r1, r2, r3, r4) := H
             have A239 := Aside0.mk A2390
             clear A2390
             simp only [Option.some.injEq, Prod.mk.injEq] at H
             obtain ⟨rfl, rfl, rfl, rfl⟩ := H
             go_wp2_with (first | ((with_reducible refine gate_callee (f := 15) rfl ?_); refine goesL_ (some 88) rfl rfl Try.func15 (by kernel_rfl) rfl #[] rfl (by (try simp only [List.map_toArray, List.map_cons, List.map_nil]); first | done | rfl | (simp only [List.length_drop, List.length_take]; rfl)) ?_; (with_reducible refine (itv_Empty.calls  t289 t290 _ A238.out).mono ?_); rintro e w240 ⟨rfl, hb⟩; refine ⟨_, rfl, ?_⟩; have n0_ := bst HB hb; replace BK261 := bbw BK261 hb; replace BK262 := bbw BK262 hb; replace BK263 := bbw BK263 hb; replace BK264 := bbw BK264 hb; replace BK275 := bbw BK275 hb; replace BK276 := bbw BK276 hb; clear HB; have HB := n0_; clear n0_; (try clear hb); (try clear hb2); (try clear hk); (try clear hi)) | ((with_reducible refine gate_callee (f := 15) rfl ?_); refine goesL_ (some 89) rfl rfl Try.func15 (by kernel_rfl) rfl #[] rfl (by (try simp only [List.map_toArray, List.map_cons, List.map_nil]); first | done | rfl | (simp only [List.length_drop, List.length_take]; rfl)) ?_; (with_reducible refine (itv_Empty.calls  t291 t292 _ A239.out).mono ?_); rintro e w241 ⟨rfl, hb⟩; refine ⟨_, rfl, ?_⟩; have n0_ := bst HB hb; replace BK261 := bbw BK261 hb; replace BK262 := bbw BK262 hb; replace BK263 := bbw BK263 hb; replace BK264 := bbw BK264 hb; replace BK275 := bbw BK275 hb; replace BK276 := bbw BK276 hb; clear HB; have HB := n0_; clear n0_; (try clear hb); (try clear hb2); (try clear hk); (try clear hi); have hnb242 := NB263_261.out; have hnc242 := NB261_263.out; have hnb243 := NB263_262.out; have hnc243 := NB262_263.out; have hnb244 := NB263_264.out; have hnc244 := NB264_263.out; have hnb245 := NB263_275.out; have hnc245 := NB275_263.out; have hnb246 := NB263_276.out; have hnc246 := NB276_263.out; have hcz247_0 := hcz BK263 0; have hcz247_1 := hcz BK263 1; have hfz247_0 := blk_frozen BK263.out 0; have hfz247_1 := blk_frozen BK263.out 1; have hnb248 := NB264_261.out; have hnc248 := NB261_264.out; have hnb249 := NB264_262.out; have hnc249 := NB262_264.out; have hnb250 := NB264_275.out; have hnc250 := NB275_264.out; have hnb251 := NB264_276.out; have hnc251 := NB276_264.out; have hcz252_0 := hcz BK264 0; have hcz252_1 := hcz BK264 1; have hfz252_0 := blk_frozen BK264.out 0; have hfz252_1 := blk_frozen BK264.out 1))
             refine bodyPost_ret (results_cc rfl _ _ gb263 gb264 23 23 #[.int .i64 t289, .int .i64 t290] #[.int .i64 t291, .int .i64 t292] (0, 0) (0, 0) _ _ rfl (by refine pkB ?_; refine blk_far ?_ NB263_264.out _; refine pkB ?_; refine blk_far ?_ NB263_264.out _; refine pkB ?_; refine blk_put (cs := #[.int .i64 t289, .int .i64 0]) ?_ 1 _ (by first | rfl | (subst_vars; rfl)); refine pkB ?_; refine blk_put (cs := #[.int .i64 0, .int .i64 0]) ?_ 0 _ (by first | rfl | (subst_vars; rfl)); refine pkB ?_; exact BK263.out) Try.underlying23 rfl (by kernel_rfl) rfl (by refine pkB ?_; refine blk_put (cs := #[.int .i64 t291, .int .i64 0]) ?_ 1 _ (by first | rfl | (subst_vars; rfl)); refine pkB ?_; refine blk_put (cs := #[.int .i64 0, .int .i64 0]) ?_ 0 _ (by first | rfl | (subst_vars; rfl)); refine pkB ?_; refine blk_far ?_ NB264_263.out _; refine pkB ?_; refine blk_far ?_ NB264_263.out _; refine pkB ?_; exact BK264.out) Try.underlying23 rfl (by kernel_rfl)) rfl ?_
             exact ⟨by first | rfl | (simp [errW_none, errW_some] <;> rfl) | (simp [*, errW_none, errW_some] <;> rfl) | kernel_rfl, by repeat (first | (with_reducible first | exact HB.out | apply below_alloc | apply pw_below_drewN | apply below_drew1 | refine below_set ?_ GE261.out | refine below_set ?_ GE262.out | refine below_set ?_ GE263.out | refine below_set ?_ GE264.out | refine below_set ?_ GE275.out | refine below_set ?_ GE276.out) | exact HB.out)⟩
            ·
             replace c237 := Bool.eq_false_iff.mpr c237
             subst c237
             have H1 : (some (x276000_54, x276001_54, x277000_54, x277001_54)) = some (r1, r2, r3, r4) := by rw [if_neg (show ¬ (false = true) by decide)] at H; exact H
             clear H
             have H := H1
             clear H1
             simp only [Option.some.injEq, Prod.mk.injEq] at H
             obtain ⟨rfl, rfl, rfl, rfl⟩ := H
             try go_wp2
             have n0_ := Aside0.mk (blk_drew BK261.out)
             have n1_ := Aside0.mk (blk_drew BK262.out)
             have n2_ := Aside0.mk (blk_drew BK263.out)
             have n3_ := Aside0.mk (blk_drew BK264.out)
             have n4_ := Aside0.mk (blk_drew BK275.out)
             have n5_ := Aside0.mk (blk_drew BK276.out)
             have n6_ := Aside0.mk (below_drew1 HB.out)
             clear BK261
             clear BK262
             clear BK263
             clear BK264
             clear BK275
             clear BK276
             clear HB
             have BK261 := n0_
             have BK262 := n1_
             have BK263 := n2_
             have BK264 := n3_
             have BK275 := n4_
             have BK276 := n5_
             have HB := n6_
             clear n0_ n1_ n2_ n3_ n4_ n5_ n6_
             refine start_ (n := 4) (S := fun w' => w'.cell? ⟨gb275, 0, none⟩ = some (.int .i64 x276000_54) ∧ w'.cell? ⟨gb275, 1, none⟩ = some (.int .i64 x276001_54) ∧ w'.cell? ⟨gb276, 0, none⟩ = some (.int .i64 x277000_54) ∧ w'.cell? ⟨gb276, 1, none⟩ = some (.int .i64 x277001_54)) (ds := []) #[false, false, false, false] (by kernel_rfl) rfl rfl ⟨hcz BK275 0, hcz BK275 1, hcz BK276 0, hcz BK276 1⟩ (fun hHeld => ?_)
             generalize wc.drew = w253 at BK261 BK262 BK263 BK264 BK275 BK276 HB hHeld ⊢
             refine take_ (i := 0) (N := some 90) (v := ?_) (a' := ?_) #[true, false, false, false] rfl rfl (by kernel_rfl) (fun _ _ _ h => h) (Or.inl ⟨by rfl, ?_⟩) hHeld ?_ ?_
             rotate_left
             ·
              rintro w' ⟨s0, s1, s2, s3⟩
              go_simp
              with_reducible rfl
             rotate_left
             ·
              simp only [Act.put, List.setIfInBounds_toArray, List.set_cons_zero, List.set_cons_succ, i64_w, i32_w]
              rfl
             refine take_ (i := 1) (N := some 91) (v := ?_) (a' := ?_) #[true, true, false, false] rfl rfl (by kernel_rfl) (fun _ _ _ h => h) (Or.inl ⟨by rfl, ?_⟩) hHeld ?_ ?_
             rotate_left
             ·
              rintro w' ⟨s0, s1, s2, s3⟩
              go_simp
              with_reducible rfl
             rotate_left
             ·
              simp only [Act.put, List.setIfInBounds_toArray, List.set_cons_zero, List.set_cons_succ, i64_w, i32_w]
              rfl
             refine one_ (i := 2) (N := none) #[true, true, true, false] rfl rfl (by kernel_rfl) (by decide) (fun K hK => ?_)
             have hs254 : w253.cell? ⟨gb263, 0, none⟩ = some (.int .i64 0) := hcz BK263 0
             have hfs254 := blk_frozen BK263.out 0
             have hns254_0 := NB261_263.out
             have hns254_1 := NB262_263.out
             have hns254_3 := NB264_263.out
             have hns254_4 := NB275_263.out
             have hns254_5 := NB276_263.out
             have hms254_0 := NB263_261.out
             have hms254_1 := NB263_262.out
             have hms254_3 := NB263_264.out
             have hms254_4 := NB263_275.out
             have hms254_5 := NB263_276.out
             have hs255 : w253.cell? ⟨gb263, 1, none⟩ = some (.int .i64 0) := hcz BK263 1
             have hfs255 := blk_frozen BK263.out 1
             have hns255_0 := NB261_263.out
             have hns255_1 := NB262_263.out
             have hns255_3 := NB264_263.out
             have hns255_4 := NB275_263.out
             have hns255_5 := NB276_263.out
             have hms255_0 := NB263_261.out
             have hms255_1 := NB263_262.out
             have hms255_3 := NB263_264.out
             have hms255_4 := NB263_275.out
             have hms255_5 := NB263_276.out
             refine skip_ (w1 := ?_) (by rfl) rfl ?_ ?_
             rotate_left
             ·
              go_simp
              rfl
             refine hK.out _ _ ⟨((cell_far (p := ⟨gb263, _, none⟩) NB275_263.out _).trans (((cell_far (p := ⟨gb263, _, none⟩) NB275_263.out _).trans (hHeld.1)))), ((cell_far (p := ⟨gb263, _, none⟩) NB275_263.out _).trans (((cell_far (p := ⟨gb263, _, none⟩) NB275_263.out _).trans (hHeld.2.1)))), ((cell_far (p := ⟨gb263, _, none⟩) NB276_263.out _).trans (((cell_far (p := ⟨gb263, _, none⟩) NB276_263.out _).trans (hHeld.2.2.1)))), ((cell_far (p := ⟨gb263, _, none⟩) NB276_263.out _).trans (((cell_far (p := ⟨gb263, _, none⟩) NB276_263.out _).trans (hHeld.2.2.2))))⟩ (fun hHeld => ?_)
             clear hK K
             refine one_ (i := 3) (N := none) #[true, true, true, true] rfl rfl (by kernel_rfl) (by decide) (fun K hK => ?_)
             have hs256 : w253.cell? ⟨gb264, 0, none⟩ = some (.int .i64 0) := hcz BK264 0
             have hfs256 := blk_frozen BK264.out 0
             have hns256_0 := NB261_264.out
             have hns256_1 := NB262_264.out
             have hns256_2 := NB263_264.out
             have hns256_4 := NB275_264.out
             have hns256_5 := NB276_264.out
             have hms256_0 := NB264_261.out
             have hms256_1 := NB264_262.out
             have hms256_2 := NB264_263.out
             have hms256_4 := NB264_275.out
             have hms256_5 := NB264_276.out
             have hs257 : w253.cell? ⟨gb264, 1, none⟩ = some (.int .i64 0) := hcz BK264 1
             have hfs257 := blk_frozen BK264.out 1
             have hns257_0 := NB261_264.out
             have hns257_1 := NB262_264.out
             have hns257_2 := NB263_264.out
             have hns257_4 := NB275_264.out
             have hns257_5 := NB276_264.out
             have hms257_0 := NB264_261.out
             have hms257_1 := NB264_262.out
             have hms257_2 := NB264_263.out
             have hms257_4 := NB264_275.out
             have hms257_5 := NB264_276.out
             refine skip_ (w1 := ?_) (by rfl) rfl ?_ ?_
             rotate_left
             ·
              go_simp
              rfl
             refine hK.out _ _ ⟨((cell_far (p := ⟨gb264, _, none⟩) NB275_264.out _).trans (((cell_far (p := ⟨gb264, _, none⟩) NB275_264.out _).trans (hHeld.1)))), ((cell_far (p := ⟨gb264, _, none⟩) NB275_264.out _).trans (((cell_far (p := ⟨gb264, _, none⟩) NB275_264.out _).trans (hHeld.2.1)))), ((cell_far (p := ⟨gb264, _, none⟩) NB276_264.out _).trans (((cell_far (p := ⟨gb264, _, none⟩) NB276_264.out _).trans (hHeld.2.2.1)))), ((cell_far (p := ⟨gb264, _, none⟩) NB276_264.out _).trans (((cell_far (p := ⟨gb264, _, none⟩) NB276_264.out _).trans (hHeld.2.2.2))))⟩ (fun hHeld => ?_)
             clear hK K
             refine done_ (by kernel_rfl) ?_
             try go_wp2
             refine bodyPost_ret (results_cc rfl _ _ gb263 gb264 23 23 #[.int .i64 x276000_54, .int .i64 x276001_54] #[.int .i64 x277000_54, .int .i64 x277001_54] (0, 0) (0, 0) _ _ rfl (by refine pkB ?_; refine blk_far ?_ NB263_264.out _; refine pkB ?_; refine blk_far ?_ NB263_264.out _; refine pkB ?_; refine blk_put (cs := #[.int .i64 x276000_54, .int .i64 0]) ?_ 1 _ (by first | rfl | (subst_vars; rfl)); refine pkB ?_; refine blk_put (cs := #[.int .i64 0, .int .i64 0]) ?_ 0 _ (by first | rfl | (subst_vars; rfl)); refine pkB ?_; exact BK263.out) Try.underlying23 rfl (by kernel_rfl) rfl (by refine pkB ?_; refine blk_put (cs := #[.int .i64 x277000_54, .int .i64 0]) ?_ 1 _ (by first | rfl | (subst_vars; rfl)); refine pkB ?_; refine blk_put (cs := #[.int .i64 0, .int .i64 0]) ?_ 0 _ (by first | rfl | (subst_vars; rfl)); refine pkB ?_; refine blk_far ?_ NB264_263.out _; refine pkB ?_; refine blk_far ?_ NB264_263.out _; refine pkB ?_; exact BK264.out) Try.underlying23 rfl (by kernel_rfl)) rfl ?_
             exact ⟨by first | rfl | (simp [errW_none, errW_some] <;> rfl) | (simp [*, errW_none, errW_some] <;> rfl) | kernel_rfl, by repeat (first | (with_reducible first | exact HB.out | apply below_alloc | apply pw_below_drewN | apply below_drew1 | refine below_set ?_ GE261.out | refine below_set ?_ GE262.out | refine below_set ?_ GE263.out | refine below_set ?_ GE264.out | refine below_set ?_ GE275.out | refine below_set ?_ GE276.out) | exact HB.out)⟩
end Go.Proofs.Ytbbnpipmjadpoaa.P
