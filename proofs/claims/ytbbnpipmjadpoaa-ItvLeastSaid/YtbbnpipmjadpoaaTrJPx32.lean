/- What the law's proof needs of Px32. -/
import Derived.Test.YtbbnpipmjadpoaaTrJU2
import Derived.Test.YtbbnpipmjadpoaaTrJU
import Derived.Test.YtbbnpipmjadpoaaTrJPx0
import Derived.Test.YtbbnpipmjadpoaaTrJPx2
import Derived.Test.YtbbnpipmjadpoaaTrJPx10
import Derived.Test.YtbbnpipmjadpoaaTrJPx17
-- PRINTED by print.py (a twelfth state) out of the translation. Not trusted: Lean checks it.
namespace Go.Proofs.Ytbbnpipmjadpoaa.P
open Go.RowKit Go.Proofs.YtbbnpipmjadpoaaW.PrintWords Go.Proofs.YtbbnpipmjadpoaaW.PrintLast Go.Proofs.YtbbnpipmjadpoaaW.PrintMore Go.Proofs.YtbbnpipmjadpoaaO
attribute [local go_sem] max2_int min2_int max_two min_two max_three min_three max_four min_four   -- for this text's walks alone
set_option linter.unusedVariables false
set_option linter.unusedSimpArgs false
def itv_signs.f (k : Nat) (a0_0 : Int) (a0_1 : Int) : Option (Int × Int × Int × Int) := (itv_Of.f (-4611686018427387904) (-1)).bind fun bt658 => ((itv_Meet.f k a0_0 a0_1 bt658.1 bt658.2).bind fun bt660 => ((itv_Of.f 1 4611686018427387904).bind fun bt662 => ((itv_Meet.f k a0_0 a0_1 bt662.1 bt662.2).bind fun bt664 => (some (bt660.1, bt660.2, bt664.1, bt664.2)))))
def itv_signs.T1 : Bool × List (List Nat × List Nat) := (true, [([], []), ([], []), ([0, 1, 1], [0, 1]), ([], []), ([2], []), ([3, 4, 4], [3, 4]), ([2, 5], [2, 5]), ([6, 5, 0, 1, 2, 3, 4, 5, 6], [6])])
def itv_signs.B1 : List Nat := [0, 0, 3, 0, 7, 31, 63, 127]
theorem itv_signs.tab1 : rtab .any (opsOf Try.f83 1) = itv_signs.T1 := by kernel_rfl
theorem itv_signs.bits1 : waitsOk itv_signs.T1.2 itv_signs.B1 = true := by kernel_rfl
set_option maxHeartbeats 8000000 in
set_option maxRecDepth 100000 in
theorem itv_signs.calls (k : Nat) (a0_0 : Int) (a0_1 : Int) (r1 : Int) (r2 : Int) (r3 : Int) (r4 : Int) (w : World) (h : itv_signs.f k a0_0 a0_1 = some (r1, r2, r3, r4)) :
    Calls Try.prog 83 #[.agg #[.int .i64 a0_0, .int .i64 a0_1]] w fun e w' => e = .returned (.agg #[.int .i64 r1, .int .i64 r2, .int .i64 r3, .int .i64 r4]) ∧ Below w.heap.size w w' := by
  have hu23 := Try.underlying23
  have hu61 := Try.underlying61
  have HB := Aside0.mk (Below.refl w.heap.size w)
  have H : ((itv_Of.f (-4611686018427387904) (-1)).bind fun bt658 => ((itv_Meet.f k a0_0 a0_1 bt658.1 bt658.2).bind fun bt660 => ((itv_Of.f 1 4611686018427387904).bind fun bt662 => ((itv_Meet.f k a0_0 a0_1 bt662.1 bt662.2).bind fun bt664 => (some (bt660.1, bt660.2, bt664.1, bt664.2)))))) = some (r1, r2, r3, r4) := h
  clear h
  replace H := Option.bind_eq_some_iff.mp H
  obtain ⟨⟨t658, t659⟩, A20, H⟩ := H
  replace H : ((itv_Meet.f k a0_0 a0_1 t658 t659).bind fun bt660 => ((itv_Of.f 1 4611686018427387904).bind fun bt662 => ((itv_Meet.f k a0_0 a0_1 bt662.1 bt662.2).bind fun bt664 => (some (bt660.1, bt660.2, bt664.1, bt664.2))))) = some (r1, r2, r3, r4) := H
  have A2 := Aside0.mk A20
  clear A20
  replace H := Option.bind_eq_some_iff.mp H
  obtain ⟨⟨t660, t661⟩, A30, H⟩ := H
  replace H : ((itv_Of.f 1 4611686018427387904).bind fun bt662 => ((itv_Meet.f k a0_0 a0_1 bt662.1 bt662.2).bind fun bt664 => (some (t660, t661, bt664.1, bt664.2)))) = some (r1, r2, r3, r4) := H
  have A3 := Aside0.mk A30
  clear A30
  replace H := Option.bind_eq_some_iff.mp H
  obtain ⟨⟨t662, t663⟩, A40, H⟩ := H
  replace H : ((itv_Meet.f k a0_0 a0_1 t662 t663).bind fun bt664 => (some (t660, t661, bt664.1, bt664.2))) = some (r1, r2, r3, r4) := H
  have A4 := Aside0.mk A40
  clear A40
  replace H := Option.bind_eq_some_iff.mp H
  obtain ⟨⟨t664, t665⟩, A50, H⟩ := H
  replace H : (some (t660, t661, t664, t665)) = some (r1, r2, r3, r4) := H
  have A5 := Aside0.mk A50
  clear A50
  simp only [Option.some.injEq, Prod.mk.injEq] at H
  obtain ⟨rfl, rfl, rfl, rfl⟩ := H
  go_enter Try.func83, Try.ntmps83
  try go_wp2_with (first | ((with_reducible refine gate_dst (N := 1) rfl ?_); refine box_event ?hg (N := 1) ?hd (cs := #[.int .i64 a0_0, .int .i64 a0_1]) (t := 23) ?hr ?_; (case hd => rfl); (case hg => rfl); (case hr => first | (go_simp; done) | (go_simp; rfl)); intro gb656 hg w6 hbox hb; have n0_ := bst HB hb; have n1_ := Aside0.mk (hbox); have n2_ := bsz HB hg; have n3_ := bsz HB hg; clear HB; have HB := n0_; have BK656 := n1_; have GW656 := n2_; have GE656 := n3_; clear n0_ n1_ n2_ n3_; clear hb hbox hg) | ((with_reducible refine gate_dst (N := 2) rfl ?_); refine box_event ?hg (N := 2) ?hd (cs := #[.int .i64 0, .int .i64 0, .int .i64 0, .int .i64 0]) (t := 61) ?hr ?_; (case hd => rfl); (case hg => rfl); (case hr => first | (go_simp; done) | (go_simp; rfl)); intro gb657 hg w7 hbox hb; have n0_ := bst HB hb; have n1_ := Aside0.mk (hbox); have n2_ := bsz HB hg; have n3_ := bsz HB hg; have n4_ := bn1 BK656 hg; have n5_ := bn2 BK656 hg; replace BK656 := bbw BK656 hb; clear HB; have HB := n0_; have BK657 := n1_; have GW657 := n2_; have GE657 := n3_; have NB656_657 := n4_; have NB657_656 := n5_; clear n0_ n1_ n2_ n3_ n4_ n5_; clear hb hbox hg))
  have n0_ := Aside0.mk (blk_drew BK656.out)
  have n1_ := Aside0.mk (blk_drew BK657.out)
  have n2_ := Aside0.mk (below_drew1 HB.out)
  clear BK656
  clear BK657
  clear HB
  have BK656 := n0_
  have BK657 := n1_
  have HB := n2_
  clear n0_ n1_ n2_
  refine start_ (n := 8) (S := fun w' => w'.cell? ⟨gb656, 0, none⟩ = some (.int .i64 a0_0) ∧ w'.cell? ⟨gb656, 1, none⟩ = some (.int .i64 a0_1)) (ds := []) #[false, false, false, false, false, false, false, false] (by kernel_rfl) rfl rfl ⟨hcz BK656 0, hcz BK656 1⟩ (fun hHeld => ?_); refine with_tabW itv_signs.tab1 itv_signs.bits1 (fun HT_ HW_ => ?_)
  generalize w7.drew = w8 at BK656 BK657 HB hHeld ⊢
  refine takeQ 0 3 HT_.out HW_.out hHeld ?_
  refine takeQ 3 6 HT_.out HW_.out hHeld ?_
  refine oneQ 1 4 HT_.out (fun K hK => ?_)
  refine goesQ Try.func13 #[.int .i64 (-4611686018427387904), .int .i64 (-1)] ?_
  with_reducible refine (itv_Of.calls (-4611686018427387904) (-1) t658 t659 _ A2.out).mono ?_
  rintro e w9 ⟨rfl, hb⟩
  refine ⟨_, rfl, ?_⟩
  have n0_ := bst HB hb
  replace BK656 := bbw BK656 hb
  replace BK657 := bbw BK657 hb
  clear HB
  have HB := n0_
  clear n0_
  (try clear hb)
  (try clear hb2)
  (try clear hk)
  (try clear hi)
  refine hK.out _ _ ⟨hcz BK656 0, hcz BK656 1⟩ (fun hHeld => ?_)
  clear hK K
  refine normQ (N := 4) ?_
  refine oneQ 2 5 HT_.out (fun K hK => ?_)
  refine goesQ Try.func28 #[.agg #[.int .i64 a0_0, .int .i64 a0_1], .agg #[.int .i64 t658, .int .i64 t659]] ?_
  with_reducible refine (itv_Meet.calls k a0_0 a0_1 t658 t659 t660 t661 _ A3.out).mono ?_
  rintro e w10 ⟨rfl, hb⟩
  refine ⟨_, rfl, ?_⟩
  have n0_ := bst HB hb
  replace BK656 := bbw BK656 hb
  replace BK657 := bbw BK657 hb
  clear HB
  have HB := n0_
  clear n0_
  (try clear hb)
  (try clear hb2)
  (try clear hk)
  (try clear hi)
  refine hK.out _ _ ⟨hcz BK656 0, hcz BK656 1⟩ (fun hHeld => ?_)
  clear hK K
  refine normQ (N := 5) ?_
  refine oneQ 4 7 HT_.out (fun K hK => ?_)
  refine goesQ Try.func13 #[.int .i64 1, .int .i64 4611686018427387904] ?_
  with_reducible refine (itv_Of.calls 1 4611686018427387904 t662 t663 _ A4.out).mono ?_
  rintro e w11 ⟨rfl, hb⟩
  refine ⟨_, rfl, ?_⟩
  have n0_ := bst HB hb
  replace BK656 := bbw BK656 hb
  replace BK657 := bbw BK657 hb
  clear HB
  have HB := n0_
  clear n0_
  (try clear hb)
  (try clear hb2)
  (try clear hk)
  (try clear hi)
  refine hK.out _ _ ⟨hcz BK656 0, hcz BK656 1⟩ (fun hHeld => ?_)
  clear hK K
  refine normQ (N := 7) ?_
  refine oneQ 5 8 HT_.out (fun K hK => ?_)
  refine goesQ Try.func28 #[.agg #[.int .i64 a0_0, .int .i64 a0_1], .agg #[.int .i64 t662, .int .i64 t663]] ?_
  with_reducible refine (itv_Meet.calls k a0_0 a0_1 t662 t663 t664 t665 _ A5.out).mono ?_
  rintro e w12 ⟨rfl, hb⟩
  refine ⟨_, rfl, ?_⟩
  have n0_ := bst HB hb
  replace BK656 := bbw BK656 hb
  replace BK657 := bbw BK657 hb
  clear HB
  have HB := n0_
  clear n0_
  (try clear hb)
  (try clear hb2)
  (try clear hk)
  (try clear hi)
  refine hK.out _ _ ⟨hcz BK656 0, hcz BK656 1⟩ (fun hHeld => ?_)
  clear hK K
  refine normQ (N := 8) ?_
  refine pureQ 6 9 HT_.out ?_
  refine one_ (i := 7) (N := none) #[true, true, true, true, true, true, true, true] rfl rfl (one_of HT_.out (by kernel_rfl)) (by decide) (fun K hK => ?_)
  have hs13 : w12.cell? ⟨gb657, 0, none⟩ = some (.int .i64 0) := hcz BK657 0
  have hfs13 := blk_frozen BK657.out 0
  have hns13_0 := NB656_657.out
  have hms13_0 := NB657_656.out
  have hs14 : w12.cell? ⟨gb657, 1, none⟩ = some (.int .i64 0) := hcz BK657 1
  have hfs14 := blk_frozen BK657.out 1
  have hns14_0 := NB656_657.out
  have hms14_0 := NB657_656.out
  have hs15 : w12.cell? ⟨gb657, 2, none⟩ = some (.int .i64 0) := hcz BK657 2
  have hfs15 := blk_frozen BK657.out 2
  have hns15_0 := NB656_657.out
  have hms15_0 := NB657_656.out
  have hs16 : w12.cell? ⟨gb657, 3, none⟩ = some (.int .i64 0) := hcz BK657 3
  have hfs16 := blk_frozen BK657.out 3
  have hns16_0 := NB656_657.out
  have hms16_0 := NB657_656.out
  refine skip_ (w1 := ?_) (by rfl) rfl ?_ ?_
  rotate_left
  ·
   go_simp
   rfl
  refine hK.out _ _ ⟨((cell_far (p := ⟨gb657, _, none⟩) NB656_657.out _).trans (((cell_far (p := ⟨gb657, _, none⟩) NB656_657.out _).trans (((cell_far (p := ⟨gb657, _, none⟩) NB656_657.out _).trans (((cell_far (p := ⟨gb657, _, none⟩) NB656_657.out _).trans (hHeld.1)))))))), ((cell_far (p := ⟨gb657, _, none⟩) NB656_657.out _).trans (((cell_far (p := ⟨gb657, _, none⟩) NB656_657.out _).trans (((cell_far (p := ⟨gb657, _, none⟩) NB656_657.out _).trans (((cell_far (p := ⟨gb657, _, none⟩) NB656_657.out _).trans (hHeld.2))))))))⟩ (fun hHeld => ?_)
  clear hK K
  refine done_ (done_of HT_.out (by kernel_rfl)) ?_
  try go_wp2
  refine bodyPost_ret (results_cell_row rfl _ _ gb657 61 #[.int .i64 t660, .int .i64 t661, .int .i64 t664, .int .i64 t665] (0, 0) _ rfl (by refine pkB ?_; refine blk_put (cs := #[.int .i64 t660, .int .i64 t661, .int .i64 t664, .int .i64 0]) ?_ 3 _ (by first | rfl | (subst_vars; rfl)); refine pkB ?_; refine blk_put (cs := #[.int .i64 t660, .int .i64 t661, .int .i64 0, .int .i64 0]) ?_ 2 _ (by first | rfl | (subst_vars; rfl)); refine pkB ?_; refine blk_put (cs := #[.int .i64 t660, .int .i64 0, .int .i64 0, .int .i64 0]) ?_ 1 _ (by first | rfl | (subst_vars; rfl)); refine pkB ?_; refine blk_put (cs := #[.int .i64 0, .int .i64 0, .int .i64 0, .int .i64 0]) ?_ 0 _ (by first | rfl | (subst_vars; rfl)); refine pkB ?_; exact BK657.out) Try.underlying61 rfl (by kernel_rfl)) rfl ?_
  exact ⟨by first | rfl | (simp [errW_none, errW_some] <;> rfl) | (simp [*, errW_none, errW_some] <;> rfl) | kernel_rfl, by repeat (first | (with_reducible first | exact HB.out | apply below_alloc | apply pw_below_drewN | apply below_drew1 | refine below_set ?_ GE656.out | refine below_set ?_ GE657.out) | exact HB.out)⟩
def bound_kind.f (a0 : Int) : Option (Int) := if a0 ≥ 4611686018427387904 then (some 1) else (if a0 ≤ (-4611686018427387904) then (some (-1)) else (some 0))
set_option maxHeartbeats 8000000 in
set_option maxRecDepth 100000 in
theorem bound_kind.calls (a0 : Int) (r : Int) (w : World) (h : bound_kind.f a0 = some r) :
    Calls Try.prog 97 #[.int .i64 a0] w fun e w' => e = .returned (.int .i64 r) ∧ Drawn0 w w' := by
  have H : (if a0 ≥ 4611686018427387904 then (some 1) else (if a0 ≤ (-4611686018427387904) then (some (-1)) else (some 0))) = some r := h
  clear h
  by_cases c2 : a0 ≥ 4611686018427387904
  ·
   rw [if_pos c2] at H
   have c2b0 : decide (4611686018427387904 ≤ a0) = true := decide_eq_true c2
   clear c2
   obtain rfl := Option.some.inj H
   go_enter Try.func97, Try.ntmps97
   go_wp2
   go_ret
   exact ⟨by first | rfl | (simp; done) | (simp [*]; done), by repeat (first | exact Drawn0.refl _ | apply Drawn0.step)⟩
  ·
   rw [if_neg c2] at H
   have c2b0 : decide (4611686018427387904 ≤ a0) = false := decide_eq_false c2
   clear c2
   by_cases c3 : a0 ≤ (-4611686018427387904)
   ·
    rw [if_pos c3] at H
    have c3b0 : decide (a0 ≤ (-4611686018427387904)) = true := decide_eq_true c3
    clear c3
    obtain rfl := Option.some.inj H
    go_enter Try.func97, Try.ntmps97
    go_wp2
    go_ret
    exact ⟨by first | rfl | (simp; done) | (simp [*]; done), by repeat (first | exact Drawn0.refl _ | apply Drawn0.step)⟩
   ·
    rw [if_neg c3] at H
    have c3b0 : decide (a0 ≤ (-4611686018427387904)) = false := decide_eq_false c3
    clear c3
    obtain rfl := Option.some.inj H
    go_enter Try.func97, Try.ntmps97
    go_wp2
    go_ret
    exact ⟨by first | rfl | (simp; done) | (simp [*]; done), by repeat (first | exact Drawn0.refl _ | apply Drawn0.step)⟩
def bound_Div.j0 : Nat → Int → Int → Bool → Option (Int)
  | 0, _, _, _ => none
  | k + 1, x0, x1, x9 => if x9 = true then (some 0) else (if x0 = 0 then (some 0) else ((bound_kind.f x0).bind fun t669 => (if t669 = 0 then (if x1 = 0 then (none) else (some (wrap64 (Int.tdiv x0 x1)))) else (if ((decide (x0 < 0)) == (decide (x1 < 0))) = true then (some 4611686018427387904) else (some (-4611686018427387904))))))
def bound_Div.f (k : Nat) (a0 : Int) (a1 : Int) : Option (Int) := (bound_Fit.f a0).bind fun t666 => ((bound_Fit.f a1).bind fun t667 => (if t667 = 0 then (bound_Div.j0 k t666 t667 true) else ((bound_kind.f t667).bind fun t668 => (bound_Div.j0 k t666 t667 (t668 != 0)))))
set_option maxHeartbeats 8000000 in
set_option maxRecDepth 100000 in
theorem bound_Div.calls (k : Nat) (a0 : Int) (a1 : Int) (r : Int) (w : World) (h : bound_Div.f k a0 a1 = some r) :
    Calls Try.prog 84 #[.int .i64 a0, .int .i64 a1] w fun e w' => e = .returned (.int .i64 r) ∧ Below w.heap.size w w' := by
  have HB := Aside0.mk (Below.refl w.heap.size w)
  have H : ((bound_Fit.f a0).bind fun t666 => ((bound_Fit.f a1).bind fun t667 => (if t667 = 0 then (bound_Div.j0 k t666 t667 true) else ((bound_kind.f t667).bind fun t668 => (bound_Div.j0 k t666 t667 (t668 != 0)))))) = some r := h
  clear h
  replace H := Option.bind_eq_some_iff.mp H
  obtain ⟨t666, A30, H⟩ := H
  replace H : ((bound_Fit.f a1).bind fun t667 => (if t667 = 0 then (bound_Div.j0 k t666 t667 true) else ((bound_kind.f t667).bind fun t668 => (bound_Div.j0 k t666 t667 (t668 != 0))))) = some r := H
  have A3 := Aside0.mk A30
  clear A30
  replace H := Option.bind_eq_some_iff.mp H
  obtain ⟨t667, A40, H⟩ := H
  replace H : (if t667 = 0 then (bound_Div.j0 k t666 t667 true) else ((bound_kind.f t667).bind fun t668 => (bound_Div.j0 k t666 t667 (t668 != 0)))) = some r := H
  have A4 := Aside0.mk A40
  clear A40
  have HC5 := Aside0.mk H
  clear H
  go_enter Try.func84, Try.ntmps84
  go_upto_region 2 with (first | ((with_reducible refine gate_callee (f := 94) rfl ?_); refine goesL_ (some 6) rfl rfl Try.func94 (by kernel_rfl) rfl #[.int .i64 a0] rfl (by (try simp only [List.map_toArray, List.map_cons, List.map_nil]); first | done | rfl | (simp only [List.length_drop, List.length_take]; rfl)) ?_; (with_reducible refine (bound_Fit.calls a0 t666 _ A3.out).mono ?_); rintro e w6 ⟨rfl, hb⟩; refine ⟨_, rfl, ?_⟩; have n0_ := bst HB hb; clear HB; have HB := n0_; clear n0_; (try clear hb); (try clear hb2); (try clear hk); (try clear hi)) | ((with_reducible refine gate_callee (f := 94) rfl ?_); refine goesL_ (some 8) rfl rfl Try.func94 (by kernel_rfl) rfl #[.int .i64 a1] rfl (by (try simp only [List.map_toArray, List.map_cons, List.map_nil]); first | done | rfl | (simp only [List.length_drop, List.length_take]; rfl)) ?_; (with_reducible refine (bound_Fit.calls a1 t667 _ A4.out).mono ?_); rintro e w7 ⟨rfl, hb⟩; refine ⟨_, rfl, ?_⟩; have n0_ := bst HB hb; clear HB; have HB := n0_; clear n0_; (try clear hb); (try clear hb2); (try clear hk); (try clear hi)))
  (try simp only [Act.put, List.setIfInBounds_toArray, List.set_cons_zero, List.set_cons_succ])
  go_cut [9] (fun v9 wc => ∃ (kq : Nat) (x9_4 : Bool), v9 = .bool x9_4 ∧ Aside0 (bound_Div.j0 kq t666 t667 x9_4 = some r) ∧ Aside0 (kq ≤ k) ∧ Aside0 (Below w.heap.size w wc))
  case first =>
   have H := HC5.out
   clear HC5
   by_cases c8 : t667 = 0
   ·
    rw [if_pos c8] at H
    have c8b0 : (t667 == 0) = true := beq_iff_eq.mpr c8
    have c8b1 : (t667 != 0) = false := bne_eq_false_iff_eq.mpr c8
    clear c8
    (first | rw [c8b0] | (simp only [i64_w, i32_w]; rw [c8b0]) | skip)
    have H' := Aside0.mk H
    clear H
    go_wp2
    go_meet
    case rel => exact ⟨_, (true), (by first | rfl | (simp; done) | (simp [*]; done)), H', ⟨by first | omega | exact Nat.le_refl _⟩, bpk HB⟩
   ·
    rw [if_neg c8] at H
    have c8b0 : (t667 == 0) = false := beq_eq_false_iff_ne.mpr c8
    have c8b1 : (t667 != 0) = true := bne_iff_ne.mpr c8
    (first | rw [c8b0] | (simp only [i64_w, i32_w]; rw [c8b0]) | skip)
    replace H := Option.bind_eq_some_iff.mp H
    obtain ⟨t668, A90, H⟩ := H
    replace H : (bound_Div.j0 k t666 t667 (t668 != 0)) = some r := H
    have A9 := Aside0.mk A90
    clear A90
    have H' := Aside0.mk H
    clear H
    go_wp2_with (first | (go_at_call 97; (with_reducible refine (bound_kind.calls t667 t668 _ A9.out).mono ?_); rintro e w' ⟨rfl, ⟨nd, rfl⟩⟩))
    go_meet
    case rel => exact ⟨_, ((t668 != 0)), (by first | rfl | (simp; done) | (simp [*]; done)), H', ⟨by first | omega | exact Nat.le_refl _⟩, bpk HB⟩
  case rest =>
   clear HC5
   try clear p2
   try clear c8
   try clear c8b0
   try clear c8b1
   try clear c9
   obtain ⟨kq, x9_4, rfl, HA, HJ4, HB⟩ := hcut
   cases kq with
   | zero => exact absurd HA.out (by simp [bound_Div.j0])
   | succ kj4 =>
    have H := HA.out
    clear HA
    simp only [bound_Div.j0] at H
    by_cases c10 : x9_4 = true
    ·
     subst c10
     have H1 : (some 0) = some r := by rw [if_pos rfl] at H; exact H
     clear H
     have H := H1
     clear H1
     obtain rfl := Option.some.inj H
     go_wp2
     go_ret
     exact ⟨by first | rfl | (simp [errW_none, errW_some] <;> rfl) | (simp [*, errW_none, errW_some] <;> rfl) | kernel_rfl, by repeat (first | (with_reducible first | exact HB.out | apply below_alloc | apply pw_below_drewN | apply below_drew1) | exact HB.out)⟩
    ·
     replace c10 := Bool.eq_false_iff.mpr c10
     subst c10
     have H1 : (if t666 = 0 then (some 0) else ((bound_kind.f t666).bind fun t669 => (if t669 = 0 then (if t667 = 0 then (none) else (some (wrap64 (Int.tdiv t666 t667)))) else (if ((decide (t666 < 0)) == (decide (t667 < 0))) = true then (some 4611686018427387904) else (some (-4611686018427387904)))))) = some r := by rw [if_neg (show ¬ (false = true) by decide)] at H; exact H
     clear H
     have H := H1
     clear H1
     by_cases c11 : t666 = 0
     ·
      rw [if_pos c11] at H
      have c11b0 : (t666 == 0) = true := beq_iff_eq.mpr c11
      have c11b1 : (t666 != 0) = false := bne_eq_false_iff_eq.mpr c11
      clear c11
      obtain rfl := Option.some.inj H
      go_wp2
      go_ret
      exact ⟨by first | rfl | (simp [errW_none, errW_some] <;> rfl) | (simp [*, errW_none, errW_some] <;> rfl) | kernel_rfl, by repeat (first | (with_reducible first | exact HB.out | apply below_alloc | apply pw_below_drewN | apply below_drew1) | exact HB.out)⟩
     ·
      rw [if_neg c11] at H
      have c11b0 : (t666 == 0) = false := beq_eq_false_iff_ne.mpr c11
      have c11b1 : (t666 != 0) = true := bne_iff_ne.mpr c11
      replace H := Option.bind_eq_some_iff.mp H
      obtain ⟨t669, A120, H⟩ := H
      replace H : (if t669 = 0 then (if t667 = 0 then (none) else (some (wrap64 (Int.tdiv t666 t667)))) else (if ((decide (t666 < 0)) == (decide (t667 < 0))) = true then (some 4611686018427387904) else (some (-4611686018427387904)))) = some r := H
      have A12 := Aside0.mk A120
      clear A120
      by_cases c13 : t669 = 0
      ·
       rw [if_pos c13] at H
       have c13b0 : (t669 == 0) = true := beq_iff_eq.mpr c13
       have c13b1 : (t669 != 0) = false := bne_eq_false_iff_eq.mpr c13
       clear c13
       by_cases c14 : t667 = 0
       ·
        rw [if_pos c14] at H
        exact absurd H (by simp)
       ·
        rw [if_neg c14] at H
        have c14b0 : (t667 == 0) = false := beq_eq_false_iff_ne.mpr c14
        have c14b1 : (t667 != 0) = true := bne_iff_ne.mpr c14
        obtain rfl := Option.some.inj H
        go_wp2_with (first | ((with_reducible refine gate_callee (f := 97) rfl ?_); refine goesL_ (some 22) rfl rfl Try.func97 (by kernel_rfl) rfl #[.int .i64 t666] rfl (by (try simp only [List.map_toArray, List.map_cons, List.map_nil]); first | done | rfl | (simp only [List.length_drop, List.length_take]; rfl)) ?_; (with_reducible refine (bound_kind.calls t666 t669 _ A12.out).mono ?_); rintro e w' ⟨rfl, ⟨nd, rfl⟩⟩; refine ⟨_, rfl, ?_⟩))
        go_ret
        exact ⟨by first | rfl | (simp [errW_none, errW_some] <;> rfl) | (simp [*, errW_none, errW_some] <;> rfl) | kernel_rfl, by repeat (first | (with_reducible first | exact HB.out | apply below_alloc | apply pw_below_drewN | apply below_drew1) | exact HB.out)⟩
      ·
       rw [if_neg c13] at H
       have c13b0 : (t669 == 0) = false := beq_eq_false_iff_ne.mpr c13
       have c13b1 : (t669 != 0) = true := bne_iff_ne.mpr c13
       by_cases c15 : ((decide (t666 < 0)) == (decide (t667 < 0))) = true
       ·
        rw [if_pos c15] at H
        have c15b0 : ((decide (t666 < 0)) == (decide (t667 < 0))) = true := c15
        (try (have c15b1 : decide ((decide (t666 < 0)) = (decide (t667 < 0))) = true := by simpa using c15))
        (try (have c15b2 : ((decide (t666 < 0)) == (decide (t667 < 0))) = true := by simpa using c15))
        clear c15
        obtain rfl := Option.some.inj H
        go_wp2_with (first | ((with_reducible refine gate_callee (f := 97) rfl ?_); refine goesL_ (some 22) rfl rfl Try.func97 (by kernel_rfl) rfl #[.int .i64 t666] rfl (by (try simp only [List.map_toArray, List.map_cons, List.map_nil]); first | done | rfl | (simp only [List.length_drop, List.length_take]; rfl)) ?_; (with_reducible refine (bound_kind.calls t666 t669 _ A12.out).mono ?_); rintro e w' ⟨rfl, ⟨nd, rfl⟩⟩; refine ⟨_, rfl, ?_⟩))
        go_ret
        exact ⟨by first | rfl | (simp [errW_none, errW_some] <;> rfl) | (simp [*, errW_none, errW_some] <;> rfl) | kernel_rfl, by repeat (first | (with_reducible first | exact HB.out | apply below_alloc | apply pw_below_drewN | apply below_drew1) | exact HB.out)⟩
       ·
        rw [if_neg c15] at H
        have c15b0 : ((decide (t666 < 0)) == (decide (t667 < 0))) = false := by simpa using c15
        (try (have c15b1 : decide ((decide (t666 < 0)) = (decide (t667 < 0))) = false := by simpa using c15))
        (try (have c15b2 : ((decide (t666 < 0)) == (decide (t667 < 0))) = false := by simpa using c15))
        (try (have c15b3 : ¬ ((decide (t666 < 0)) = (decide (t667 < 0))) := by simpa using c15))
        clear c15
        obtain rfl := Option.some.inj H
        go_wp2_with (first | ((with_reducible refine gate_callee (f := 97) rfl ?_); refine goesL_ (some 22) rfl rfl Try.func97 (by kernel_rfl) rfl #[.int .i64 t666] rfl (by (try simp only [List.map_toArray, List.map_cons, List.map_nil]); first | done | rfl | (simp only [List.length_drop, List.length_take]; rfl)) ?_; (with_reducible refine (bound_kind.calls t666 t669 _ A12.out).mono ?_); rintro e w' ⟨rfl, ⟨nd, rfl⟩⟩; refine ⟨_, rfl, ?_⟩))
        go_ret
        exact ⟨by first | rfl | (simp [errW_none, errW_some] <;> rfl) | (simp [*, errW_none, errW_some] <;> rfl) | kernel_rfl, by repeat (first | (with_reducible first | exact HB.out | apply below_alloc | apply pw_below_drewN | apply below_drew1) | exact HB.out)⟩
end Go.Proofs.Ytbbnpipmjadpoaa.P
