/- What the law's proof needs of Px27. -/
import Derived.Test.YtbbnpipmjadpoaaTrJU2
import Derived.Test.YtbbnpipmjadpoaaTrJU
import Derived.Test.YtbbnpipmjadpoaaTrJPx0
import Derived.Test.YtbbnpipmjadpoaaTrJPx17
import Derived.Test.YtbbnpipmjadpoaaTrJPx26
-- PRINTED by print.py (a twelfth state) out of the translation. Not trusted: Lean checks it.
namespace Go.Proofs.Ytbbnpipmjadpoaa.P
open Go.RowKit Go.Proofs.YtbbnpipmjadpoaaW.PrintWords Go.Proofs.YtbbnpipmjadpoaaW.PrintLast Go.Proofs.YtbbnpipmjadpoaaW.PrintMore Go.Proofs.YtbbnpipmjadpoaaO
attribute [local go_sem] max2_int min2_int max_two min_two max_three min_three max_four min_four   -- for this text's walks alone
set_option linter.unusedVariables false
set_option linter.unusedSimpArgs false
mutual
def bound_Mul.j0 : Nat → Int → Int → Bool → Option (Int)
  | 0, _, _, _ => none
  | k + 1, x0, x1, x17 => if x17 = true then (some 0) else ((bound_size.f x0).bind fun t579 => ((bound_size.f x1).bind fun t580 => ((bits_Mul64.f t579 t580).bind fun bt581 => (if bt581.1 = 0 then (bound_Mul.j1 k x0 x1 4611686018427387904 bt581.2 (decide (bt581.2 < 4611686018427387904))) else (bound_Mul.j1 k x0 x1 4611686018427387904 bt581.2 false)))))
def bound_Mul.j1 : Nat → Int → Int → Int → Int → Bool → Option (Int)
  | 0, _, _, _, _, _ => none
  | k + 1, x0, x1, x5, x7, x31 => if x31 = true then (if ((decide (x0 < 0)) != (decide (x1 < 0))) = true then (some (wrap64 (-(wrap64 (x7))))) else (some (wrap64 (x7)))) else (if ((decide (x0 < 0)) != (decide (x1 < 0))) = true then (some (wrap64 (-x5))) else (some x5))
end
def bound_Mul.f (k : Nat) (a0 : Int) (a1 : Int) : Option (Int) := (bound_Fit.f a0).bind fun t577 => ((bound_Fit.f a1).bind fun t578 => (if t577 = 0 then (bound_Mul.j0 k t577 t578 true) else (bound_Mul.j0 k t577 t578 (t578 == 0))))
set_option maxHeartbeats 8000000 in
set_option maxRecDepth 100000 in
theorem bound_Mul.calls (k : Nat) (a0 : Int) (a1 : Int) (r : Int) (w : World) (h : bound_Mul.f k a0 a1 = some r) :
    Calls Try.prog 79 #[.int .i64 a0, .int .i64 a1] w fun e w' => e = .returned (.int .i64 r) ∧ Below w.heap.size w w' := by
  have HB := Aside0.mk (Below.refl w.heap.size w)
  have H : ((bound_Fit.f a0).bind fun t577 => ((bound_Fit.f a1).bind fun t578 => (if t577 = 0 then (bound_Mul.j0 k t577 t578 true) else (bound_Mul.j0 k t577 t578 (t578 == 0))))) = some r := h
  clear h
  replace H := Option.bind_eq_some_iff.mp H
  obtain ⟨t577, A30, H⟩ := H
  replace H : ((bound_Fit.f a1).bind fun t578 => (if t577 = 0 then (bound_Mul.j0 k t577 t578 true) else (bound_Mul.j0 k t577 t578 (t578 == 0)))) = some r := H
  have A3 := Aside0.mk A30
  clear A30
  replace H := Option.bind_eq_some_iff.mp H
  obtain ⟨t578, A40, H⟩ := H
  replace H : (if t577 = 0 then (bound_Mul.j0 k t577 t578 true) else (bound_Mul.j0 k t577 t578 (t578 == 0))) = some r := H
  have A4 := Aside0.mk A40
  clear A40
  have HC5 := Aside0.mk H
  clear H
  go_enter Try.func79, Try.ntmps79
  go_upto_region 2 with (first | ((with_reducible refine gate_callee (f := 94) rfl ?_); refine goesL_ (some 9) rfl rfl Try.func94 (by kernel_rfl) rfl #[.int .i64 a0] rfl (by (try simp only [List.map_toArray, List.map_cons, List.map_nil]); first | done | rfl | (simp only [List.length_drop, List.length_take]; rfl)) ?_; (with_reducible refine (bound_Fit.calls a0 t577 _ A3.out).mono ?_); rintro e w6 ⟨rfl, hb⟩; refine ⟨_, rfl, ?_⟩; have n0_ := bst HB hb; clear HB; have HB := n0_; clear n0_; (try clear hb); (try clear hb2); (try clear hk); (try clear hi)) | ((with_reducible refine gate_callee (f := 94) rfl ?_); refine goesL_ (some 11) rfl rfl Try.func94 (by kernel_rfl) rfl #[.int .i64 a1] rfl (by (try simp only [List.map_toArray, List.map_cons, List.map_nil]); first | done | rfl | (simp only [List.length_drop, List.length_take]; rfl)) ?_; (with_reducible refine (bound_Fit.calls a1 t578 _ A4.out).mono ?_); rintro e w7 ⟨rfl, hb⟩; refine ⟨_, rfl, ?_⟩; have n0_ := bst HB hb; clear HB; have HB := n0_; clear n0_; (try clear hb); (try clear hb2); (try clear hk); (try clear hi)))
  (try simp only [Act.put, List.setIfInBounds_toArray, List.set_cons_zero, List.set_cons_succ])
  go_cut [17] (fun v17 wc => ∃ (kq : Nat) (x17_4 : Bool), v17 = .bool x17_4 ∧ Aside0 (bound_Mul.j0 kq t577 t578 x17_4 = some r) ∧ Aside0 (kq ≤ k) ∧ Aside0 (Below w.heap.size w wc))
  case first =>
   have H := HC5.out
   clear HC5
   by_cases c8 : t577 = 0
   ·
    rw [if_pos c8] at H
    have c8b0 : (t577 == 0) = true := beq_iff_eq.mpr c8
    have c8b1 : (t577 != 0) = false := bne_eq_false_iff_eq.mpr c8
    clear c8
    (first | rw [c8b0] | (simp only [i64_w, i32_w]; rw [c8b0]) | skip)
    have H' := Aside0.mk H
    clear H
    go_wp2
    go_meet
    case rel => exact ⟨_, (true), (by first | rfl | (simp; done) | (simp [*]; done)), H', ⟨by first | omega | exact Nat.le_refl _⟩, bpk HB⟩
   ·
    rw [if_neg c8] at H
    have c8b0 : (t577 == 0) = false := beq_eq_false_iff_ne.mpr c8
    have c8b1 : (t577 != 0) = true := bne_iff_ne.mpr c8
    (first | rw [c8b0] | (simp only [i64_w, i32_w]; rw [c8b0]) | skip)
    have H' := Aside0.mk H
    clear H
    go_wp2
    go_meet
    case rel => exact ⟨_, ((t578 == 0)), (by first | rfl | (simp; done) | (simp [*]; done)), H', ⟨by first | omega | exact Nat.le_refl _⟩, bpk HB⟩
  case rest =>
   clear HC5
   try clear p2
   try clear c7
   try clear c8
   try clear c8b0
   try clear c8b1
   obtain ⟨kq, x17_4, rfl, HA, HJ4, HB⟩ := hcut
   cases kq with
   | zero => exact absurd HA.out (by simp [bound_Mul.j0])
   | succ kj4 =>
    have H := HA.out
    clear HA
    simp only [bound_Mul.j0] at H
    by_cases c9 : x17_4 = true
    ·
     subst c9
     have H1 : (some 0) = some r := by rw [if_pos rfl] at H; exact H
     clear H
     have H := H1
     clear H1
     obtain rfl := Option.some.inj H
     go_wp2
     go_ret
     exact ⟨by first | rfl | (simp [errW_none, errW_some] <;> rfl) | (simp [*, errW_none, errW_some] <;> rfl) | kernel_rfl, by repeat (first | (with_reducible first | exact HB.out | apply below_alloc | apply pw_below_drewN | apply below_drew1) | exact HB.out)⟩
    ·
     replace c9 := Bool.eq_false_iff.mpr c9
     subst c9
     have H1 : ((bound_size.f t577).bind fun t579 => ((bound_size.f t578).bind fun t580 => ((bits_Mul64.f t579 t580).bind fun bt581 => (if bt581.1 = 0 then (bound_Mul.j1 kj4 t577 t578 4611686018427387904 bt581.2 (decide (bt581.2 < 4611686018427387904))) else (bound_Mul.j1 kj4 t577 t578 4611686018427387904 bt581.2 false))))) = some r := by rw [if_neg (show ¬ (false = true) by decide)] at H; exact H
     clear H
     have H := H1
     clear H1
     replace H := Option.bind_eq_some_iff.mp H
     obtain ⟨t579, A100, H⟩ := H
     replace H : ((bound_size.f t578).bind fun t580 => ((bits_Mul64.f t579 t580).bind fun bt581 => (if bt581.1 = 0 then (bound_Mul.j1 kj4 t577 t578 4611686018427387904 bt581.2 (decide (bt581.2 < 4611686018427387904))) else (bound_Mul.j1 kj4 t577 t578 4611686018427387904 bt581.2 false)))) = some r := H
     have A10 := Aside0.mk A100
     clear A100
     replace H := Option.bind_eq_some_iff.mp H
     obtain ⟨t580, A110, H⟩ := H
     replace H : ((bits_Mul64.f t579 t580).bind fun bt581 => (if bt581.1 = 0 then (bound_Mul.j1 kj4 t577 t578 4611686018427387904 bt581.2 (decide (bt581.2 < 4611686018427387904))) else (bound_Mul.j1 kj4 t577 t578 4611686018427387904 bt581.2 false))) = some r := H
     have A11 := Aside0.mk A110
     clear A110
     replace H := Option.bind_eq_some_iff.mp H
     obtain ⟨⟨t581, t582⟩, A120, H⟩ := H
     replace H : (if t581 = 0 then (bound_Mul.j1 kj4 t577 t578 4611686018427387904 t582 (decide (t582 < 4611686018427387904))) else (bound_Mul.j1 kj4 t577 t578 4611686018427387904 t582 false)) = some r := H
     have A12 := Aside0.mk A120
     clear A120
     have HC13 := Aside0.mk H
     clear H
     go_upto_region 6 with (first | ((with_reducible refine gate_callee (f := 96) rfl ?_); refine goesL_ (some 20) rfl rfl Try.func96 (by kernel_rfl) rfl #[.int .i64 t577] rfl (by (try simp only [List.map_toArray, List.map_cons, List.map_nil]); first | done | rfl | (simp only [List.length_drop, List.length_take]; rfl)) ?_; (with_reducible refine (bound_size.calls t577 t579 _ A10.out).mono ?_); rintro e w' ⟨rfl, ⟨nd, rfl⟩⟩; refine ⟨_, rfl, ?_⟩) | ((with_reducible refine gate_callee (f := 96) rfl ?_); refine goesL_ (some 22) rfl rfl Try.func96 (by kernel_rfl) rfl #[.int .i64 t578] rfl (by (try simp only [List.map_toArray, List.map_cons, List.map_nil]); first | done | rfl | (simp only [List.length_drop, List.length_take]; rfl)) ?_; (with_reducible refine (bound_size.calls t578 t580 _ A11.out).mono ?_); rintro e w' ⟨rfl, ⟨nd, rfl⟩⟩; refine ⟨_, rfl, ?_⟩) | ((with_reducible refine gate_callee (f := 95) rfl ?_); refine goesL_ (some 23) rfl rfl Try.func95 (by kernel_rfl) rfl #[.int .u64 t579, .int .u64 t580] rfl (by (try simp only [List.map_toArray, List.map_cons, List.map_nil]); first | done | rfl | (simp only [List.length_drop, List.length_take]; rfl)) ?_; (with_reducible refine (bits_Mul64.calls t579 t580 t581 t582 _ A12.out).mono ?_); rintro e w' ⟨rfl, ⟨nd, rfl⟩⟩; refine ⟨_, rfl, ?_⟩))
     (try simp only [Act.put, List.setIfInBounds_toArray, List.set_cons_zero, List.set_cons_succ])
     go_cut [31] (fun v31 wc => ∃ (kq : Nat) (x31_12 : Bool), v31 = .bool x31_12 ∧ Aside0 (bound_Mul.j1 kq t577 t578 4611686018427387904 t582 x31_12 = some r) ∧ Aside0 (kq ≤ kj4) ∧ Aside0 (Below w.heap.size w wc))
     case first =>
      have H := HC13.out
      clear HC13
      by_cases c14 : t581 = 0
      ·
       rw [if_pos c14] at H
       have c14b0 : (t581 == 0) = true := beq_iff_eq.mpr c14
       have c14b1 : (t581 != 0) = false := bne_eq_false_iff_eq.mpr c14
       clear c14
       (first | rw [c14b0] | (simp only [i64_w, i32_w]; rw [c14b0]) | skip)
       have H' := Aside0.mk H
       clear H
       go_wp2
       go_meet
       case rel => exact ⟨_, (decide (t582 < 4611686018427387904)), (by first | rfl | (simp; done) | (simp [*]; done)), H', ⟨by have := HJ4.out; first | omega | exact Nat.le_refl _⟩, bpk HB⟩
      ·
       rw [if_neg c14] at H
       have c14b0 : (t581 == 0) = false := beq_eq_false_iff_ne.mpr c14
       have c14b1 : (t581 != 0) = true := bne_iff_ne.mpr c14
       (first | rw [c14b0] | (simp only [i64_w, i32_w]; rw [c14b0]) | skip)
       have H' := Aside0.mk H
       clear H
       go_wp2
       go_meet
       case rel => exact ⟨_, (false), (by first | rfl | (simp; done) | (simp [*]; done)), H', ⟨by have := HJ4.out; first | omega | exact Nat.le_refl _⟩, bpk HB⟩
     case rest =>
      clear HC13
      try clear c1
      try clear p2
      try clear c7
      try clear c8
      try clear c8b0
      try clear c8b1
      try clear c9
      try clear c14
      try clear c14b0
      try clear c14b1
      try clear p2
      obtain ⟨kq, x31_12, rfl, HA, HJ12, HB⟩ := hcut
      cases kq with
      | zero => exact absurd HA.out (by simp [bound_Mul.j1])
      | succ kj12 =>
       have H := HA.out
       clear HA
       simp only [bound_Mul.j1] at H
       by_cases c15 : x31_12 = true
       ·
        subst c15
        have H1 : (if ((decide (t577 < 0)) != (decide (t578 < 0))) = true then (some (wrap64 (-(wrap64 (t582))))) else (some (wrap64 (t582)))) = some r := by rw [if_pos rfl] at H; exact H
        clear H
        have H := H1
        clear H1
        by_cases c16 : ((decide (t577 < 0)) != (decide (t578 < 0))) = true
        ·
         rw [if_pos c16] at H
         have c16b0 : ((decide (t577 < 0)) != (decide (t578 < 0))) = true := c16
         (try (have c16b1 : decide ((decide (t577 < 0)) = (decide (t578 < 0))) = false := by simpa using c16))
         (try (have c16b2 : ((decide (t577 < 0)) == (decide (t578 < 0))) = false := by simpa using c16))
         (try (have c16b3 : ¬ ((decide (t577 < 0)) = (decide (t578 < 0))) := by simpa using c16))
         clear c16
         obtain rfl := Option.some.inj H
         go_wp2
         go_ret
         exact ⟨by first | rfl | (simp [errW_none, errW_some] <;> rfl) | (simp [*, errW_none, errW_some] <;> rfl) | kernel_rfl, by repeat (first | (with_reducible first | exact HB.out | apply below_alloc | apply pw_below_drewN | apply below_drew1) | exact HB.out)⟩
        ·
         rw [if_neg c16] at H
         have c16b0 : ((decide (t577 < 0)) != (decide (t578 < 0))) = false := by simpa using c16
         (try (have c16b1 : decide ((decide (t577 < 0)) = (decide (t578 < 0))) = true := by simpa using c16))
         (try (have c16b2 : ((decide (t577 < 0)) == (decide (t578 < 0))) = true := by simpa using c16))
         clear c16
         obtain rfl := Option.some.inj H
         go_wp2
         go_ret
         exact ⟨by first | rfl | (simp [errW_none, errW_some] <;> rfl) | (simp [*, errW_none, errW_some] <;> rfl) | kernel_rfl, by repeat (first | (with_reducible first | exact HB.out | apply below_alloc | apply pw_below_drewN | apply below_drew1) | exact HB.out)⟩
       ·
        replace c15 := Bool.eq_false_iff.mpr c15
        subst c15
        have H1 : (if ((decide (t577 < 0)) != (decide (t578 < 0))) = true then (some (wrap64 (-4611686018427387904))) else (some 4611686018427387904)) = some r := by rw [if_neg (show ¬ (false = true) by decide)] at H; exact H
        clear H
        have H := H1
        clear H1
        by_cases c17 : ((decide (t577 < 0)) != (decide (t578 < 0))) = true
        ·
         rw [if_pos c17] at H
         have c17b0 : ((decide (t577 < 0)) != (decide (t578 < 0))) = true := c17
         (try (have c17b1 : decide ((decide (t577 < 0)) = (decide (t578 < 0))) = false := by simpa using c17))
         (try (have c17b2 : ((decide (t577 < 0)) == (decide (t578 < 0))) = false := by simpa using c17))
         (try (have c17b3 : ¬ ((decide (t577 < 0)) = (decide (t578 < 0))) := by simpa using c17))
         clear c17
         obtain rfl := Option.some.inj H
         go_wp2
         go_ret
         exact ⟨by first | rfl | (simp [errW_none, errW_some] <;> rfl) | (simp [*, errW_none, errW_some] <;> rfl) | kernel_rfl, by repeat (first | (with_reducible first | exact HB.out | apply below_alloc | apply pw_below_drewN | apply below_drew1) | exact HB.out)⟩
        ·
         rw [if_neg c17] at H
         have c17b0 : ((decide (t577 < 0)) != (decide (t578 < 0))) = false := by simpa using c17
         (try (have c17b1 : decide ((decide (t577 < 0)) = (decide (t578 < 0))) = true := by simpa using c17))
         (try (have c17b2 : ((decide (t577 < 0)) == (decide (t578 < 0))) = true := by simpa using c17))
         clear c17
         obtain rfl := Option.some.inj H
         go_wp2
         go_ret
         exact ⟨by first | rfl | (simp [errW_none, errW_some] <;> rfl) | (simp [*, errW_none, errW_some] <;> rfl) | kernel_rfl, by repeat (first | (with_reducible first | exact HB.out | apply below_alloc | apply pw_below_drewN | apply below_drew1) | exact HB.out)⟩
end Go.Proofs.Ytbbnpipmjadpoaa.P
