/- What the law's proof needs of Px44. -/
import Derived.Test.YtbbnpipmjadpoaaTrDPx0
import Derived.Test.YtbbnpipmjadpoaaTrDPx35
-- PRINTED by print.py (a twelfth state) out of the translation. Not trusted: Lean checks it.
namespace Go.Proofs.Ytbbnpipmjadpoaa.P
open Go.RowKit Go.Proofs.YtbbnpipmjadpoaaW.PrintWords Go.Proofs.YtbbnpipmjadpoaaW.PrintLast Go.Proofs.YtbbnpipmjadpoaaW.PrintMore Go.Proofs.YtbbnpipmjadpoaaO
attribute [local go_sem] max2_int min2_int max_two min_two max_three min_three max_four min_four   -- for this text's walks alone
set_option linter.unusedVariables false
set_option linter.unusedSimpArgs false
mutual
def gimbalref01_Div.j0 : Nat → Int → Int → Bool → Option (Int)
  | 0, _, _, _ => none
  | k + 1, x0, x1, x22 => if x22 = true then (some 0) else (if x0 = 4611686018427387904 then (gimbalref01_Div.j1 k x0 x1 true) else (gimbalref01_Div.j1 k x0 x1 (x0 == (-4611686018427387904))))
def gimbalref01_Div.j1 : Nat → Int → Int → Bool → Option (Int)
  | 0, _, _, _ => none
  | k + 1, x0, x1, x28 => if x28 = true then (if ((decide (x0 < 0)) == (decide (x1 < 0))) = true then (some 4611686018427387904) else (some (-4611686018427387904))) else (if x1 = 0 then (none) else (some (wrap64 (Int.tdiv x0 x1))))
end
def gimbalref01_Div.f (k : Nat) (a0 : Int) (a1 : Int) : Option (Int) := (gimbalref01_Fit.f a0).bind fun t1004 => ((gimbalref01_Fit.f a1).bind fun t1005 => (if t1004 = 0 then (gimbalref01_Div.j0 k t1004 t1005 true) else (if t1005 = 0 then (gimbalref01_Div.j0 k t1004 t1005 true) else (if t1005 = 4611686018427387904 then (gimbalref01_Div.j0 k t1004 t1005 true) else (gimbalref01_Div.j0 k t1004 t1005 (t1005 == (-4611686018427387904)))))))
set_option maxHeartbeats 8000000 in
set_option maxRecDepth 100000 in
theorem gimbalref01_Div.calls (k : Nat) (a0 : Int) (a1 : Int) (r : Int) (w : World) (h : gimbalref01_Div.f k a0 a1 = some r) :
    Calls Try.prog 100 #[.int .i64 a0, .int .i64 a1] w fun e w' => e = .returned (.int .i64 r) ∧ Drawn0 w w' := by
  have H : ((gimbalref01_Fit.f a0).bind fun t1004 => ((gimbalref01_Fit.f a1).bind fun t1005 => (if t1004 = 0 then (gimbalref01_Div.j0 k t1004 t1005 true) else (if t1005 = 0 then (gimbalref01_Div.j0 k t1004 t1005 true) else (if t1005 = 4611686018427387904 then (gimbalref01_Div.j0 k t1004 t1005 true) else (gimbalref01_Div.j0 k t1004 t1005 (t1005 == (-4611686018427387904)))))))) = some r := h
  clear h
  replace H := Option.bind_eq_some_iff.mp H
  obtain ⟨t1004, A30, H⟩ := H
  replace H : ((gimbalref01_Fit.f a1).bind fun t1005 => (if t1004 = 0 then (gimbalref01_Div.j0 k t1004 t1005 true) else (if t1005 = 0 then (gimbalref01_Div.j0 k t1004 t1005 true) else (if t1005 = 4611686018427387904 then (gimbalref01_Div.j0 k t1004 t1005 true) else (gimbalref01_Div.j0 k t1004 t1005 (t1005 == (-4611686018427387904))))))) = some r := H
  have A3 := Aside0.mk A30
  clear A30
  replace H := Option.bind_eq_some_iff.mp H
  obtain ⟨t1005, A40, H⟩ := H
  replace H : (if t1004 = 0 then (gimbalref01_Div.j0 k t1004 t1005 true) else (if t1005 = 0 then (gimbalref01_Div.j0 k t1004 t1005 true) else (if t1005 = 4611686018427387904 then (gimbalref01_Div.j0 k t1004 t1005 true) else (gimbalref01_Div.j0 k t1004 t1005 (t1005 == (-4611686018427387904)))))) = some r := H
  have A4 := Aside0.mk A40
  clear A40
  have HC5 := Aside0.mk H
  clear H
  go_enter Try.func100, Try.ntmps100
  go_upto_region 3 with (first | ((with_reducible refine gate_callee (f := 98) rfl ?_); refine goesL_ (some 6) rfl rfl Try.func98 (by kernel_rfl) rfl #[.int .i64 a0] rfl (by (try simp only [List.map_toArray, List.map_cons, List.map_nil]); first | done | rfl | (simp only [List.length_drop, List.length_take]; rfl)) ?_; (with_reducible refine (gimbalref01_Fit.calls a0 t1004 _ A3.out).mono ?_); rintro e w' ⟨rfl, ⟨nd, rfl⟩⟩; refine ⟨_, rfl, ?_⟩) | ((with_reducible refine gate_callee (f := 98) rfl ?_); refine goesL_ (some 8) rfl rfl Try.func98 (by kernel_rfl) rfl #[.int .i64 a1] rfl (by (try simp only [List.map_toArray, List.map_cons, List.map_nil]); first | done | rfl | (simp only [List.length_drop, List.length_take]; rfl)) ?_; (with_reducible refine (gimbalref01_Fit.calls a1 t1005 _ A4.out).mono ?_); rintro e w' ⟨rfl, ⟨nd, rfl⟩⟩; refine ⟨_, rfl, ?_⟩))
  (try simp only [Act.put, List.setIfInBounds_toArray, List.set_cons_zero, List.set_cons_succ])
  go_cut [22] (fun v22 wc => ∃ (kq : Nat) (x22_4 : Bool), v22 = .bool x22_4 ∧ Aside0 (gimbalref01_Div.j0 kq t1004 t1005 x22_4 = some r) ∧ Aside0 (kq ≤ k) ∧ Drawn0 w wc)
  case first =>
   have H := HC5.out
   clear HC5
   by_cases c6 : t1004 = 0
   ·
    rw [if_pos c6] at H
    have c6b0 : (t1004 == 0) = true := beq_iff_eq.mpr c6
    have c6b1 : (t1004 != 0) = false := bne_eq_false_iff_eq.mpr c6
    clear c6
    (first | rw [c6b0] | (simp only [i64_w, i32_w]; rw [c6b0]) | skip)
    have H' := Aside0.mk H
    clear H
    go_wp2
    go_meet
    case rel => exact ⟨_, (true), (by first | rfl | (simp; done) | (simp [*]; done)), H', ⟨by first | omega | exact Nat.le_refl _⟩, by repeat (first | exact Drawn0.refl _ | apply Drawn0.step)⟩
   ·
    rw [if_neg c6] at H
    have c6b0 : (t1004 == 0) = false := beq_eq_false_iff_ne.mpr c6
    have c6b1 : (t1004 != 0) = true := bne_iff_ne.mpr c6
    (first | rw [c6b0] | (simp only [i64_w, i32_w]; rw [c6b0]) | skip)
    by_cases c7 : t1005 = 0
    ·
     rw [if_pos c7] at H
     have c7b0 : (t1005 == 0) = true := beq_iff_eq.mpr c7
     have c7b1 : (t1005 != 0) = false := bne_eq_false_iff_eq.mpr c7
     clear c7
     have H' := Aside0.mk H
     clear H
     go_wp2
     go_meet
     case rel => exact ⟨_, (true), (by first | rfl | (simp; done) | (simp [*]; done)), H', ⟨by first | omega | exact Nat.le_refl _⟩, by repeat (first | exact Drawn0.refl _ | apply Drawn0.step)⟩
    ·
     rw [if_neg c7] at H
     have c7b0 : (t1005 == 0) = false := beq_eq_false_iff_ne.mpr c7
     have c7b1 : (t1005 != 0) = true := bne_iff_ne.mpr c7
     by_cases c8 : t1005 = 4611686018427387904
     ·
      rw [if_pos c8] at H
      have c8b0 : (t1005 == 4611686018427387904) = true := beq_iff_eq.mpr c8
      have c8b1 : (t1005 != 4611686018427387904) = false := bne_eq_false_iff_eq.mpr c8
      clear c8
      have H' := Aside0.mk H
      clear H
      go_wp2
      go_meet
      case rel => exact ⟨_, (true), (by first | rfl | (simp; done) | (simp [*]; done)), H', ⟨by first | omega | exact Nat.le_refl _⟩, by repeat (first | exact Drawn0.refl _ | apply Drawn0.step)⟩
     ·
      rw [if_neg c8] at H
      have c8b0 : (t1005 == 4611686018427387904) = false := beq_eq_false_iff_ne.mpr c8
      have c8b1 : (t1005 != 4611686018427387904) = true := bne_iff_ne.mpr c8
      have H' := Aside0.mk H
      clear H
      go_wp2
      go_meet
      case rel => exact ⟨_, ((t1005 == (-4611686018427387904))), (by first | rfl | (simp; done) | (simp [*]; done)), H', ⟨by first | omega | exact Nat.le_refl _⟩, by repeat (first | exact Drawn0.refl _ | apply Drawn0.step)⟩
  case rest =>
   clear HC5
   try clear c1
   try clear p2
   try clear c6
   try clear c6b0
   try clear c6b1
   try clear c7
   try clear c7b0
   try clear c7b1
   try clear c8
   try clear c8b0
   try clear c8b1
   obtain ⟨kq, x22_4, rfl, HA, HJ4, ⟨mc4, rfl⟩⟩ := hcut
   cases kq with
   | zero => exact absurd HA.out (by simp [gimbalref01_Div.j0])
   | succ kj4 =>
    have H := HA.out
    clear HA
    simp only [gimbalref01_Div.j0] at H
    by_cases c9 : x22_4 = true
    ·
     subst c9
     have H1 : (some 0) = some r := by rw [if_pos rfl] at H; exact H
     clear H
     have H := H1
     clear H1
     obtain rfl := Option.some.inj H
     go_wp2
     go_ret
     exact ⟨by first | rfl | (simp; done) | (simp [*]; done), by repeat (first | exact Drawn0.refl _ | apply Drawn0.step)⟩
    ·
     replace c9 := Bool.eq_false_iff.mpr c9
     subst c9
     have H1 : (if t1004 = 4611686018427387904 then (gimbalref01_Div.j1 kj4 t1004 t1005 true) else (gimbalref01_Div.j1 kj4 t1004 t1005 (t1004 == (-4611686018427387904)))) = some r := by rw [if_neg (show ¬ (false = true) by decide)] at H; exact H
     clear H
     have H := H1
     clear H1
     have HC10 := Aside0.mk H
     clear H
     go_upto_region 5 with (fail)
     go_cut [28] (fun v28 wc => ∃ (kq : Nat) (x28_9 : Bool), v28 = .bool x28_9 ∧ Aside0 (gimbalref01_Div.j1 kq t1004 t1005 x28_9 = some r) ∧ Aside0 (kq ≤ kj4) ∧ Drawn0 w wc)
     case first =>
      have H := HC10.out
      clear HC10
      by_cases c11 : t1004 = 4611686018427387904
      ·
       rw [if_pos c11] at H
       have c11b0 : (t1004 == 4611686018427387904) = true := beq_iff_eq.mpr c11
       have c11b1 : (t1004 != 4611686018427387904) = false := bne_eq_false_iff_eq.mpr c11
       clear c11
       (first | rw [c11b0] | (simp only [i64_w, i32_w]; rw [c11b0]) | skip)
       have H' := Aside0.mk H
       clear H
       go_wp2
       go_meet
       case rel => exact ⟨_, (true), (by first | rfl | (simp; done) | (simp [*]; done)), H', ⟨by have := HJ4.out; first | omega | exact Nat.le_refl _⟩, by repeat (first | exact Drawn0.refl _ | apply Drawn0.step)⟩
      ·
       rw [if_neg c11] at H
       have c11b0 : (t1004 == 4611686018427387904) = false := beq_eq_false_iff_ne.mpr c11
       have c11b1 : (t1004 != 4611686018427387904) = true := bne_iff_ne.mpr c11
       (first | rw [c11b0] | (simp only [i64_w, i32_w]; rw [c11b0]) | skip)
       have H' := Aside0.mk H
       clear H
       go_wp2
       go_meet
       case rel => exact ⟨_, ((t1004 == (-4611686018427387904))), (by first | rfl | (simp; done) | (simp [*]; done)), H', ⟨by have := HJ4.out; first | omega | exact Nat.le_refl _⟩, by repeat (first | exact Drawn0.refl _ | apply Drawn0.step)⟩
     case rest =>
      clear HC10
      try clear c1
      try clear p2
      try clear c4
      try clear c6
      try clear c6b0
      try clear c6b1
      try clear c7
      try clear c7b0
      try clear c7b1
      try clear c8
      try clear c8b0
      try clear c8b1
      try clear c9
      try clear c10
      try clear c11
      try clear c11b0
      try clear c11b1
      try clear p2
      obtain ⟨kq, x28_9, rfl, HA, HJ9, ⟨mc9, rfl⟩⟩ := hcut
      cases kq with
      | zero => exact absurd HA.out (by simp [gimbalref01_Div.j1])
      | succ kj9 =>
       have H := HA.out
       clear HA
       simp only [gimbalref01_Div.j1] at H
       by_cases c12 : x28_9 = true
       ·
        subst c12
        have H1 : (if ((decide (t1004 < 0)) == (decide (t1005 < 0))) = true then (some 4611686018427387904) else (some (-4611686018427387904))) = some r := by rw [if_pos rfl] at H; exact H
        clear H
        have H := H1
        clear H1
        by_cases c13 : ((decide (t1004 < 0)) == (decide (t1005 < 0))) = true
        ·
         rw [if_pos c13] at H
         have c13b0 : ((decide (t1004 < 0)) == (decide (t1005 < 0))) = true := c13
         (try (have c13b1 : decide ((decide (t1004 < 0)) = (decide (t1005 < 0))) = true := by simpa using c13))
         (try (have c13b2 : ((decide (t1004 < 0)) == (decide (t1005 < 0))) = true := by simpa using c13))
         clear c13
         obtain rfl := Option.some.inj H
         go_wp2
         go_ret
         exact ⟨by first | rfl | (simp; done) | (simp [*]; done), by repeat (first | exact Drawn0.refl _ | apply Drawn0.step)⟩
        ·
         rw [if_neg c13] at H
         have c13b0 : ((decide (t1004 < 0)) == (decide (t1005 < 0))) = false := by simpa using c13
         (try (have c13b1 : decide ((decide (t1004 < 0)) = (decide (t1005 < 0))) = false := by simpa using c13))
         (try (have c13b2 : ((decide (t1004 < 0)) == (decide (t1005 < 0))) = false := by simpa using c13))
         (try (have c13b3 : ¬ ((decide (t1004 < 0)) = (decide (t1005 < 0))) := by simpa using c13))
         clear c13
         obtain rfl := Option.some.inj H
         go_wp2
         go_ret
         exact ⟨by first | rfl | (simp; done) | (simp [*]; done), by repeat (first | exact Drawn0.refl _ | apply Drawn0.step)⟩
       ·
        replace c12 := Bool.eq_false_iff.mpr c12
        subst c12
        have H1 : (if t1005 = 0 then (none) else (some (wrap64 (Int.tdiv t1004 t1005)))) = some r := by rw [if_neg (show ¬ (false = true) by decide)] at H; exact H
        clear H
        have H := H1
        clear H1
        by_cases c14 : t1005 = 0
        ·
         rw [if_pos c14] at H
         exact absurd H (by simp)
        ·
         rw [if_neg c14] at H
         have c14b0 : (t1005 == 0) = false := beq_eq_false_iff_ne.mpr c14
         have c14b1 : (t1005 != 0) = true := bne_iff_ne.mpr c14
         obtain rfl := Option.some.inj H
         go_wp2
         go_ret
         exact ⟨by first | rfl | (simp; done) | (simp [*]; done), by repeat (first | exact Drawn0.refl _ | apply Drawn0.step)⟩
end Go.Proofs.Ytbbnpipmjadpoaa.P
