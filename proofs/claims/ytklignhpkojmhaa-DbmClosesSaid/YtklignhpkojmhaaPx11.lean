-- PRINTED by print.py (a twelfth state) out of the translation. Not trusted: Lean checks it.
import Derived.Test.YtklignhpkojmhaaPx0
import Derived.Test.YtklignhpkojmhaaPx5
import Derived.Test.YtklignhpkojmhaaPx9
import Derived.Test.YtklignhpkojmhaaPx10
namespace Go.Proofs.Ytklignhpkojmhaa.P
open Go.RowKit Go.Proofs.YtklignhpkojmhaaW.PrintWords Go.Proofs.YtklignhpkojmhaaW.PrintLast Go.Proofs.YtklignhpkojmhaaW.PrintMore Go.Proofs.YtklignhpkojmhaaO
attribute [local go_sem] max2_int min2_int max_two min_two max_three min_three max_four min_four   -- for this text's walks alone
set_option linter.unusedVariables false
set_option linter.unusedSimpArgs false

/-! ### gimbalref10_Set: function 20 -/
mutual
def gimbalref10_Set.j0 : Nat → List Int → Int → Int → Int → Int → Bool → Option (List Int)
  | 0, _, _, _, _, _, _ => none
  | k + 1, x0, x1, x2, x3, x9, x38 => if x38 = true then ((gimbalref10_copied.f x0).bind fun t168 => (some t168)) else ((gimbalref10_allTaken.f k x0).bind fun t171 => ((gimbalref10_Taken.f x3).bind fun t174 => (if 0 ≤ (wrap64 ((wrap64 (x1 * x9)) + x2)) then (if (wrap64 ((wrap64 (x1 * x9)) + x2)) < (t171.length : Int) then (if t174 < (rd t171 (wrap64 ((wrap64 (x1 * x9)) + x2))) then (gimbalref10_Set.j1 k x1 x2 t174 x9 (t171.set ((wrap64 ((wrap64 (x1 * x9)) + x2)) : Int).toNat t174)) else (gimbalref10_Set.j1 k x1 x2 t174 x9 t171)) else (none)) else (none))))
def gimbalref10_Set.j1 : Nat → Int → Int → Int → Int → List Int → Option (List Int)
  | 0, _, _, _, _, _ => none
  | k + 1, x1, x2, x3, x9, x11 => (gimbalref10_other.f x2).bind fun t177 => ((gimbalref10_other.f x1).bind fun t178 => (if 0 ≤ (wrap64 ((wrap64 (t177 * x9)) + t178)) then (if (wrap64 ((wrap64 (t177 * x9)) + t178)) < (x11.length : Int) then (if x3 < (rd x11 (wrap64 ((wrap64 (t177 * x9)) + t178))) then (some (x11.set ((wrap64 ((wrap64 (t177 * x9)) + t178)) : Int).toNat x3)) else (some x11)) else (none)) else (none)))
end
def gimbalref10_Set.f (k : Nat) (l0 : List Int) (a1 : Int) (a2 : Int) (a3 : Int) : Option (List Int) := (gimbalref10_Nodes.f k l0).bind fun bt166 => (if bt166.2 = true then (if a1 < 0 then (gimbalref10_Set.j0 k l0 a1 a2 a3 bt166.1 true) else (if a1 ≥ bt166.1 then (gimbalref10_Set.j0 k l0 a1 a2 a3 bt166.1 true) else (if a2 < 0 then (gimbalref10_Set.j0 k l0 a1 a2 a3 bt166.1 true) else (gimbalref10_Set.j0 k l0 a1 a2 a3 bt166.1 (decide (a2 ≥ bt166.1)))))) else (gimbalref10_Set.j0 k l0 a1 a2 a3 bt166.1 true))
theorem gimbalref10_Set.mono_l : ∀ k, (∀ y0 y1 y2 y3 y4 y5, LeO (gimbalref10_Set.j0 k y0 y1 y2 y3 y4 y5) (gimbalref10_Set.j0 (k + 1) y0 y1 y2 y3 y4 y5)) ∧ (∀ y0 y1 y2 y3 y4, LeO (gimbalref10_Set.j1 k y0 y1 y2 y3 y4) (gimbalref10_Set.j1 (k + 1) y0 y1 y2 y3 y4))
  | 0 => ⟨fun _ _ _ _ _ _ r h => by simp [gimbalref10_Set.j0] at h, fun _ _ _ _ _ r h => by simp [gimbalref10_Set.j1] at h⟩
  | k + 1 => by
    obtain ⟨ih0, ih1⟩ := gimbalref10_Set.mono_l k
    refine ⟨?_, ?_⟩
    · intro y0 y1 y2 y3 y4 y5
      unfold gimbalref10_Set.j0
      repeat' first
      | (with_reducible exact ih0 _ _ _ _ _ _)
      | (with_reducible exact ih1 _ _ _ _ _)
      | (with_reducible exact gimbalref10_Nodes.mono _ _)
      | (with_reducible exact gimbalref10_allTaken.mono _ _)
      | (with_reducible exact LeO.refl _)
      | (with_reducible exact LeO.none _)
      | (with_reducible refine LeO.ite ?_ ?_)
      | (with_reducible refine LeO.bind ?_ (fun _ => ?_))
      | exact ih0 _ _ _ _ _ _
      | exact ih1 _ _ _ _ _
      | exact gimbalref10_Nodes.mono _ _
      | exact gimbalref10_allTaken.mono _ _
      | exact LeO.none _
      | refine LeO.ite ?_ ?_
      | refine LeO.bind ?_ (fun _ => ?_)
    · intro y0 y1 y2 y3 y4
      unfold gimbalref10_Set.j1
      repeat' first
      | (with_reducible exact ih0 _ _ _ _ _ _)
      | (with_reducible exact ih1 _ _ _ _ _)
      | (with_reducible exact gimbalref10_Nodes.mono _ _)
      | (with_reducible exact gimbalref10_allTaken.mono _ _)
      | (with_reducible exact LeO.refl _)
      | (with_reducible exact LeO.none _)
      | (with_reducible refine LeO.ite ?_ ?_)
      | (with_reducible refine LeO.bind ?_ (fun _ => ?_))
      | exact ih0 _ _ _ _ _ _
      | exact ih1 _ _ _ _ _
      | exact gimbalref10_Nodes.mono _ _
      | exact gimbalref10_allTaken.mono _ _
      | exact LeO.none _
      | refine LeO.ite ?_ ?_
      | refine LeO.bind ?_ (fun _ => ?_)
theorem gimbalref10_Set.mono : ∀ a0 a1 a2 a3 k, LeO (gimbalref10_Set.f k a0 a1 a2 a3) (gimbalref10_Set.f (k + 1) a0 a1 a2 a3) := by
  intro a0 a1 a2 a3 k
  obtain ⟨ih0, ih1⟩ := gimbalref10_Set.mono_l k
  unfold gimbalref10_Set.f
  repeat' first
      | (with_reducible exact ih0 _ _ _ _ _ _)
      | (with_reducible exact ih1 _ _ _ _ _)
      | (with_reducible exact gimbalref10_Nodes.mono _ _)
      | (with_reducible exact gimbalref10_allTaken.mono _ _)
      | (with_reducible exact LeO.refl _)
      | (with_reducible exact LeO.none _)
      | (with_reducible refine LeO.ite ?_ ?_)
      | (with_reducible refine LeO.bind ?_ (fun _ => ?_))
      | exact ih0 _ _ _ _ _ _
      | exact ih1 _ _ _ _ _
      | exact gimbalref10_Nodes.mono _ _
      | exact gimbalref10_allTaken.mono _ _
      | exact LeO.none _
      | refine LeO.ite ?_ ?_
      | refine LeO.bind ?_ (fun _ => ?_)
set_option maxHeartbeats 8000000 in
set_option maxRecDepth 100000 in
theorem gimbalref10_Set.calls (k : Nat) (A0 : Option Addr) (c0 : Nat) (l0 : List Int) (a1 : Int) (a2 : Int) (a3 : Int) (r : List Int) (w : World) (hr0 : Kd.C (Kd.int .i64) w A0 l0.length l0) (hc0 : l0.length ≤ c0) (h : gimbalref10_Set.f k l0 a1 a2 a3 = some r) :
    Calls Try.prog 20 #[.slice A0 l0.length c0, .int .i64 a1, .int .i64 a2, .int .i64 a3] w fun e w' => ∃ v0_ : Value, e = .returned (v0_) ∧ Kd.R (Kd.int .i64) 2 w' w.heap.size (fun _ => True) v0_ r ∧ Below w.heap.size w w' := by
  have HR0 := Aside0.mk hr0
  have HC0 := Aside0.mk hc0
  clear hr0 hc0
  have HB := Aside0.mk (Below.refl w.heap.size w)
  have H : ((gimbalref10_Nodes.f k l0).bind fun bt166 => (if bt166.2 = true then (if a1 < 0 then (gimbalref10_Set.j0 k l0 a1 a2 a3 bt166.1 true) else (if a1 ≥ bt166.1 then (gimbalref10_Set.j0 k l0 a1 a2 a3 bt166.1 true) else (if a2 < 0 then (gimbalref10_Set.j0 k l0 a1 a2 a3 bt166.1 true) else (gimbalref10_Set.j0 k l0 a1 a2 a3 bt166.1 (decide (a2 ≥ bt166.1)))))) else (gimbalref10_Set.j0 k l0 a1 a2 a3 bt166.1 true))) = some r := h
  clear h
  replace H := Option.bind_eq_some_iff.mp H
  obtain ⟨⟨t166, t167⟩, A50, H⟩ := H
  replace H : (if t167 = true then (if a1 < 0 then (gimbalref10_Set.j0 k l0 a1 a2 a3 t166 true) else (if a1 ≥ t166 then (gimbalref10_Set.j0 k l0 a1 a2 a3 t166 true) else (if a2 < 0 then (gimbalref10_Set.j0 k l0 a1 a2 a3 t166 true) else (gimbalref10_Set.j0 k l0 a1 a2 a3 t166 (decide (a2 ≥ t166)))))) else (gimbalref10_Set.j0 k l0 a1 a2 a3 t166 true)) = some r := H
  have A5 := Aside0.mk A50
  clear A50
  have HC6 := Aside0.mk H
  clear H
  go_enter Try.func20, Try.ntmps20
  go_upto_region 2 with (first | ((with_reducible refine gate_callee (f := 35) rfl ?_); refine goesL_ (some 16) rfl rfl Try.func35 (by kernel_rfl) rfl #[.slice A0 l0.length c0] rfl (by (try simp only [List.map_toArray, List.map_cons, List.map_nil]); first | done | rfl | (simp only [List.length_drop, List.length_take]; rfl)) ?_; (with_reducible refine (gimbalref10_Nodes.calls k _ _ l0 t166 t167 _ ?side1 ?side2 A5.out).mono ?_); (case side1 => repeat (first | exact HR0.out | (with_reducible refine Kd.C_alloc ?_ _) | (with_reducible refine Kd.C_drewN ?_ _) | (with_reducible refine Kd.C_drew ?_))); (case side2 => exact HC0.out); rintro e w' ⟨rfl, ⟨nd, rfl⟩⟩; refine ⟨_, rfl, ?_⟩))
  (try simp only [Act.put, List.setIfInBounds_toArray, List.set_cons_zero, List.set_cons_succ])
  go_cut [38] (fun v38 wc => ∃ (kq : Nat) (x38_5 : Bool), v38 = .bool x38_5 ∧ Aside0 (gimbalref10_Set.j0 kq l0 a1 a2 a3 t166 x38_5 = some r) ∧ Aside0 (kq ≤ k) ∧ Aside0 (Below w.heap.size w wc))
  case first =>
   have H := HC6.out
   clear HC6
   by_cases c7 : t167 = true
   ·
    subst c7
    have H1 : (if a1 < 0 then (gimbalref10_Set.j0 k l0 a1 a2 a3 t166 true) else (if a1 ≥ t166 then (gimbalref10_Set.j0 k l0 a1 a2 a3 t166 true) else (if a2 < 0 then (gimbalref10_Set.j0 k l0 a1 a2 a3 t166 true) else (gimbalref10_Set.j0 k l0 a1 a2 a3 t166 (decide (a2 ≥ t166)))))) = some r := by rw [if_pos rfl] at H; exact H
    clear H
    have H := H1
    clear H1
    by_cases c8 : a1 < 0
    ·
     rw [if_pos c8] at H
     have c8b0 : decide (a1 < 0) = true := decide_eq_true c8
     clear c8
     (first | rw [c8b0] | (simp only [i64_w, i32_w]; rw [c8b0]) | skip)
     have H' := Aside0.mk H
     clear H
     go_wp2
     go_meet
     case rel => exact ⟨_, (true), (by first | rfl | (simp; done) | (simp [*]; done)), H', ⟨by first | omega | exact Nat.le_refl _⟩, ⟨by repeat (first | (with_reducible first | exact HB.out | apply below_alloc | apply pw_below_drewN | apply below_drew1) | exact HB.out)⟩⟩
    ·
     rw [if_neg c8] at H
     have c8b0 : decide (a1 < 0) = false := decide_eq_false c8
     clear c8
     (first | rw [c8b0] | (simp only [i64_w, i32_w]; rw [c8b0]) | skip)
     by_cases c9 : a1 ≥ t166
     ·
      rw [if_pos c9] at H
      have c9b0 : decide (t166 ≤ a1) = true := decide_eq_true c9
      clear c9
      have H' := Aside0.mk H
      clear H
      go_wp2
      go_meet
      case rel => exact ⟨_, (true), (by first | rfl | (simp; done) | (simp [*]; done)), H', ⟨by first | omega | exact Nat.le_refl _⟩, ⟨by repeat (first | (with_reducible first | exact HB.out | apply below_alloc | apply pw_below_drewN | apply below_drew1) | exact HB.out)⟩⟩
     ·
      rw [if_neg c9] at H
      have c9b0 : decide (t166 ≤ a1) = false := decide_eq_false c9
      clear c9
      by_cases c10 : a2 < 0
      ·
       rw [if_pos c10] at H
       have c10b0 : decide (a2 < 0) = true := decide_eq_true c10
       clear c10
       have H' := Aside0.mk H
       clear H
       go_wp2
       go_meet
       case rel => exact ⟨_, (true), (by first | rfl | (simp; done) | (simp [*]; done)), H', ⟨by first | omega | exact Nat.le_refl _⟩, ⟨by repeat (first | (with_reducible first | exact HB.out | apply below_alloc | apply pw_below_drewN | apply below_drew1) | exact HB.out)⟩⟩
      ·
       rw [if_neg c10] at H
       have c10b0 : decide (a2 < 0) = false := decide_eq_false c10
       clear c10
       have H' := Aside0.mk H
       clear H
       go_wp2
       go_meet
       case rel => exact ⟨_, (decide (a2 ≥ t166)), (by first | rfl | (simp; done) | (simp [*]; done)), H', ⟨by first | omega | exact Nat.le_refl _⟩, ⟨by repeat (first | (with_reducible first | exact HB.out | apply below_alloc | apply pw_below_drewN | apply below_drew1) | exact HB.out)⟩⟩
   ·
    replace c7 := Bool.eq_false_iff.mpr c7
    subst c7
    have H1 : (gimbalref10_Set.j0 k l0 a1 a2 a3 t166 true) = some r := by rw [if_neg (show ¬ (false = true) by decide)] at H; exact H
    clear H
    have H := H1
    clear H1
    have H' := Aside0.mk H
    clear H
    go_wp2
    go_meet
    case rel => exact ⟨_, (true), (by first | rfl | (simp; done) | (simp [*]; done)), H', ⟨by first | omega | exact Nat.le_refl _⟩, ⟨by repeat (first | (with_reducible first | exact HB.out | apply below_alloc | apply pw_below_drewN | apply below_drew1) | exact HB.out)⟩⟩
  case rest =>
   clear HC6
   try clear c1
   try clear c2
   try clear p2
   try clear c3
   try clear c7
   try clear c8
   try clear c8b0
   try clear c9
   try clear c9b0
   try clear c10
   try clear c10b0
   obtain ⟨kq, x38_5, rfl, HA, HJ5, HB⟩ := hcut
   cases kq with
   | zero => exact absurd HA.out (by simp [gimbalref10_Set.j0])
   | succ kj5 =>
    have H := HA.out
    clear HA
    simp only [gimbalref10_Set.j0] at H
    by_cases c11 : x38_5 = true
    ·
     subst c11
     have H1 : ((gimbalref10_copied.f l0).bind fun t168 => (some t168)) = some r := by rw [if_pos rfl] at H; exact H
     clear H
     have H := H1
     clear H1
     replace H := Option.bind_eq_some_iff.mp H
     obtain ⟨t168, A120, H⟩ := H
     replace H : (some t168) = some r := H
     have A12 := Aside0.mk A120
     clear A120
     obtain rfl := Option.some.inj H
     go_wp2_with (first | ((with_reducible refine gate_callee (f := 37) rfl ?_); refine goesL_ (some 40) rfl rfl Try.func37 (by kernel_rfl) rfl #[.slice A0 l0.length c0] rfl (by (try simp only [List.map_toArray, List.map_cons, List.map_nil]); first | done | rfl | (simp only [List.length_drop, List.length_take]; rfl)) ?_; (with_reducible refine (gimbalref10_copied.calls _ _ l0 t168 _ ?side1 ?side2 A12.out).mono ?_); (case side1 => repeat (first | exact (Kd.C_below HR0.out HB.out) | (with_reducible refine Kd.C_alloc ?_ _) | (with_reducible refine Kd.C_drewN ?_ _) | (with_reducible refine Kd.C_drew ?_))); (case side2 => exact HC0.out); rintro e w13 ⟨v169, rfl, ho0, hb⟩; refine ⟨_, rfl, ?_⟩; have n0_ := Aside0.mk (Kd.R_lower ho0 (below_size (by repeat (first | (with_reducible first | exact HB.out | apply below_alloc | apply pw_below_drewN | apply below_drew1) | exact HB.out)))); have n1_ := Aside0.mk (below_step (by repeat (first | (with_reducible first | exact HB.out | apply below_alloc | apply pw_below_drewN | apply below_drew1) | exact HB.out)) hb); clear HB; have HO170 := n0_; have HB := n1_; clear n0_ n1_; (try clear hb); (try clear hb2); (try clear hk); (try clear hi); (try clear ho0)))
     go_ret
     exact ⟨_, by first | rfl | (simp [errW_none, errW_some] <;> rfl) | (simp [*, errW_none, errW_some] <;> rfl) | kernel_rfl, by (with_reducible repeat (first | apply Kd.R_alloc | apply Kd.R_drewN | apply Kd.R_drew)); exact HO170.out, by repeat (first | (with_reducible first | exact HB.out | apply below_alloc | apply pw_below_drewN | apply below_drew1) | exact HB.out)⟩
    ·
     replace c11 := Bool.eq_false_iff.mpr c11
     subst c11
     have H1 : ((gimbalref10_allTaken.f kj5 l0).bind fun t171 => ((gimbalref10_Taken.f a3).bind fun t174 => (if 0 ≤ (wrap64 ((wrap64 (a1 * t166)) + a2)) then (if (wrap64 ((wrap64 (a1 * t166)) + a2)) < (t171.length : Int) then (if t174 < (rd t171 (wrap64 ((wrap64 (a1 * t166)) + a2))) then (gimbalref10_Set.j1 kj5 a1 a2 t174 t166 (t171.set ((wrap64 ((wrap64 (a1 * t166)) + a2)) : Int).toNat t174)) else (gimbalref10_Set.j1 kj5 a1 a2 t174 t166 t171)) else (none)) else (none)))) = some r := by rw [if_neg (show ¬ (false = true) by decide)] at H; exact H
     clear H
     have H := H1
     clear H1
     replace H := Option.bind_eq_some_iff.mp H
     obtain ⟨t171, A140, H⟩ := H
     replace H : ((gimbalref10_Taken.f a3).bind fun t174 => (if 0 ≤ (wrap64 ((wrap64 (a1 * t166)) + a2)) then (if (wrap64 ((wrap64 (a1 * t166)) + a2)) < (t171.length : Int) then (if t174 < (rd t171 (wrap64 ((wrap64 (a1 * t166)) + a2))) then (gimbalref10_Set.j1 kj5 a1 a2 t174 t166 (t171.set ((wrap64 ((wrap64 (a1 * t166)) + a2)) : Int).toNat t174)) else (gimbalref10_Set.j1 kj5 a1 a2 t174 t166 t171)) else (none)) else (none))) = some r := H
     have A14 := Aside0.mk A140
     clear A140
     replace H := Option.bind_eq_some_iff.mp H
     obtain ⟨t174, A150, H⟩ := H
     replace H : (if 0 ≤ (wrap64 ((wrap64 (a1 * t166)) + a2)) then (if (wrap64 ((wrap64 (a1 * t166)) + a2)) < (t171.length : Int) then (if t174 < (rd t171 (wrap64 ((wrap64 (a1 * t166)) + a2))) then (gimbalref10_Set.j1 kj5 a1 a2 t174 t166 (t171.set ((wrap64 ((wrap64 (a1 * t166)) + a2)) : Int).toNat t174)) else (gimbalref10_Set.j1 kj5 a1 a2 t174 t166 t171)) else (none)) else (none)) = some r := H
     have A15 := Aside0.mk A150
     clear A150
     obtain ⟨ji16, hji16⟩ : ∃ j_ : Int, (wrap64 ((wrap64 (a1 * t166)) + a2)) = j_ := ⟨_, rfl⟩
     replace H : (if 0 ≤ (ji16) then (if (ji16) < (t171.length : Int) then (if t174 < (rd t171 (ji16)) then (gimbalref10_Set.j1 kj5 a1 a2 t174 t166 (t171.set ((ji16) : Int).toNat t174)) else (gimbalref10_Set.j1 kj5 a1 a2 t174 t166 t171)) else (none)) else (none)) = some r := by first | (rw [hji16] at H; exact H) | (simp only [hji16] at H ⊢; exact H)
     (try rw [hji16] at A14)
     (try rw [hji16] at A15)
     have hji16w : (IntKind.i64.wrap ((wrap64 (a1 * t166)) + a2)) = ji16 := (i64_w _).trans hji16
     by_cases c17 : 0 ≤ (ji16)
     ·
      rw [if_pos c17] at H
      have c17b0 : decide (0 ≤ (ji16)) = true := decide_eq_true c17
      clear c17
      by_cases c18 : (ji16) < (t171.length : Int)
      ·
       rw [if_pos c18] at H
       have c18b0 : decide ((ji16) < (t171.length : Int)) = true := decide_eq_true c18
       clear c18
       have HC19 := Aside0.mk H
       clear H
       go_upto_if 54 with (first | ((with_reducible refine gate_callee (f := 38) rfl ?_); refine goesL_ (some 42) rfl rfl Try.func38 (by kernel_rfl) rfl #[.slice A0 l0.length c0] rfl (by (try simp only [List.map_toArray, List.map_cons, List.map_nil]); first | done | rfl | (simp only [List.length_drop, List.length_take]; rfl)) ?_; (with_reducible refine (gimbalref10_allTaken.calls kj5 _ _ l0 t171 _ ?side1 ?side2 A14.out).mono ?_); (case side1 => repeat (first | exact (Kd.C_below HR0.out HB.out) | (with_reducible refine Kd.C_alloc ?_ _) | (with_reducible refine Kd.C_drewN ?_ _) | (with_reducible refine Kd.C_drew ?_))); (case side2 => exact HC0.out); rintro e w20 ⟨v172, rfl, ho0, hb⟩; refine ⟨_, rfl, ?_⟩; have n0_ := Aside0.mk (Kd.R_lower ho0 (below_size (by repeat (first | (with_reducible first | exact HB.out | apply below_alloc | apply pw_below_drewN | apply below_drew1) | exact HB.out)))); have n1_ := Aside0.mk (below_step (by repeat (first | (with_reducible first | exact HB.out | apply below_alloc | apply pw_below_drewN | apply below_drew1) | exact HB.out)) hb); clear HB; have HO173 := n0_; have HB := n1_; clear n0_ n1_; (try clear hb); (try clear hb2); (try clear hk); (try clear hi); (try clear ho0)) | ((with_reducible refine gate_callee (f := 39) rfl ?_); refine goesL_ (some 44) rfl rfl Try.func39 (by kernel_rfl) rfl #[.int .i64 a3] rfl (by (try simp only [List.map_toArray, List.map_cons, List.map_nil]); first | done | rfl | (simp only [List.length_drop, List.length_take]; rfl)) ?_; (with_reducible refine (gimbalref10_Taken.calls a3 t174 _ A15.out).mono ?_); rintro e w' ⟨rfl, ⟨nd, rfl⟩⟩; refine ⟨_, rfl, ?_⟩; (try (rw [drewN_self w20]; generalize hq_ : World.drewN w20 _ = w20; have n0_ : Aside0 (Kd.R (Kd.int .i64) 2 w20 w.heap.size (fun _ => True) v172 t171) := ⟨by rw [← hq_]; exact (by (with_reducible repeat (first | apply Kd.R_alloc | apply Kd.R_drewN | apply Kd.R_drew)); exact HO173.out)⟩; have n1_ : Aside0 (Below w.heap.size w w20) := ⟨by rw [← hq_]; exact (by repeat (first | (with_reducible first | exact HB.out | apply below_alloc | apply pw_below_drewN | apply below_drew1) | exact HB.out))⟩; clear HO173 HB hq_; have HO173 := n0_; have HB := n1_; clear n0_ n1_)); obtain ⟨Ao21, co21, eo21⟩ := Kd.R_slice HO173.out; subst eo21; have p22 : 0 ≤ ((ji16) : Int) := of_decide_eq_true (by first | (with_reducible assumption) | assumption); have q22 : ((ji16) : Int) < ((t171.length : Int) : Int) := of_decide_eq_true (by first | (with_reducible assumption) | assumption); obtain ⟨go22, co22, eo22, gb22, gl22, cl22, HG22⟩ := Kd.R_form HO173.out (by omega); (first | cases eo22 | (injection eo22 with ea_ en_ ec_; (first | subst ea_ | (injection ea_ with ea_; subst ea_)); subst ec_; clear en_)); have GB22 := Aside0.mk gb22; have GG22 := Aside0.mk HG22; clear gb22 gl22 HG22; clear p22 q22; have p175 : 0 ≤ ((ji16) : Int) := of_decide_eq_true (by first | (with_reducible assumption) | assumption); have q175 : (ji16) < (t171.length : Int) := of_decide_eq_true (by first | (with_reducible assumption) | assumption); obtain ⟨ad175, e175, hx175_0⟩ := Kd.at_int (Kd.R_reads' HO173.out).2.2 (ji16) p175 q175; obtain rfl : (⟨go22, 0, none⟩ : Addr) = ad175 := (by injection e175); (first | simp only [add_plain] at hx175_0 | simp only [add_at] at hx175_0 | simp only [Addr.add, Nat.zero_add] at hx175_0 | skip); replace p175 := eq_true p175; replace q175 := eq_true q175))
       (try simp only [Act.put, List.setIfInBounds_toArray, List.set_cons_zero, List.set_cons_succ])
       go_cut [] (fun wc => ∃ (kq : Nat) (x11_18 : List Int), Aside0 (gimbalref10_Set.j1 kq a1 a2 t174 t166 x11_18 = some r) ∧ Aside0 (kq ≤ kj5) ∧ Aside0 (Kd.R (Kd.int .i64) 2 wc w.heap.size (fun _ => True) (.slice (some ⟨go22, 0, none⟩) t171.length co21) x11_18) ∧ Aside0 (Below w.heap.size w wc))
       case first =>
        have H := HC19.out
        clear HC19
        by_cases c23 : t174 < (rd t171 (ji16))
        ·
         rw [if_pos c23] at H
         have c23b0 : decide (t174 < (rd t171 (ji16))) = true := decide_eq_true c23
         clear c23
         (first | rw [c23b0] | (simp only [i64_w, i32_w]; rw [c23b0]) | skip)
         obtain ⟨y176, hy176⟩ : ∃ y_ : List Int, y_ = (t171.set ((ji16) : Int).toNat t174) := ⟨_, rfl⟩
         replace H : (gimbalref10_Set.j1 kj5 a1 a2 t174 t166 y176) = some r := by first | (rw [hy176]; with_reducible exact H) | (have H2_ := (Option.bind_some _ _).symm.trans H; rw [hy176]; with_reducible exact H2_) | (have H2_ := (Option.bind_some _ _).symm.trans H; with_reducible exact H2_) | with_reducible exact H | (rw [hy176]; exact H) | exact H
         have Ny176 := Aside0.mk hy176
         clear hy176
         have H' := Aside0.mk H
         clear H
         have p24 : 0 ≤ ((ji16) : Int) := of_decide_eq_true (by first | (with_reducible assumption) | assumption)
         have q24 : ((ji16) : Int) < ((t171.length : Int) : Int) := of_decide_eq_true (by first | (with_reducible assumption) | assumption)
         obtain ⟨hx24_0, hf24_0⟩ := Kd.R_celln 0 HO173.out ((ji16) : Int) p24 q24
         replace p24 := eq_true p24
         replace q24 := eq_true q24
         have HP25 := Kd.R_putg HO173.out ((ji16) : Int) t174
         go_wp2_with (first | ((with_reducible refine gate_store (t := 2) (p := 62) rfl ?_); refine store_event (t := 2) (p := 62) (v := ?vo_w26) (w1 := (w20.setCell ⟨go22, ((ji16) : Int).toNat, none⟩ (.int .i64 t174))) ?hg ?ho ?hn ?hr ?_; (case ho => rfl); (case hg => rfl); (case hn => rfl); (case hr => first | (go_simp; done) | (go_simp; rfl)); intro w26 hw; have hg : w20.grownBy w26 (some go22) := (by rw [hw]; exact HP25.2); have hp_ : Kd.R (Kd.int .i64) 2 w26 w.heap.size (fun _ => True) (.slice (some ⟨go22, 0, none⟩) t171.length co21) y176 := (by rw [hw, Ny176.out]; exact HP25.1); clear HP25; have n0_ := Aside0.mk (hp_); have n1_ := Aside0.mk ((by rw [hw]; exact below_set (HB.out) GB22.out : Below w.heap.size w w26)); clear HO173; clear HB; have HO173 := n0_; have HB := n1_; clear n0_ n1_; clear hg hw hp_))
         go_meet
         case rel => exact ⟨_, (y176), H', ⟨by have := HJ5.out; first | omega | exact Nat.le_refl _⟩, ⟨by (with_reducible repeat (first | apply Kd.R_alloc | apply Kd.R_drewN | apply Kd.R_drew)); exact HO173.out⟩, ⟨by repeat (first | (with_reducible first | exact HB.out | apply below_alloc | apply pw_below_drewN | apply below_drew1) | exact HB.out)⟩⟩
        ·
         rw [if_neg c23] at H
         have c23b0 : decide (t174 < (rd t171 (ji16))) = false := decide_eq_false c23
         clear c23
         (first | rw [c23b0] | (simp only [i64_w, i32_w]; rw [c23b0]) | skip)
         have H' := Aside0.mk H
         clear H
         go_wp2
         go_meet
         case rel => exact ⟨_, (t171), H', ⟨by have := HJ5.out; first | omega | exact Nat.le_refl _⟩, ⟨by (with_reducible repeat (first | apply Kd.R_alloc | apply Kd.R_drewN | apply Kd.R_drew)); exact HO173.out⟩, ⟨by repeat (first | (with_reducible first | exact HB.out | apply below_alloc | apply pw_below_drewN | apply below_drew1) | exact HB.out)⟩⟩
       case rest =>
        clear HC19
        try clear c1
        try clear p1
        try clear q1
        try clear hx1
        try clear c2
        try clear p2
        try clear q2
        try clear hx2
        try clear c3
        try clear p6
        try clear c7
        try clear c8
        try clear c8b0
        try clear c9
        try clear c9b0
        try clear c10
        try clear c10b0
        try clear c11
        try clear c17
        try clear c17b0
        try clear p17
        try clear q17
        try clear hx17
        try clear c18
        try clear c18b0
        try clear c20
        try clear p22
        try clear q22
        try clear c23
        try clear c23b0
        try clear p24
        try clear q24
        try clear hx24
        try clear hf24
        try clear hx175_0
        try clear hx24_0
        try clear p175
        try clear p2
        try clear p22
        try clear p24
        try clear q175
        try clear q22
        try clear q24
        obtain ⟨kq, x11_18, HA, HJ18, HO_11, HB⟩ := hcut
        have hl11_18 := (Kd.R_reads' HO_11.out).1
        rw [hl11_18] at HO_11
        (try simp only [hl11_18])
        cases kq with
        | zero => exact absurd HA.out (by simp [gimbalref10_Set.j1])
        | succ kj18 =>
         have H := HA.out
         clear HA
         simp only [gimbalref10_Set.j1] at H
         replace H := Option.bind_eq_some_iff.mp H
         obtain ⟨t177, A270, H⟩ := H
         replace H : ((gimbalref10_other.f a1).bind fun t178 => (if 0 ≤ (wrap64 ((wrap64 (t177 * t166)) + t178)) then (if (wrap64 ((wrap64 (t177 * t166)) + t178)) < (x11_18.length : Int) then (if t174 < (rd x11_18 (wrap64 ((wrap64 (t177 * t166)) + t178))) then (some (x11_18.set ((wrap64 ((wrap64 (t177 * t166)) + t178)) : Int).toNat t174)) else (some x11_18)) else (none)) else (none))) = some r := H
         have A27 := Aside0.mk A270
         clear A270
         replace H := Option.bind_eq_some_iff.mp H
         obtain ⟨t178, A280, H⟩ := H
         replace H : (if 0 ≤ (wrap64 ((wrap64 (t177 * t166)) + t178)) then (if (wrap64 ((wrap64 (t177 * t166)) + t178)) < (x11_18.length : Int) then (if t174 < (rd x11_18 (wrap64 ((wrap64 (t177 * t166)) + t178))) then (some (x11_18.set ((wrap64 ((wrap64 (t177 * t166)) + t178)) : Int).toNat t174)) else (some x11_18)) else (none)) else (none)) = some r := H
         have A28 := Aside0.mk A280
         clear A280
         obtain ⟨ji29, hji29⟩ : ∃ j_ : Int, (wrap64 ((wrap64 (t177 * t166)) + t178)) = j_ := ⟨_, rfl⟩
         replace H : (if 0 ≤ (ji29) then (if (ji29) < (x11_18.length : Int) then (if t174 < (rd x11_18 (ji29)) then (some (x11_18.set ((ji29) : Int).toNat t174)) else (some x11_18)) else (none)) else (none)) = some r := by first | (rw [hji29] at H; exact H) | (simp only [hji29] at H ⊢; exact H)
         (try rw [hji29] at A27)
         (try rw [hji29] at A28)
         have hji29w : (IntKind.i64.wrap ((wrap64 (t177 * t166)) + t178)) = ji29 := (i64_w _).trans hji29
         by_cases c30 : 0 ≤ (ji29)
         ·
          rw [if_pos c30] at H
          have c30b0 : decide (0 ≤ (ji29)) = true := decide_eq_true c30
          (try simp only [hl11_18] at c30b0)
          clear c30
          by_cases c31 : (ji29) < (x11_18.length : Int)
          ·
           rw [if_pos c31] at H
           have c31b0 : decide ((ji29) < (x11_18.length : Int)) = true := decide_eq_true c31
           (try simp only [hl11_18] at c31b0)
           clear c31
           by_cases c32 : t174 < (rd x11_18 (ji29))
           ·
            rw [if_pos c32] at H
            have c32b0 : decide (t174 < (rd x11_18 (ji29))) = true := decide_eq_true c32
            (try simp only [hl11_18] at c32b0)
            clear c32
            obtain ⟨y180, hy180⟩ : ∃ y_ : List Int, y_ = (x11_18.set ((ji29) : Int).toNat t174) := ⟨_, rfl⟩
            replace H : (some y180) = some r := by first | (rw [hy180]; with_reducible exact H) | (have H2_ := (Option.bind_some _ _).symm.trans H; rw [hy180]; with_reducible exact H2_) | (have H2_ := (Option.bind_some _ _).symm.trans H; with_reducible exact H2_) | with_reducible exact H | (rw [hy180]; exact H) | exact H
            have Ny180 := Aside0.mk hy180
            clear hy180
            obtain rfl := Option.some.inj H
            go_wp2_with (first | ((with_reducible refine gate_callee (f := 40) rfl ?_); refine goesL_ (some 64) rfl rfl Try.func40 (by kernel_rfl) rfl #[.int .i64 a2] rfl (by (try simp only [List.map_toArray, List.map_cons, List.map_nil]); first | done | rfl | (simp only [List.length_drop, List.length_take]; rfl)) ?_; (with_reducible refine (gimbalref10_other.calls a2 t177 _ A27.out).mono ?_); rintro e w' ⟨rfl, ⟨nd, rfl⟩⟩; refine ⟨_, rfl, ?_⟩; (try (rw [drewN_self wc]; generalize hq_ : World.drewN wc _ = wc; have n0_ : Aside0 (Kd.R (Kd.int .i64) 2 wc w.heap.size (fun _ => True) (.slice (some ⟨go22, 0, none⟩) x11_18.length co21) x11_18) := ⟨by rw [← hq_]; exact (by (with_reducible repeat (first | apply Kd.R_alloc | apply Kd.R_drewN | apply Kd.R_drew)); exact HO_11.out)⟩; have n1_ : Aside0 (Below w.heap.size w wc) := ⟨by rw [← hq_]; exact (by repeat (first | (with_reducible first | exact HB.out | apply below_alloc | apply pw_below_drewN | apply below_drew1) | exact HB.out))⟩; clear HO_11 HB hq_; have HO_11 := n0_; have HB := n1_; clear n0_ n1_))) | ((with_reducible refine gate_callee (f := 40) rfl ?_); refine goesL_ (some 66) rfl rfl Try.func40 (by kernel_rfl) rfl #[.int .i64 a1] rfl (by (try simp only [List.map_toArray, List.map_cons, List.map_nil]); first | done | rfl | (simp only [List.length_drop, List.length_take]; rfl)) ?_; (with_reducible refine (gimbalref10_other.calls a1 t178 _ A28.out).mono ?_); rintro e w' ⟨rfl, ⟨nd, rfl⟩⟩; refine ⟨_, rfl, ?_⟩; (try (rw [drewN_self wc]; generalize hq_ : World.drewN wc _ = wc; have n0_ : Aside0 (Kd.R (Kd.int .i64) 2 wc w.heap.size (fun _ => True) (.slice (some ⟨go22, 0, none⟩) x11_18.length co21) x11_18) := ⟨by rw [← hq_]; exact (by (with_reducible repeat (first | apply Kd.R_alloc | apply Kd.R_drewN | apply Kd.R_drew)); exact HO_11.out)⟩; have n1_ : Aside0 (Below w.heap.size w wc) := ⟨by rw [← hq_]; exact (by repeat (first | (with_reducible first | exact HB.out | apply below_alloc | apply pw_below_drewN | apply below_drew1) | exact HB.out))⟩; clear HO_11 HB hq_; have HO_11 := n0_; have HB := n1_; clear n0_ n1_)); have p179 : 0 ≤ ((ji29) : Int) := of_decide_eq_true (by first | (with_reducible assumption) | assumption); have q179 : (ji29) < (x11_18.length : Int) := of_decide_eq_true (by first | (with_reducible assumption) | assumption); obtain ⟨ad179, e179, hx179_0⟩ := Kd.at_int (Kd.R_reads' HO_11.out).2.2 (ji29) p179 q179; obtain rfl : (⟨go22, 0, none⟩ : Addr) = ad179 := (by injection e179); (first | simp only [add_plain] at hx179_0 | simp only [add_at] at hx179_0 | simp only [Addr.add, Nat.zero_add] at hx179_0 | skip); replace p179 := eq_true p179; replace q179 := eq_true q179; have p33 : 0 ≤ ((ji29) : Int) := of_decide_eq_true (by first | (with_reducible assumption) | assumption); have q33 : ((ji29) : Int) < ((x11_18.length : Int) : Int) := of_decide_eq_true (by first | (with_reducible assumption) | assumption); obtain ⟨hx33_0, hf33_0⟩ := Kd.R_celln 0 HO_11.out ((ji29) : Int) p33 q33; replace p33 := eq_true p33; replace q33 := eq_true q33; obtain ⟨hy34_, hz34_⟩ := Kd.R_celln 0 HO_11.out ((ji29) : Int) (of_decide_eq_true (by first | (with_reducible assumption) | assumption)) (of_decide_eq_true (by first | (with_reducible assumption) | assumption)); have HP34 := Kd.R_putg HO_11.out ((ji29) : Int) t174) | ((with_reducible refine gate_store (t := 2) (p := 84) rfl ?_); refine store_event (t := 2) (p := 84) (v := ?vo_w35) (w1 := (wc.setCell ⟨go22, ((ji29) : Int).toNat, none⟩ (.int .i64 t174))) ?hg ?ho ?hn ?hr ?_; (case ho => rfl); (case hg => rfl); (case hn => rfl); (case hr => first | (go_simp; done) | (go_simp; rfl)); intro w35 hw; have hg : wc.grownBy w35 (some go22) := (by rw [hw]; exact HP34.2); have hp_ : Kd.R (Kd.int .i64) 2 w35 w.heap.size (fun _ => True) (.slice (some ⟨go22, 0, none⟩) x11_18.length co21) y180 := (by rw [hw, Ny180.out]; exact HP34.1); clear HP34; have n0_ := Aside0.mk (hp_); have n1_ := Aside0.mk ((by rw [hw]; exact below_set (HB.out) GB22.out : Below w.heap.size w w35)); clear HO_11; clear HB; have HO_11 := n0_; have HB := n1_; clear n0_ n1_; clear hg hw hp_))
            go_ret
            exact ⟨_, by first | rfl | (simp [errW_none, errW_some] <;> rfl) | (simp only [← hji16, ← hji29]; first | rfl | (simp [errW_none, errW_some] <;> rfl)) | (simp [*, errW_none, errW_some] <;> rfl) | kernel_rfl, by (with_reducible repeat (first | apply Kd.R_alloc | apply Kd.R_drewN | apply Kd.R_drew)); exact HO_11.out, by repeat (first | (with_reducible first | exact HB.out | apply below_alloc | apply pw_below_drewN | apply below_drew1) | exact HB.out)⟩
           ·
            rw [if_neg c32] at H
            have c32b0 : decide (t174 < (rd x11_18 (ji29))) = false := decide_eq_false c32
            (try simp only [hl11_18] at c32b0)
            clear c32
            obtain rfl := Option.some.inj H
            go_wp2_with (first | ((with_reducible refine gate_callee (f := 40) rfl ?_); refine goesL_ (some 64) rfl rfl Try.func40 (by kernel_rfl) rfl #[.int .i64 a2] rfl (by (try simp only [List.map_toArray, List.map_cons, List.map_nil]); first | done | rfl | (simp only [List.length_drop, List.length_take]; rfl)) ?_; (with_reducible refine (gimbalref10_other.calls a2 t177 _ A27.out).mono ?_); rintro e w' ⟨rfl, ⟨nd, rfl⟩⟩; refine ⟨_, rfl, ?_⟩; (try (rw [drewN_self wc]; generalize hq_ : World.drewN wc _ = wc; have n0_ : Aside0 (Kd.R (Kd.int .i64) 2 wc w.heap.size (fun _ => True) (.slice (some ⟨go22, 0, none⟩) x11_18.length co21) x11_18) := ⟨by rw [← hq_]; exact (by (with_reducible repeat (first | apply Kd.R_alloc | apply Kd.R_drewN | apply Kd.R_drew)); exact HO_11.out)⟩; have n1_ : Aside0 (Below w.heap.size w wc) := ⟨by rw [← hq_]; exact (by repeat (first | (with_reducible first | exact HB.out | apply below_alloc | apply pw_below_drewN | apply below_drew1) | exact HB.out))⟩; clear HO_11 HB hq_; have HO_11 := n0_; have HB := n1_; clear n0_ n1_))) | ((with_reducible refine gate_callee (f := 40) rfl ?_); refine goesL_ (some 66) rfl rfl Try.func40 (by kernel_rfl) rfl #[.int .i64 a1] rfl (by (try simp only [List.map_toArray, List.map_cons, List.map_nil]); first | done | rfl | (simp only [List.length_drop, List.length_take]; rfl)) ?_; (with_reducible refine (gimbalref10_other.calls a1 t178 _ A28.out).mono ?_); rintro e w' ⟨rfl, ⟨nd, rfl⟩⟩; refine ⟨_, rfl, ?_⟩; (try (rw [drewN_self wc]; generalize hq_ : World.drewN wc _ = wc; have n0_ : Aside0 (Kd.R (Kd.int .i64) 2 wc w.heap.size (fun _ => True) (.slice (some ⟨go22, 0, none⟩) x11_18.length co21) x11_18) := ⟨by rw [← hq_]; exact (by (with_reducible repeat (first | apply Kd.R_alloc | apply Kd.R_drewN | apply Kd.R_drew)); exact HO_11.out)⟩; have n1_ : Aside0 (Below w.heap.size w wc) := ⟨by rw [← hq_]; exact (by repeat (first | (with_reducible first | exact HB.out | apply below_alloc | apply pw_below_drewN | apply below_drew1) | exact HB.out))⟩; clear HO_11 HB hq_; have HO_11 := n0_; have HB := n1_; clear n0_ n1_)); have p179 : 0 ≤ ((ji29) : Int) := of_decide_eq_true (by first | (with_reducible assumption) | assumption); have q179 : (ji29) < (x11_18.length : Int) := of_decide_eq_true (by first | (with_reducible assumption) | assumption); obtain ⟨ad179, e179, hx179_0⟩ := Kd.at_int (Kd.R_reads' HO_11.out).2.2 (ji29) p179 q179; obtain rfl : (⟨go22, 0, none⟩ : Addr) = ad179 := (by injection e179); (first | simp only [add_plain] at hx179_0 | simp only [add_at] at hx179_0 | simp only [Addr.add, Nat.zero_add] at hx179_0 | skip); replace p179 := eq_true p179; replace q179 := eq_true q179))
            go_ret
            exact ⟨_, by first | rfl | (simp [errW_none, errW_some] <;> rfl) | (simp only [← hji16, ← hji29]; first | rfl | (simp [errW_none, errW_some] <;> rfl)) | (simp [*, errW_none, errW_some] <;> rfl) | kernel_rfl, by (with_reducible repeat (first | apply Kd.R_alloc | apply Kd.R_drewN | apply Kd.R_drew)); exact HO_11.out, by repeat (first | (with_reducible first | exact HB.out | apply below_alloc | apply pw_below_drewN | apply below_drew1) | exact HB.out)⟩
          ·
           rw [if_neg c31] at H
           exact absurd H (by simp)
         ·
          rw [if_neg c30] at H
          exact absurd H (by simp)
      ·
       rw [if_neg c18] at H
       exact absurd H (by simp)
     ·
      rw [if_neg c17] at H
      exact absurd H (by simp)

end Go.Proofs.Ytklignhpkojmhaa.P
