-- PRINTED by print.py (a twelfth state) out of the translation. Not trusted: Lean checks it.
import Derived.Test.YtklignhpkojmhaaPx0
namespace Go.Proofs.Ytklignhpkojmhaa.P
open Go.RowKit Go.Proofs.YtklignhpkojmhaaW.PrintWords Go.Proofs.YtklignhpkojmhaaW.PrintLast Go.Proofs.YtklignhpkojmhaaW.PrintMore Go.Proofs.YtklignhpkojmhaaO
attribute [local go_sem] max2_int min2_int max_two min_two max_three min_three max_four min_four   -- for this text's walks alone
set_option linter.unusedVariables false
set_option linter.unusedSimpArgs false

/-! ### gimbalref10_Nodes: function 35 -/
def gimbalref10_Nodes.l0 : Nat → List Int → Int → Option (Int × Bool)
  | 0, _, _ => none
  | k + 1, x0, x4 => if x4 ≤ 16 then (if (wrap64 (x4 * x4)) = (x0.length : Int) then (some (x4, true)) else (gimbalref10_Nodes.l0 k x0 (wrap64 (x4 + 2)))) else (some (0, false))
def gimbalref10_Nodes.f (k : Nat) (l0 : List Int) : Option (Int × Bool) := gimbalref10_Nodes.l0 k l0 0
theorem gimbalref10_Nodes.mono_l : ∀ k, (∀ y0 y1, LeO (gimbalref10_Nodes.l0 k y0 y1) (gimbalref10_Nodes.l0 (k + 1) y0 y1))
  | 0 => fun _ _ r h => by simp [gimbalref10_Nodes.l0] at h
  | k + 1 => by
    have ih0 := gimbalref10_Nodes.mono_l k
    · intro y0 y1
      unfold gimbalref10_Nodes.l0
      repeat' first
      | (with_reducible exact ih0 _ _)
      | (with_reducible exact LeO.refl _)
      | (with_reducible exact LeO.none _)
      | (with_reducible refine LeO.ite ?_ ?_)
      | (with_reducible refine LeO.bind ?_ (fun _ => ?_))
      | exact ih0 _ _
      | exact LeO.none _
      | refine LeO.ite ?_ ?_
      | refine LeO.bind ?_ (fun _ => ?_)
theorem gimbalref10_Nodes.mono : ∀ a0 k, LeO (gimbalref10_Nodes.f k a0) (gimbalref10_Nodes.f (k + 1) a0) := by
  intro a0 k
  have ih0 := gimbalref10_Nodes.mono_l k
  unfold gimbalref10_Nodes.f
  repeat' first
      | (with_reducible exact ih0 _ _)
      | (with_reducible exact LeO.refl _)
      | (with_reducible exact LeO.none _)
      | (with_reducible refine LeO.ite ?_ ?_)
      | (with_reducible refine LeO.bind ?_ (fun _ => ?_))
      | exact ih0 _ _
      | exact LeO.none _
      | refine LeO.ite ?_ ?_
      | refine LeO.bind ?_ (fun _ => ?_)
set_option maxHeartbeats 8000000 in
set_option maxRecDepth 100000 in
theorem gimbalref10_Nodes.calls (k : Nat) (A0 : Option Addr) (c0 : Nat) (l0 : List Int) (r1 : Int) (r2 : Bool) (w : World) (hr0 : Kd.C (Kd.int .i64) w A0 l0.length l0) (hc0 : l0.length ≤ c0) (h : gimbalref10_Nodes.f k l0 = some (r1, r2)) :
    Calls Try.prog 35 #[.slice A0 l0.length c0] w fun e w' => e = .returned (.tuple #[.int .i64 r1, .bool r2]) ∧ Drawn0 w w' := by
  have HR0 := Aside0.mk hr0
  have HC0 := Aside0.mk hc0
  clear hr0 hc0
  have H : (gimbalref10_Nodes.l0 k l0 0) = some (r1, r2) := h
  clear h
  have H' := Aside0.mk H
  clear H
  go_enter Try.func35, Try.ntmps35
  go_wp2
  go_loopg [4] k (fun kq v4 w' => ∃ (x4_1 : Int), v4 = .int .i64 x4_1 ∧ Aside0 (gimbalref10_Nodes.l0 kq l0 x4_1 = some (r1, r2)) ∧ Aside0 (kq ≤ k) ∧ Drawn0 w w')
  case atStart => exact ⟨(0), (by first | rfl | (simp; done) | (simp [*]; done)), H', ⟨Nat.le_refl _⟩, by repeat (first | exact Drawn0.refl _ | apply Drawn0.step)⟩
  case round =>
   clear H'
   obtain ⟨x4_1, rfl, HA, HK1, ⟨m1, rfl⟩⟩ := hrel
   cases gk with
   | zero => exact absurd HA.out (by simp [gimbalref10_Nodes.l0])
   | succ k1 =>
    have H := HA.out
    clear HA
    simp only [gimbalref10_Nodes.l0] at H
    by_cases c2 : x4_1 ≤ 16
    ·
     rw [if_pos c2] at H
     have c2b0 : decide (x4_1 ≤ 16) = true := decide_eq_true c2
     clear c2
     by_cases c3 : (wrap64 (x4_1 * x4_1)) = (l0.length : Int)
     ·
      rw [if_pos c3] at H
      have c3b0 : ((wrap64 (x4_1 * x4_1)) == (l0.length : Int)) = true := beq_iff_eq.mpr c3
      have c3b1 : ((wrap64 (x4_1 * x4_1)) != (l0.length : Int)) = false := bne_eq_false_iff_eq.mpr c3
      clear c3
      simp only [Option.some.injEq, Prod.mk.injEq] at H
      obtain ⟨rfl, rfl⟩ := H
      go_wp2
      go_ret2
      exact ⟨by first | rfl | (simp; done) | (simp [*]; done), by repeat (first | exact Drawn0.refl _ | apply Drawn0.step)⟩
     ·
      rw [if_neg c3] at H
      have c3b0 : ((wrap64 (x4_1 * x4_1)) == (l0.length : Int)) = false := beq_eq_false_iff_ne.mpr c3
      have c3b1 : ((wrap64 (x4_1 * x4_1)) != (l0.length : Int)) = true := bne_iff_ne.mpr c3
      have H' := Aside0.mk H
      clear H
      go_wp2
      go_roundg k1
      case measure => have := HK1.out; omega
      case rel => exact ⟨(wrap64 (x4_1 + 2)), (by first | rfl | (simp; done) | (simp [*]; done)), H', ⟨by have := HK1.out; omega⟩, by repeat (first | exact Drawn0.refl _ | apply Drawn0.step)⟩
    ·
     rw [if_neg c2] at H
     have c2b0 : decide (x4_1 ≤ 16) = false := decide_eq_false c2
     clear c2
     simp only [Option.some.injEq, Prod.mk.injEq] at H
     obtain ⟨rfl, rfl⟩ := H
     go_wp2
     go_ret2
     exact ⟨by first | rfl | (simp; done) | (simp [*]; done), by repeat (first | exact Drawn0.refl _ | apply Drawn0.step)⟩

/-! ### gimbalref10_Size: function 17 -/
def gimbalref10_Size.f (k : Nat) (l0 : List Int) : Option (Int) := (gimbalref10_Nodes.f k l0).bind fun bt116 => (some bt116.1)
theorem gimbalref10_Size.mono : ∀ a0 k, LeO (gimbalref10_Size.f k a0) (gimbalref10_Size.f (k + 1) a0) := by
  intro a0 k
  unfold gimbalref10_Size.f
  repeat' first
      | (with_reducible exact gimbalref10_Nodes.mono _ _)
      | (with_reducible exact LeO.refl _)
      | (with_reducible exact LeO.none _)
      | (with_reducible refine LeO.ite ?_ ?_)
      | (with_reducible refine LeO.bind ?_ (fun _ => ?_))
      | exact gimbalref10_Nodes.mono _ _
      | exact LeO.none _
      | refine LeO.ite ?_ ?_
      | refine LeO.bind ?_ (fun _ => ?_)
set_option maxHeartbeats 8000000 in
set_option maxRecDepth 100000 in
theorem gimbalref10_Size.calls (k : Nat) (A0 : Option Addr) (c0 : Nat) (l0 : List Int) (r : Int) (w : World) (hr0 : Kd.C (Kd.int .i64) w A0 l0.length l0) (hc0 : l0.length ≤ c0) (h : gimbalref10_Size.f k l0 = some r) :
    Calls Try.prog 17 #[.slice A0 l0.length c0] w fun e w' => e = .returned (.int .i64 r) ∧ Drawn0 w w' := by
  have HR0 := Aside0.mk hr0
  have HC0 := Aside0.mk hc0
  clear hr0 hc0
  have H : ((gimbalref10_Nodes.f k l0).bind fun bt116 => (some bt116.1)) = some r := h
  clear h
  replace H := Option.bind_eq_some_iff.mp H
  obtain ⟨⟨t116, t117⟩, A20, H⟩ := H
  replace H : (some t116) = some r := H
  have A2 := Aside0.mk A20
  clear A20
  obtain rfl := Option.some.inj H
  go_enter Try.func17, Try.ntmps17
  go_wp2_with (first | ((with_reducible refine gate_callee (f := 35) rfl ?_); refine goesL_ (some 7) rfl rfl Try.func35 (by kernel_rfl) rfl #[.slice A0 l0.length c0] rfl (by (try simp only [List.map_toArray, List.map_cons, List.map_nil]); first | done | rfl | (simp only [List.length_drop, List.length_take]; rfl)) ?_; (with_reducible refine (gimbalref10_Nodes.calls k _ _ l0 t116 t117 _ ?side1 ?side2 A2.out).mono ?_); (case side1 => repeat (first | exact HR0.out | (with_reducible refine Kd.C_alloc ?_ _) | (with_reducible refine Kd.C_drewN ?_ _) | (with_reducible refine Kd.C_drew ?_))); (case side2 => exact HC0.out); rintro e w' ⟨rfl, ⟨nd, rfl⟩⟩; refine ⟨_, rfl, ?_⟩))
  go_ret
  exact ⟨by first | rfl | (simp; done) | (simp [*]; done), by repeat (first | exact Drawn0.refl _ | apply Drawn0.step)⟩

end Go.Proofs.Ytklignhpkojmhaa.P
