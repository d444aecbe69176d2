-- PRINTED by print.py (a twelfth state) out of the translation. Not trusted: Lean checks it.
import Derived.Test.YtklignhpkojmhaaU
import Derived.Test.YtklignhpkojmhaaPx0
import Derived.Test.YtklignhpkojmhaaPx5
import Derived.Test.YtklignhpkojmhaaPx9
import Derived.Test.YtklignhpkojmhaaPx10
namespace Go.Proofs.Ytklignhpkojmhaa.P
open Go.RowKit Go.Proofs.YtklignhpkojmhaaW.PrintWords Go.Proofs.YtklignhpkojmhaaW.PrintLast Go.Proofs.YtklignhpkojmhaaW.PrintMore Go.Proofs.YtklignhpkojmhaaO
attribute [local go_sem] max2_int min2_int max_two min_two max_three min_three max_four min_four   -- for this text's walks alone
set_option linter.unusedVariables false
set_option linter.unusedSimpArgs false

/-! ### gimbalref10_Close: function 24 -/
mutual
def gimbalref10_Close.l0 : Nat → Int → List Int → Int → Option (List Int × Bool)
  | 0, _, _, _ => none
  | k + 1, x4, x6, x7 => if x7 ≤ (wrap64 (2 * x4)) then (gimbalref10_Close.l1 k x4 x6 x7 0) else (gimbalref10_Close.l5 k x4 x6 0)
def gimbalref10_Close.l1 : Nat → Int → List Int → Int → Int → Option (List Int × Bool)
  | 0, _, _, _, _ => none
  | k + 1, x4, x6, x7, x8 => if x8 < x4 then (if 0 ≤ (wrap64 ((wrap64 (x8 * x4)) + x8)) then (if (wrap64 ((wrap64 (x8 * x4)) + x8)) < (x6.length : Int) then (if (rd x6 (wrap64 ((wrap64 (x8 * x4)) + x8))) < 0 then (some (([] : List Int), false)) else (gimbalref10_Close.l1 k x4 (x6.set ((wrap64 ((wrap64 (x8 * x4)) + x8)) : Int).toNat 0) x7 (wrap64 (x8 + 1)))) else (none)) else (none)) else ((gimbalref10_copied.f x6).bind fun t270 => (gimbalref10_Close.l2 k x4 x6 x7 t270 0))
def gimbalref10_Close.l2 : Nat → Int → List Int → Int → List Int → Int → Option (List Int × Bool)
  | 0, _, _, _, _, _ => none
  | k + 1, x4, x6, x7, x9, x10 => if x10 < x4 then (gimbalref10_Close.l3 k x4 x6 x7 x9 x10 0) else (gimbalref10_Close.l0 k x4 x9 (wrap64 (2 * x7)))
def gimbalref10_Close.l3 : Nat → Int → List Int → Int → List Int → Int → Int → Option (List Int × Bool)
  | 0, _, _, _, _, _, _ => none
  | k + 1, x4, x6, x7, x9, x10, x11 => if x11 < x4 then (gimbalref10_Close.l4 k x4 x6 x7 x9 x10 x11 0) else (gimbalref10_Close.l2 k x4 x6 x7 x9 (wrap64 (x10 + 1)))
def gimbalref10_Close.l4 : Nat → Int → List Int → Int → List Int → Int → Int → Int → Option (List Int × Bool)
  | 0, _, _, _, _, _, _, _ => none
  | k + 1, x4, x6, x7, x9, x10, x11, x12 => if x12 < x4 then (if 0 ≤ (wrap64 ((wrap64 (x10 * x4)) + x12)) then (if (wrap64 ((wrap64 (x10 * x4)) + x12)) < (x6.length : Int) then (if 0 ≤ (wrap64 ((wrap64 (x12 * x4)) + x11)) then (if (wrap64 ((wrap64 (x12 * x4)) + x11)) < (x6.length : Int) then (if (rd x6 (wrap64 ((wrap64 (x10 * x4)) + x12))) < 4611686018427387904 then (if (rd x6 (wrap64 ((wrap64 (x12 * x4)) + x11))) < 4611686018427387904 then (if 0 ≤ (wrap64 ((wrap64 (x10 * x4)) + x11)) then (if (wrap64 ((wrap64 (x10 * x4)) + x11)) < (x9.length : Int) then (if (wrap64 ((rd x6 (wrap64 ((wrap64 (x10 * x4)) + x12))) + (rd x6 (wrap64 ((wrap64 (x12 * x4)) + x11))))) < (rd x9 (wrap64 ((wrap64 (x10 * x4)) + x11))) then (gimbalref10_Close.l4 k x4 x6 x7 (x9.set ((wrap64 ((wrap64 (x10 * x4)) + x11)) : Int).toNat (wrap64 ((rd x6 (wrap64 ((wrap64 (x10 * x4)) + x12))) + (rd x6 (wrap64 ((wrap64 (x12 * x4)) + x11)))))) x10 x11 (wrap64 (x12 + 1))) else (gimbalref10_Close.l4 k x4 x6 x7 x9 x10 x11 (wrap64 (x12 + 1)))) else (none)) else (none)) else (gimbalref10_Close.l4 k x4 x6 x7 x9 x10 x11 (wrap64 (x12 + 1)))) else (gimbalref10_Close.l4 k x4 x6 x7 x9 x10 x11 (wrap64 (x12 + 1)))) else (none)) else (none)) else (none)) else (none)) else (gimbalref10_Close.l3 k x4 x6 x7 x9 x10 (wrap64 (x11 + 1)))
def gimbalref10_Close.l5 : Nat → Int → List Int → Int → Option (List Int × Bool)
  | 0, _, _, _ => none
  | k + 1, x4, x6, x15 => if x15 < x4 then (if 0 ≤ (wrap64 ((wrap64 (x15 * x4)) + x15)) then (if (wrap64 ((wrap64 (x15 * x4)) + x15)) < (x6.length : Int) then (if (rd x6 (wrap64 ((wrap64 (x15 * x4)) + x15))) < 0 then (some (([] : List Int), false)) else (gimbalref10_Close.l5 k x4 x6 (wrap64 (x15 + 1)))) else (none)) else (none)) else ((gimbalref10_allTaken.f k x6).bind fun t278 => (some (t278, true)))
end
def gimbalref10_Close.f (k : Nat) (l0 : List Int) : Option (List Int × Bool) := (gimbalref10_Nodes.f k l0).bind fun bt263 => (if bt263.2 = true then ((gimbalref10_allTaken.f k l0).bind fun t265 => (gimbalref10_Close.l0 k bt263.1 t265 1)) else (some (([] : List Int), false)))
theorem gimbalref10_Close.mono_l : ∀ k, (∀ y0 y1 y2, LeO (gimbalref10_Close.l0 k y0 y1 y2) (gimbalref10_Close.l0 (k + 1) y0 y1 y2)) ∧ (∀ y0 y1 y2 y3, LeO (gimbalref10_Close.l1 k y0 y1 y2 y3) (gimbalref10_Close.l1 (k + 1) y0 y1 y2 y3)) ∧ (∀ y0 y1 y2 y3 y4, LeO (gimbalref10_Close.l2 k y0 y1 y2 y3 y4) (gimbalref10_Close.l2 (k + 1) y0 y1 y2 y3 y4)) ∧ (∀ y0 y1 y2 y3 y4 y5, LeO (gimbalref10_Close.l3 k y0 y1 y2 y3 y4 y5) (gimbalref10_Close.l3 (k + 1) y0 y1 y2 y3 y4 y5)) ∧ (∀ y0 y1 y2 y3 y4 y5 y6, LeO (gimbalref10_Close.l4 k y0 y1 y2 y3 y4 y5 y6) (gimbalref10_Close.l4 (k + 1) y0 y1 y2 y3 y4 y5 y6)) ∧ (∀ y0 y1 y2, LeO (gimbalref10_Close.l5 k y0 y1 y2) (gimbalref10_Close.l5 (k + 1) y0 y1 y2))
  | 0 => ⟨fun _ _ _ r h => by simp [gimbalref10_Close.l0] at h, fun _ _ _ _ r h => by simp [gimbalref10_Close.l1] at h, fun _ _ _ _ _ r h => by simp [gimbalref10_Close.l2] at h, fun _ _ _ _ _ _ r h => by simp [gimbalref10_Close.l3] at h, fun _ _ _ _ _ _ _ r h => by simp [gimbalref10_Close.l4] at h, fun _ _ _ r h => by simp [gimbalref10_Close.l5] at h⟩
  | k + 1 => by
    obtain ⟨ih0, ih1, ih2, ih3, ih4, ih5⟩ := gimbalref10_Close.mono_l k
    refine ⟨?_, ?_, ?_, ?_, ?_, ?_⟩
    · intro y0 y1 y2
      unfold gimbalref10_Close.l0
      repeat' first
      | (with_reducible exact ih0 _ _ _)
      | (with_reducible exact ih1 _ _ _ _)
      | (with_reducible exact ih2 _ _ _ _ _)
      | (with_reducible exact ih3 _ _ _ _ _ _)
      | (with_reducible exact ih4 _ _ _ _ _ _ _)
      | (with_reducible exact ih5 _ _ _)
      | (with_reducible exact gimbalref10_Nodes.mono _ _)
      | (with_reducible exact gimbalref10_allTaken.mono _ _)
      | (with_reducible exact LeO.refl _)
      | (with_reducible exact LeO.none _)
      | (with_reducible refine LeO.ite ?_ ?_)
      | (with_reducible refine LeO.bind ?_ (fun _ => ?_))
      | exact ih0 _ _ _
      | exact ih1 _ _ _ _
      | exact ih2 _ _ _ _ _
      | exact ih3 _ _ _ _ _ _
      | exact ih4 _ _ _ _ _ _ _
      | exact ih5 _ _ _
      | exact gimbalref10_Nodes.mono _ _
      | exact gimbalref10_allTaken.mono _ _
      | exact LeO.none _
      | refine LeO.ite ?_ ?_
      | refine LeO.bind ?_ (fun _ => ?_)
    · intro y0 y1 y2 y3
      unfold gimbalref10_Close.l1
      repeat' first
      | (with_reducible exact ih0 _ _ _)
      | (with_reducible exact ih1 _ _ _ _)
      | (with_reducible exact ih2 _ _ _ _ _)
      | (with_reducible exact ih3 _ _ _ _ _ _)
      | (with_reducible exact ih4 _ _ _ _ _ _ _)
      | (with_reducible exact ih5 _ _ _)
      | (with_reducible exact gimbalref10_Nodes.mono _ _)
      | (with_reducible exact gimbalref10_allTaken.mono _ _)
      | (with_reducible exact LeO.refl _)
      | (with_reducible exact LeO.none _)
      | (with_reducible refine LeO.ite ?_ ?_)
      | (with_reducible refine LeO.bind ?_ (fun _ => ?_))
      | exact ih0 _ _ _
      | exact ih1 _ _ _ _
      | exact ih2 _ _ _ _ _
      | exact ih3 _ _ _ _ _ _
      | exact ih4 _ _ _ _ _ _ _
      | exact ih5 _ _ _
      | exact gimbalref10_Nodes.mono _ _
      | exact gimbalref10_allTaken.mono _ _
      | exact LeO.none _
      | refine LeO.ite ?_ ?_
      | refine LeO.bind ?_ (fun _ => ?_)
    · intro y0 y1 y2 y3 y4
      unfold gimbalref10_Close.l2
      repeat' first
      | (with_reducible exact ih0 _ _ _)
      | (with_reducible exact ih1 _ _ _ _)
      | (with_reducible exact ih2 _ _ _ _ _)
      | (with_reducible exact ih3 _ _ _ _ _ _)
      | (with_reducible exact ih4 _ _ _ _ _ _ _)
      | (with_reducible exact ih5 _ _ _)
      | (with_reducible exact gimbalref10_Nodes.mono _ _)
      | (with_reducible exact gimbalref10_allTaken.mono _ _)
      | (with_reducible exact LeO.refl _)
      | (with_reducible exact LeO.none _)
      | (with_reducible refine LeO.ite ?_ ?_)
      | (with_reducible refine LeO.bind ?_ (fun _ => ?_))
      | exact ih0 _ _ _
      | exact ih1 _ _ _ _
      | exact ih2 _ _ _ _ _
      | exact ih3 _ _ _ _ _ _
      | exact ih4 _ _ _ _ _ _ _
      | exact ih5 _ _ _
      | exact gimbalref10_Nodes.mono _ _
      | exact gimbalref10_allTaken.mono _ _
      | exact LeO.none _
      | refine LeO.ite ?_ ?_
      | refine LeO.bind ?_ (fun _ => ?_)
    · intro y0 y1 y2 y3 y4 y5
      unfold gimbalref10_Close.l3
      repeat' first
      | (with_reducible exact ih0 _ _ _)
      | (with_reducible exact ih1 _ _ _ _)
      | (with_reducible exact ih2 _ _ _ _ _)
      | (with_reducible exact ih3 _ _ _ _ _ _)
      | (with_reducible exact ih4 _ _ _ _ _ _ _)
      | (with_reducible exact ih5 _ _ _)
      | (with_reducible exact gimbalref10_Nodes.mono _ _)
      | (with_reducible exact gimbalref10_allTaken.mono _ _)
      | (with_reducible exact LeO.refl _)
      | (with_reducible exact LeO.none _)
      | (with_reducible refine LeO.ite ?_ ?_)
      | (with_reducible refine LeO.bind ?_ (fun _ => ?_))
      | exact ih0 _ _ _
      | exact ih1 _ _ _ _
      | exact ih2 _ _ _ _ _
      | exact ih3 _ _ _ _ _ _
      | exact ih4 _ _ _ _ _ _ _
      | exact ih5 _ _ _
      | exact gimbalref10_Nodes.mono _ _
      | exact gimbalref10_allTaken.mono _ _
      | exact LeO.none _
      | refine LeO.ite ?_ ?_
      | refine LeO.bind ?_ (fun _ => ?_)
    · intro y0 y1 y2 y3 y4 y5 y6
      unfold gimbalref10_Close.l4
      repeat' first
      | (with_reducible exact ih0 _ _ _)
      | (with_reducible exact ih1 _ _ _ _)
      | (with_reducible exact ih2 _ _ _ _ _)
      | (with_reducible exact ih3 _ _ _ _ _ _)
      | (with_reducible exact ih4 _ _ _ _ _ _ _)
      | (with_reducible exact ih5 _ _ _)
      | (with_reducible exact gimbalref10_Nodes.mono _ _)
      | (with_reducible exact gimbalref10_allTaken.mono _ _)
      | (with_reducible exact LeO.refl _)
      | (with_reducible exact LeO.none _)
      | (with_reducible refine LeO.ite ?_ ?_)
      | (with_reducible refine LeO.bind ?_ (fun _ => ?_))
      | exact ih0 _ _ _
      | exact ih1 _ _ _ _
      | exact ih2 _ _ _ _ _
      | exact ih3 _ _ _ _ _ _
      | exact ih4 _ _ _ _ _ _ _
      | exact ih5 _ _ _
      | exact gimbalref10_Nodes.mono _ _
      | exact gimbalref10_allTaken.mono _ _
      | exact LeO.none _
      | refine LeO.ite ?_ ?_
      | refine LeO.bind ?_ (fun _ => ?_)
    · intro y0 y1 y2
      unfold gimbalref10_Close.l5
      repeat' first
      | (with_reducible exact ih0 _ _ _)
      | (with_reducible exact ih1 _ _ _ _)
      | (with_reducible exact ih2 _ _ _ _ _)
      | (with_reducible exact ih3 _ _ _ _ _ _)
      | (with_reducible exact ih4 _ _ _ _ _ _ _)
      | (with_reducible exact ih5 _ _ _)
      | (with_reducible exact gimbalref10_Nodes.mono _ _)
      | (with_reducible exact gimbalref10_allTaken.mono _ _)
      | (with_reducible exact LeO.refl _)
      | (with_reducible exact LeO.none _)
      | (with_reducible refine LeO.ite ?_ ?_)
      | (with_reducible refine LeO.bind ?_ (fun _ => ?_))
      | exact ih0 _ _ _
      | exact ih1 _ _ _ _
      | exact ih2 _ _ _ _ _
      | exact ih3 _ _ _ _ _ _
      | exact ih4 _ _ _ _ _ _ _
      | exact ih5 _ _ _
      | exact gimbalref10_Nodes.mono _ _
      | exact gimbalref10_allTaken.mono _ _
      | exact LeO.none _
      | refine LeO.ite ?_ ?_
      | refine LeO.bind ?_ (fun _ => ?_)
theorem gimbalref10_Close.mono : ∀ a0 k, LeO (gimbalref10_Close.f k a0) (gimbalref10_Close.f (k + 1) a0) := by
  intro a0 k
  obtain ⟨ih0, ih1, ih2, ih3, ih4, ih5⟩ := gimbalref10_Close.mono_l k
  unfold gimbalref10_Close.f
  repeat' first
      | (with_reducible exact ih0 _ _ _)
      | (with_reducible exact ih1 _ _ _ _)
      | (with_reducible exact ih2 _ _ _ _ _)
      | (with_reducible exact ih3 _ _ _ _ _ _)
      | (with_reducible exact ih4 _ _ _ _ _ _ _)
      | (with_reducible exact ih5 _ _ _)
      | (with_reducible exact gimbalref10_Nodes.mono _ _)
      | (with_reducible exact gimbalref10_allTaken.mono _ _)
      | (with_reducible exact LeO.refl _)
      | (with_reducible exact LeO.none _)
      | (with_reducible refine LeO.ite ?_ ?_)
      | (with_reducible refine LeO.bind ?_ (fun _ => ?_))
      | exact ih0 _ _ _
      | exact ih1 _ _ _ _
      | exact ih2 _ _ _ _ _
      | exact ih3 _ _ _ _ _ _
      | exact ih4 _ _ _ _ _ _ _
      | exact ih5 _ _ _
      | exact gimbalref10_Nodes.mono _ _
      | exact gimbalref10_allTaken.mono _ _
      | exact LeO.none _
      | refine LeO.ite ?_ ?_
      | refine LeO.bind ?_ (fun _ => ?_)
set_option maxHeartbeats 8000000 in
set_option maxRecDepth 100000 in
theorem gimbalref10_Close.calls (k : Nat) (A0 : Option Addr) (c0 : Nat) (l0 : List Int) (r1 : List Int) (r2 : Bool) (w : World) (hr0 : Kd.C (Kd.int .i64) w A0 l0.length l0) (hc0 : l0.length ≤ c0) (h : gimbalref10_Close.f k l0 = some (r1, r2)) :
    Calls Try.prog 24 #[.slice A0 l0.length c0] w fun e w' => ∃ v0_ : Value, e = .returned (.tuple #[v0_, .bool r2]) ∧ Kd.R (Kd.int .i64) 2 w' w.heap.size (fun _ => True) v0_ r1 ∧ Below w.heap.size w w' := by
  have HR0 := Aside0.mk hr0
  have HC0 := Aside0.mk hc0
  clear hr0 hc0
  have HB := Aside0.mk (Below.refl w.heap.size w)
  have H : ((gimbalref10_Nodes.f k l0).bind fun bt263 => (if bt263.2 = true then ((gimbalref10_allTaken.f k l0).bind fun t265 => (gimbalref10_Close.l0 k bt263.1 t265 1)) else (some (([] : List Int), false)))) = some (r1, r2) := h
  clear h
  replace H := Option.bind_eq_some_iff.mp H
  obtain ⟨⟨t263, t264⟩, A20, H⟩ := H
  replace H : (if t264 = true then ((gimbalref10_allTaken.f k l0).bind fun t265 => (gimbalref10_Close.l0 k t263 t265 1)) else (some (([] : List Int), false))) = some (r1, r2) := H
  have A2 := Aside0.mk A20
  clear A20
  by_cases c3 : t264 = true
  ·
   subst c3
   have H1 : ((gimbalref10_allTaken.f k l0).bind fun t265 => (gimbalref10_Close.l0 k t263 t265 1)) = some (r1, r2) := by rw [if_pos rfl] at H; exact H
   clear H
   have H := H1
   clear H1
   replace H := Option.bind_eq_some_iff.mp H
   obtain ⟨t265, A40, H⟩ := H
   replace H : (gimbalref10_Close.l0 k t263 t265 1) = some (r1, r2) := H
   have A4 := Aside0.mk A40
   clear A40
   have H' := Aside0.mk H
   clear H
   go_enter Try.func24, Try.ntmps24
   go_wp2_with (first | ((with_reducible refine gate_callee (f := 35) rfl ?_); refine goesL_ (some 18) rfl rfl Try.func35 (by kernel_rfl) rfl #[.slice A0 l0.length c0] rfl (by (try simp only [List.map_toArray, List.map_cons, List.map_nil]); first | done | rfl | (simp only [List.length_drop, List.length_take]; rfl)) ?_; (with_reducible refine (gimbalref10_Nodes.calls k _ _ l0 t263 true _ ?side1 ?side2 A2.out).mono ?_); (case side1 => repeat (first | exact HR0.out | (with_reducible refine Kd.C_alloc ?_ _) | (with_reducible refine Kd.C_drewN ?_ _) | (with_reducible refine Kd.C_drew ?_))); (case side2 => exact HC0.out); rintro e w' ⟨rfl, ⟨nd, rfl⟩⟩; refine ⟨_, rfl, ?_⟩) | ((with_reducible refine gate_callee (f := 38) rfl ?_); refine goesL_ (some 24) rfl rfl Try.func38 (by kernel_rfl) rfl #[.slice A0 l0.length c0] rfl (by (try simp only [List.map_toArray, List.map_cons, List.map_nil]); first | done | rfl | (simp only [List.length_drop, List.length_take]; rfl)) ?_; (with_reducible refine (gimbalref10_allTaken.calls k _ _ l0 t265 _ ?side1 ?side2 A4.out).mono ?_); (case side1 => repeat (first | exact HR0.out | (with_reducible refine Kd.C_alloc ?_ _) | (with_reducible refine Kd.C_drewN ?_ _) | (with_reducible refine Kd.C_drew ?_))); (case side2 => exact HC0.out); rintro e w5 ⟨v266, rfl, ho0, hb⟩; refine ⟨_, rfl, ?_⟩; have n0_ := Aside0.mk (Kd.R_lower ho0 (below_size (by repeat (first | (with_reducible first | exact HB.out | apply below_alloc | apply pw_below_drewN | apply below_drew1) | exact HB.out)))); have n1_ := bst HB hb; clear HB; have HO267 := n0_; have HB := n1_; clear n0_ n1_; (try clear hb); (try clear hb2); (try clear hk); (try clear hi); (try clear ho0)))
   go_loopg [6, 7] k (fun kq v6 v7 w' => ∃ (x6_1 : List Int) (x7_1 : Int), v7 = .int .i64 x7_1 ∧ Aside0 (gimbalref10_Close.l0 kq t263 x6_1 x7_1 = some (r1, r2)) ∧ Aside0 (kq ≤ k) ∧ Aside0 (Kd.R (Kd.int .i64) 2 w' w.heap.size (fun _ => True) v6 x6_1) ∧ Aside0 (Below w.heap.size w w'))
   case atStart => exact ⟨(t265), (1), (by first | rfl | (simp; done) | (simp [*]; done)), H', ⟨Nat.le_refl _⟩, ⟨by (with_reducible repeat (first | apply Kd.R_alloc | apply Kd.R_drewN | apply Kd.R_drew)); exact HO267.out⟩, bpk HB⟩
   case round =>
    clear H'
    try clear c2
    try clear p2
    try clear c3
    obtain ⟨x6_1, x7_1, rfl, HA, HK1, HO_6, HB⟩ := hrel
    cases gk with
    | zero => exact absurd HA.out (by simp [gimbalref10_Close.l0])
    | succ k1 =>
     have H := HA.out
     clear HA
     simp only [gimbalref10_Close.l0] at H
     by_cases c6 : x7_1 ≤ (wrap64 (2 * t263))
     ·
      rw [if_pos c6] at H
      have c6b0 : decide (x7_1 ≤ (wrap64 (2 * t263))) = true := decide_eq_true c6
      clear c6
      have H' := Aside0.mk H
      clear H
      go_wp2
      go_loopg [8] k1 (fun kq v8 w' => ∃ (x6_2 : List Int) (x8_2 : Int), v8 = .int .i64 x8_2 ∧ Aside0 (gimbalref10_Close.l1 kq t263 x6_2 x7_1 x8_2 = some (r1, r2)) ∧ Aside0 (kq ≤ k1) ∧ Aside0 (Kd.R (Kd.int .i64) 2 w' w.heap.size (fun _ => True) u6 x6_2) ∧ Aside0 (Below w.heap.size w w'))
      case atStart => exact ⟨(x6_1), (0), (by first | rfl | (simp; done) | (simp [*]; done)), H', ⟨Nat.le_refl _⟩, ⟨by (with_reducible repeat (first | apply Kd.R_alloc | apply Kd.R_drewN | apply Kd.R_drew)); exact HO_6.out⟩, bpk HB⟩
      case round =>
       clear H'
       try clear c2
       try clear p2
       try clear c3
       try clear c6
       try clear c6b0
       try clear p6
       try clear p2
       obtain ⟨x6_2, x8_2, rfl, HA, HK2, HO_6, HB⟩ := hrel
       cases gk with
       | zero => exact absurd HA.out (by simp [gimbalref10_Close.l1])
       | succ k2 =>
        have H := HA.out
        clear HA
        simp only [gimbalref10_Close.l1] at H
        by_cases c7 : x8_2 < t263
        ·
         rw [if_pos c7] at H
         have c7b0 : decide (x8_2 < t263) = true := decide_eq_true c7
         clear c7
         obtain ⟨ji8, hji8⟩ : ∃ j_ : Int, (wrap64 ((wrap64 (x8_2 * t263)) + x8_2)) = j_ := ⟨_, rfl⟩
         replace H : (if 0 ≤ (ji8) then (if (ji8) < (x6_2.length : Int) then (if (rd x6_2 (ji8)) < 0 then (some (([] : List Int), false)) else (gimbalref10_Close.l1 k2 t263 (x6_2.set ((ji8) : Int).toNat 0) x7_1 (wrap64 (x8_2 + 1)))) else (none)) else (none)) = some (r1, r2) := by first | (rw [hji8] at H; exact H) | (simp only [hji8] at H ⊢; exact H)
         have hji8w : (IntKind.i64.wrap ((wrap64 (x8_2 * t263)) + x8_2)) = ji8 := (i64_w _).trans hji8
         by_cases c9 : 0 ≤ (ji8)
         ·
          rw [if_pos c9] at H
          have c9b0 : decide (0 ≤ (ji8)) = true := decide_eq_true c9
          clear c9
          by_cases c10 : (ji8) < (x6_2.length : Int)
          ·
           rw [if_pos c10] at H
           have c10b0 : decide ((ji8) < (x6_2.length : Int)) = true := decide_eq_true c10
           clear c10
           by_cases c11 : (rd x6_2 (ji8)) < 0
           ·
            rw [if_pos c11] at H
            have c11b0 : decide ((rd x6_2 (ji8)) < 0) = true := decide_eq_true c11
            clear c11
            simp only [Option.some.injEq, Prod.mk.injEq] at H
            obtain ⟨rfl, rfl⟩ := H
            obtain ⟨Ao12, co12, eo12⟩ := Kd.R_slice HO_6.out
            subst eo12
            have p13 : 0 ≤ ((ji8) : Int) := of_decide_eq_true (by first | (with_reducible assumption) | assumption)
            have q13 : ((ji8) : Int) < ((x6_2.length : Int) : Int) := of_decide_eq_true (by first | (with_reducible assumption) | assumption)
            obtain ⟨go13, co13, eo13, gb13, gl13, cl13, HG13⟩ := Kd.R_form HO_6.out (by omega)
            (first | cases eo13 | (injection eo13 with ea_ en_ ec_; (first | subst ea_ | (injection ea_ with ea_; subst ea_)); subst ec_; clear en_))
            have GB13 := Aside0.mk gb13
            have GG13 := Aside0.mk HG13
            clear gb13 gl13 HG13
            clear p13 q13
            have p268 : 0 ≤ ((ji8) : Int) := of_decide_eq_true (by first | (with_reducible assumption) | assumption)
            have q268 : (ji8) < (x6_2.length : Int) := of_decide_eq_true (by first | (with_reducible assumption) | assumption)
            obtain ⟨ad268, e268, hx268_0⟩ := Kd.at_int (Kd.R_reads' HO_6.out).2.2 (ji8) p268 q268
            obtain rfl : (⟨go13, 0, none⟩ : Addr) = ad268 := (by injection e268)
            (first | simp only [add_plain] at hx268_0 | simp only [add_at] at hx268_0 | simp only [Addr.add, Nat.zero_add] at hx268_0 | skip)
            replace p268 := eq_true p268
            replace q268 := eq_true q268
            go_wp2
            go_ret2
            exact ⟨_, by first | rfl | (simp [errW_none, errW_some] <;> rfl) | (simp only [← hji8]; first | rfl | (simp [errW_none, errW_some] <;> rfl)) | (simp [*, errW_none, errW_some] <;> rfl) | kernel_rfl, by first | exact Kd.R_nil _ _ _ _ _ | exact Kd.N_nil _ _ _ _ _ | exact Kd.V_nil _ _ _ _ _ | exact Kd.Q_nil _ _ _ _ _ | exact Kd.S_nil _ _ _ _ _, by repeat (first | (with_reducible first | exact HB.out | apply below_alloc | apply pw_below_drewN | apply below_drew1) | exact HB.out)⟩
           ·
            rw [if_neg c11] at H
            have c11b0 : decide ((rd x6_2 (ji8)) < 0) = false := decide_eq_false c11
            clear c11
            obtain ⟨y269, hy269⟩ : ∃ y_ : List Int, y_ = (x6_2.set ((ji8) : Int).toNat 0) := ⟨_, rfl⟩
            replace H : (gimbalref10_Close.l1 k2 t263 y269 x7_1 (wrap64 (x8_2 + 1))) = some (r1, r2) := by first | (rw [hy269]; with_reducible exact H) | (have H2_ := (Option.bind_some _ _).symm.trans H; rw [hy269]; with_reducible exact H2_) | (have H2_ := (Option.bind_some _ _).symm.trans H; with_reducible exact H2_) | with_reducible exact H | (rw [hy269]; exact H) | exact H
            have Ny269 := Aside0.mk hy269
            clear hy269
            have H' := Aside0.mk H
            clear H
            obtain ⟨Ao15, co15, eo15⟩ := Kd.R_slice HO_6.out
            subst eo15
            have p16 : 0 ≤ ((ji8) : Int) := of_decide_eq_true (by first | (with_reducible assumption) | assumption)
            have q16 : ((ji8) : Int) < ((x6_2.length : Int) : Int) := of_decide_eq_true (by first | (with_reducible assumption) | assumption)
            obtain ⟨go16, co16, eo16, gb16, gl16, cl16, HG16⟩ := Kd.R_form HO_6.out (by omega)
            (first | cases eo16 | (injection eo16 with ea_ en_ ec_; (first | subst ea_ | (injection ea_ with ea_; subst ea_)); subst ec_; clear en_))
            have GB16 := Aside0.mk gb16
            have GG16 := Aside0.mk HG16
            clear gb16 gl16 HG16
            clear p16 q16
            have p268 : 0 ≤ ((ji8) : Int) := of_decide_eq_true (by first | (with_reducible assumption) | assumption)
            have q268 : (ji8) < (x6_2.length : Int) := of_decide_eq_true (by first | (with_reducible assumption) | assumption)
            obtain ⟨ad268, e268, hx268_0⟩ := Kd.at_int (Kd.R_reads' HO_6.out).2.2 (ji8) p268 q268
            obtain rfl : (⟨go16, 0, none⟩ : Addr) = ad268 := (by injection e268)
            (first | simp only [add_plain] at hx268_0 | simp only [add_at] at hx268_0 | simp only [Addr.add, Nat.zero_add] at hx268_0 | skip)
            replace p268 := eq_true p268
            replace q268 := eq_true q268
            have p14 : 0 ≤ ((ji8) : Int) := of_decide_eq_true (by first | (with_reducible assumption) | assumption)
            have q14 : ((ji8) : Int) < ((x6_2.length : Int) : Int) := of_decide_eq_true (by first | (with_reducible assumption) | assumption)
            obtain ⟨hx14_0, hf14_0⟩ := Kd.R_celln 0 HO_6.out ((ji8) : Int) p14 q14
            replace p14 := eq_true p14
            replace q14 := eq_true q14
            have HP17 := Kd.R_putg HO_6.out ((ji8) : Int) 0
            go_wp2_with (first | ((with_reducible refine gate_store (t := 2) (p := 51) rfl ?_); refine store_event (t := 2) (p := 51) (v := ?vo_w18) (w1 := (wr.setCell ⟨go16, ((ji8) : Int).toNat, none⟩ (.int .i64 0))) ?hg ?ho ?hn ?hr ?_; (case ho => rfl); (case hg => rfl); (case hn => rfl); (case hr => first | (go_simp; done) | (go_simp; rfl)); intro w18 hw; have hg : wr.grownBy w18 (some go16) := (by rw [hw]; exact HP17.2); have hp_ : Kd.R (Kd.int .i64) 2 w18 w.heap.size (fun _ => True) (.slice (some ⟨go16, 0, none⟩) x6_2.length co15) y269 := (by rw [hw, Ny269.out]; exact HP17.1); clear HP17; have n0_ := Aside0.mk (hp_); have n1_ := Aside0.mk ((by rw [hw]; exact below_set (HB.out) GB16.out : Below w.heap.size w w18)); clear HO_6; clear HB; have HO_6 := n0_; have HB := n1_; clear n0_ n1_; clear hg hw hp_))
            go_roundg k2
            case measure => have := HK1.out; have := HK2.out; omega
            case rel => exact ⟨(y269), (wrap64 (x8_2 + 1)), (by first | rfl | (simp; done) | (simp [*]; done)), H', ⟨by have := HK1.out; have := HK2.out; omega⟩, ⟨by (with_reducible repeat (first | apply Kd.R_alloc | apply Kd.R_drewN | apply Kd.R_drew)); exact HO_6.out⟩, bpk HB⟩
          ·
           rw [if_neg c10] at H
           exact absurd H (by simp)
         ·
          rw [if_neg c9] at H
          exact absurd H (by simp)
        ·
         rw [if_neg c7] at H
         have c7b0 : decide (x8_2 < t263) = false := decide_eq_false c7
         clear c7
         replace H := Option.bind_eq_some_iff.mp H
         obtain ⟨t270, A190, H⟩ := H
         replace H : (gimbalref10_Close.l2 k2 t263 x6_2 x7_1 t270 0) = some (r1, r2) := H
         have A19 := Aside0.mk A190
         clear A190
         have H' := Aside0.mk H
         clear H
         obtain ⟨Ao20, co20, eo20⟩ := Kd.R_slice HO_6.out
         subst eo20
         go_wp2_with (first | ((with_reducible refine gate_callee (f := 37) rfl ?_); refine goesL_ (some 53) rfl rfl Try.func37 (by kernel_rfl) rfl #[.slice Ao20 x6_2.length co20] rfl (by (try simp only [List.map_toArray, List.map_cons, List.map_nil]); first | done | rfl | (simp only [List.length_drop, List.length_take]; rfl)) ?_; (with_reducible refine (gimbalref10_copied.calls _ _ x6_2 t270 _ ?side1 ?side2 A19.out).mono ?_); (case side1 => repeat (first | exact (Kd.R_reads' HO_6.out).2.2 | (with_reducible refine Kd.C_alloc ?_ _) | (with_reducible refine Kd.C_drewN ?_ _) | (with_reducible refine Kd.C_drew ?_))); (case side2 => exact (Kd.R_reads' HO_6.out).2.1); rintro e w21 ⟨v271, rfl, ho0, hb⟩; refine ⟨_, rfl, ?_⟩; have n0_ := Aside0.mk (Kd.R_elder' (by (with_reducible repeat (first | apply Kd.R_alloc | apply Kd.R_drewN | apply Kd.R_drew)); exact HO_6.out) (Kd.R_base ho0) hb); have n1_ := Aside0.mk (Kd.R_lower (Kd.R_new' ho0 (Kd.R_lt (by (with_reducible repeat (first | apply Kd.R_alloc | apply Kd.R_drewN | apply Kd.R_drew)); exact HO_6.out))) (below_size (by repeat (first | (with_reducible first | exact HB.out | apply below_alloc | apply pw_below_drewN | apply below_drew1) | exact HB.out)))); have n2_ := bst HB hb; clear HO_6; clear HB; have HO_6 := n0_; have HO272 := n1_; have HB := n2_; clear n0_ n1_ n2_; (try clear hb); (try clear hb2); (try clear hk); (try clear hi); (try clear ho0)))
         go_loopg [10] k2 (fun kq v10 w' => ∃ (x9_3 : List Int) (x10_3 : Int), v10 = .int .i64 x10_3 ∧ Aside0 (gimbalref10_Close.l2 kq t263 x6_2 x7_1 x9_3 x10_3 = some (r1, r2)) ∧ Aside0 (kq ≤ k2) ∧ Aside0 (Kd.R (Kd.int .i64) 2 w' w.heap.size (fun k_ => some k_ ≠ (v271 : Value).ownBlock) (.slice Ao20 x6_2.length co20) x6_2) ∧ Aside0 (Kd.R (Kd.int .i64) 2 w' w.heap.size (fun k_ => some k_ ≠ ((.slice Ao20 x6_2.length co20) : Value).ownBlock) v271 x9_3) ∧ Aside0 (Below w.heap.size w w'))
         case atStart => exact ⟨(t270), (0), (by first | rfl | (simp; done) | (simp [*]; done)), H', ⟨Nat.le_refl _⟩, ⟨by (with_reducible repeat (first | apply Kd.R_alloc | apply Kd.R_drewN | apply Kd.R_drew)); exact Kd.R_mono HO_6.out (fun _ hk => hk.2)⟩, ⟨by (with_reducible repeat (first | apply Kd.R_alloc | apply Kd.R_drewN | apply Kd.R_drew)); exact Kd.R_mono HO272.out (fun _ hk => hk.2)⟩, bpk HB⟩
         case round =>
          clear H'
          try clear c1
          try clear p1
          try clear q1
          try clear hx1
          try clear hf1
          try clear c2
          try clear p2
          try clear q2
          try clear hx2
          try clear c3
          try clear c6
          try clear c6b0
          try clear p6
          try clear c7
          try clear c7b0
          try clear c9
          try clear c9b0
          try clear c10
          try clear c10b0
          try clear c11
          try clear c11b0
          try clear p13
          try clear q13
          try clear p14
          try clear q14
          try clear hx14
          try clear hf14
          try clear p16
          try clear q16
          try clear hx14_0
          try clear hx268_0
          try clear p13
          try clear p14
          try clear p16
          try clear p2
          try clear p268
          try clear p6
          try clear q13
          try clear q14
          try clear q16
          try clear q268
          obtain ⟨x9_3, x10_3, rfl, HA, HK3, HO_6, HO_9, HB⟩ := hrel
          cases gk with
          | zero => exact absurd HA.out (by simp [gimbalref10_Close.l2])
          | succ k3 =>
           have H := HA.out
           clear HA
           simp only [gimbalref10_Close.l2] at H
           by_cases c22 : x10_3 < t263
           ·
            rw [if_pos c22] at H
            have c22b0 : decide (x10_3 < t263) = true := decide_eq_true c22
            clear c22
            have H' := Aside0.mk H
            clear H
            go_wp2
            go_loopg [11] k3 (fun kq v11 w' => ∃ (x9_4 : List Int) (x11_4 : Int), v11 = .int .i64 x11_4 ∧ Aside0 (gimbalref10_Close.l3 kq t263 x6_2 x7_1 x9_4 x10_3 x11_4 = some (r1, r2)) ∧ Aside0 (kq ≤ k3) ∧ Aside0 (Kd.R (Kd.int .i64) 2 w' w.heap.size (fun k_ => some k_ ≠ (v271 : Value).ownBlock) (.slice Ao20 x6_2.length co20) x6_2) ∧ Aside0 (Kd.R (Kd.int .i64) 2 w' w.heap.size (fun k_ => some k_ ≠ ((.slice Ao20 x6_2.length co20) : Value).ownBlock) v271 x9_4) ∧ Aside0 (Below w.heap.size w w'))
            case atStart => exact ⟨(x9_3), (0), (by first | rfl | (simp; done) | (simp [*]; done)), H', ⟨Nat.le_refl _⟩, ⟨by (with_reducible repeat (first | apply Kd.R_alloc | apply Kd.R_drewN | apply Kd.R_drew)); exact HO_6.out⟩, ⟨by (with_reducible repeat (first | apply Kd.R_alloc | apply Kd.R_drewN | apply Kd.R_drew)); exact HO_9.out⟩, bpk HB⟩
            case round =>
             clear H'
             try clear c1
             try clear p1
             try clear q1
             try clear hx1
             try clear hf1
             try clear c2
             try clear p2
             try clear q2
             try clear hx2
             try clear c3
             try clear c6
             try clear c6b0
             try clear p6
             try clear c7
             try clear c7b0
             try clear c9
             try clear c9b0
             try clear c10
             try clear c10b0
             try clear c11
             try clear c11b0
             try clear p13
             try clear q13
             try clear p14
             try clear q14
             try clear hx14
             try clear hf14
             try clear p16
             try clear q16
             try clear c22
             try clear c22b0
             try clear hx14_0
             try clear hx268_0
             try clear p1
             try clear p13
             try clear p14
             try clear p16
             try clear p2
             try clear p268
             try clear p6
             try clear q1
             try clear q13
             try clear q14
             try clear q16
             try clear q2
             try clear q268
             obtain ⟨x9_4, x11_4, rfl, HA, HK4, HO_6, HO_9, HB⟩ := hrel
             cases gk with
             | zero => exact absurd HA.out (by simp [gimbalref10_Close.l3])
             | succ k4 =>
              have H := HA.out
              clear HA
              simp only [gimbalref10_Close.l3] at H
              by_cases c23 : x11_4 < t263
              ·
               rw [if_pos c23] at H
               have c23b0 : decide (x11_4 < t263) = true := decide_eq_true c23
               clear c23
               have H' := Aside0.mk H
               clear H
               go_wp2
               go_loopg [12] k4 (fun kq v12 w' => ∃ (x9_5 : List Int) (x12_5 : Int), v12 = .int .i64 x12_5 ∧ Aside0 (gimbalref10_Close.l4 kq t263 x6_2 x7_1 x9_5 x10_3 x11_4 x12_5 = some (r1, r2)) ∧ Aside0 (kq ≤ k4) ∧ Aside0 (Kd.R (Kd.int .i64) 2 w' w.heap.size (fun k_ => some k_ ≠ (v271 : Value).ownBlock) (.slice Ao20 x6_2.length co20) x6_2) ∧ Aside0 (Kd.R (Kd.int .i64) 2 w' w.heap.size (fun k_ => some k_ ≠ ((.slice Ao20 x6_2.length co20) : Value).ownBlock) v271 x9_5) ∧ Aside0 (Below w.heap.size w w'))
               case atStart => exact ⟨(x9_4), (0), (by first | rfl | (simp; done) | (simp [*]; done)), H', ⟨Nat.le_refl _⟩, ⟨by (with_reducible repeat (first | apply Kd.R_alloc | apply Kd.R_drewN | apply Kd.R_drew)); exact HO_6.out⟩, ⟨by (with_reducible repeat (first | apply Kd.R_alloc | apply Kd.R_drewN | apply Kd.R_drew)); exact HO_9.out⟩, bpk HB⟩
               case round =>
                clear H'
                try clear c1
                try clear p1
                try clear q1
                try clear hx1
                try clear hf1
                try clear c2
                try clear p2
                try clear q2
                try clear hx2
                try clear c3
                try clear c6
                try clear c6b0
                try clear p6
                try clear c7
                try clear c7b0
                try clear c9
                try clear c9b0
                try clear c10
                try clear c10b0
                try clear c11
                try clear c11b0
                try clear p13
                try clear q13
                try clear p14
                try clear q14
                try clear hx14
                try clear hf14
                try clear p16
                try clear q16
                try clear c22
                try clear c22b0
                try clear c23
                try clear c23b0
                try clear hx14_0
                try clear hx268_0
                try clear p1
                try clear p13
                try clear p14
                try clear p16
                try clear p2
                try clear p268
                try clear p6
                try clear q1
                try clear q13
                try clear q14
                try clear q16
                try clear q2
                try clear q268
                obtain ⟨x9_5, x12_5, rfl, HA, HK5, HO_6, HO_9, HB⟩ := hrel
                cases gk with
                | zero => exact absurd HA.out (by simp [gimbalref10_Close.l4])
                | succ k5 =>
                 have H := HA.out
                 clear HA
                 simp only [gimbalref10_Close.l4] at H
                 by_cases c24 : x12_5 < t263
                 ·
                  rw [if_pos c24] at H
                  have c24b0 : decide (x12_5 < t263) = true := decide_eq_true c24
                  clear c24
                  obtain ⟨ji25, hji25⟩ : ∃ j_ : Int, (wrap64 ((wrap64 (x10_3 * t263)) + x12_5)) = j_ := ⟨_, rfl⟩
                  replace H : (if 0 ≤ (ji25) then (if (ji25) < (x6_2.length : Int) then (if 0 ≤ (wrap64 ((wrap64 (x12_5 * t263)) + x11_4)) then (if (wrap64 ((wrap64 (x12_5 * t263)) + x11_4)) < (x6_2.length : Int) then (if (rd x6_2 (ji25)) < 4611686018427387904 then (if (rd x6_2 (wrap64 ((wrap64 (x12_5 * t263)) + x11_4))) < 4611686018427387904 then (if 0 ≤ (wrap64 ((wrap64 (x10_3 * t263)) + x11_4)) then (if (wrap64 ((wrap64 (x10_3 * t263)) + x11_4)) < (x9_5.length : Int) then (if (wrap64 ((rd x6_2 (ji25)) + (rd x6_2 (wrap64 ((wrap64 (x12_5 * t263)) + x11_4))))) < (rd x9_5 (wrap64 ((wrap64 (x10_3 * t263)) + x11_4))) then (gimbalref10_Close.l4 k5 t263 x6_2 x7_1 (x9_5.set ((wrap64 ((wrap64 (x10_3 * t263)) + x11_4)) : Int).toNat (wrap64 ((rd x6_2 (ji25)) + (rd x6_2 (wrap64 ((wrap64 (x12_5 * t263)) + x11_4)))))) x10_3 x11_4 (wrap64 (x12_5 + 1))) else (gimbalref10_Close.l4 k5 t263 x6_2 x7_1 x9_5 x10_3 x11_4 (wrap64 (x12_5 + 1)))) else (none)) else (none)) else (gimbalref10_Close.l4 k5 t263 x6_2 x7_1 x9_5 x10_3 x11_4 (wrap64 (x12_5 + 1)))) else (gimbalref10_Close.l4 k5 t263 x6_2 x7_1 x9_5 x10_3 x11_4 (wrap64 (x12_5 + 1)))) else (none)) else (none)) else (none)) else (none)) = some (r1, r2) := by first | (rw [hji25] at H; exact H) | (simp only [hji25] at H ⊢; exact H)
                  have hji25w : (IntKind.i64.wrap ((wrap64 (x10_3 * t263)) + x12_5)) = ji25 := (i64_w _).trans hji25
                  by_cases c26 : 0 ≤ (ji25)
                  ·
                   rw [if_pos c26] at H
                   have c26b0 : decide (0 ≤ (ji25)) = true := decide_eq_true c26
                   clear c26
                   by_cases c27 : (ji25) < (x6_2.length : Int)
                   ·
                    rw [if_pos c27] at H
                    have c27b0 : decide ((ji25) < (x6_2.length : Int)) = true := decide_eq_true c27
                    clear c27
                    obtain ⟨ji28, hji28⟩ : ∃ j_ : Int, (wrap64 ((wrap64 (x12_5 * t263)) + x11_4)) = j_ := ⟨_, rfl⟩
                    replace H : (if 0 ≤ (ji28) then (if (ji28) < (x6_2.length : Int) then (if (rd x6_2 (ji25)) < 4611686018427387904 then (if (rd x6_2 (ji28)) < 4611686018427387904 then (if 0 ≤ (wrap64 ((wrap64 (x10_3 * t263)) + x11_4)) then (if (wrap64 ((wrap64 (x10_3 * t263)) + x11_4)) < (x9_5.length : Int) then (if (wrap64 ((rd x6_2 (ji25)) + (rd x6_2 (ji28)))) < (rd x9_5 (wrap64 ((wrap64 (x10_3 * t263)) + x11_4))) then (gimbalref10_Close.l4 k5 t263 x6_2 x7_1 (x9_5.set ((wrap64 ((wrap64 (x10_3 * t263)) + x11_4)) : Int).toNat (wrap64 ((rd x6_2 (ji25)) + (rd x6_2 (ji28))))) x10_3 x11_4 (wrap64 (x12_5 + 1))) else (gimbalref10_Close.l4 k5 t263 x6_2 x7_1 x9_5 x10_3 x11_4 (wrap64 (x12_5 + 1)))) else (none)) else (none)) else (gimbalref10_Close.l4 k5 t263 x6_2 x7_1 x9_5 x10_3 x11_4 (wrap64 (x12_5 + 1)))) else (gimbalref10_Close.l4 k5 t263 x6_2 x7_1 x9_5 x10_3 x11_4 (wrap64 (x12_5 + 1)))) else (none)) else (none)) = some (r1, r2) := by first | (rw [hji28] at H; exact H) | (simp only [hji28] at H ⊢; exact H)
                    have hji28w : (IntKind.i64.wrap ((wrap64 (x12_5 * t263)) + x11_4)) = ji28 := (i64_w _).trans hji28
                    by_cases c29 : 0 ≤ (ji28)
                    ·
                     rw [if_pos c29] at H
                     have c29b0 : decide (0 ≤ (ji28)) = true := decide_eq_true c29
                     clear c29
                     by_cases c30 : (ji28) < (x6_2.length : Int)
                     ·
                      rw [if_pos c30] at H
                      have c30b0 : decide ((ji28) < (x6_2.length : Int)) = true := decide_eq_true c30
                      clear c30
                      by_cases c31 : (rd x6_2 (ji25)) < 4611686018427387904
                      ·
                       rw [if_pos c31] at H
                       have c31b0 : decide ((rd x6_2 (ji25)) < 4611686018427387904) = true := decide_eq_true c31
                       clear c31
                       by_cases c32 : (rd x6_2 (ji28)) < 4611686018427387904
                       ·
                        rw [if_pos c32] at H
                        have c32b0 : decide ((rd x6_2 (ji28)) < 4611686018427387904) = true := decide_eq_true c32
                        clear c32
                        obtain ⟨ji33, hji33⟩ : ∃ j_ : Int, (wrap64 ((wrap64 (x10_3 * t263)) + x11_4)) = j_ := ⟨_, rfl⟩
                        replace H : (if 0 ≤ (ji33) then (if (ji33) < (x9_5.length : Int) then (if (wrap64 ((rd x6_2 (ji25)) + (rd x6_2 (ji28)))) < (rd x9_5 (ji33)) then (gimbalref10_Close.l4 k5 t263 x6_2 x7_1 (x9_5.set ((ji33) : Int).toNat (wrap64 ((rd x6_2 (ji25)) + (rd x6_2 (ji28))))) x10_3 x11_4 (wrap64 (x12_5 + 1))) else (gimbalref10_Close.l4 k5 t263 x6_2 x7_1 x9_5 x10_3 x11_4 (wrap64 (x12_5 + 1)))) else (none)) else (none)) = some (r1, r2) := by first | (rw [hji33] at H; exact H) | (simp only [hji33] at H ⊢; exact H)
                        have hji33w : (IntKind.i64.wrap ((wrap64 (x10_3 * t263)) + x11_4)) = ji33 := (i64_w _).trans hji33
                        by_cases c34 : 0 ≤ (ji33)
                        ·
                         rw [if_pos c34] at H
                         have c34b0 : decide (0 ≤ (ji33)) = true := decide_eq_true c34
                         clear c34
                         by_cases c35 : (ji33) < (x9_5.length : Int)
                         ·
                          rw [if_pos c35] at H
                          have c35b0 : decide ((ji33) < (x9_5.length : Int)) = true := decide_eq_true c35
                          clear c35
                          by_cases c36 : (wrap64 ((rd x6_2 (ji25)) + (rd x6_2 (ji28)))) < (rd x9_5 (ji33))
                          ·
                           rw [if_pos c36] at H
                           have c36b0 : decide ((wrap64 ((rd x6_2 (ji25)) + (rd x6_2 (ji28)))) < (rd x9_5 (ji33))) = true := decide_eq_true c36
                           clear c36
                           obtain ⟨y276, hy276⟩ : ∃ y_ : List Int, y_ = (x9_5.set ((ji33) : Int).toNat (wrap64 ((rd x6_2 (ji25)) + (rd x6_2 (ji28))))) := ⟨_, rfl⟩
                           replace H : (gimbalref10_Close.l4 k5 t263 x6_2 x7_1 y276 x10_3 x11_4 (wrap64 (x12_5 + 1))) = some (r1, r2) := by first | (rw [hy276]; with_reducible exact H) | (have H2_ := (Option.bind_some _ _).symm.trans H; rw [hy276]; with_reducible exact H2_) | (have H2_ := (Option.bind_some _ _).symm.trans H; with_reducible exact H2_) | with_reducible exact H | (rw [hy276]; exact H) | exact H
                           have Ny276 := Aside0.mk hy276
                           clear hy276
                           have H' := Aside0.mk H
                           clear H
                           have p38 : 0 ≤ ((ji25) : Int) := of_decide_eq_true (by first | (with_reducible assumption) | assumption)
                           have q38 : ((ji25) : Int) < ((x6_2.length : Int) : Int) := of_decide_eq_true (by first | (with_reducible assumption) | assumption)
                           obtain ⟨go38, co38, eo38, gb38, gl38, cl38, HG38⟩ := Kd.R_form HO_6.out (by omega)
                           (first | cases eo38 | (injection eo38 with ea_ en_ ec_; (first | subst ea_ | (injection ea_ with ea_; subst ea_)); subst ec_; clear en_))
                           have GB38 := Aside0.mk gb38
                           have GG38 := Aside0.mk HG38
                           clear gb38 gl38 HG38
                           clear p38 q38
                           have p273 : 0 ≤ ((ji25) : Int) := of_decide_eq_true (by first | (with_reducible assumption) | assumption)
                           have q273 : (ji25) < (x6_2.length : Int) := of_decide_eq_true (by first | (with_reducible assumption) | assumption)
                           obtain ⟨ad273, e273, hx273_0⟩ := Kd.at_int (Kd.R_reads' HO_6.out).2.2 (ji25) p273 q273
                           obtain rfl : (⟨go38, 0, none⟩ : Addr) = ad273 := (by injection e273)
                           (first | simp only [add_plain] at hx273_0 | simp only [add_at] at hx273_0 | simp only [Addr.add, Nat.zero_add] at hx273_0 | skip)
                           replace p273 := eq_true p273
                           replace q273 := eq_true q273
                           have p274 : 0 ≤ ((ji28) : Int) := of_decide_eq_true (by first | (with_reducible assumption) | assumption)
                           have q274 : (ji28) < (x6_2.length : Int) := of_decide_eq_true (by first | (with_reducible assumption) | assumption)
                           obtain ⟨ad274, e274, hx274_0⟩ := Kd.at_int (Kd.R_reads' HO_6.out).2.2 (ji28) p274 q274
                           obtain rfl : (⟨go38, 0, none⟩ : Addr) = ad274 := (by injection e274)
                           (first | simp only [add_plain] at hx274_0 | simp only [add_at] at hx274_0 | simp only [Addr.add, Nat.zero_add] at hx274_0 | skip)
                           replace p274 := eq_true p274
                           replace q274 := eq_true q274
                           obtain ⟨Ao39, co39, eo39⟩ := Kd.R_slice HO_9.out
                           subst eo39
                           have p40 : 0 ≤ ((ji33) : Int) := of_decide_eq_true (by first | (with_reducible assumption) | assumption)
                           have q40 : ((ji33) : Int) < ((x9_5.length : Int) : Int) := of_decide_eq_true (by first | (with_reducible assumption) | assumption)
                           obtain ⟨go40, co40, eo40, gb40, gl40, cl40, HG40⟩ := Kd.R_form HO_9.out (by omega)
                           (first | cases eo40 | (injection eo40 with ea_ en_ ec_; (first | subst ea_ | (injection ea_ with ea_; subst ea_)); subst ec_; clear en_))
                           have GB40 := Aside0.mk gb40
                           have GG40 := Aside0.mk HG40
                           clear gb40 gl40 HG40
                           clear p40 q40
                           have p275 : 0 ≤ ((ji33) : Int) := of_decide_eq_true (by first | (with_reducible assumption) | assumption)
                           have q275 : (ji33) < (x9_5.length : Int) := of_decide_eq_true (by first | (with_reducible assumption) | assumption)
                           obtain ⟨ad275, e275, hx275_0⟩ := Kd.at_int (Kd.R_reads' HO_9.out).2.2 (ji33) p275 q275
                           obtain rfl : (⟨go40, 0, none⟩ : Addr) = ad275 := (by injection e275)
                           (first | simp only [add_plain] at hx275_0 | simp only [add_at] at hx275_0 | simp only [Addr.add, Nat.zero_add] at hx275_0 | skip)
                           replace p275 := eq_true p275
                           replace q275 := eq_true q275
                           have p37 : 0 ≤ ((ji33) : Int) := of_decide_eq_true (by first | (with_reducible assumption) | assumption)
                           have q37 : ((ji33) : Int) < ((x9_5.length : Int) : Int) := of_decide_eq_true (by first | (with_reducible assumption) | assumption)
                           obtain ⟨hx37_0, hf37_0⟩ := Kd.R_celln 0 HO_9.out ((ji33) : Int) p37 q37
                           replace p37 := eq_true p37
                           replace q37 := eq_true q37
                           have HP41 := Kd.R_putg HO_9.out ((ji33) : Int) (wrap64 ((rd x6_2 (ji25)) + (rd x6_2 (ji28))))
                           go_wp2_with (first | ((with_reducible refine gate_store (t := 2) (p := 114) rfl ?_); refine store_event (t := 2) (p := 114) (v := ?vo_w42) (w1 := (wr.setCell ⟨go40, ((ji33) : Int).toNat, none⟩ (.int .i64 (wrap64 ((rd x6_2 (ji25)) + (rd x6_2 (ji28))))))) ?hg ?ho ?hn ?hr ?_; (case ho => rfl); (case hg => rfl); (case hn => rfl); (case hr => first | (go_simp; done) | (go_simp; rfl)); intro w42 hw; have hg : wr.grownBy w42 (some go40) := (by rw [hw]; exact HP41.2); have hp_ : Kd.R (Kd.int .i64) 2 w42 w.heap.size (fun k_ => some k_ ≠ (.slice (some ⟨go38, 0, none⟩) x6_2.length co20 : Value).ownBlock) (.slice (some ⟨go40, 0, none⟩) x9_5.length co39) y276 := (by rw [hw, Ny276.out]; exact HP41.1); clear HP41; have n0_ := Aside0.mk (Kd.R_after (v := (.slice (some ⟨go40, 0, none⟩) x9_5.length co39)) (v1 := (.slice (some ⟨go40, 0, none⟩) x9_5.length co39)) (ok := (fun _ => True)) (by (with_reducible repeat (first | apply Kd.R_alloc | apply Kd.R_drewN | apply Kd.R_drew)); exact Kd.R_mono HO_6.out (fun _ hk => ⟨trivial, hk⟩)) hg (.inl rfl)); have n1_ := Aside0.mk (hp_); have n2_ := Aside0.mk ((by rw [hw]; exact below_set (HB.out) GB40.out : Below w.heap.size w w42)); clear HO_6; clear HO_9; clear HB; have HO_6 := n0_; have HO_9 := n1_; have HB := n2_; clear n0_ n1_ n2_; clear hg hw hp_))
                           go_roundg k5
                           case measure => have := HK1.out; have := HK2.out; have := HK3.out; have := HK4.out; have := HK5.out; omega
                           case rel => exact ⟨(y276), (wrap64 (x12_5 + 1)), (by first | rfl | (simp; done) | (simp [*]; done)), H', ⟨by have := HK1.out; have := HK2.out; have := HK3.out; have := HK4.out; have := HK5.out; omega⟩, ⟨by (with_reducible repeat (first | apply Kd.R_alloc | apply Kd.R_drewN | apply Kd.R_drew)); exact Kd.R_mono HO_6.out (fun _ hk => hk.2)⟩, ⟨by (with_reducible repeat (first | apply Kd.R_alloc | apply Kd.R_drewN | apply Kd.R_drew)); exact HO_9.out⟩, bpk HB⟩
                          ·
                           rw [if_neg c36] at H
                           have c36b0 : decide ((wrap64 ((rd x6_2 (ji25)) + (rd x6_2 (ji28)))) < (rd x9_5 (ji33))) = false := decide_eq_false c36
                           clear c36
                           have H' := Aside0.mk H
                           clear H
                           have p43 : 0 ≤ ((ji25) : Int) := of_decide_eq_true (by first | (with_reducible assumption) | assumption)
                           have q43 : ((ji25) : Int) < ((x6_2.length : Int) : Int) := of_decide_eq_true (by first | (with_reducible assumption) | assumption)
                           obtain ⟨go43, co43, eo43, gb43, gl43, cl43, HG43⟩ := Kd.R_form HO_6.out (by omega)
                           (first | cases eo43 | (injection eo43 with ea_ en_ ec_; (first | subst ea_ | (injection ea_ with ea_; subst ea_)); subst ec_; clear en_))
                           have GB43 := Aside0.mk gb43
                           have GG43 := Aside0.mk HG43
                           clear gb43 gl43 HG43
                           clear p43 q43
                           have p273 : 0 ≤ ((ji25) : Int) := of_decide_eq_true (by first | (with_reducible assumption) | assumption)
                           have q273 : (ji25) < (x6_2.length : Int) := of_decide_eq_true (by first | (with_reducible assumption) | assumption)
                           obtain ⟨ad273, e273, hx273_0⟩ := Kd.at_int (Kd.R_reads' HO_6.out).2.2 (ji25) p273 q273
                           obtain rfl : (⟨go43, 0, none⟩ : Addr) = ad273 := (by injection e273)
                           (first | simp only [add_plain] at hx273_0 | simp only [add_at] at hx273_0 | simp only [Addr.add, Nat.zero_add] at hx273_0 | skip)
                           replace p273 := eq_true p273
                           replace q273 := eq_true q273
                           have p274 : 0 ≤ ((ji28) : Int) := of_decide_eq_true (by first | (with_reducible assumption) | assumption)
                           have q274 : (ji28) < (x6_2.length : Int) := of_decide_eq_true (by first | (with_reducible assumption) | assumption)
                           obtain ⟨ad274, e274, hx274_0⟩ := Kd.at_int (Kd.R_reads' HO_6.out).2.2 (ji28) p274 q274
                           obtain rfl : (⟨go43, 0, none⟩ : Addr) = ad274 := (by injection e274)
                           (first | simp only [add_plain] at hx274_0 | simp only [add_at] at hx274_0 | simp only [Addr.add, Nat.zero_add] at hx274_0 | skip)
                           replace p274 := eq_true p274
                           replace q274 := eq_true q274
                           obtain ⟨Ao44, co44, eo44⟩ := Kd.R_slice HO_9.out
                           subst eo44
                           have p45 : 0 ≤ ((ji33) : Int) := of_decide_eq_true (by first | (with_reducible assumption) | assumption)
                           have q45 : ((ji33) : Int) < ((x9_5.length : Int) : Int) := of_decide_eq_true (by first | (with_reducible assumption) | assumption)
                           obtain ⟨go45, co45, eo45, gb45, gl45, cl45, HG45⟩ := Kd.R_form HO_9.out (by omega)
                           (first | cases eo45 | (injection eo45 with ea_ en_ ec_; (first | subst ea_ | (injection ea_ with ea_; subst ea_)); subst ec_; clear en_))
                           have GB45 := Aside0.mk gb45
                           have GG45 := Aside0.mk HG45
                           clear gb45 gl45 HG45
                           clear p45 q45
                           have p275 : 0 ≤ ((ji33) : Int) := of_decide_eq_true (by first | (with_reducible assumption) | assumption)
                           have q275 : (ji33) < (x9_5.length : Int) := of_decide_eq_true (by first | (with_reducible assumption) | assumption)
                           obtain ⟨ad275, e275, hx275_0⟩ := Kd.at_int (Kd.R_reads' HO_9.out).2.2 (ji33) p275 q275
                           obtain rfl : (⟨go45, 0, none⟩ : Addr) = ad275 := (by injection e275)
                           (first | simp only [add_plain] at hx275_0 | simp only [add_at] at hx275_0 | simp only [Addr.add, Nat.zero_add] at hx275_0 | skip)
                           replace p275 := eq_true p275
                           replace q275 := eq_true q275
                           go_wp2
                           go_roundg k5
                           case measure => have := HK1.out; have := HK2.out; have := HK3.out; have := HK4.out; have := HK5.out; omega
                           case rel => exact ⟨(x9_5), (wrap64 (x12_5 + 1)), (by first | rfl | (simp; done) | (simp [*]; done)), H', ⟨by have := HK1.out; have := HK2.out; have := HK3.out; have := HK4.out; have := HK5.out; omega⟩, ⟨by (with_reducible repeat (first | apply Kd.R_alloc | apply Kd.R_drewN | apply Kd.R_drew)); exact HO_6.out⟩, ⟨by (with_reducible repeat (first | apply Kd.R_alloc | apply Kd.R_drewN | apply Kd.R_drew)); exact HO_9.out⟩, bpk HB⟩
                         ·
                          rw [if_neg c35] at H
                          exact absurd H (by simp)
                        ·
                         rw [if_neg c34] at H
                         exact absurd H (by simp)
                       ·
                        rw [if_neg c32] at H
                        have c32b0 : decide ((rd x6_2 (ji28)) < 4611686018427387904) = false := decide_eq_false c32
                        clear c32
                        have H' := Aside0.mk H
                        clear H
                        have p46 : 0 ≤ ((ji25) : Int) := of_decide_eq_true (by first | (with_reducible assumption) | assumption)
                        have q46 : ((ji25) : Int) < ((x6_2.length : Int) : Int) := of_decide_eq_true (by first | (with_reducible assumption) | assumption)
                        obtain ⟨go46, co46, eo46, gb46, gl46, cl46, HG46⟩ := Kd.R_form HO_6.out (by omega)
                        (first | cases eo46 | (injection eo46 with ea_ en_ ec_; (first | subst ea_ | (injection ea_ with ea_; subst ea_)); subst ec_; clear en_))
                        have GB46 := Aside0.mk gb46
                        have GG46 := Aside0.mk HG46
                        clear gb46 gl46 HG46
                        clear p46 q46
                        have p273 : 0 ≤ ((ji25) : Int) := of_decide_eq_true (by first | (with_reducible assumption) | assumption)
                        have q273 : (ji25) < (x6_2.length : Int) := of_decide_eq_true (by first | (with_reducible assumption) | assumption)
                        obtain ⟨ad273, e273, hx273_0⟩ := Kd.at_int (Kd.R_reads' HO_6.out).2.2 (ji25) p273 q273
                        obtain rfl : (⟨go46, 0, none⟩ : Addr) = ad273 := (by injection e273)
                        (first | simp only [add_plain] at hx273_0 | simp only [add_at] at hx273_0 | simp only [Addr.add, Nat.zero_add] at hx273_0 | skip)
                        replace p273 := eq_true p273
                        replace q273 := eq_true q273
                        have p274 : 0 ≤ ((ji28) : Int) := of_decide_eq_true (by first | (with_reducible assumption) | assumption)
                        have q274 : (ji28) < (x6_2.length : Int) := of_decide_eq_true (by first | (with_reducible assumption) | assumption)
                        obtain ⟨ad274, e274, hx274_0⟩ := Kd.at_int (Kd.R_reads' HO_6.out).2.2 (ji28) p274 q274
                        obtain rfl : (⟨go46, 0, none⟩ : Addr) = ad274 := (by injection e274)
                        (first | simp only [add_plain] at hx274_0 | simp only [add_at] at hx274_0 | simp only [Addr.add, Nat.zero_add] at hx274_0 | skip)
                        replace p274 := eq_true p274
                        replace q274 := eq_true q274
                        go_wp2
                        go_roundg k5
                        case measure => have := HK1.out; have := HK2.out; have := HK3.out; have := HK4.out; have := HK5.out; omega
                        case rel => exact ⟨(x9_5), (wrap64 (x12_5 + 1)), (by first | rfl | (simp; done) | (simp [*]; done)), H', ⟨by have := HK1.out; have := HK2.out; have := HK3.out; have := HK4.out; have := HK5.out; omega⟩, ⟨by (with_reducible repeat (first | apply Kd.R_alloc | apply Kd.R_drewN | apply Kd.R_drew)); exact HO_6.out⟩, ⟨by (with_reducible repeat (first | apply Kd.R_alloc | apply Kd.R_drewN | apply Kd.R_drew)); exact HO_9.out⟩, bpk HB⟩
                      ·
                       rw [if_neg c31] at H
                       have c31b0 : decide ((rd x6_2 (ji25)) < 4611686018427387904) = false := decide_eq_false c31
                       clear c31
                       have H' := Aside0.mk H
                       clear H
                       have p47 : 0 ≤ ((ji25) : Int) := of_decide_eq_true (by first | (with_reducible assumption) | assumption)
                       have q47 : ((ji25) : Int) < ((x6_2.length : Int) : Int) := of_decide_eq_true (by first | (with_reducible assumption) | assumption)
                       obtain ⟨go47, co47, eo47, gb47, gl47, cl47, HG47⟩ := Kd.R_form HO_6.out (by omega)
                       (first | cases eo47 | (injection eo47 with ea_ en_ ec_; (first | subst ea_ | (injection ea_ with ea_; subst ea_)); subst ec_; clear en_))
                       have GB47 := Aside0.mk gb47
                       have GG47 := Aside0.mk HG47
                       clear gb47 gl47 HG47
                       clear p47 q47
                       have p273 : 0 ≤ ((ji25) : Int) := of_decide_eq_true (by first | (with_reducible assumption) | assumption)
                       have q273 : (ji25) < (x6_2.length : Int) := of_decide_eq_true (by first | (with_reducible assumption) | assumption)
                       obtain ⟨ad273, e273, hx273_0⟩ := Kd.at_int (Kd.R_reads' HO_6.out).2.2 (ji25) p273 q273
                       obtain rfl : (⟨go47, 0, none⟩ : Addr) = ad273 := (by injection e273)
                       (first | simp only [add_plain] at hx273_0 | simp only [add_at] at hx273_0 | simp only [Addr.add, Nat.zero_add] at hx273_0 | skip)
                       replace p273 := eq_true p273
                       replace q273 := eq_true q273
                       have p274 : 0 ≤ ((ji28) : Int) := of_decide_eq_true (by first | (with_reducible assumption) | assumption)
                       have q274 : (ji28) < (x6_2.length : Int) := of_decide_eq_true (by first | (with_reducible assumption) | assumption)
                       obtain ⟨ad274, e274, hx274_0⟩ := Kd.at_int (Kd.R_reads' HO_6.out).2.2 (ji28) p274 q274
                       obtain rfl : (⟨go47, 0, none⟩ : Addr) = ad274 := (by injection e274)
                       (first | simp only [add_plain] at hx274_0 | simp only [add_at] at hx274_0 | simp only [Addr.add, Nat.zero_add] at hx274_0 | skip)
                       replace p274 := eq_true p274
                       replace q274 := eq_true q274
                       go_wp2
                       go_roundg k5
                       case measure => have := HK1.out; have := HK2.out; have := HK3.out; have := HK4.out; have := HK5.out; omega
                       case rel => exact ⟨(x9_5), (wrap64 (x12_5 + 1)), (by first | rfl | (simp; done) | (simp [*]; done)), H', ⟨by have := HK1.out; have := HK2.out; have := HK3.out; have := HK4.out; have := HK5.out; omega⟩, ⟨by (with_reducible repeat (first | apply Kd.R_alloc | apply Kd.R_drewN | apply Kd.R_drew)); exact HO_6.out⟩, ⟨by (with_reducible repeat (first | apply Kd.R_alloc | apply Kd.R_drewN | apply Kd.R_drew)); exact HO_9.out⟩, bpk HB⟩
                     ·
                      rw [if_neg c30] at H
                      exact absurd H (by simp)
                    ·
                     rw [if_neg c29] at H
                     exact absurd H (by simp)
                   ·
                    rw [if_neg c27] at H
                    exact absurd H (by simp)
                  ·
                   rw [if_neg c26] at H
                   exact absurd H (by simp)
                 ·
                  rw [if_neg c24] at H
                  have c24b0 : decide (x12_5 < t263) = false := decide_eq_false c24
                  clear c24
                  have H' := Aside0.mk H
                  clear H
                  go_wp2
                  go_roundg k5
                  case measure => have := HK1.out; have := HK2.out; have := HK3.out; have := HK4.out; have := HK5.out; omega
                  case rel => exact ⟨(x9_5), (wrap64 (x11_4 + 1)), (by first | rfl | (simp; done) | (simp [*]; done)), H', ⟨by have := HK1.out; have := HK2.out; have := HK3.out; have := HK4.out; have := HK5.out; omega⟩, ⟨by (with_reducible repeat (first | apply Kd.R_alloc | apply Kd.R_drewN | apply Kd.R_drew)); exact HO_6.out⟩, ⟨by (with_reducible repeat (first | apply Kd.R_alloc | apply Kd.R_drewN | apply Kd.R_drew)); exact HO_9.out⟩, bpk HB⟩
              ·
               rw [if_neg c23] at H
               have c23b0 : decide (x11_4 < t263) = false := decide_eq_false c23
               clear c23
               have H' := Aside0.mk H
               clear H
               go_wp2
               go_roundg k4
               case measure => have := HK1.out; have := HK2.out; have := HK3.out; have := HK4.out; omega
               case rel => exact ⟨(x9_4), (wrap64 (x10_3 + 1)), (by first | rfl | (simp; done) | (simp [*]; done)), H', ⟨by have := HK1.out; have := HK2.out; have := HK3.out; have := HK4.out; omega⟩, ⟨by (with_reducible repeat (first | apply Kd.R_alloc | apply Kd.R_drewN | apply Kd.R_drew)); exact HO_6.out⟩, ⟨by (with_reducible repeat (first | apply Kd.R_alloc | apply Kd.R_drewN | apply Kd.R_drew)); exact HO_9.out⟩, bpk HB⟩
           ·
            rw [if_neg c22] at H
            have c22b0 : decide (x10_3 < t263) = false := decide_eq_false c22
            clear c22
            have H' := Aside0.mk H
            clear H
            go_wp2
            go_roundg k3
            case measure => have := HK1.out; have := HK2.out; have := HK3.out; omega
            case rel => exact ⟨(x9_3), (wrap64 (2 * x7_1)), (by first | rfl | (simp; done) | (simp [*]; done)), H', ⟨by have := HK1.out; have := HK2.out; have := HK3.out; omega⟩, ⟨by (with_reducible repeat (first | apply Kd.R_alloc | apply Kd.R_drewN | apply Kd.R_drew)); exact Kd.R_mono HO_9.out (fun _ hk => trivial)⟩, bpk HB⟩
     ·
      rw [if_neg c6] at H
      have c6b0 : decide (x7_1 ≤ (wrap64 (2 * t263))) = false := decide_eq_false c6
      clear c6
      have H' := Aside0.mk H
      clear H
      go_wp2
      go_loopg [15] k1 (fun kq v15 w' => ∃ (x15_2 : Int), v15 = .int .i64 x15_2 ∧ Aside0 (gimbalref10_Close.l5 kq t263 x6_1 x15_2 = some (r1, r2)) ∧ Aside0 (kq ≤ k1) ∧ Aside0 (Kd.R (Kd.int .i64) 2 w' w.heap.size (fun _ => True) u6 x6_1) ∧ Aside0 (Below w.heap.size w w'))
      case atStart => exact ⟨(0), (by first | rfl | (simp; done) | (simp [*]; done)), H', ⟨Nat.le_refl _⟩, ⟨by (with_reducible repeat (first | apply Kd.R_alloc | apply Kd.R_drewN | apply Kd.R_drew)); exact HO_6.out⟩, bpk HB⟩
      case round =>
       clear H'
       try clear c1
       try clear p1
       try clear q1
       try clear hx1
       try clear hf1
       try clear c2
       try clear p2
       try clear q2
       try clear hx2
       try clear c3
       try clear p3
       try clear q3
       try clear hx3
       try clear hf3
       try clear p4
       try clear q4
       try clear c6
       try clear c6b0
       try clear p6
       try clear c7
       try clear c7b0
       try clear c9
       try clear c9b0
       try clear c10
       try clear c10b0
       try clear c11
       try clear c11b0
       try clear p13
       try clear q13
       try clear p14
       try clear q14
       try clear hx14
       try clear hf14
       try clear p16
       try clear q16
       try clear c22
       try clear c22b0
       try clear c23
       try clear c23b0
       try clear c24
       try clear c24b0
       try clear c26
       try clear c26b0
       try clear p26
       try clear q26
       try clear hx26
       try clear c27
       try clear c27b0
       try clear p27
       try clear q27
       try clear hx27
       try clear c29
       try clear c29b0
       try clear c30
       try clear c30b0
       try clear c31
       try clear c31b0
       try clear c32
       try clear c32b0
       try clear c34
       try clear c34b0
       try clear c35
       try clear c35b0
       try clear c36
       try clear c36b0
       try clear c37
       try clear p37
       try clear q37
       try clear hx37
       try clear hf37
       try clear p38
       try clear q38
       try clear p40
       try clear q40
       try clear p43
       try clear q43
       try clear p45
       try clear q45
       try clear p46
       try clear q46
       try clear p47
       try clear q47
       try clear hx14_0
       try clear hx268_0
       try clear hx273_0
       try clear hx274_0
       try clear hx275_0
       try clear hx37_0
       try clear p1
       try clear p13
       try clear p14
       try clear p16
       try clear p2
       try clear p268
       try clear p273
       try clear p274
       try clear p275
       try clear p37
       try clear p38
       try clear p40
       try clear p43
       try clear p45
       try clear p46
       try clear p47
       try clear p6
       try clear q1
       try clear q13
       try clear q14
       try clear q16
       try clear q2
       try clear q268
       try clear q273
       try clear q274
       try clear q275
       try clear q37
       try clear q38
       try clear q40
       try clear q43
       try clear q45
       try clear q46
       try clear q47
       obtain ⟨x15_2, rfl, HA, HK2, HO_6, HB⟩ := hrel
       cases gk with
       | zero => exact absurd HA.out (by simp [gimbalref10_Close.l5])
       | succ k2 =>
        have H := HA.out
        clear HA
        simp only [gimbalref10_Close.l5] at H
        by_cases c48 : x15_2 < t263
        ·
         rw [if_pos c48] at H
         have c48b0 : decide (x15_2 < t263) = true := decide_eq_true c48
         clear c48
         obtain ⟨ji49, hji49⟩ : ∃ j_ : Int, (wrap64 ((wrap64 (x15_2 * t263)) + x15_2)) = j_ := ⟨_, rfl⟩
         replace H : (if 0 ≤ (ji49) then (if (ji49) < (x6_1.length : Int) then (if (rd x6_1 (ji49)) < 0 then (some (([] : List Int), false)) else (gimbalref10_Close.l5 k2 t263 x6_1 (wrap64 (x15_2 + 1)))) else (none)) else (none)) = some (r1, r2) := by first | (rw [hji49] at H; exact H) | (simp only [hji49] at H ⊢; exact H)
         have hji49w : (IntKind.i64.wrap ((wrap64 (x15_2 * t263)) + x15_2)) = ji49 := (i64_w _).trans hji49
         by_cases c50 : 0 ≤ (ji49)
         ·
          rw [if_pos c50] at H
          have c50b0 : decide (0 ≤ (ji49)) = true := decide_eq_true c50
          clear c50
          by_cases c51 : (ji49) < (x6_1.length : Int)
          ·
           rw [if_pos c51] at H
           have c51b0 : decide ((ji49) < (x6_1.length : Int)) = true := decide_eq_true c51
           clear c51
           by_cases c52 : (rd x6_1 (ji49)) < 0
           ·
            rw [if_pos c52] at H
            have c52b0 : decide ((rd x6_1 (ji49)) < 0) = true := decide_eq_true c52
            clear c52
            simp only [Option.some.injEq, Prod.mk.injEq] at H
            obtain ⟨rfl, rfl⟩ := H
            obtain ⟨Ao53, co53, eo53⟩ := Kd.R_slice HO_6.out
            subst eo53
            have p54 : 0 ≤ ((ji49) : Int) := of_decide_eq_true (by first | (with_reducible assumption) | assumption)
            have q54 : ((ji49) : Int) < ((x6_1.length : Int) : Int) := of_decide_eq_true (by first | (with_reducible assumption) | assumption)
            obtain ⟨go54, co54, eo54, gb54, gl54, cl54, HG54⟩ := Kd.R_form HO_6.out (by omega)
            (first | cases eo54 | (injection eo54 with ea_ en_ ec_; (first | subst ea_ | (injection ea_ with ea_; subst ea_)); subst ec_; clear en_))
            have GB54 := Aside0.mk gb54
            have GG54 := Aside0.mk HG54
            clear gb54 gl54 HG54
            clear p54 q54
            have p277 : 0 ≤ ((ji49) : Int) := of_decide_eq_true (by first | (with_reducible assumption) | assumption)
            have q277 : (ji49) < (x6_1.length : Int) := of_decide_eq_true (by first | (with_reducible assumption) | assumption)
            obtain ⟨ad277, e277, hx277_0⟩ := Kd.at_int (Kd.R_reads' HO_6.out).2.2 (ji49) p277 q277
            obtain rfl : (⟨go54, 0, none⟩ : Addr) = ad277 := (by injection e277)
            (first | simp only [add_plain] at hx277_0 | simp only [add_at] at hx277_0 | simp only [Addr.add, Nat.zero_add] at hx277_0 | skip)
            replace p277 := eq_true p277
            replace q277 := eq_true q277
            go_wp2
            go_ret2
            exact ⟨_, by first | rfl | (simp [errW_none, errW_some] <;> rfl) | (simp only [← hji49]; first | rfl | (simp [errW_none, errW_some] <;> rfl)) | (simp [*, errW_none, errW_some] <;> rfl) | kernel_rfl, by first | exact Kd.R_nil _ _ _ _ _ | exact Kd.N_nil _ _ _ _ _ | exact Kd.V_nil _ _ _ _ _ | exact Kd.Q_nil _ _ _ _ _ | exact Kd.S_nil _ _ _ _ _, by repeat (first | (with_reducible first | exact HB.out | apply below_alloc | apply pw_below_drewN | apply below_drew1) | exact HB.out)⟩
           ·
            rw [if_neg c52] at H
            have c52b0 : decide ((rd x6_1 (ji49)) < 0) = false := decide_eq_false c52
            clear c52
            have H' := Aside0.mk H
            clear H
            obtain ⟨Ao55, co55, eo55⟩ := Kd.R_slice HO_6.out
            subst eo55
            have p56 : 0 ≤ ((ji49) : Int) := of_decide_eq_true (by first | (with_reducible assumption) | assumption)
            have q56 : ((ji49) : Int) < ((x6_1.length : Int) : Int) := of_decide_eq_true (by first | (with_reducible assumption) | assumption)
            obtain ⟨go56, co56, eo56, gb56, gl56, cl56, HG56⟩ := Kd.R_form HO_6.out (by omega)
            (first | cases eo56 | (injection eo56 with ea_ en_ ec_; (first | subst ea_ | (injection ea_ with ea_; subst ea_)); subst ec_; clear en_))
            have GB56 := Aside0.mk gb56
            have GG56 := Aside0.mk HG56
            clear gb56 gl56 HG56
            clear p56 q56
            have p277 : 0 ≤ ((ji49) : Int) := of_decide_eq_true (by first | (with_reducible assumption) | assumption)
            have q277 : (ji49) < (x6_1.length : Int) := of_decide_eq_true (by first | (with_reducible assumption) | assumption)
            obtain ⟨ad277, e277, hx277_0⟩ := Kd.at_int (Kd.R_reads' HO_6.out).2.2 (ji49) p277 q277
            obtain rfl : (⟨go56, 0, none⟩ : Addr) = ad277 := (by injection e277)
            (first | simp only [add_plain] at hx277_0 | simp only [add_at] at hx277_0 | simp only [Addr.add, Nat.zero_add] at hx277_0 | skip)
            replace p277 := eq_true p277
            replace q277 := eq_true q277
            go_wp2
            go_roundg k2
            case measure => have := HK1.out; have := HK2.out; omega
            case rel => exact ⟨(wrap64 (x15_2 + 1)), (by first | rfl | (simp; done) | (simp [*]; done)), H', ⟨by have := HK1.out; have := HK2.out; omega⟩, ⟨by (with_reducible repeat (first | apply Kd.R_alloc | apply Kd.R_drewN | apply Kd.R_drew)); exact HO_6.out⟩, bpk HB⟩
          ·
           rw [if_neg c51] at H
           exact absurd H (by simp)
         ·
          rw [if_neg c50] at H
          exact absurd H (by simp)
        ·
         rw [if_neg c48] at H
         have c48b0 : decide (x15_2 < t263) = false := decide_eq_false c48
         clear c48
         replace H := Option.bind_eq_some_iff.mp H
         obtain ⟨t278, A570, H⟩ := H
         replace H : (some (t278, true)) = some (r1, r2) := H
         have A57 := Aside0.mk A570
         clear A570
         simp only [Option.some.injEq, Prod.mk.injEq] at H
         obtain ⟨rfl, rfl⟩ := H
         obtain ⟨Ao58, co58, eo58⟩ := Kd.R_slice HO_6.out
         subst eo58
         go_wp2_with (first | ((with_reducible refine gate_callee (f := 38) rfl ?_); refine goesL_ (some 131) rfl rfl Try.func38 (by kernel_rfl) rfl #[.slice Ao58 x6_1.length co58] rfl (by (try simp only [List.map_toArray, List.map_cons, List.map_nil]); first | done | rfl | (simp only [List.length_drop, List.length_take]; rfl)) ?_; (with_reducible refine (gimbalref10_allTaken.calls k2 _ _ x6_1 t278 _ ?side1 ?side2 A57.out).mono ?_); (case side1 => repeat (first | exact (Kd.R_reads' HO_6.out).2.2 | (with_reducible refine Kd.C_alloc ?_ _) | (with_reducible refine Kd.C_drewN ?_ _) | (with_reducible refine Kd.C_drew ?_))); (case side2 => exact (Kd.R_reads' HO_6.out).2.1); rintro e w59 ⟨v279, rfl, ho0, hb⟩; refine ⟨_, rfl, ?_⟩; have n0_ := Aside0.mk (Kd.R_elder' (by (with_reducible repeat (first | apply Kd.R_alloc | apply Kd.R_drewN | apply Kd.R_drew)); exact HO_6.out) (Kd.R_base ho0) hb); have n1_ := Aside0.mk (Kd.R_lower (Kd.R_new' ho0 (Kd.R_lt (by (with_reducible repeat (first | apply Kd.R_alloc | apply Kd.R_drewN | apply Kd.R_drew)); exact HO_6.out))) (below_size (by repeat (first | (with_reducible first | exact HB.out | apply below_alloc | apply pw_below_drewN | apply below_drew1) | exact HB.out)))); have n2_ := bst HB hb; clear HO_6; clear HB; have HO_6 := n0_; have HO280 := n1_; have HB := n2_; clear n0_ n1_ n2_; (try clear hb); (try clear hb2); (try clear hk); (try clear hi); (try clear ho0)))
         go_ret2
         exact ⟨_, by first | rfl | (simp [errW_none, errW_some] <;> rfl) | (simp [*, errW_none, errW_some] <;> rfl) | kernel_rfl, by (with_reducible repeat (first | apply Kd.R_alloc | apply Kd.R_drewN | apply Kd.R_drew)); exact Kd.R_mono HO280.out (fun _ hk => trivial), by repeat (first | (with_reducible first | exact HB.out | apply below_alloc | apply pw_below_drewN | apply below_drew1) | exact HB.out)⟩
  ·
   replace c3 := Bool.eq_false_iff.mpr c3
   subst c3
   have H1 : (some (([] : List Int), false)) = some (r1, r2) := by rw [if_neg (show ¬ (false = true) by decide)] at H; exact H
   clear H
   have H := H1
   clear H1
   simp only [Option.some.injEq, Prod.mk.injEq] at H
   obtain ⟨rfl, rfl⟩ := H
   go_enter Try.func24, Try.ntmps24
   go_wp2_with (first | ((with_reducible refine gate_callee (f := 35) rfl ?_); refine goesL_ (some 18) rfl rfl Try.func35 (by kernel_rfl) rfl #[.slice A0 l0.length c0] rfl (by (try simp only [List.map_toArray, List.map_cons, List.map_nil]); first | done | rfl | (simp only [List.length_drop, List.length_take]; rfl)) ?_; (with_reducible refine (gimbalref10_Nodes.calls k _ _ l0 t263 false _ ?side1 ?side2 A2.out).mono ?_); (case side1 => repeat (first | exact HR0.out | (with_reducible refine Kd.C_alloc ?_ _) | (with_reducible refine Kd.C_drewN ?_ _) | (with_reducible refine Kd.C_drew ?_))); (case side2 => exact HC0.out); rintro e w' ⟨rfl, ⟨nd, rfl⟩⟩; refine ⟨_, rfl, ?_⟩))
   go_ret2
   exact ⟨_, by first | rfl | (simp [errW_none, errW_some] <;> rfl) | (simp [*, errW_none, errW_some] <;> rfl) | kernel_rfl, by first | exact Kd.R_nil _ _ _ _ _ | exact Kd.N_nil _ _ _ _ _ | exact Kd.V_nil _ _ _ _ _ | exact Kd.Q_nil _ _ _ _ _ | exact Kd.S_nil _ _ _ _ _, by repeat (first | (with_reducible first | exact HB.out | apply below_alloc | apply pw_below_drewN | apply below_drew1) | exact HB.out)⟩

end Go.Proofs.Ytklignhpkojmhaa.P
