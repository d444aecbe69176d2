-- PRINTED by print.py (a twelfth state) out of the translation. Not trusted: Lean checks it.
import Derived.Test.YtklignhpkojmhaaU
import Derived.Test.YtklignhpkojmhaaPx0
import Derived.Test.YtklignhpkojmhaaPx4
import Derived.Test.YtklignhpkojmhaaPx7
import Derived.Test.YtklignhpkojmhaaPx13
namespace Go.Proofs.Ytklignhpkojmhaa.P
open Go.RowKit Go.Proofs.YtklignhpkojmhaaW.PrintWords Go.Proofs.YtklignhpkojmhaaW.PrintLast Go.Proofs.YtklignhpkojmhaaW.PrintMore Go.Proofs.YtklignhpkojmhaaO
attribute [local go_sem] max2_int min2_int max_two min_two max_three min_three max_four min_four   -- for this text's walks alone
set_option linter.unusedVariables false
set_option linter.unusedSimpArgs false

/-! ### dbm_Close: function 23 -/
mutual
def dbm_Close.l0 : Nat → Int → List Int → Int → Int → Option (List Int × Bool)
  | 0, _, _, _, _ => none
  | k + 1, x4, x6, x28, x29 => if x29 < x28 then (if 0 ≤ x29 then (if x29 < (x6.length : Int) then ((dbm_taken.f (rd x6 x29)).bind fun t195 => (dbm_Close.l0 k x4 (x6.set (x29 : Int).toNat t195) x28 (wrap64 (x29 + 1)))) else (none)) else (none)) else (dbm_Close.l1 k x4 x6 x4 0)
def dbm_Close.l1 : Nat → Int → List Int → Int → Int → Option (List Int × Bool)
  | 0, _, _, _, _ => none
  | k + 1, x4, x6, x41, x42 => if x42 < x41 then (if 0 ≤ (wrap64 ((wrap64 (x42 * x4)) + x42)) then (if (wrap64 ((wrap64 (x42 * x4)) + x42)) < (x6.length : Int) then (if (rd x6 (wrap64 ((wrap64 (x42 * x4)) + x42))) < 0 then (some (([] : List Int), false)) else (dbm_Close.l1 k x4 (x6.set ((wrap64 ((wrap64 (x42 * x4)) + x42)) : Int).toNat 0) x41 (wrap64 (x42 + 1)))) else (none)) else (none)) else (dbm_Close.l2 k x4 x6 x4 0)
def dbm_Close.l2 : Nat → Int → List Int → Int → Int → Option (List Int × Bool)
  | 0, _, _, _, _ => none
  | k + 1, x4, x6, x62, x63 => if x63 < x62 then (dbm_Close.l3 k x4 x6 x63 x62 x63 x4 0) else (dbm_Close.l5 k x6 (x6.length : Int) 0)
def dbm_Close.l3 : Nat → Int → List Int → Int → Int → Int → Int → Int → Option (List Int × Bool)
  | 0, _, _, _, _, _, _, _ => none
  | k + 1, x4, x6, x9, x62, x63, x66, x67 => if x67 < x66 then (if 0 ≤ (wrap64 ((wrap64 (x67 * x4)) + x9)) then (if (wrap64 ((wrap64 (x67 * x4)) + x9)) < (x6.length : Int) then (if (rd x6 (wrap64 ((wrap64 (x67 * x4)) + x9))) = 4611686018427387904 then (dbm_Close.l3 k x4 x6 x9 x62 x63 x66 (wrap64 (x67 + 1))) else (dbm_Close.l4 k x4 x6 x9 x67 (rd x6 (wrap64 ((wrap64 (x67 * x4)) + x9))) x62 x63 x66 x67 x4 0)) else (none)) else (none)) else (dbm_Close.l2 k x4 x6 x62 (wrap64 (x63 + 1)))
def dbm_Close.l4 : Nat → Int → List Int → Int → Int → Int → Int → Int → Int → Int → Int → Int → Option (List Int × Bool)
  | 0, _, _, _, _, _, _, _, _, _, _, _ => none
  | k + 1, x4, x6, x9, x10, x11, x62, x63, x66, x67, x80, x81 => if x81 < x80 then (if 0 ≤ (wrap64 ((wrap64 (x10 * x4)) + x81)) then (if (wrap64 ((wrap64 (x10 * x4)) + x81)) < (x6.length : Int) then (if 0 ≤ (wrap64 ((wrap64 (x9 * x4)) + x81)) then (if (wrap64 ((wrap64 (x9 * x4)) + x81)) < (x6.length : Int) then ((bound_Up.f x11 (rd x6 (wrap64 ((wrap64 (x9 * x4)) + x81)))).bind fun t202 => (dbm_Close.l4 k x4 (x6.set ((wrap64 ((wrap64 (x10 * x4)) + x81)) : Int).toNat (mn (rd x6 (wrap64 ((wrap64 (x10 * x4)) + x81))) t202)) x9 x10 x11 x62 x63 x66 x67 x80 (wrap64 (x81 + 1)))) else (none)) else (none)) else (none)) else (none)) else (if 0 ≤ (wrap64 ((wrap64 (x10 * x4)) + x10)) then (if (wrap64 ((wrap64 (x10 * x4)) + x10)) < (x6.length : Int) then (if (rd x6 (wrap64 ((wrap64 (x10 * x4)) + x10))) < 0 then (some (([] : List Int), false)) else (dbm_Close.l3 k x4 x6 x9 x62 x63 x66 (wrap64 (x67 + 1)))) else (none)) else (none))
def dbm_Close.l5 : Nat → List Int → Int → Int → Option (List Int × Bool)
  | 0, _, _, _ => none
  | k + 1, x6, x123, x124 => if x124 < x123 then (if 0 ≤ x124 then (if x124 < (x6.length : Int) then ((dbm_taken.f (rd x6 x124)).bind fun t206 => (dbm_Close.l5 k (x6.set (x124 : Int).toNat t206) x123 (wrap64 (x124 + 1)))) else (none)) else (none)) else (some (x6, true))
end
def dbm_Close.f (k : Nat) (l0 : List Int) : Option (List Int × Bool) := (dbm_size.f k l0).bind fun bt188 => (if bt188.2 = true then (if 0 ≤ (l0.length : Int) then (if ((l0.length : Int) : Int).toNat ≤ 35184372088832 then ((some (List.replicate ((l0.length : Int) : Int).toNat 0 : List Int)).bind fun y190 => (dbm_Close.l0 k bt188.1 (cpy y190 l0) (y190.length : Int) 0)) else (none)) else (none)) else (some (([] : List Int), false)))
theorem dbm_Close.mono_l : ∀ k, (∀ y0 y1 y2 y3, LeO (dbm_Close.l0 k y0 y1 y2 y3) (dbm_Close.l0 (k + 1) y0 y1 y2 y3)) ∧ (∀ y0 y1 y2 y3, LeO (dbm_Close.l1 k y0 y1 y2 y3) (dbm_Close.l1 (k + 1) y0 y1 y2 y3)) ∧ (∀ y0 y1 y2 y3, LeO (dbm_Close.l2 k y0 y1 y2 y3) (dbm_Close.l2 (k + 1) y0 y1 y2 y3)) ∧ (∀ y0 y1 y2 y3 y4 y5 y6, LeO (dbm_Close.l3 k y0 y1 y2 y3 y4 y5 y6) (dbm_Close.l3 (k + 1) y0 y1 y2 y3 y4 y5 y6)) ∧ (∀ y0 y1 y2 y3 y4 y5 y6 y7 y8 y9 y10, LeO (dbm_Close.l4 k y0 y1 y2 y3 y4 y5 y6 y7 y8 y9 y10) (dbm_Close.l4 (k + 1) y0 y1 y2 y3 y4 y5 y6 y7 y8 y9 y10)) ∧ (∀ y0 y1 y2, LeO (dbm_Close.l5 k y0 y1 y2) (dbm_Close.l5 (k + 1) y0 y1 y2))
  | 0 => ⟨fun _ _ _ _ r h => by simp [dbm_Close.l0] at h, fun _ _ _ _ r h => by simp [dbm_Close.l1] at h, fun _ _ _ _ r h => by simp [dbm_Close.l2] at h, fun _ _ _ _ _ _ _ r h => by simp [dbm_Close.l3] at h, fun _ _ _ _ _ _ _ _ _ _ _ r h => by simp [dbm_Close.l4] at h, fun _ _ _ r h => by simp [dbm_Close.l5] at h⟩
  | k + 1 => by
    obtain ⟨ih0, ih1, ih2, ih3, ih4, ih5⟩ := dbm_Close.mono_l k
    refine ⟨?_, ?_, ?_, ?_, ?_, ?_⟩
    · intro y0 y1 y2 y3
      unfold dbm_Close.l0
      repeat' first
      | (with_reducible exact ih0 _ _ _ _)
      | (with_reducible exact ih1 _ _ _ _)
      | (with_reducible exact ih2 _ _ _ _)
      | (with_reducible exact ih3 _ _ _ _ _ _ _)
      | (with_reducible exact ih4 _ _ _ _ _ _ _ _ _ _ _)
      | (with_reducible exact ih5 _ _ _)
      | (with_reducible exact dbm_size.mono _ _)
      | (with_reducible exact LeO.refl _)
      | (with_reducible exact LeO.none _)
      | (with_reducible refine LeO.ite ?_ ?_)
      | (with_reducible refine LeO.bind ?_ (fun _ => ?_))
      | exact ih0 _ _ _ _
      | exact ih1 _ _ _ _
      | exact ih2 _ _ _ _
      | exact ih3 _ _ _ _ _ _ _
      | exact ih4 _ _ _ _ _ _ _ _ _ _ _
      | exact ih5 _ _ _
      | exact dbm_size.mono _ _
      | exact LeO.none _
      | refine LeO.ite ?_ ?_
      | refine LeO.bind ?_ (fun _ => ?_)
    · intro y0 y1 y2 y3
      unfold dbm_Close.l1
      repeat' first
      | (with_reducible exact ih0 _ _ _ _)
      | (with_reducible exact ih1 _ _ _ _)
      | (with_reducible exact ih2 _ _ _ _)
      | (with_reducible exact ih3 _ _ _ _ _ _ _)
      | (with_reducible exact ih4 _ _ _ _ _ _ _ _ _ _ _)
      | (with_reducible exact ih5 _ _ _)
      | (with_reducible exact dbm_size.mono _ _)
      | (with_reducible exact LeO.refl _)
      | (with_reducible exact LeO.none _)
      | (with_reducible refine LeO.ite ?_ ?_)
      | (with_reducible refine LeO.bind ?_ (fun _ => ?_))
      | exact ih0 _ _ _ _
      | exact ih1 _ _ _ _
      | exact ih2 _ _ _ _
      | exact ih3 _ _ _ _ _ _ _
      | exact ih4 _ _ _ _ _ _ _ _ _ _ _
      | exact ih5 _ _ _
      | exact dbm_size.mono _ _
      | exact LeO.none _
      | refine LeO.ite ?_ ?_
      | refine LeO.bind ?_ (fun _ => ?_)
    · intro y0 y1 y2 y3
      unfold dbm_Close.l2
      repeat' first
      | (with_reducible exact ih0 _ _ _ _)
      | (with_reducible exact ih1 _ _ _ _)
      | (with_reducible exact ih2 _ _ _ _)
      | (with_reducible exact ih3 _ _ _ _ _ _ _)
      | (with_reducible exact ih4 _ _ _ _ _ _ _ _ _ _ _)
      | (with_reducible exact ih5 _ _ _)
      | (with_reducible exact dbm_size.mono _ _)
      | (with_reducible exact LeO.refl _)
      | (with_reducible exact LeO.none _)
      | (with_reducible refine LeO.ite ?_ ?_)
      | (with_reducible refine LeO.bind ?_ (fun _ => ?_))
      | exact ih0 _ _ _ _
      | exact ih1 _ _ _ _
      | exact ih2 _ _ _ _
      | exact ih3 _ _ _ _ _ _ _
      | exact ih4 _ _ _ _ _ _ _ _ _ _ _
      | exact ih5 _ _ _
      | exact dbm_size.mono _ _
      | exact LeO.none _
      | refine LeO.ite ?_ ?_
      | refine LeO.bind ?_ (fun _ => ?_)
    · intro y0 y1 y2 y3 y4 y5 y6
      unfold dbm_Close.l3
      repeat' first
      | (with_reducible exact ih0 _ _ _ _)
      | (with_reducible exact ih1 _ _ _ _)
      | (with_reducible exact ih2 _ _ _ _)
      | (with_reducible exact ih3 _ _ _ _ _ _ _)
      | (with_reducible exact ih4 _ _ _ _ _ _ _ _ _ _ _)
      | (with_reducible exact ih5 _ _ _)
      | (with_reducible exact dbm_size.mono _ _)
      | (with_reducible exact LeO.refl _)
      | (with_reducible exact LeO.none _)
      | (with_reducible refine LeO.ite ?_ ?_)
      | (with_reducible refine LeO.bind ?_ (fun _ => ?_))
      | exact ih0 _ _ _ _
      | exact ih1 _ _ _ _
      | exact ih2 _ _ _ _
      | exact ih3 _ _ _ _ _ _ _
      | exact ih4 _ _ _ _ _ _ _ _ _ _ _
      | exact ih5 _ _ _
      | exact dbm_size.mono _ _
      | exact LeO.none _
      | refine LeO.ite ?_ ?_
      | refine LeO.bind ?_ (fun _ => ?_)
    · intro y0 y1 y2 y3 y4 y5 y6 y7 y8 y9 y10
      unfold dbm_Close.l4
      repeat' first
      | (with_reducible exact ih0 _ _ _ _)
      | (with_reducible exact ih1 _ _ _ _)
      | (with_reducible exact ih2 _ _ _ _)
      | (with_reducible exact ih3 _ _ _ _ _ _ _)
      | (with_reducible exact ih4 _ _ _ _ _ _ _ _ _ _ _)
      | (with_reducible exact ih5 _ _ _)
      | (with_reducible exact dbm_size.mono _ _)
      | (with_reducible exact LeO.refl _)
      | (with_reducible exact LeO.none _)
      | (with_reducible refine LeO.ite ?_ ?_)
      | (with_reducible refine LeO.bind ?_ (fun _ => ?_))
      | exact ih0 _ _ _ _
      | exact ih1 _ _ _ _
      | exact ih2 _ _ _ _
      | exact ih3 _ _ _ _ _ _ _
      | exact ih4 _ _ _ _ _ _ _ _ _ _ _
      | exact ih5 _ _ _
      | exact dbm_size.mono _ _
      | exact LeO.none _
      | refine LeO.ite ?_ ?_
      | refine LeO.bind ?_ (fun _ => ?_)
    · intro y0 y1 y2
      unfold dbm_Close.l5
      repeat' first
      | (with_reducible exact ih0 _ _ _ _)
      | (with_reducible exact ih1 _ _ _ _)
      | (with_reducible exact ih2 _ _ _ _)
      | (with_reducible exact ih3 _ _ _ _ _ _ _)
      | (with_reducible exact ih4 _ _ _ _ _ _ _ _ _ _ _)
      | (with_reducible exact ih5 _ _ _)
      | (with_reducible exact dbm_size.mono _ _)
      | (with_reducible exact LeO.refl _)
      | (with_reducible exact LeO.none _)
      | (with_reducible refine LeO.ite ?_ ?_)
      | (with_reducible refine LeO.bind ?_ (fun _ => ?_))
      | exact ih0 _ _ _ _
      | exact ih1 _ _ _ _
      | exact ih2 _ _ _ _
      | exact ih3 _ _ _ _ _ _ _
      | exact ih4 _ _ _ _ _ _ _ _ _ _ _
      | exact ih5 _ _ _
      | exact dbm_size.mono _ _
      | exact LeO.none _
      | refine LeO.ite ?_ ?_
      | refine LeO.bind ?_ (fun _ => ?_)
theorem dbm_Close.mono : ∀ a0 k, LeO (dbm_Close.f k a0) (dbm_Close.f (k + 1) a0) := by
  intro a0 k
  obtain ⟨ih0, ih1, ih2, ih3, ih4, ih5⟩ := dbm_Close.mono_l k
  unfold dbm_Close.f
  repeat' first
      | (with_reducible exact ih0 _ _ _ _)
      | (with_reducible exact ih1 _ _ _ _)
      | (with_reducible exact ih2 _ _ _ _)
      | (with_reducible exact ih3 _ _ _ _ _ _ _)
      | (with_reducible exact ih4 _ _ _ _ _ _ _ _ _ _ _)
      | (with_reducible exact ih5 _ _ _)
      | (with_reducible exact dbm_size.mono _ _)
      | (with_reducible exact LeO.refl _)
      | (with_reducible exact LeO.none _)
      | (with_reducible refine LeO.ite ?_ ?_)
      | (with_reducible refine LeO.bind ?_ (fun _ => ?_))
      | exact ih0 _ _ _ _
      | exact ih1 _ _ _ _
      | exact ih2 _ _ _ _
      | exact ih3 _ _ _ _ _ _ _
      | exact ih4 _ _ _ _ _ _ _ _ _ _ _
      | exact ih5 _ _ _
      | exact dbm_size.mono _ _
      | exact LeO.none _
      | refine LeO.ite ?_ ?_
      | refine LeO.bind ?_ (fun _ => ?_)
def dbm_Close.T29 : Bool × List (List Nat × List Nat) := (true, [([], []), ([], []), ([], []), ([1, 2], [1, 2]), ([], []), ([3, 4], [3, 4]), ([], []), ([], []), ([], []), ([7, 8], [7, 8]), ([], []), ([9, 10], [9, 10]), ([6, 11], [6, 11]), ([12], [12]), ([], []), ([], []), ([], []), ([], []), ([16, 17], [16, 17]), ([], []), ([18, 19], [18, 19]), ([15, 20], [15, 20]), ([21], [21]), ([14, 22], [14, 22]), ([13, 23], [13, 23]), ([0, 5, 0, 1, 2, 3, 4, 5, 6, 7, 8, 9, 10, 11, 12, 13, 14, 15, 16, 17, 18, 19, 20, 21, 22, 23, 24], [0, 5]), ([25, 24, 23, 0, 1, 2, 3, 4, 5, 6, 7, 8, 9, 10, 11, 12, 13, 14, 15, 16, 17, 18, 19, 20, 21, 22, 23, 24], [24, 25])])
def dbm_Close.B29 : List Nat := [0, 0, 0, 6, 0, 30, 0, 0, 0, 384, 0, 1920, 4032, 8128, 0, 0, 0, 0, 196608, 0, 983040, 2064384, 4161536, 8372224, 16777152, 33554431, 67108863]
theorem dbm_Close.tab29 : rtab .any (opsOf Try.f23 29) = dbm_Close.T29 := by kernel_rfl
theorem dbm_Close.bits29 : waitsOk dbm_Close.T29.2 dbm_Close.B29 = true := by kernel_rfl
set_option maxHeartbeats 8000000 in
set_option maxRecDepth 100000 in
theorem dbm_Close.calls (k : Nat) (A0 : Option Addr) (c0 : Nat) (l0 : List Int) (r1 : List Int) (r2 : Bool) (w : World) (hr0 : Kd.C (Kd.int .i64) w A0 l0.length l0) (hc0 : l0.length ≤ c0) (h : dbm_Close.f k l0 = some (r1, r2)) :
    Calls Try.prog 23 #[.slice A0 l0.length c0] w fun e w' => ∃ v0_ : Value, e = .returned (.tuple #[v0_, .bool r2]) ∧ Kd.R (Kd.int .i64) 2 w' w.heap.size (fun _ => True) v0_ r1 ∧ Below w.heap.size w w' := by
  have HR0 := Aside0.mk hr0
  have HC0 := Aside0.mk hc0
  clear hr0 hc0
  have HB := Aside0.mk (Below.refl w.heap.size w)
  have H : ((dbm_size.f k l0).bind fun bt188 => (if bt188.2 = true then (if 0 ≤ (l0.length : Int) then (if ((l0.length : Int) : Int).toNat ≤ 35184372088832 then ((some (List.replicate ((l0.length : Int) : Int).toNat 0 : List Int)).bind fun y190 => (dbm_Close.l0 k bt188.1 (cpy y190 l0) (y190.length : Int) 0)) else (none)) else (none)) else (some (([] : List Int), false)))) = some (r1, r2) := h
  clear h
  replace H := Option.bind_eq_some_iff.mp H
  obtain ⟨⟨t188, t189⟩, A20, H⟩ := H
  replace H : (if t189 = true then (if 0 ≤ (l0.length : Int) then (if ((l0.length : Int) : Int).toNat ≤ 35184372088832 then ((some (List.replicate ((l0.length : Int) : Int).toNat 0 : List Int)).bind fun y190 => (dbm_Close.l0 k t188 (cpy y190 l0) (y190.length : Int) 0)) else (none)) else (none)) else (some (([] : List Int), false))) = some (r1, r2) := H
  have A2 := Aside0.mk A20
  clear A20
  by_cases c3 : t189 = true
  ·
   subst c3
   have H1 : (if 0 ≤ (l0.length : Int) then (if ((l0.length : Int) : Int).toNat ≤ 35184372088832 then ((some (List.replicate ((l0.length : Int) : Int).toNat 0 : List Int)).bind fun y190 => (dbm_Close.l0 k t188 (cpy y190 l0) (y190.length : Int) 0)) else (none)) else (none)) = some (r1, r2) := by rw [if_pos rfl] at H; exact H
   clear H
   have H := H1
   clear H1
   by_cases c4 : 0 ≤ (l0.length : Int)
   ·
    rw [if_pos c4] at H
    have c4b0 := eq_true c4
    have c4b1 : decide (0 ≤ (l0.length : Int)) = true := decide_eq_true c4
    clear c4
    by_cases c5 : ((l0.length : Int) : Int).toNat ≤ 35184372088832
    ·
     rw [if_pos c5] at H
     have c5b0 := eq_true c5
     have c5b1 : decide (((l0.length : Int) : Int).toNat ≤ 35184372088832) = true := decide_eq_true c5
     clear c5
     obtain ⟨y190, hy190⟩ : ∃ y_ : List Int, y_ = (List.replicate ((l0.length : Int) : Int).toNat 0) := ⟨_, rfl⟩
     replace H : (dbm_Close.l0 k t188 (cpy y190 l0) (y190.length : Int) 0) = some (r1, r2) := by first | (rw [hy190]; with_reducible exact H) | (have H2_ := (Option.bind_some _ _).symm.trans H; rw [hy190]; with_reducible exact H2_) | (have H2_ := (Option.bind_some _ _).symm.trans H; with_reducible exact H2_) | with_reducible exact H | (rw [hy190]; exact H) | exact H
     have Ny190 := Aside0.mk hy190
     clear hy190
     obtain ⟨y193, hy193⟩ : ∃ y_ : List Int, y_ = (cpy y190 l0) := ⟨_, rfl⟩
     replace H : (dbm_Close.l0 k t188 y193 (y190.length : Int) 0) = some (r1, r2) := by first | (rw [hy193]; with_reducible exact H) | (have H2_ := (Option.bind_some _ _).symm.trans H; rw [hy193]; with_reducible exact H2_) | (have H2_ := (Option.bind_some _ _).symm.trans H; with_reducible exact H2_) | with_reducible exact H | (rw [hy193]; exact H) | exact H
     have Ny193 := Aside0.mk hy193
     clear hy193
     have H' := Aside0.mk H
     clear H
     go_enter Try.func23, Try.ntmps23
     go_wp2_with (first | ((with_reducible refine gate_callee (f := 34) rfl ?_); refine goesL_ (some 16) rfl rfl Try.func34 (by kernel_rfl) rfl #[.slice A0 l0.length c0] rfl (by (try simp only [List.map_toArray, List.map_cons, List.map_nil]); first | done | rfl | (simp only [List.length_drop, List.length_take]; rfl)) ?_; (with_reducible refine (dbm_size.calls k _ _ l0 t188 true _ ?side1 ?side2 A2.out).mono ?_); (case side1 => repeat (first | exact HR0.out | (with_reducible refine Kd.C_alloc ?_ _) | (with_reducible refine Kd.C_drewN ?_ _) | (with_reducible refine Kd.C_drew ?_))); (case side2 => exact HC0.out); rintro e w' ⟨rfl, ⟨nd, rfl⟩⟩; refine ⟨_, rfl, ?_⟩) | ((with_reducible refine gate_dst (N := 23) rfl ?_); refine Kd.R_make (Kd.int .i64) _ 2 rfl (N := 23) rfl 22 _ _ rfl (l0.length : Int) rfl rfl Try.underlying22 (.int .i64 0) 8 info2 rfl (by decide) (by omega) 0 (ok := fun _ => True) (okp := fun _ => True) rfl (fun _ hk => hk) trivial (of_decide_eq_true (by first | (with_reducible assumption) | assumption)) (Nat.le_trans (Nat.mul_le_mul_right _ (of_decide_eq_true (by first | (with_reducible assumption) | assumption) : (l0.length : Int).toNat ≤ 35184372088832)) (by omega)) (Below.refl _ _) (Nat.le_refl _) ?_; intro v191 w6 ho7 hb hg_ hnew_; clear hg_ hnew_; (first | rw [← Ny190.out] at ho7 | (simp only [Int.reduceToNat] at ho7; rw [← Ny190.out] at ho7)); have n0_ := Aside0.mk (Kd.R_lower ho7 (below_size (by repeat (first | (with_reducible first | exact HB.out | apply below_alloc | apply pw_below_drewN | apply below_drew1) | exact HB.out)))); have n1_ := bst HB hb; clear HB; have HO192 := n0_; have HB := n1_; clear n0_ n1_; clear hb ho7; obtain ⟨Ao9, co9, eo9⟩ := Kd.R_slice HO192.out; subst eo9) | ((with_reducible refine gate_builtin (b := .copy) (xs := #[.tmp 24, .tmp 25]) rfl ?_); refine copy_event (k := .i64) (w0 := w) (base := w.heap.size) rfl (.tmp 24) (.tmp 25) 22 22 2 rfl Try.underlying22 info2 (.slice Ao9 y190.length co9) y190 l0 _ _ _ (fun _ => True) rfl rfl ?aO ?aR ?aB ?_; (case aO => exact (by (with_reducible repeat (first | apply Kd.R_alloc | apply Kd.R_drewN | apply Kd.R_drew)); exact HO192.out)); (case aR => repeat (first | exact (Kd.C_below HR0.out HB.out) | (with_reducible refine Kd.C_alloc ?_ _) | (with_reducible refine Kd.C_drewN ?_ _) | (with_reducible refine Kd.C_drew ?_))); (case aB => exact (by repeat (first | (with_reducible first | exact HB.out | apply below_alloc | apply pw_below_drewN | apply below_drew1) | exact HB.out))); intro w8 hp_ hb hg; rw [← Ny193.out] at hp_; have n0_ := Aside0.mk (hp_); have n1_ := Aside0.mk (hb); clear HO192; clear HB; have HO192 := n0_; have HB := n1_; clear n0_ n1_; clear hp_ hb hg))
     (try (simp only [Exit.noGoto_normal, Exit.noGoto_exit, Exit.noGoto_ret]; try go_wp2))
     go_loopg [29] k (fun kq v29 w' => ∃ (x6_1 : List Int) (x29_1 : Int), v29 = .int .i64 x29_1 ∧ Aside0 (dbm_Close.l0 kq t188 x6_1 (y190.length : Int) x29_1 = some (r1, r2)) ∧ Aside0 (kq ≤ k) ∧ Aside0 (Kd.R (Kd.int .i64) 2 w' w.heap.size (fun _ => True) (.slice Ao9 y190.length co9) x6_1) ∧ Aside0 (Below w.heap.size w w'))
     case atStart => exact ⟨(y193), (0), (by first | rfl | (simp; done) | (simp [*]; done)), H', ⟨Nat.le_refl _⟩, ⟨by (with_reducible repeat (first | apply Kd.R_alloc | apply Kd.R_drewN | apply Kd.R_drew)); exact HO192.out⟩, bpk HB⟩
     case round =>
      clear H'
      try clear c2
      try clear p2
      try clear c3
      try clear c4
      try clear c4b0
      try clear c4b1
      try clear c5
      try clear c5b0
      try clear c5b1
      obtain ⟨x6_1, x29_1, rfl, HA, HK1, HO_6, HB⟩ := hrel
      have hl6_1 := (Kd.R_reads' HO_6.out).1
      rw [hl6_1] at HO_6
      (try simp only [hl6_1])
      cases gk with
      | zero => exact absurd HA.out (by simp [dbm_Close.l0])
      | succ k1 =>
       have H := HA.out
       clear HA
       simp only [dbm_Close.l0] at H
       by_cases c10 : x29_1 < (y190.length : Int)
       ·
        rw [if_pos c10] at H
        have c10b0 : decide (x29_1 < (y190.length : Int)) = true := decide_eq_true c10
        (try simp only [hl6_1] at c10b0)
        clear c10
        by_cases c11 : 0 ≤ x29_1
        ·
         rw [if_pos c11] at H
         have c11b0 : decide (0 ≤ x29_1) = true := decide_eq_true c11
         (try simp only [hl6_1] at c11b0)
         clear c11
         by_cases c12 : x29_1 < (x6_1.length : Int)
         ·
          rw [if_pos c12] at H
          have c12b0 : decide (x29_1 < (x6_1.length : Int)) = true := decide_eq_true c12
          (try simp only [hl6_1] at c12b0)
          clear c12
          replace H := Option.bind_eq_some_iff.mp H
          obtain ⟨t195, A130, H⟩ := H
          replace H : (dbm_Close.l0 k1 t188 (x6_1.set (x29_1 : Int).toNat t195) (y190.length : Int) (wrap64 (x29_1 + 1))) = some (r1, r2) := H
          have A13 := Aside0.mk A130
          clear A130
          obtain ⟨y196, hy196⟩ : ∃ y_ : List Int, y_ = (x6_1.set (x29_1 : Int).toNat t195) := ⟨_, rfl⟩
          replace H : (dbm_Close.l0 k1 t188 y196 (y190.length : Int) (wrap64 (x29_1 + 1))) = some (r1, r2) := by first | (rw [hy196]; with_reducible exact H) | (have H2_ := (Option.bind_some _ _).symm.trans H; rw [hy196]; with_reducible exact H2_) | (have H2_ := (Option.bind_some _ _).symm.trans H; with_reducible exact H2_) | with_reducible exact H | (rw [hy196]; exact H) | exact H
          have Ny196 := Aside0.mk hy196
          clear hy196
          have H' := Aside0.mk H
          clear H
          have p15 : 0 ≤ (x29_1 : Int) := of_decide_eq_true (by first | (with_reducible assumption) | assumption)
          have q15 : (x29_1 : Int) < ((x6_1.length : Int) : Int) := of_decide_eq_true (by first | (with_reducible assumption) | assumption)
          obtain ⟨go15, co15, eo15, gb15, gl15, cl15, HG15⟩ := Kd.R_form HO_6.out (by omega)
          (first | cases eo15 | (injection eo15 with ea_ en_ ec_; (first | subst ea_ | (injection ea_ with ea_; subst ea_)); subst ec_; clear en_))
          have GB15 := Aside0.mk gb15
          have GG15 := Aside0.mk HG15
          clear gb15 gl15 HG15
          clear p15 q15
          have p194 : 0 ≤ (x29_1 : Int) := of_decide_eq_true (by first | (with_reducible assumption) | assumption)
          have q194 : x29_1 < (x6_1.length : Int) := of_decide_eq_true (by first | (with_reducible assumption) | assumption)
          obtain ⟨ad194, e194, hx194_0⟩ := Kd.at_int (Kd.R_reads' HO_6.out).2.2 x29_1 p194 q194
          obtain rfl : (⟨go15, 0, none⟩ : Addr) = ad194 := (by injection e194)
          (first | simp only [add_plain] at hx194_0 | simp only [add_at] at hx194_0 | simp only [Addr.add, Nat.zero_add] at hx194_0 | skip)
          replace p194 := eq_true p194
          replace q194 := eq_true q194
          go_wp2_with (first | ((with_reducible refine gate_callee (f := 36) rfl ?_); refine goesL_ (some 38) rfl rfl Try.func36 (by kernel_rfl) rfl #[.int .i64 (rd x6_1 x29_1)] rfl (by (try simp only [List.map_toArray, List.map_cons, List.map_nil]); first | done | rfl | (simp only [List.length_drop, List.length_take]; rfl)) ?_; (with_reducible refine (dbm_taken.calls (rd x6_1 x29_1) t195 _ A13.out).mono ?_); rintro e w16 ⟨rfl, hb⟩; refine ⟨_, rfl, ?_⟩; have n0_ := Aside0.mk (Kd.R_below (by (with_reducible repeat (first | apply Kd.R_alloc | apply Kd.R_drewN | apply Kd.R_drew)); exact HO_6.out) hb); have n1_ := bst HB hb; clear HO_6; clear HB; have HO_6 := n0_; have HB := n1_; clear n0_ n1_; (try clear hb); (try clear hb2); (try clear hk); (try clear hi); have p14 : 0 ≤ (x29_1 : Int) := of_decide_eq_true (by first | (with_reducible assumption) | assumption); have q14 : (x29_1 : Int) < ((x6_1.length : Int) : Int) := of_decide_eq_true (by first | (with_reducible assumption) | assumption); obtain ⟨hx14_0, hf14_0⟩ := Kd.R_celln 0 HO_6.out (x29_1 : Int) p14 q14; replace p14 := eq_true p14; replace q14 := eq_true q14; obtain ⟨hy17_, hz17_⟩ := Kd.R_celln 0 HO_6.out (x29_1 : Int) (of_decide_eq_true (by first | (with_reducible assumption) | assumption)) (of_decide_eq_true (by first | (with_reducible assumption) | assumption)); have HP17 := Kd.R_putg HO_6.out (x29_1 : Int) t195) | ((with_reducible refine gate_store (t := 2) (p := 39) rfl ?_); refine store_event (t := 2) (p := 39) (v := ?vo_w18) (w1 := (w16.setCell ⟨go15, (x29_1 : Int).toNat, none⟩ (.int .i64 t195))) ?hg ?ho ?hn ?hr ?_; (case ho => rfl); (case hg => rfl); (case hn => rfl); (case hr => first | (go_simp; done) | (go_simp; rfl)); intro w18 hw; have hg : w16.grownBy w18 (some go15) := (by rw [hw]; exact HP17.2); have hp_ : Kd.R (Kd.int .i64) 2 w18 w.heap.size (fun _ => True) (.slice (some ⟨go15, 0, none⟩) x6_1.length co9) y196 := (by rw [hw, Ny196.out]; exact HP17.1); clear HP17; have n0_ := Aside0.mk (hp_); have n1_ := Aside0.mk ((by rw [hw]; exact below_set (HB.out) GB15.out : Below w.heap.size w w18)); clear HO_6; clear HB; have HO_6 := n0_; have HB := n1_; clear n0_ n1_; clear hg hw hp_))
          (try (simp only [Exit.noGoto_normal, Exit.noGoto_exit, Exit.noGoto_ret]; try go_wp2))
          (try simp only [← hl6_1])
          go_roundg k1
          case measure => have := HK1.out; omega
          case rel => exact ⟨(y196), (wrap64 (x29_1 + 1)), (by first | rfl | (simp; done) | (simp [*]; done)), H', ⟨by have := HK1.out; omega⟩, ⟨by (try simp only [hl6_1]); (with_reducible repeat (first | apply Kd.R_alloc | apply Kd.R_drewN | apply Kd.R_drew)); exact HO_6.out⟩, bpk HB⟩
         ·
          rw [if_neg c12] at H
          exact absurd H (by simp)
        ·
         rw [if_neg c11] at H
         exact absurd H (by simp)
       ·
        rw [if_neg c10] at H
        have c10b0 : decide (x29_1 < (y190.length : Int)) = false := decide_eq_false c10
        (try simp only [hl6_1] at c10b0)
        clear c10
        have H' := Aside0.mk H
        clear H
        go_wp2
        (try (simp only [Exit.noGoto_normal, Exit.noGoto_exit, Exit.noGoto_ret]; try go_wp2))
        go_loopg [42] k1 (fun kq v42 w' => ∃ (x6_2 : List Int) (x42_2 : Int), v42 = .int .i64 x42_2 ∧ Aside0 (dbm_Close.l1 kq t188 x6_2 t188 x42_2 = some (r1, r2)) ∧ Aside0 (kq ≤ k1) ∧ Aside0 (Kd.R (Kd.int .i64) 2 w' w.heap.size (fun _ => True) (.slice Ao9 x6_1.length co9) x6_2) ∧ Aside0 (Below w.heap.size w w'))
        case atStart => exact ⟨(x6_1), (0), (by first | rfl | (simp; done) | (simp [*]; done)), H', ⟨Nat.le_refl _⟩, ⟨by (try simp only [hl6_1]); (with_reducible repeat (first | apply Kd.R_alloc | apply Kd.R_drewN | apply Kd.R_drew)); exact HO_6.out⟩, bpk HB⟩
        case round =>
         clear H'
         try clear c1
         try clear p1
         try clear q1
         try clear hx1
         try clear hf1
         try clear c2
         try clear p2
         try clear c3
         try clear c4
         try clear c4b0
         try clear c4b1
         try clear c5
         try clear c5b0
         try clear c5b1
         try clear p6
         try clear c10
         try clear c10b0
         try clear c11
         try clear c11b0
         try clear c12
         try clear c12b0
         try clear p14
         try clear q14
         try clear hx14
         try clear hf14
         try clear p15
         try clear q15
         try clear hx14_0
         try clear hx194_0
         try clear p14
         try clear p15
         try clear p194
         try clear p2
         try clear q14
         try clear q15
         try clear q194
         obtain ⟨x6_2, x42_2, rfl, HA, HK2, HO_6, HB⟩ := hrel
         have hl6_2 := (Kd.R_reads' HO_6.out).1
         rw [hl6_2] at HO_6
         (try simp only [hl6_2])
         cases gk with
         | zero => exact absurd HA.out (by simp [dbm_Close.l1])
         | succ k2 =>
          have H := HA.out
          clear HA
          simp only [dbm_Close.l1] at H
          by_cases c19 : x42_2 < t188
          ·
           rw [if_pos c19] at H
           have c19b0 : decide (x42_2 < t188) = true := decide_eq_true c19
           (try simp only [hl6_1] at c19b0)
           (try simp only [hl6_2] at c19b0)
           clear c19
           obtain ⟨ji20, hji20⟩ : ∃ j_ : Int, (wrap64 ((wrap64 (x42_2 * t188)) + x42_2)) = j_ := ⟨_, rfl⟩
           replace H : (if 0 ≤ (ji20) then (if (ji20) < (x6_2.length : Int) then (if (rd x6_2 (ji20)) < 0 then (some (([] : List Int), false)) else (dbm_Close.l1 k2 t188 (x6_2.set ((ji20) : Int).toNat 0) t188 (wrap64 (x42_2 + 1)))) else (none)) else (none)) = some (r1, r2) := by first | (rw [hji20] at H; exact H) | (simp only [hji20] at H ⊢; exact H)
           have hji20w : (IntKind.i64.wrap ((wrap64 (x42_2 * t188)) + x42_2)) = ji20 := (i64_w _).trans hji20
           by_cases c21 : 0 ≤ (ji20)
           ·
            rw [if_pos c21] at H
            have c21b0 : decide (0 ≤ (ji20)) = true := decide_eq_true c21
            (try simp only [hl6_1] at c21b0)
            (try simp only [hl6_2] at c21b0)
            clear c21
            by_cases c22 : (ji20) < (x6_2.length : Int)
            ·
             rw [if_pos c22] at H
             have c22b0 : decide ((ji20) < (x6_2.length : Int)) = true := decide_eq_true c22
             (try simp only [hl6_1] at c22b0)
             (try simp only [hl6_2] at c22b0)
             clear c22
             by_cases c23 : (rd x6_2 (ji20)) < 0
             ·
              rw [if_pos c23] at H
              have c23b0 : decide ((rd x6_2 (ji20)) < 0) = true := decide_eq_true c23
              (try simp only [hl6_1] at c23b0)
              (try simp only [hl6_2] at c23b0)
              clear c23
              simp only [Option.some.injEq, Prod.mk.injEq] at H
              obtain ⟨rfl, rfl⟩ := H
              have p24 : 0 ≤ ((ji20) : Int) := of_decide_eq_true (by first | (with_reducible assumption) | assumption)
              have q24 : ((ji20) : Int) < ((x6_2.length : Int) : Int) := of_decide_eq_true (by first | (with_reducible assumption) | assumption)
              obtain ⟨go24, co24, eo24, gb24, gl24, cl24, HG24⟩ := Kd.R_form HO_6.out (by omega)
              (first | cases eo24 | (injection eo24 with ea_ en_ ec_; (first | subst ea_ | (injection ea_ with ea_; subst ea_)); subst ec_; clear en_))
              have GB24 := Aside0.mk gb24
              have GG24 := Aside0.mk HG24
              clear gb24 gl24 HG24
              clear p24 q24
              have p197 : 0 ≤ ((ji20) : Int) := of_decide_eq_true (by first | (with_reducible assumption) | assumption)
              have q197 : (ji20) < (x6_2.length : Int) := of_decide_eq_true (by first | (with_reducible assumption) | assumption)
              obtain ⟨ad197, e197, hx197_0⟩ := Kd.at_int (Kd.R_reads' HO_6.out).2.2 (ji20) p197 q197
              obtain rfl : (⟨go24, 0, none⟩ : Addr) = ad197 := (by injection e197)
              (first | simp only [add_plain] at hx197_0 | simp only [add_at] at hx197_0 | simp only [Addr.add, Nat.zero_add] at hx197_0 | skip)
              replace p197 := eq_true p197
              replace q197 := eq_true q197
              go_wp2
              (try (simp only [Exit.noGoto_normal, Exit.noGoto_exit, Exit.noGoto_ret]; try go_wp2))
              go_ret2
              exact ⟨_, by first | rfl | (simp [errW_none, errW_some] <;> rfl) | (simp only [← hji20]; first | rfl | (simp [errW_none, errW_some] <;> rfl)) | (simp [*, errW_none, errW_some] <;> rfl) | kernel_rfl, by first | exact Kd.R_nil _ _ _ _ _ | exact Kd.N_nil _ _ _ _ _ | exact Kd.V_nil _ _ _ _ _ | exact Kd.Q_nil _ _ _ _ _ | exact Kd.S_nil _ _ _ _ _, by repeat (first | (with_reducible first | exact HB.out | apply below_alloc | apply pw_below_drewN | apply below_drew1) | exact HB.out)⟩
             ·
              rw [if_neg c23] at H
              have c23b0 : decide ((rd x6_2 (ji20)) < 0) = false := decide_eq_false c23
              (try simp only [hl6_1] at c23b0)
              (try simp only [hl6_2] at c23b0)
              clear c23
              obtain ⟨y198, hy198⟩ : ∃ y_ : List Int, y_ = (x6_2.set ((ji20) : Int).toNat 0) := ⟨_, rfl⟩
              replace H : (dbm_Close.l1 k2 t188 y198 t188 (wrap64 (x42_2 + 1))) = some (r1, r2) := by first | (rw [hy198]; with_reducible exact H) | (have H2_ := (Option.bind_some _ _).symm.trans H; rw [hy198]; with_reducible exact H2_) | (have H2_ := (Option.bind_some _ _).symm.trans H; with_reducible exact H2_) | with_reducible exact H | (rw [hy198]; exact H) | exact H
              have Ny198 := Aside0.mk hy198
              clear hy198
              have H' := Aside0.mk H
              clear H
              have p26 : 0 ≤ ((ji20) : Int) := of_decide_eq_true (by first | (with_reducible assumption) | assumption)
              have q26 : ((ji20) : Int) < ((x6_2.length : Int) : Int) := of_decide_eq_true (by first | (with_reducible assumption) | assumption)
              obtain ⟨go26, co26, eo26, gb26, gl26, cl26, HG26⟩ := Kd.R_form HO_6.out (by omega)
              (first | cases eo26 | (injection eo26 with ea_ en_ ec_; (first | subst ea_ | (injection ea_ with ea_; subst ea_)); subst ec_; clear en_))
              have GB26 := Aside0.mk gb26
              have GG26 := Aside0.mk HG26
              clear gb26 gl26 HG26
              clear p26 q26
              have p197 : 0 ≤ ((ji20) : Int) := of_decide_eq_true (by first | (with_reducible assumption) | assumption)
              have q197 : (ji20) < (x6_2.length : Int) := of_decide_eq_true (by first | (with_reducible assumption) | assumption)
              obtain ⟨ad197, e197, hx197_0⟩ := Kd.at_int (Kd.R_reads' HO_6.out).2.2 (ji20) p197 q197
              obtain rfl : (⟨go26, 0, none⟩ : Addr) = ad197 := (by injection e197)
              (first | simp only [add_plain] at hx197_0 | simp only [add_at] at hx197_0 | simp only [Addr.add, Nat.zero_add] at hx197_0 | skip)
              replace p197 := eq_true p197
              replace q197 := eq_true q197
              have p25 : 0 ≤ ((ji20) : Int) := of_decide_eq_true (by first | (with_reducible assumption) | assumption)
              have q25 : ((ji20) : Int) < ((x6_2.length : Int) : Int) := of_decide_eq_true (by first | (with_reducible assumption) | assumption)
              obtain ⟨hx25_0, hf25_0⟩ := Kd.R_celln 0 HO_6.out ((ji20) : Int) p25 q25
              replace p25 := eq_true p25
              replace q25 := eq_true q25
              have HP27 := Kd.R_putg HO_6.out ((ji20) : Int) 0
              go_wp2_with (first | ((with_reducible refine gate_store (t := 2) (p := 60) rfl ?_); refine store_event (t := 2) (p := 60) (v := ?vo_w28) (w1 := (wr.setCell ⟨go26, ((ji20) : Int).toNat, none⟩ (.int .i64 0))) ?hg ?ho ?hn ?hr ?_; (case ho => rfl); (case hg => rfl); (case hn => rfl); (case hr => first | (go_simp; done) | (go_simp; rfl)); intro w28 hw; have hg : wr.grownBy w28 (some go26) := (by rw [hw]; exact HP27.2); have hp_ : Kd.R (Kd.int .i64) 2 w28 w.heap.size (fun _ => True) (.slice (some ⟨go26, 0, none⟩) x6_2.length co9) y198 := (by rw [hw, Ny198.out]; exact HP27.1); clear HP27; have n0_ := Aside0.mk (hp_); have n1_ := Aside0.mk ((by rw [hw]; exact below_set (HB.out) GB26.out : Below w.heap.size w w28)); clear HO_6; clear HB; have HO_6 := n0_; have HB := n1_; clear n0_ n1_; clear hg hw hp_))
              (try (simp only [Exit.noGoto_normal, Exit.noGoto_exit, Exit.noGoto_ret]; try go_wp2))
              (try simp only [← hl6_2])
              go_roundg k2
              case measure => have := HK1.out; have := HK2.out; omega
              case rel => exact ⟨(y198), (wrap64 (x42_2 + 1)), (by first | rfl | (simp; done) | (simp [*]; done)), H', ⟨by have := HK1.out; have := HK2.out; omega⟩, ⟨by (try simp only [hl6_1]); (try simp only [hl6_2]); (with_reducible repeat (first | apply Kd.R_alloc | apply Kd.R_drewN | apply Kd.R_drew)); exact HO_6.out⟩, bpk HB⟩
            ·
             rw [if_neg c22] at H
             exact absurd H (by simp)
           ·
            rw [if_neg c21] at H
            exact absurd H (by simp)
          ·
           rw [if_neg c19] at H
           have c19b0 : decide (x42_2 < t188) = false := decide_eq_false c19
           (try simp only [hl6_1] at c19b0)
           (try simp only [hl6_2] at c19b0)
           clear c19
           have H' := Aside0.mk H
           clear H
           go_wp2
           (try (simp only [Exit.noGoto_normal, Exit.noGoto_exit, Exit.noGoto_ret]; try go_wp2))
           go_loopg [63] k2 (fun kq v63 w' => ∃ (x6_3 : List Int) (x63_3 : Int), v63 = .int .i64 x63_3 ∧ Aside0 (dbm_Close.l2 kq t188 x6_3 t188 x63_3 = some (r1, r2)) ∧ Aside0 (kq ≤ k2) ∧ Aside0 (Kd.R (Kd.int .i64) 2 w' w.heap.size (fun _ => True) (.slice Ao9 x6_2.length co9) x6_3) ∧ Aside0 (Below w.heap.size w w'))
           case atStart => exact ⟨(x6_2), (0), (by first | rfl | (simp; done) | (simp [*]; done)), H', ⟨Nat.le_refl _⟩, ⟨by (try simp only [hl6_1]); (try simp only [hl6_2]); (with_reducible repeat (first | apply Kd.R_alloc | apply Kd.R_drewN | apply Kd.R_drew)); exact HO_6.out⟩, bpk HB⟩
           case round =>
            clear H'
            try clear c1
            try clear p1
            try clear q1
            try clear hx1
            try clear hf1
            try clear c2
            try clear p2
            try clear q2
            try clear hx2
            try clear hf2
            try clear c3
            try clear c4
            try clear c4b0
            try clear c4b1
            try clear c5
            try clear c5b0
            try clear c5b1
            try clear p6
            try clear c10
            try clear c10b0
            try clear c11
            try clear c11b0
            try clear c12
            try clear c12b0
            try clear p14
            try clear q14
            try clear hx14
            try clear hf14
            try clear p15
            try clear q15
            try clear c19
            try clear c19b0
            try clear p19
            try clear q19
            try clear hx19
            try clear c21
            try clear c21b0
            try clear c22
            try clear c22b0
            try clear c23
            try clear c23b0
            try clear p24
            try clear q24
            try clear p25
            try clear q25
            try clear hx25
            try clear hf25
            try clear p26
            try clear q26
            try clear hx14_0
            try clear hx194_0
            try clear hx197_0
            try clear hx25_0
            try clear p1
            try clear p14
            try clear p15
            try clear p194
            try clear p197
            try clear p2
            try clear p24
            try clear p25
            try clear p26
            try clear p6
            try clear q1
            try clear q14
            try clear q15
            try clear q194
            try clear q197
            try clear q24
            try clear q25
            try clear q26
            obtain ⟨x6_3, x63_3, rfl, HA, HK3, HO_6, HB⟩ := hrel
            have hl6_3 := (Kd.R_reads' HO_6.out).1
            rw [hl6_3] at HO_6
            (try simp only [hl6_3])
            cases gk with
            | zero => exact absurd HA.out (by simp [dbm_Close.l2])
            | succ k3 =>
             have H := HA.out
             clear HA
             simp only [dbm_Close.l2] at H
             by_cases c29 : x63_3 < t188
             ·
              rw [if_pos c29] at H
              have c29b0 : decide (x63_3 < t188) = true := decide_eq_true c29
              (try simp only [hl6_1] at c29b0)
              (try simp only [hl6_2] at c29b0)
              (try simp only [hl6_3] at c29b0)
              clear c29
              have HC30 := Aside0.mk H
              clear H
              go_wp2
              go_step3
              have H := HC30.out
              clear HC30
              try clear c1
              try clear p1
              try clear q1
              try clear hx1
              try clear hf1
              try clear c2
              try clear p2
              try clear q2
              try clear hx2
              try clear hf2
              try clear c3
              try clear p3
              try clear c4
              try clear c4b0
              try clear c4b1
              try clear c5
              try clear c5b0
              try clear c5b1
              try clear p6
              try clear c10
              try clear c10b0
              try clear c11
              try clear c11b0
              try clear c12
              try clear c12b0
              try clear p14
              try clear q14
              try clear hx14
              try clear hf14
              try clear p15
              try clear q15
              try clear c19
              try clear c19b0
              try clear p19
              try clear q19
              try clear hx19
              try clear c21
              try clear c21b0
              try clear c22
              try clear c22b0
              try clear c23
              try clear c23b0
              try clear p24
              try clear q24
              try clear p25
              try clear q25
              try clear hx25
              try clear hf25
              try clear p26
              try clear q26
              try clear c29
              try clear c29b0
              try clear hx14_0
              try clear hx194_0
              try clear hx197_0
              try clear hx25_0
              try clear p1
              try clear p14
              try clear p15
              try clear p19
              try clear p194
              try clear p197
              try clear p2
              try clear p24
              try clear p25
              try clear p26
              try clear p6
              try clear q1
              try clear q14
              try clear q15
              try clear q19
              try clear q194
              try clear q197
              try clear q2
              try clear q24
              try clear q25
              try clear q26
              have HC31 := Aside0.mk H
              clear H
              go_wp2
              go_step3
              have H := HC31.out
              clear HC31
              try clear c1
              try clear p1
              try clear q1
              try clear hx1
              try clear hf1
              try clear c2
              try clear p2
              try clear q2
              try clear hx2
              try clear hf2
              try clear c3
              try clear p3
              try clear c4
              try clear c4b0
              try clear c4b1
              try clear c5
              try clear c5b0
              try clear c5b1
              try clear p6
              try clear c10
              try clear c10b0
              try clear c11
              try clear c11b0
              try clear c12
              try clear c12b0
              try clear p14
              try clear q14
              try clear hx14
              try clear hf14
              try clear p15
              try clear q15
              try clear c19
              try clear c19b0
              try clear p19
              try clear q19
              try clear hx19
              try clear c21
              try clear c21b0
              try clear c22
              try clear c22b0
              try clear c23
              try clear c23b0
              try clear p24
              try clear q24
              try clear p25
              try clear q25
              try clear hx25
              try clear hf25
              try clear p26
              try clear q26
              try clear c29
              try clear c29b0
              try clear hx14_0
              try clear hx194_0
              try clear hx197_0
              try clear hx25_0
              try clear p1
              try clear p14
              try clear p15
              try clear p19
              try clear p194
              try clear p197
              try clear p2
              try clear p24
              try clear p25
              try clear p26
              try clear p3
              try clear p6
              try clear q1
              try clear q14
              try clear q15
              try clear q19
              try clear q194
              try clear q197
              try clear q2
              try clear q24
              try clear q25
              try clear q26
              have H' := Aside0.mk H
              clear H
              go_wp2
              (try (simp only [Exit.noGoto_normal, Exit.noGoto_exit, Exit.noGoto_ret]; try go_wp2))
              go_loopg [67] k3 (fun kq v67 w' => ∃ (x6_4 : List Int) (x67_4 : Int), v67 = .int .i64 x67_4 ∧ Aside0 (dbm_Close.l3 kq t188 x6_4 x63_3 t188 x63_3 t188 x67_4 = some (r1, r2)) ∧ Aside0 (kq ≤ k3) ∧ Aside0 (Kd.R (Kd.int .i64) 2 w' w.heap.size (fun _ => True) (.slice Ao9 x6_3.length co9) x6_4) ∧ Aside0 (Below w.heap.size w w'))
              case atStart => exact ⟨(x6_3), (0), (by first | rfl | (simp; done) | (simp [*]; done)), H', ⟨Nat.le_refl _⟩, ⟨by (try simp only [hl6_1]); (try simp only [hl6_2]); (try simp only [hl6_3]); (with_reducible repeat (first | apply Kd.R_alloc | apply Kd.R_drewN | apply Kd.R_drew)); exact HO_6.out⟩, bpk HB⟩
              case round =>
               clear H'
               try clear c1
               try clear p1
               try clear q1
               try clear hx1
               try clear hf1
               try clear c2
               try clear p2
               try clear q2
               try clear hx2
               try clear hf2
               try clear c3
               try clear p3
               try clear c4
               try clear c4b0
               try clear c4b1
               try clear c5
               try clear c5b0
               try clear c5b1
               try clear p6
               try clear c10
               try clear c10b0
               try clear c11
               try clear c11b0
               try clear c12
               try clear c12b0
               try clear p14
               try clear q14
               try clear hx14
               try clear hf14
               try clear p15
               try clear q15
               try clear c19
               try clear c19b0
               try clear p19
               try clear q19
               try clear hx19
               try clear c21
               try clear c21b0
               try clear c22
               try clear c22b0
               try clear c23
               try clear c23b0
               try clear p24
               try clear q24
               try clear p25
               try clear q25
               try clear hx25
               try clear hf25
               try clear p26
               try clear q26
               try clear c29
               try clear c29b0
               try clear hx14_0
               try clear hx194_0
               try clear hx197_0
               try clear hx25_0
               try clear p1
               try clear p14
               try clear p15
               try clear p19
               try clear p194
               try clear p197
               try clear p2
               try clear p24
               try clear p25
               try clear p26
               try clear p3
               try clear p6
               try clear q1
               try clear q14
               try clear q15
               try clear q19
               try clear q194
               try clear q197
               try clear q2
               try clear q24
               try clear q25
               try clear q26
               obtain ⟨x6_4, x67_4, rfl, HA, HK4, HO_6, HB⟩ := hrel
               have hl6_4 := (Kd.R_reads' HO_6.out).1
               rw [hl6_4] at HO_6
               (try simp only [hl6_4])
               cases gk with
               | zero => exact absurd HA.out (by simp [dbm_Close.l3])
               | succ k4 =>
                have H := HA.out
                clear HA
                simp only [dbm_Close.l3] at H
                by_cases c32 : x67_4 < t188
                ·
                 rw [if_pos c32] at H
                 have c32b0 : decide (x67_4 < t188) = true := decide_eq_true c32
                 (try simp only [hl6_1] at c32b0)
                 (try simp only [hl6_2] at c32b0)
                 (try simp only [hl6_3] at c32b0)
                 (try simp only [hl6_4] at c32b0)
                 clear c32
                 obtain ⟨ji33, hji33⟩ : ∃ j_ : Int, (wrap64 ((wrap64 (x67_4 * t188)) + x63_3)) = j_ := ⟨_, rfl⟩
                 replace H : (if 0 ≤ (ji33) then (if (ji33) < (x6_4.length : Int) then (if (rd x6_4 (ji33)) = 4611686018427387904 then (dbm_Close.l3 k4 t188 x6_4 x63_3 t188 x63_3 t188 (wrap64 (x67_4 + 1))) else (dbm_Close.l4 k4 t188 x6_4 x63_3 x67_4 (rd x6_4 (ji33)) t188 x63_3 t188 x67_4 t188 0)) else (none)) else (none)) = some (r1, r2) := by first | (rw [hji33] at H; exact H) | (simp only [hji33] at H ⊢; exact H)
                 have hji33w : (IntKind.i64.wrap ((wrap64 (x67_4 * t188)) + x63_3)) = ji33 := (i64_w _).trans hji33
                 by_cases c34 : 0 ≤ (ji33)
                 ·
                  rw [if_pos c34] at H
                  have c34b0 : decide (0 ≤ (ji33)) = true := decide_eq_true c34
                  (try simp only [hl6_1] at c34b0)
                  (try simp only [hl6_2] at c34b0)
                  (try simp only [hl6_3] at c34b0)
                  (try simp only [hl6_4] at c34b0)
                  clear c34
                  by_cases c35 : (ji33) < (x6_4.length : Int)
                  ·
                   rw [if_pos c35] at H
                   have c35b0 : decide ((ji33) < (x6_4.length : Int)) = true := decide_eq_true c35
                   (try simp only [hl6_1] at c35b0)
                   (try simp only [hl6_2] at c35b0)
                   (try simp only [hl6_3] at c35b0)
                   (try simp only [hl6_4] at c35b0)
                   clear c35
                   by_cases c36 : (rd x6_4 (ji33)) = 4611686018427387904
                   ·
                    rw [if_pos c36] at H
                    have c36b0 : ((rd x6_4 (ji33)) == 4611686018427387904) = true := beq_iff_eq.mpr c36
                    (try simp only [hl6_1] at c36b0)
                    (try simp only [hl6_2] at c36b0)
                    (try simp only [hl6_3] at c36b0)
                    (try simp only [hl6_4] at c36b0)
                    have c36b1 : ((rd x6_4 (ji33)) != 4611686018427387904) = false := bne_eq_false_iff_eq.mpr c36
                    (try simp only [hl6_1] at c36b1)
                    (try simp only [hl6_2] at c36b1)
                    (try simp only [hl6_3] at c36b1)
                    (try simp only [hl6_4] at c36b1)
                    clear c36
                    have H' := Aside0.mk H
                    clear H
                    have p37 : 0 ≤ ((ji33) : Int) := of_decide_eq_true (by first | (with_reducible assumption) | assumption)
                    have q37 : ((ji33) : Int) < ((x6_4.length : Int) : Int) := of_decide_eq_true (by first | (with_reducible assumption) | assumption)
                    obtain ⟨go37, co37, eo37, gb37, gl37, cl37, HG37⟩ := Kd.R_form HO_6.out (by omega)
                    (first | cases eo37 | (injection eo37 with ea_ en_ ec_; (first | subst ea_ | (injection ea_ with ea_; subst ea_)); subst ec_; clear en_))
                    have GB37 := Aside0.mk gb37
                    have GG37 := Aside0.mk HG37
                    clear gb37 gl37 HG37
                    clear p37 q37
                    have p199 : 0 ≤ ((ji33) : Int) := of_decide_eq_true (by first | (with_reducible assumption) | assumption)
                    have q199 : (ji33) < (x6_4.length : Int) := of_decide_eq_true (by first | (with_reducible assumption) | assumption)
                    obtain ⟨ad199, e199, hx199_0⟩ := Kd.at_int (Kd.R_reads' HO_6.out).2.2 (ji33) p199 q199
                    obtain rfl : (⟨go37, 0, none⟩ : Addr) = ad199 := (by injection e199)
                    (first | simp only [add_plain] at hx199_0 | simp only [add_at] at hx199_0 | simp only [Addr.add, Nat.zero_add] at hx199_0 | skip)
                    replace p199 := eq_true p199
                    replace q199 := eq_true q199
                    go_wp2
                    (try (simp only [Exit.noGoto_normal, Exit.noGoto_exit, Exit.noGoto_ret]; try go_wp2))
                    (try simp only [← hl6_4])
                    go_roundg k4
                    case measure => have := HK1.out; have := HK2.out; have := HK3.out; have := HK4.out; omega
                    case rel => exact ⟨(x6_4), (wrap64 (x67_4 + 1)), (by first | rfl | (simp; done) | (simp [*]; done)), H', ⟨by have := HK1.out; have := HK2.out; have := HK3.out; have := HK4.out; omega⟩, ⟨by (try simp only [hl6_1]); (try simp only [hl6_2]); (try simp only [hl6_3]); (try simp only [hl6_4]); (with_reducible repeat (first | apply Kd.R_alloc | apply Kd.R_drewN | apply Kd.R_drew)); exact HO_6.out⟩, bpk HB⟩
                   ·
                    rw [if_neg c36] at H
                    have c36b0 : ((rd x6_4 (ji33)) == 4611686018427387904) = false := beq_eq_false_iff_ne.mpr c36
                    (try simp only [hl6_1] at c36b0)
                    (try simp only [hl6_2] at c36b0)
                    (try simp only [hl6_3] at c36b0)
                    (try simp only [hl6_4] at c36b0)
                    have c36b1 : ((rd x6_4 (ji33)) != 4611686018427387904) = true := bne_iff_ne.mpr c36
                    (try simp only [hl6_1] at c36b1)
                    (try simp only [hl6_2] at c36b1)
                    (try simp only [hl6_3] at c36b1)
                    (try simp only [hl6_4] at c36b1)
                    have H' := Aside0.mk H
                    clear H
                    have p38 : 0 ≤ ((ji33) : Int) := of_decide_eq_true (by first | (with_reducible assumption) | assumption)
                    have q38 : ((ji33) : Int) < ((x6_4.length : Int) : Int) := of_decide_eq_true (by first | (with_reducible assumption) | assumption)
                    obtain ⟨go38, co38, eo38, gb38, gl38, cl38, HG38⟩ := Kd.R_form HO_6.out (by omega)
                    (first | cases eo38 | (injection eo38 with ea_ en_ ec_; (first | subst ea_ | (injection ea_ with ea_; subst ea_)); subst ec_; clear en_))
                    have GB38 := Aside0.mk gb38
                    have GG38 := Aside0.mk HG38
                    clear gb38 gl38 HG38
                    clear p38 q38
                    have p199 : 0 ≤ ((ji33) : Int) := of_decide_eq_true (by first | (with_reducible assumption) | assumption)
                    have q199 : (ji33) < (x6_4.length : Int) := of_decide_eq_true (by first | (with_reducible assumption) | assumption)
                    obtain ⟨ad199, e199, hx199_0⟩ := Kd.at_int (Kd.R_reads' HO_6.out).2.2 (ji33) p199 q199
                    obtain rfl : (⟨go38, 0, none⟩ : Addr) = ad199 := (by injection e199)
                    (first | simp only [add_plain] at hx199_0 | simp only [add_at] at hx199_0 | simp only [Addr.add, Nat.zero_add] at hx199_0 | skip)
                    replace p199 := eq_true p199
                    replace q199 := eq_true q199
                    go_wp2
                    (try (simp only [Exit.noGoto_normal, Exit.noGoto_exit, Exit.noGoto_ret]; try go_wp2))
                    go_loopg [81] k4 (fun kq v81 w' => ∃ (x6_5 : List Int) (x81_5 : Int), v81 = .int .i64 x81_5 ∧ Aside0 (dbm_Close.l4 kq t188 x6_5 x63_3 x67_4 (rd x6_4 (ji33)) t188 x63_3 t188 x67_4 t188 x81_5 = some (r1, r2)) ∧ Aside0 (kq ≤ k4) ∧ Aside0 (Kd.R (Kd.int .i64) 2 w' w.heap.size (fun _ => True) (.slice (some ⟨go38, 0, none⟩) x6_4.length co9) x6_5) ∧ Aside0 (Below w.heap.size w w'))
                    case atStart => exact ⟨(x6_4), (0), (by first | rfl | (simp; done) | (simp [*]; done)), H', ⟨Nat.le_refl _⟩, ⟨by (try simp only [hl6_1]); (try simp only [hl6_2]); (try simp only [hl6_3]); (try simp only [hl6_4]); (with_reducible repeat (first | apply Kd.R_alloc | apply Kd.R_drewN | apply Kd.R_drew)); exact HO_6.out⟩, bpk HB⟩
                    case round =>
                     clear H'
                     try clear c1
                     try clear p1
                     try clear q1
                     try clear hx1
                     try clear hf1
                     try clear c2
                     try clear p2
                     try clear q2
                     try clear hx2
                     try clear hf2
                     try clear c3
                     try clear p3
                     try clear q3
                     try clear c4
                     try clear c4b0
                     try clear c4b1
                     try clear c5
                     try clear c5b0
                     try clear c5b1
                     try clear p6
                     try clear c10
                     try clear c10b0
                     try clear c11
                     try clear c11b0
                     try clear c12
                     try clear c12b0
                     try clear p14
                     try clear q14
                     try clear hx14
                     try clear hf14
                     try clear p15
                     try clear q15
                     try clear c19
                     try clear c19b0
                     try clear p19
                     try clear q19
                     try clear hx19
                     try clear c21
                     try clear c21b0
                     try clear c22
                     try clear c22b0
                     try clear c23
                     try clear c23b0
                     try clear p24
                     try clear q24
                     try clear p25
                     try clear q25
                     try clear hx25
                     try clear hf25
                     try clear p26
                     try clear q26
                     try clear c29
                     try clear c29b0
                     try clear c32
                     try clear c32b0
                     try clear c34
                     try clear c34b0
                     try clear c35
                     try clear c35b0
                     try clear c36
                     try clear c36b0
                     try clear c36b1
                     try clear p37
                     try clear q37
                     try clear p38
                     try clear q38
                     try clear hx14_0
                     try clear hx194_0
                     try clear hx197_0
                     try clear hx199_0
                     try clear hx25_0
                     try clear p1
                     try clear p14
                     try clear p15
                     try clear p19
                     try clear p194
                     try clear p197
                     try clear p199
                     try clear p2
                     try clear p24
                     try clear p25
                     try clear p26
                     try clear p3
                     try clear p37
                     try clear p38
                     try clear p6
                     try clear q1
                     try clear q14
                     try clear q15
                     try clear q19
                     try clear q194
                     try clear q197
                     try clear q199
                     try clear q2
                     try clear q24
                     try clear q25
                     try clear q26
                     try clear q37
                     try clear q38
                     obtain ⟨x6_5, x81_5, rfl, HA, HK5, HO_6, HB⟩ := hrel
                     have hl6_5 := (Kd.R_reads' HO_6.out).1
                     rw [hl6_5] at HO_6
                     (try simp only [hl6_5])
                     cases gk with
                     | zero => exact absurd HA.out (by simp [dbm_Close.l4])
                     | succ k5 =>
                      have H := HA.out
                      clear HA
                      simp only [dbm_Close.l4] at H
                      by_cases c39 : x81_5 < t188
                      ·
                       rw [if_pos c39] at H
                       have c39b0 : decide (x81_5 < t188) = true := decide_eq_true c39
                       (try simp only [hl6_1] at c39b0)
                       (try simp only [hl6_2] at c39b0)
                       (try simp only [hl6_3] at c39b0)
                       (try simp only [hl6_4] at c39b0)
                       (try simp only [hl6_5] at c39b0)
                       clear c39
                       obtain ⟨ji40, hji40⟩ : ∃ j_ : Int, (wrap64 ((wrap64 (x67_4 * t188)) + x81_5)) = j_ := ⟨_, rfl⟩
                       replace H : (if 0 ≤ (ji40) then (if (ji40) < (x6_5.length : Int) then (if 0 ≤ (wrap64 ((wrap64 (x63_3 * t188)) + x81_5)) then (if (wrap64 ((wrap64 (x63_3 * t188)) + x81_5)) < (x6_5.length : Int) then ((bound_Up.f (rd x6_4 (ji33)) (rd x6_5 (wrap64 ((wrap64 (x63_3 * t188)) + x81_5)))).bind fun t202 => (dbm_Close.l4 k5 t188 (x6_5.set ((ji40) : Int).toNat (mn (rd x6_5 (ji40)) t202)) x63_3 x67_4 (rd x6_4 (ji33)) t188 x63_3 t188 x67_4 t188 (wrap64 (x81_5 + 1)))) else (none)) else (none)) else (none)) else (none)) = some (r1, r2) := by first | (rw [hji40] at H; exact H) | (simp only [hji40] at H ⊢; exact H)
                       have hji40w : (IntKind.i64.wrap ((wrap64 (x67_4 * t188)) + x81_5)) = ji40 := (i64_w _).trans hji40
                       by_cases c41 : 0 ≤ (ji40)
                       ·
                        rw [if_pos c41] at H
                        have c41b0 : decide (0 ≤ (ji40)) = true := decide_eq_true c41
                        (try simp only [hl6_1] at c41b0)
                        (try simp only [hl6_2] at c41b0)
                        (try simp only [hl6_3] at c41b0)
                        (try simp only [hl6_4] at c41b0)
                        (try simp only [hl6_5] at c41b0)
                        clear c41
                        by_cases c42 : (ji40) < (x6_5.length : Int)
                        ·
                         rw [if_pos c42] at H
                         have c42b0 : decide ((ji40) < (x6_5.length : Int)) = true := decide_eq_true c42
                         (try simp only [hl6_1] at c42b0)
                         (try simp only [hl6_2] at c42b0)
                         (try simp only [hl6_3] at c42b0)
                         (try simp only [hl6_4] at c42b0)
                         (try simp only [hl6_5] at c42b0)
                         clear c42
                         obtain ⟨ji43, hji43⟩ : ∃ j_ : Int, (wrap64 ((wrap64 (x63_3 * t188)) + x81_5)) = j_ := ⟨_, rfl⟩
                         replace H : (if 0 ≤ (ji43) then (if (ji43) < (x6_5.length : Int) then ((bound_Up.f (rd x6_4 (ji33)) (rd x6_5 (ji43))).bind fun t202 => (dbm_Close.l4 k5 t188 (x6_5.set ((ji40) : Int).toNat (mn (rd x6_5 (ji40)) t202)) x63_3 x67_4 (rd x6_4 (ji33)) t188 x63_3 t188 x67_4 t188 (wrap64 (x81_5 + 1)))) else (none)) else (none)) = some (r1, r2) := by first | (rw [hji43] at H; exact H) | (simp only [hji43] at H ⊢; exact H)
                         have hji43w : (IntKind.i64.wrap ((wrap64 (x63_3 * t188)) + x81_5)) = ji43 := (i64_w _).trans hji43
                         by_cases c44 : 0 ≤ (ji43)
                         ·
                          rw [if_pos c44] at H
                          have c44b0 : decide (0 ≤ (ji43)) = true := decide_eq_true c44
                          (try simp only [hl6_1] at c44b0)
                          (try simp only [hl6_2] at c44b0)
                          (try simp only [hl6_3] at c44b0)
                          (try simp only [hl6_4] at c44b0)
                          (try simp only [hl6_5] at c44b0)
                          clear c44
                          by_cases c45 : (ji43) < (x6_5.length : Int)
                          ·
                           rw [if_pos c45] at H
                           have c45b0 : decide ((ji43) < (x6_5.length : Int)) = true := decide_eq_true c45
                           (try simp only [hl6_1] at c45b0)
                           (try simp only [hl6_2] at c45b0)
                           (try simp only [hl6_3] at c45b0)
                           (try simp only [hl6_4] at c45b0)
                           (try simp only [hl6_5] at c45b0)
                           clear c45
                           replace H := Option.bind_eq_some_iff.mp H
                           obtain ⟨t202, A460, H⟩ := H
                           replace H : (dbm_Close.l4 k5 t188 (x6_5.set ((ji40) : Int).toNat (mn (rd x6_5 (ji40)) t202)) x63_3 x67_4 (rd x6_4 (ji33)) t188 x63_3 t188 x67_4 t188 (wrap64 (x81_5 + 1))) = some (r1, r2) := H
                           have A46 := Aside0.mk A460
                           clear A460
                           obtain ⟨ji47, hji47⟩ : ∃ j_ : Int, (mn (rd x6_5 (ji40)) t202) = j_ := ⟨_, rfl⟩
                           replace H : (dbm_Close.l4 k5 t188 (x6_5.set ((ji40) : Int).toNat (ji47)) x63_3 x67_4 (rd x6_4 (ji33)) t188 x63_3 t188 x67_4 t188 (wrap64 (x81_5 + 1))) = some (r1, r2) := by first | (rw [hji47] at H; exact H) | (simp only [hji47] at H ⊢; exact H)
                           (try rw [hji47] at A46)
                           have hji47_ : (if t202 < (rd x6_5 (ji40)) then t202 else (rd x6_5 (ji40))) = ji47 := hji47
                           obtain ⟨y203, hy203⟩ : ∃ y_ : List Int, y_ = (x6_5.set ((ji40) : Int).toNat (ji47)) := ⟨_, rfl⟩
                           replace H : (dbm_Close.l4 k5 t188 y203 x63_3 x67_4 (rd x6_4 (ji33)) t188 x63_3 t188 x67_4 t188 (wrap64 (x81_5 + 1))) = some (r1, r2) := by first | (rw [hy203]; with_reducible exact H) | (have H2_ := (Option.bind_some _ _).symm.trans H; rw [hy203]; with_reducible exact H2_) | (have H2_ := (Option.bind_some _ _).symm.trans H; with_reducible exact H2_) | with_reducible exact H | (rw [hy203]; exact H) | exact H
                           have Ny203 := Aside0.mk hy203
                           clear hy203
                           have H' := Aside0.mk H
                           clear H
                           try go_wp2
                           have n0_ := Aside0.mk (Kd.R_drew HO_6.out)
                           have n1_ := Aside0.mk (below_drew1 HB.out)
                           clear HO_6
                           clear HB
                           have HO_6 := n0_
                           have HB := n1_
                           clear n0_ n1_
                           have p200 : 0 ≤ ((ji40) : Int) := of_decide_eq_true (by first | (with_reducible assumption) | assumption)
                           have q200 : (ji40) < (x6_5.length : Int) := of_decide_eq_true (by first | (with_reducible assumption) | assumption)
                           obtain ⟨ad200, e200, hx200_0⟩ := Kd.at_int (Kd.R_reads' HO_6.out).2.2 (ji40) p200 q200
                           obtain rfl : (⟨go38, 0, none⟩ : Addr) = ad200 := (by injection e200)
                           (first | simp only [add_plain] at hx200_0 | simp only [add_at] at hx200_0 | simp only [Addr.add, Nat.zero_add] at hx200_0 | skip)
                           replace p200 := eq_true p200
                           replace q200 := eq_true q200
                           have p201 : 0 ≤ ((ji43) : Int) := of_decide_eq_true (by first | (with_reducible assumption) | assumption)
                           have q201 : (ji43) < (x6_5.length : Int) := of_decide_eq_true (by first | (with_reducible assumption) | assumption)
                           obtain ⟨ad201, e201, hx201_0⟩ := Kd.at_int (Kd.R_reads' HO_6.out).2.2 (ji43) p201 q201
                           obtain rfl : (⟨go38, 0, none⟩ : Addr) = ad201 := (by injection e201)
                           (first | simp only [add_plain] at hx201_0 | simp only [add_at] at hx201_0 | simp only [Addr.add, Nat.zero_add] at hx201_0 | skip)
                           replace p201 := eq_true p201
                           replace q201 := eq_true q201
                           refine start_ (n := 27) (S := fun w' => w'.cell? ⟨go38, ((ji40)).toNat, none⟩ = some (.int .i64 (rd x6_5 (ji40))) ∧ w'.cell? ⟨go38, ((ji43)).toNat, none⟩ = some (.int .i64 (rd x6_5 (ji43)))) (ds := [26]) #[false, false, false, false, false, false, false, false, false, false, false, false, false, false, false, false, false, false, false, false, false, false, false, false, false, false, false] (by kernel_rfl) rfl rfl ⟨hx200_0, hx201_0⟩ (fun hHeld => ?_); refine with_tabW dbm_Close.tab29 dbm_Close.bits29 (fun HT_ HW_ => ?_)
                           generalize wr.drew = w49 at HO_6 HB hx200_0 hx201_0 hHeld ⊢
                           refine pureQ 0 84 HT_.out ?_
                           refine pureQ 1 85 HT_.out ?_
                           refine pureQ 2 86 HT_.out ?_
                           refine pureQ 3 87 HT_.out ?_
                           refine pureQ 4 88 HT_.out ?_
                           refine pureQ 5 89 HT_.out ?_
                           refine pureQ 6 90 HT_.out ?_
                           refine pureQ 7 91 HT_.out ?_
                           refine pureQ 8 92 HT_.out ?_
                           refine pureQ 9 93 HT_.out ?_
                           refine pureQ 10 94 HT_.out ?_
                           refine pureQ 11 95 HT_.out ?_
                           refine pureQ 12 96 HT_.out ?_
                           refine pureQ 14 98 HT_.out ?_
                           refine pureQ 15 99 HT_.out ?_
                           refine pureQ 16 100 HT_.out ?_
                           refine pureQ 17 101 HT_.out ?_
                           refine pureQ 18 102 HT_.out ?_
                           refine pureQ 19 103 HT_.out ?_
                           refine pureQ 20 104 HT_.out ?_
                           refine pureQ 21 105 HT_.out ?_
                           refine takeQ 13 97 HT_.out HW_.out hHeld ?_
                           refine takeQ 22 106 HT_.out HW_.out hHeld ?_
                           refine oneQ 23 107 HT_.out (fun K hK => ?_)
                           refine goes_ Try.func41 (by kernel_rfl) rfl #[.int .i64 (rd x6_4 (ji33)), .int .i64 (rd x6_5 (ji43))] (by rfl) rfl rfl (by (try simp only [List.map_toArray, List.map_cons, List.map_nil]); first | done | (simp only [hji33, hji43]; rfl) | rfl | (simp only [List.length_drop, List.length_take]; rfl)) ?_
                           with_reducible refine (bound_Up.calls (rd x6_4 (ji33)) (rd x6_5 (ji43)) t202 _ A46.out).mono ?_
                           rintro e w50 ⟨rfl, hb⟩
                           have HS0_ := (hb.cell (World.block_lt_of_cell? _ _ (hHeld.1))).trans (hHeld.1)
                           have HS1_ := (hb.cell (World.block_lt_of_cell? _ _ (hHeld.2))).trans (hHeld.2)
                           refine ⟨_, rfl, ?_⟩
                           have n0_ := Aside0.mk (Kd.R_below (by (with_reducible repeat (first | apply Kd.R_alloc | apply Kd.R_drewN | apply Kd.R_drew)); exact HO_6.out) hb)
                           have n1_ := bst HB hb
                           clear HO_6
                           clear HB
                           have HO_6 := n0_
                           have HB := n1_
                           clear n0_ n1_
                           (try clear hb)
                           (try clear hb2)
                           (try clear hk)
                           (try clear hi)
                           have p48 : 0 ≤ ((ji40) : Int) := of_decide_eq_true (by first | (with_reducible assumption) | assumption)
                           have q48 : ((ji40) : Int) < ((x6_5.length : Int) : Int) := of_decide_eq_true (by first | (with_reducible assumption) | assumption)
                           obtain ⟨hx48_0, hf48_0⟩ := Kd.R_celln 0 HO_6.out ((ji40) : Int) p48 q48
                           replace p48 := eq_true p48
                           replace q48 := eq_true q48
                           have HP51 := Kd.R_putn HO_6.out ((ji40) : Int) ji47
                           rw [← Ny203.out] at HP51
                           have HQ51 := Aside0.mk HP51
                           clear HP51
                           refine hK.out _ _ ⟨HS0_, HS1_⟩ (fun hHeld => ?_)
                           clear hK K
                           refine normQ (N := 107) ?_
                           refine pureQ 24 108 HT_.out ?_
                           refine pureQ 25 109 HT_.out ?_
                           refine last_ (i := 26) (N := none) #[true, true, true, true, true, true, true, true, true, true, true, true, true, true, true, true, true, true, true, true, true, true, true, true, true, true, true] rfl rfl (one_of HT_.out (by kernel_rfl)) (by decide) (fun K hK => ?_)
                           refine skip_ (w1 := ?_) (by rfl) rfl ?_ ?_
                           rotate_left
                           ·
                            go_simp
                            rfl
                           refine hK.out _ _ ?_
                           clear hK K
                           refine done_ (done_of HT_.out (by kernel_rfl)) ?_
                           try go_wp2
                           (try (simp only [Exit.noGoto_normal, Exit.noGoto_exit, Exit.noGoto_ret]; try go_wp2))
                           (try simp only [← hl6_5])
                           go_roundg k5
                           case measure => have := HK1.out; have := HK2.out; have := HK3.out; have := HK4.out; have := HK5.out; omega
                           case rel => exact ⟨(y203), (wrap64 (x81_5 + 1)), (by first | rfl | (simp; done) | (simp [*]; done)), H', ⟨by have := HK1.out; have := HK2.out; have := HK3.out; have := HK4.out; have := HK5.out; omega⟩, ⟨by (try simp only [hl6_1]); (try simp only [hl6_2]); (try simp only [hl6_3]); (try simp only [hl6_4]); (try simp only [hl6_5]); (with_reducible repeat (first | apply Kd.R_alloc | apply Kd.R_drewN | apply Kd.R_drew)); exact HQ51.out⟩, ⟨by repeat (first | (with_reducible first | exact HB.out | apply below_alloc | apply pw_below_drewN | apply below_drew1 | refine below_set ?_ GB38.out) | exact HB.out)⟩⟩
                          ·
                           rw [if_neg c45] at H
                           exact absurd H (by simp)
                         ·
                          rw [if_neg c44] at H
                          exact absurd H (by simp)
                        ·
                         rw [if_neg c42] at H
                         exact absurd H (by simp)
                       ·
                        rw [if_neg c41] at H
                        exact absurd H (by simp)
                      ·
                       rw [if_neg c39] at H
                       have c39b0 : decide (x81_5 < t188) = false := decide_eq_false c39
                       (try simp only [hl6_1] at c39b0)
                       (try simp only [hl6_2] at c39b0)
                       (try simp only [hl6_3] at c39b0)
                       (try simp only [hl6_4] at c39b0)
                       (try simp only [hl6_5] at c39b0)
                       clear c39
                       obtain ⟨ji52, hji52⟩ : ∃ j_ : Int, (wrap64 ((wrap64 (x67_4 * t188)) + x67_4)) = j_ := ⟨_, rfl⟩
                       replace H : (if 0 ≤ (ji52) then (if (ji52) < (x6_5.length : Int) then (if (rd x6_5 (ji52)) < 0 then (some (([] : List Int), false)) else (dbm_Close.l3 k5 t188 x6_5 x63_3 t188 x63_3 t188 (wrap64 (x67_4 + 1)))) else (none)) else (none)) = some (r1, r2) := by first | (rw [hji52] at H; exact H) | (simp only [hji52] at H ⊢; exact H)
                       have hji52w : (IntKind.i64.wrap ((wrap64 (x67_4 * t188)) + x67_4)) = ji52 := (i64_w _).trans hji52
                       by_cases c53 : 0 ≤ (ji52)
                       ·
                        rw [if_pos c53] at H
                        have c53b0 : decide (0 ≤ (ji52)) = true := decide_eq_true c53
                        (try simp only [hl6_1] at c53b0)
                        (try simp only [hl6_2] at c53b0)
                        (try simp only [hl6_3] at c53b0)
                        (try simp only [hl6_4] at c53b0)
                        (try simp only [hl6_5] at c53b0)
                        clear c53
                        by_cases c54 : (ji52) < (x6_5.length : Int)
                        ·
                         rw [if_pos c54] at H
                         have c54b0 : decide ((ji52) < (x6_5.length : Int)) = true := decide_eq_true c54
                         (try simp only [hl6_1] at c54b0)
                         (try simp only [hl6_2] at c54b0)
                         (try simp only [hl6_3] at c54b0)
                         (try simp only [hl6_4] at c54b0)
                         (try simp only [hl6_5] at c54b0)
                         clear c54
                         by_cases c55 : (rd x6_5 (ji52)) < 0
                         ·
                          rw [if_pos c55] at H
                          have c55b0 : decide ((rd x6_5 (ji52)) < 0) = true := decide_eq_true c55
                          (try simp only [hl6_1] at c55b0)
                          (try simp only [hl6_2] at c55b0)
                          (try simp only [hl6_3] at c55b0)
                          (try simp only [hl6_4] at c55b0)
                          (try simp only [hl6_5] at c55b0)
                          clear c55
                          simp only [Option.some.injEq, Prod.mk.injEq] at H
                          obtain ⟨rfl, rfl⟩ := H
                          have p204 : 0 ≤ ((ji52) : Int) := of_decide_eq_true (by first | (with_reducible assumption) | assumption)
                          have q204 : (ji52) < (x6_5.length : Int) := of_decide_eq_true (by first | (with_reducible assumption) | assumption)
                          obtain ⟨ad204, e204, hx204_0⟩ := Kd.at_int (Kd.R_reads' HO_6.out).2.2 (ji52) p204 q204
                          obtain rfl : (⟨go38, 0, none⟩ : Addr) = ad204 := (by injection e204)
                          (first | simp only [add_plain] at hx204_0 | simp only [add_at] at hx204_0 | simp only [Addr.add, Nat.zero_add] at hx204_0 | skip)
                          replace p204 := eq_true p204
                          replace q204 := eq_true q204
                          go_wp2
                          (try (simp only [Exit.noGoto_normal, Exit.noGoto_exit, Exit.noGoto_ret]; try go_wp2))
                          go_ret2
                          exact ⟨_, by first | rfl | (simp [errW_none, errW_some] <;> rfl) | (simp only [← hji33, ← hji52]; first | rfl | (simp [errW_none, errW_some] <;> rfl)) | (simp [*, errW_none, errW_some] <;> rfl) | kernel_rfl, by first | exact Kd.R_nil _ _ _ _ _ | exact Kd.N_nil _ _ _ _ _ | exact Kd.V_nil _ _ _ _ _ | exact Kd.Q_nil _ _ _ _ _ | exact Kd.S_nil _ _ _ _ _, by repeat (first | (with_reducible first | exact HB.out | apply below_alloc | apply pw_below_drewN | apply below_drew1) | exact HB.out)⟩
                         ·
                          rw [if_neg c55] at H
                          have c55b0 : decide ((rd x6_5 (ji52)) < 0) = false := decide_eq_false c55
                          (try simp only [hl6_1] at c55b0)
                          (try simp only [hl6_2] at c55b0)
                          (try simp only [hl6_3] at c55b0)
                          (try simp only [hl6_4] at c55b0)
                          (try simp only [hl6_5] at c55b0)
                          clear c55
                          have H' := Aside0.mk H
                          clear H
                          have p204 : 0 ≤ ((ji52) : Int) := of_decide_eq_true (by first | (with_reducible assumption) | assumption)
                          have q204 : (ji52) < (x6_5.length : Int) := of_decide_eq_true (by first | (with_reducible assumption) | assumption)
                          obtain ⟨ad204, e204, hx204_0⟩ := Kd.at_int (Kd.R_reads' HO_6.out).2.2 (ji52) p204 q204
                          obtain rfl : (⟨go38, 0, none⟩ : Addr) = ad204 := (by injection e204)
                          (first | simp only [add_plain] at hx204_0 | simp only [add_at] at hx204_0 | simp only [Addr.add, Nat.zero_add] at hx204_0 | skip)
                          replace p204 := eq_true p204
                          replace q204 := eq_true q204
                          go_wp2
                          (try (simp only [Exit.noGoto_normal, Exit.noGoto_exit, Exit.noGoto_ret]; try go_wp2))
                          (try simp only [← hl6_4, ← hl6_5])
                          go_roundg k5
                          case measure => have := HK1.out; have := HK2.out; have := HK3.out; have := HK4.out; have := HK5.out; omega
                          case rel => exact ⟨(x6_5), (wrap64 (x67_4 + 1)), (by first | rfl | (simp; done) | (simp [*]; done)), H', ⟨by have := HK1.out; have := HK2.out; have := HK3.out; have := HK4.out; have := HK5.out; omega⟩, ⟨by (try simp only [hl6_1]); (try simp only [hl6_2]); (try simp only [hl6_3]); (try simp only [hl6_4]); (try simp only [hl6_5]); (with_reducible repeat (first | apply Kd.R_alloc | apply Kd.R_drewN | apply Kd.R_drew)); exact HO_6.out⟩, bpk HB⟩
                        ·
                         rw [if_neg c54] at H
                         exact absurd H (by simp)
                       ·
                        rw [if_neg c53] at H
                        exact absurd H (by simp)
                  ·
                   rw [if_neg c35] at H
                   exact absurd H (by simp)
                 ·
                  rw [if_neg c34] at H
                  exact absurd H (by simp)
                ·
                 rw [if_neg c32] at H
                 have c32b0 : decide (x67_4 < t188) = false := decide_eq_false c32
                 (try simp only [hl6_1] at c32b0)
                 (try simp only [hl6_2] at c32b0)
                 (try simp only [hl6_3] at c32b0)
                 (try simp only [hl6_4] at c32b0)
                 clear c32
                 have H' := Aside0.mk H
                 clear H
                 go_wp2
                 (try (simp only [Exit.noGoto_normal, Exit.noGoto_exit, Exit.noGoto_ret]; try go_wp2))
                 (try simp only [← hl6_3, ← hl6_4])
                 go_roundg k4
                 case measure => have := HK1.out; have := HK2.out; have := HK3.out; have := HK4.out; omega
                 case rel => exact ⟨(x6_4), (wrap64 (x63_3 + 1)), (by first | rfl | (simp; done) | (simp [*]; done)), H', ⟨by have := HK1.out; have := HK2.out; have := HK3.out; have := HK4.out; omega⟩, ⟨by (try simp only [hl6_1]); (try simp only [hl6_2]); (try simp only [hl6_3]); (try simp only [hl6_4]); (with_reducible repeat (first | apply Kd.R_alloc | apply Kd.R_drewN | apply Kd.R_drew)); exact HO_6.out⟩, bpk HB⟩
             ·
              rw [if_neg c29] at H
              have c29b0 : decide (x63_3 < t188) = false := decide_eq_false c29
              (try simp only [hl6_1] at c29b0)
              (try simp only [hl6_2] at c29b0)
              (try simp only [hl6_3] at c29b0)
              clear c29
              have H' := Aside0.mk H
              clear H
              go_wp2
              (try (simp only [Exit.noGoto_normal, Exit.noGoto_exit, Exit.noGoto_ret]; try go_wp2))
              go_loopg [124] k3 (fun kq v124 w' => ∃ (x6_4 : List Int) (x124_4 : Int), v124 = .int .i64 x124_4 ∧ Aside0 (dbm_Close.l5 kq x6_4 (x6_3.length : Int) x124_4 = some (r1, r2)) ∧ Aside0 (kq ≤ k3) ∧ Aside0 (Kd.R (Kd.int .i64) 2 w' w.heap.size (fun _ => True) (.slice Ao9 x6_3.length co9) x6_4) ∧ Aside0 (Below w.heap.size w w'))
              case atStart => exact ⟨(x6_3), (0), (by first | rfl | (simp; done) | (simp [*]; done)), H', ⟨Nat.le_refl _⟩, ⟨by (try simp only [hl6_1]); (try simp only [hl6_2]); (try simp only [hl6_3]); (with_reducible repeat (first | apply Kd.R_alloc | apply Kd.R_drewN | apply Kd.R_drew)); exact HO_6.out⟩, bpk HB⟩
              case round =>
               clear H'
               try clear p1
               try clear q1
               try clear hx1
               try clear c2
               try clear p2
               try clear q2
               try clear hx2
               try clear hf2
               try clear c3
               try clear p3
               try clear q3
               try clear c4
               try clear p4
               try clear q4
               try clear hx4
               try clear hf4
               try clear c5
               try clear p6
               try clear p14
               try clear q14
               try clear hx14
               try clear p15
               try clear q15
               try clear p19
               try clear q19
               try clear hx19
               try clear p20
               try clear q20
               try clear hx20
               try clear c21
               try clear c21b0
               try clear c22
               try clear c22b0
               try clear c23
               try clear c23b0
               try clear p24
               try clear q24
               try clear p25
               try clear q25
               try clear hx25
               try clear hf25
               try clear p26
               try clear q26
               try clear c29
               try clear c29b0
               try clear c32
               try clear c32b0
               try clear c34
               try clear c34b0
               try clear c35
               try clear c35b0
               try clear c36
               try clear c36b0
               try clear c36b1
               try clear p37
               try clear q37
               try clear p38
               try clear q38
               try clear c39
               try clear c39b0
               try clear c41
               try clear c41b0
               try clear c42
               try clear c42b0
               try clear c44
               try clear c44b0
               try clear c45
               try clear c45b0
               try clear p48
               try clear q48
               try clear hx48
               try clear hf48
               try clear c53
               try clear c53b0
               try clear c54
               try clear c54b0
               try clear c55
               try clear c55b0
               try clear hx14_0
               try clear hx194_0
               try clear hx197_0
               try clear hx199_0
               try clear hx200_0
               try clear hx201_0
               try clear hx204_0
               try clear hx25_0
               try clear hx48_0
               try clear p1
               try clear p14
               try clear p15
               try clear p19
               try clear p194
               try clear p197
               try clear p199
               try clear p2
               try clear p200
               try clear p201
               try clear p204
               try clear p24
               try clear p25
               try clear p26
               try clear p3
               try clear p37
               try clear p38
               try clear p48
               try clear p6
               try clear q1
               try clear q14
               try clear q15
               try clear q19
               try clear q194
               try clear q197
               try clear q199
               try clear q2
               try clear q200
               try clear q201
               try clear q204
               try clear q24
               try clear q25
               try clear q26
               try clear q37
               try clear q38
               try clear q48
               obtain ⟨x6_4, x124_4, rfl, HA, HK4, HO_6, HB⟩ := hrel
               have hl6_4 := (Kd.R_reads' HO_6.out).1
               rw [hl6_4] at HO_6
               (try simp only [hl6_4])
               cases gk with
               | zero => exact absurd HA.out (by simp [dbm_Close.l5])
               | succ k4 =>
                have H := HA.out
                clear HA
                simp only [dbm_Close.l5] at H
                by_cases c56 : x124_4 < (x6_3.length : Int)
                ·
                 rw [if_pos c56] at H
                 have c56b0 : decide (x124_4 < (x6_3.length : Int)) = true := decide_eq_true c56
                 (try simp only [hl6_1] at c56b0)
                 (try simp only [hl6_2] at c56b0)
                 (try simp only [hl6_3] at c56b0)
                 (try simp only [hl6_4] at c56b0)
                 clear c56
                 by_cases c57 : 0 ≤ x124_4
                 ·
                  rw [if_pos c57] at H
                  have c57b0 : decide (0 ≤ x124_4) = true := decide_eq_true c57
                  (try simp only [hl6_1] at c57b0)
                  (try simp only [hl6_2] at c57b0)
                  (try simp only [hl6_3] at c57b0)
                  (try simp only [hl6_4] at c57b0)
                  clear c57
                  by_cases c58 : x124_4 < (x6_4.length : Int)
                  ·
                   rw [if_pos c58] at H
                   have c58b0 : decide (x124_4 < (x6_4.length : Int)) = true := decide_eq_true c58
                   (try simp only [hl6_1] at c58b0)
                   (try simp only [hl6_2] at c58b0)
                   (try simp only [hl6_3] at c58b0)
                   (try simp only [hl6_4] at c58b0)
                   clear c58
                   replace H := Option.bind_eq_some_iff.mp H
                   obtain ⟨t206, A590, H⟩ := H
                   replace H : (dbm_Close.l5 k4 (x6_4.set (x124_4 : Int).toNat t206) (x6_3.length : Int) (wrap64 (x124_4 + 1))) = some (r1, r2) := H
                   have A59 := Aside0.mk A590
                   clear A590
                   obtain ⟨y207, hy207⟩ : ∃ y_ : List Int, y_ = (x6_4.set (x124_4 : Int).toNat t206) := ⟨_, rfl⟩
                   replace H : (dbm_Close.l5 k4 y207 (x6_3.length : Int) (wrap64 (x124_4 + 1))) = some (r1, r2) := by first | (rw [hy207]; with_reducible exact H) | (have H2_ := (Option.bind_some _ _).symm.trans H; rw [hy207]; with_reducible exact H2_) | (have H2_ := (Option.bind_some _ _).symm.trans H; with_reducible exact H2_) | with_reducible exact H | (rw [hy207]; exact H) | exact H
                   have Ny207 := Aside0.mk hy207
                   clear hy207
                   have H' := Aside0.mk H
                   clear H
                   have p61 : 0 ≤ (x124_4 : Int) := of_decide_eq_true (by first | (with_reducible assumption) | assumption)
                   have q61 : (x124_4 : Int) < ((x6_4.length : Int) : Int) := of_decide_eq_true (by first | (with_reducible assumption) | assumption)
                   obtain ⟨go61, co61, eo61, gb61, gl61, cl61, HG61⟩ := Kd.R_form HO_6.out (by omega)
                   (first | cases eo61 | (injection eo61 with ea_ en_ ec_; (first | subst ea_ | (injection ea_ with ea_; subst ea_)); subst ec_; clear en_))
                   have GB61 := Aside0.mk gb61
                   have GG61 := Aside0.mk HG61
                   clear gb61 gl61 HG61
                   clear p61 q61
                   have p205 : 0 ≤ (x124_4 : Int) := of_decide_eq_true (by first | (with_reducible assumption) | assumption)
                   have q205 : x124_4 < (x6_4.length : Int) := of_decide_eq_true (by first | (with_reducible assumption) | assumption)
                   obtain ⟨ad205, e205, hx205_0⟩ := Kd.at_int (Kd.R_reads' HO_6.out).2.2 x124_4 p205 q205
                   obtain rfl : (⟨go61, 0, none⟩ : Addr) = ad205 := (by injection e205)
                   (first | simp only [add_plain] at hx205_0 | simp only [add_at] at hx205_0 | simp only [Addr.add, Nat.zero_add] at hx205_0 | skip)
                   replace p205 := eq_true p205
                   replace q205 := eq_true q205
                   go_wp2_with (first | ((with_reducible refine gate_callee (f := 36) rfl ?_); refine goesL_ (some 133) rfl rfl Try.func36 (by kernel_rfl) rfl #[.int .i64 (rd x6_4 x124_4)] rfl (by (try simp only [List.map_toArray, List.map_cons, List.map_nil]); first | done | rfl | (simp only [List.length_drop, List.length_take]; rfl)) ?_; (with_reducible refine (dbm_taken.calls (rd x6_4 x124_4) t206 _ A59.out).mono ?_); rintro e w62 ⟨rfl, hb⟩; refine ⟨_, rfl, ?_⟩; have n0_ := Aside0.mk (Kd.R_below (by (with_reducible repeat (first | apply Kd.R_alloc | apply Kd.R_drewN | apply Kd.R_drew)); exact HO_6.out) hb); have n1_ := bst HB hb; clear HO_6; clear HB; have HO_6 := n0_; have HB := n1_; clear n0_ n1_; (try clear hb); (try clear hb2); (try clear hk); (try clear hi); have p60 : 0 ≤ (x124_4 : Int) := of_decide_eq_true (by first | (with_reducible assumption) | assumption); have q60 : (x124_4 : Int) < ((x6_4.length : Int) : Int) := of_decide_eq_true (by first | (with_reducible assumption) | assumption); obtain ⟨hx60_0, hf60_0⟩ := Kd.R_celln 0 HO_6.out (x124_4 : Int) p60 q60; replace p60 := eq_true p60; replace q60 := eq_true q60; obtain ⟨hy63_, hz63_⟩ := Kd.R_celln 0 HO_6.out (x124_4 : Int) (of_decide_eq_true (by first | (with_reducible assumption) | assumption)) (of_decide_eq_true (by first | (with_reducible assumption) | assumption)); have HP63 := Kd.R_putg HO_6.out (x124_4 : Int) t206) | ((with_reducible refine gate_store (t := 2) (p := 134) rfl ?_); refine store_event (t := 2) (p := 134) (v := ?vo_w64) (w1 := (w62.setCell ⟨go61, (x124_4 : Int).toNat, none⟩ (.int .i64 t206))) ?hg ?ho ?hn ?hr ?_; (case ho => rfl); (case hg => rfl); (case hn => rfl); (case hr => first | (go_simp; done) | (go_simp; rfl)); intro w64 hw; have hg : w62.grownBy w64 (some go61) := (by rw [hw]; exact HP63.2); have hp_ : Kd.R (Kd.int .i64) 2 w64 w.heap.size (fun _ => True) (.slice (some ⟨go61, 0, none⟩) x6_4.length co9) y207 := (by rw [hw, Ny207.out]; exact HP63.1); clear HP63; have n0_ := Aside0.mk (hp_); have n1_ := Aside0.mk ((by rw [hw]; exact below_set (HB.out) GB61.out : Below w.heap.size w w64)); clear HO_6; clear HB; have HO_6 := n0_; have HB := n1_; clear n0_ n1_; clear hg hw hp_))
                   (try (simp only [Exit.noGoto_normal, Exit.noGoto_exit, Exit.noGoto_ret]; try go_wp2))
                   (try simp only [← hl6_4])
                   go_roundg k4
                   case measure => have := HK1.out; have := HK2.out; have := HK3.out; have := HK4.out; omega
                   case rel => exact ⟨(y207), (wrap64 (x124_4 + 1)), (by first | rfl | (simp; done) | (simp [*]; done)), H', ⟨by have := HK1.out; have := HK2.out; have := HK3.out; have := HK4.out; omega⟩, ⟨by (try simp only [hl6_1]); (try simp only [hl6_2]); (try simp only [hl6_3]); (try simp only [hl6_4]); (with_reducible repeat (first | apply Kd.R_alloc | apply Kd.R_drewN | apply Kd.R_drew)); exact HO_6.out⟩, bpk HB⟩
                  ·
                   rw [if_neg c58] at H
                   exact absurd H (by simp)
                 ·
                  rw [if_neg c57] at H
                  exact absurd H (by simp)
                ·
                 rw [if_neg c56] at H
                 have c56b0 : decide (x124_4 < (x6_3.length : Int)) = false := decide_eq_false c56
                 (try simp only [hl6_1] at c56b0)
                 (try simp only [hl6_2] at c56b0)
                 (try simp only [hl6_3] at c56b0)
                 (try simp only [hl6_4] at c56b0)
                 clear c56
                 simp only [Option.some.injEq, Prod.mk.injEq] at H
                 obtain ⟨rfl, rfl⟩ := H
                 go_wp2
                 (try (simp only [Exit.noGoto_normal, Exit.noGoto_exit, Exit.noGoto_ret]; try go_wp2))
                 go_ret2
                 exact ⟨_, by first | rfl | (simp [errW_none, errW_some] <;> rfl) | (simp [*, errW_none, errW_some] <;> rfl) | kernel_rfl, by (with_reducible repeat (first | apply Kd.R_alloc | apply Kd.R_drewN | apply Kd.R_drew)); exact HO_6.out, by repeat (first | (with_reducible first | exact HB.out | apply below_alloc | apply pw_below_drewN | apply below_drew1) | exact HB.out)⟩
    ·
     rw [if_neg c5] at H
     exact absurd H (by simp)
   ·
    rw [if_neg c4] at H
    exact absurd H (by simp)
  ·
   replace c3 := Bool.eq_false_iff.mpr c3
   subst c3
   have H1 : (some (([] : List Int), false)) = some (r1, r2) := by rw [if_neg (show ¬ (false = true) by decide)] at H; exact H
   clear H
   have H := H1
   clear H1
   simp only [Option.some.injEq, Prod.mk.injEq] at H
   obtain ⟨rfl, rfl⟩ := H
   go_enter Try.func23, Try.ntmps23
   go_wp2_with (first | ((with_reducible refine gate_callee (f := 34) rfl ?_); refine goesL_ (some 16) rfl rfl Try.func34 (by kernel_rfl) rfl #[.slice A0 l0.length c0] rfl (by (try simp only [List.map_toArray, List.map_cons, List.map_nil]); first | done | rfl | (simp only [List.length_drop, List.length_take]; rfl)) ?_; (with_reducible refine (dbm_size.calls k _ _ l0 t188 false _ ?side1 ?side2 A2.out).mono ?_); (case side1 => repeat (first | exact HR0.out | (with_reducible refine Kd.C_alloc ?_ _) | (with_reducible refine Kd.C_drewN ?_ _) | (with_reducible refine Kd.C_drew ?_))); (case side2 => exact HC0.out); rintro e w' ⟨rfl, ⟨nd, rfl⟩⟩; refine ⟨_, rfl, ?_⟩))
   (try (simp only [Exit.noGoto_normal, Exit.noGoto_exit, Exit.noGoto_ret]; try go_wp2))
   go_ret2
   exact ⟨_, by first | rfl | (simp [errW_none, errW_some] <;> rfl) | (simp [*, errW_none, errW_some] <;> rfl) | kernel_rfl, by first | exact Kd.R_nil _ _ _ _ _ | exact Kd.N_nil _ _ _ _ _ | exact Kd.V_nil _ _ _ _ _ | exact Kd.Q_nil _ _ _ _ _ | exact Kd.S_nil _ _ _ _ _, by repeat (first | (with_reducible first | exact HB.out | apply below_alloc | apply pw_below_drewN | apply below_drew1) | exact HB.out)⟩

end Go.Proofs.Ytklignhpkojmhaa.P
