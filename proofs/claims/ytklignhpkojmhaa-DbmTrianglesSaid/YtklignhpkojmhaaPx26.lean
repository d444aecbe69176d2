-- PRINTED by print.py (a twelfth state) out of the translation. Not trusted: Lean checks it.
import Derived.Test.YtklignhpkojmhaaPx0
import Derived.Test.YtklignhpkojmhaaPx17
import Derived.Test.YtklignhpkojmhaaPx22
import Derived.Test.YtklignhpkojmhaaPx24
namespace Go.Proofs.Ytklignhpkojmhaa.P
open Go.RowKit Go.Proofs.YtklignhpkojmhaaW.PrintWords Go.Proofs.YtklignhpkojmhaaW.PrintLast Go.Proofs.YtklignhpkojmhaaW.PrintMore Go.Proofs.YtklignhpkojmhaaO
attribute [local go_sem] max2_int min2_int max_two min_two max_three min_three max_four min_four   -- for this text's walks alone
set_option linter.unusedVariables false
set_option linter.unusedSimpArgs false

/-! ### gimballaw10_DbmTriangles: function 9 -/
mutual
def gimballaw10_DbmTriangles.l0 : Nat → List Int → Int → Bool → Int → Option (Bool)
  | 0, _, _, _, _ => none
  | k + 1, x0, x3, x4, x5 => if x5 < x3 then (gimballaw10_DbmTriangles.j1 k x0 x3 x4 x5 x4) else (gimballaw10_DbmTriangles.j1 k x0 x3 x4 x5 false)
def gimballaw10_DbmTriangles.j1 : Nat → List Int → Int → Bool → Int → Bool → Option (Bool)
  | 0, _, _, _, _, _ => none
  | k + 1, x0, x3, x4, x5, x19 => if x19 = true then (if 0 ≤ (wrap64 ((wrap64 (x5 * x3)) + x5)) then (if (wrap64 ((wrap64 (x5 * x3)) + x5)) < (x0.length : Int) then (gimballaw10_DbmTriangles.l1 k x0 x3 ((rd x0 (wrap64 ((wrap64 (x5 * x3)) + x5))) == 0) x5 0) else (none)) else (none)) else ((dbm_Closed.f k x0).bind fun t356 => (if (t356 == x4) = true then ((gimballaw10_awake.f k).bind fun t357 => (some t357)) else (some false)))
def gimballaw10_DbmTriangles.l1 : Nat → List Int → Int → Bool → Int → Int → Option (Bool)
  | 0, _, _, _, _, _ => none
  | k + 1, x0, x3, x4, x5, x6 => if x6 < x3 then (gimballaw10_DbmTriangles.j3 k x0 x3 x4 x5 x6 x4) else (gimballaw10_DbmTriangles.j3 k x0 x3 x4 x5 x6 false)
def gimballaw10_DbmTriangles.j3 : Nat → List Int → Int → Bool → Int → Int → Bool → Option (Bool)
  | 0, _, _, _, _, _, _ => none
  | k + 1, x0, x3, x4, x5, x6, x36 => if x36 = true then (if 0 ≤ (wrap64 ((wrap64 (x5 * x3)) + x6)) then (if (wrap64 ((wrap64 (x5 * x3)) + x6)) < (x0.length : Int) then ((gimballaw10_taken.f (rd x0 (wrap64 ((wrap64 (x5 * x3)) + x6)))).bind fun t361 => (gimballaw10_DbmTriangles.l2 k x0 x3 ((rd x0 (wrap64 ((wrap64 (x5 * x3)) + x6))) == t361) x5 x6 0)) else (none)) else (none)) else (gimballaw10_DbmTriangles.l0 k x0 x3 x4 (wrap64 (x5 + 1)))
def gimballaw10_DbmTriangles.l2 : Nat → List Int → Int → Bool → Int → Int → Int → Option (Bool)
  | 0, _, _, _, _, _, _ => none
  | k + 1, x0, x3, x4, x5, x6, x7 => if x7 < x3 then (gimballaw10_DbmTriangles.j5 k x0 x3 x4 x5 x6 x7 x4) else (gimballaw10_DbmTriangles.j5 k x0 x3 x4 x5 x6 x7 false)
def gimballaw10_DbmTriangles.j5 : Nat → List Int → Int → Bool → Int → Int → Int → Bool → Option (Bool)
  | 0, _, _, _, _, _, _, _ => none
  | k + 1, x0, x3, x4, x5, x6, x7, x62 => if x62 = true then (if 0 ≤ (wrap64 ((wrap64 (x5 * x3)) + x7)) then (if (wrap64 ((wrap64 (x5 * x3)) + x7)) < (x0.length : Int) then ((gimballaw10_taken.f (rd x0 (wrap64 ((wrap64 (x5 * x3)) + x7)))).bind fun t363 => (if 0 ≤ (wrap64 ((wrap64 (x7 * x3)) + x6)) then (if (wrap64 ((wrap64 (x7 * x3)) + x6)) < (x0.length : Int) then ((gimballaw10_taken.f (rd x0 (wrap64 ((wrap64 (x7 * x3)) + x6)))).bind fun t365 => (if t363 < 4611686018427387904 then (if t365 < 4611686018427387904 then (if 0 ≤ (wrap64 ((wrap64 (x5 * x3)) + x6)) then (if (wrap64 ((wrap64 (x5 * x3)) + x6)) < (x0.length : Int) then ((gimballaw10_taken.f (wrap64 (t363 + t365))).bind fun t367 => (gimballaw10_DbmTriangles.l2 k x0 x3 (decide ((rd x0 (wrap64 ((wrap64 (x5 * x3)) + x6))) ≤ t367)) x5 x6 (wrap64 (x7 + 1)))) else (none)) else (none)) else (gimballaw10_DbmTriangles.l2 k x0 x3 x4 x5 x6 (wrap64 (x7 + 1)))) else (gimballaw10_DbmTriangles.l2 k x0 x3 x4 x5 x6 (wrap64 (x7 + 1))))) else (none)) else (none))) else (none)) else (none)) else (gimballaw10_DbmTriangles.l1 k x0 x3 x4 x5 (wrap64 (x6 + 1)))
end
def gimballaw10_DbmTriangles.f (k : Nat) (l0 : List Int) : Option (Bool) := (gimballaw10_nodes.f k l0).bind fun t355 => (gimballaw10_DbmTriangles.l0 k l0 t355 (decide (t355 ≥ 0)) 0)
theorem gimballaw10_DbmTriangles.mono_l : ∀ k, (∀ y0 y1 y2 y3, LeO (gimballaw10_DbmTriangles.l0 k y0 y1 y2 y3) (gimballaw10_DbmTriangles.l0 (k + 1) y0 y1 y2 y3)) ∧ (∀ y0 y1 y2 y3 y4, LeO (gimballaw10_DbmTriangles.j1 k y0 y1 y2 y3 y4) (gimballaw10_DbmTriangles.j1 (k + 1) y0 y1 y2 y3 y4)) ∧ (∀ y0 y1 y2 y3 y4, LeO (gimballaw10_DbmTriangles.l1 k y0 y1 y2 y3 y4) (gimballaw10_DbmTriangles.l1 (k + 1) y0 y1 y2 y3 y4)) ∧ (∀ y0 y1 y2 y3 y4 y5, LeO (gimballaw10_DbmTriangles.j3 k y0 y1 y2 y3 y4 y5) (gimballaw10_DbmTriangles.j3 (k + 1) y0 y1 y2 y3 y4 y5)) ∧ (∀ y0 y1 y2 y3 y4 y5, LeO (gimballaw10_DbmTriangles.l2 k y0 y1 y2 y3 y4 y5) (gimballaw10_DbmTriangles.l2 (k + 1) y0 y1 y2 y3 y4 y5)) ∧ (∀ y0 y1 y2 y3 y4 y5 y6, LeO (gimballaw10_DbmTriangles.j5 k y0 y1 y2 y3 y4 y5 y6) (gimballaw10_DbmTriangles.j5 (k + 1) y0 y1 y2 y3 y4 y5 y6))
  | 0 => ⟨fun _ _ _ _ r h => by simp [gimballaw10_DbmTriangles.l0] at h, fun _ _ _ _ _ r h => by simp [gimballaw10_DbmTriangles.j1] at h, fun _ _ _ _ _ r h => by simp [gimballaw10_DbmTriangles.l1] at h, fun _ _ _ _ _ _ r h => by simp [gimballaw10_DbmTriangles.j3] at h, fun _ _ _ _ _ _ r h => by simp [gimballaw10_DbmTriangles.l2] at h, fun _ _ _ _ _ _ _ r h => by simp [gimballaw10_DbmTriangles.j5] at h⟩
  | k + 1 => by
    obtain ⟨ih0, ih1, ih2, ih3, ih4, ih5⟩ := gimballaw10_DbmTriangles.mono_l k
    refine ⟨?_, ?_, ?_, ?_, ?_, ?_⟩
    · intro y0 y1 y2 y3
      unfold gimballaw10_DbmTriangles.l0
      repeat' first
      | (with_reducible exact ih0 _ _ _ _)
      | (with_reducible exact ih1 _ _ _ _ _)
      | (with_reducible exact ih2 _ _ _ _ _)
      | (with_reducible exact ih3 _ _ _ _ _ _)
      | (with_reducible exact ih4 _ _ _ _ _ _)
      | (with_reducible exact ih5 _ _ _ _ _ _ _)
      | (with_reducible exact dbm_Closed.mono _ _)
      | (with_reducible exact gimballaw10_awake.mono _)
      | (with_reducible exact gimballaw10_nodes.mono _ _)
      | (with_reducible exact LeO.refl _)
      | (with_reducible exact LeO.none _)
      | (with_reducible refine LeO.ite ?_ ?_)
      | (with_reducible refine LeO.bind ?_ (fun _ => ?_))
      | exact ih0 _ _ _ _
      | exact ih1 _ _ _ _ _
      | exact ih2 _ _ _ _ _
      | exact ih3 _ _ _ _ _ _
      | exact ih4 _ _ _ _ _ _
      | exact ih5 _ _ _ _ _ _ _
      | exact dbm_Closed.mono _ _
      | exact gimballaw10_awake.mono _
      | exact gimballaw10_nodes.mono _ _
      | exact LeO.none _
      | refine LeO.ite ?_ ?_
      | refine LeO.bind ?_ (fun _ => ?_)
    · intro y0 y1 y2 y3 y4
      unfold gimballaw10_DbmTriangles.j1
      repeat' first
      | (with_reducible exact ih0 _ _ _ _)
      | (with_reducible exact ih1 _ _ _ _ _)
      | (with_reducible exact ih2 _ _ _ _ _)
      | (with_reducible exact ih3 _ _ _ _ _ _)
      | (with_reducible exact ih4 _ _ _ _ _ _)
      | (with_reducible exact ih5 _ _ _ _ _ _ _)
      | (with_reducible exact dbm_Closed.mono _ _)
      | (with_reducible exact gimballaw10_awake.mono _)
      | (with_reducible exact gimballaw10_nodes.mono _ _)
      | (with_reducible exact LeO.refl _)
      | (with_reducible exact LeO.none _)
      | (with_reducible refine LeO.ite ?_ ?_)
      | (with_reducible refine LeO.bind ?_ (fun _ => ?_))
      | exact ih0 _ _ _ _
      | exact ih1 _ _ _ _ _
      | exact ih2 _ _ _ _ _
      | exact ih3 _ _ _ _ _ _
      | exact ih4 _ _ _ _ _ _
      | exact ih5 _ _ _ _ _ _ _
      | exact dbm_Closed.mono _ _
      | exact gimballaw10_awake.mono _
      | exact gimballaw10_nodes.mono _ _
      | exact LeO.none _
      | refine LeO.ite ?_ ?_
      | refine LeO.bind ?_ (fun _ => ?_)
    · intro y0 y1 y2 y3 y4
      unfold gimballaw10_DbmTriangles.l1
      repeat' first
      | (with_reducible exact ih0 _ _ _ _)
      | (with_reducible exact ih1 _ _ _ _ _)
      | (with_reducible exact ih2 _ _ _ _ _)
      | (with_reducible exact ih3 _ _ _ _ _ _)
      | (with_reducible exact ih4 _ _ _ _ _ _)
      | (with_reducible exact ih5 _ _ _ _ _ _ _)
      | (with_reducible exact dbm_Closed.mono _ _)
      | (with_reducible exact gimballaw10_awake.mono _)
      | (with_reducible exact gimballaw10_nodes.mono _ _)
      | (with_reducible exact LeO.refl _)
      | (with_reducible exact LeO.none _)
      | (with_reducible refine LeO.ite ?_ ?_)
      | (with_reducible refine LeO.bind ?_ (fun _ => ?_))
      | exact ih0 _ _ _ _
      | exact ih1 _ _ _ _ _
      | exact ih2 _ _ _ _ _
      | exact ih3 _ _ _ _ _ _
      | exact ih4 _ _ _ _ _ _
      | exact ih5 _ _ _ _ _ _ _
      | exact dbm_Closed.mono _ _
      | exact gimballaw10_awake.mono _
      | exact gimballaw10_nodes.mono _ _
      | exact LeO.none _
      | refine LeO.ite ?_ ?_
      | refine LeO.bind ?_ (fun _ => ?_)
    · intro y0 y1 y2 y3 y4 y5
      unfold gimballaw10_DbmTriangles.j3
      repeat' first
      | (with_reducible exact ih0 _ _ _ _)
      | (with_reducible exact ih1 _ _ _ _ _)
      | (with_reducible exact ih2 _ _ _ _ _)
      | (with_reducible exact ih3 _ _ _ _ _ _)
      | (with_reducible exact ih4 _ _ _ _ _ _)
      | (with_reducible exact ih5 _ _ _ _ _ _ _)
      | (with_reducible exact dbm_Closed.mono _ _)
      | (with_reducible exact gimballaw10_awake.mono _)
      | (with_reducible exact gimballaw10_nodes.mono _ _)
      | (with_reducible exact LeO.refl _)
      | (with_reducible exact LeO.none _)
      | (with_reducible refine LeO.ite ?_ ?_)
      | (with_reducible refine LeO.bind ?_ (fun _ => ?_))
      | exact ih0 _ _ _ _
      | exact ih1 _ _ _ _ _
      | exact ih2 _ _ _ _ _
      | exact ih3 _ _ _ _ _ _
      | exact ih4 _ _ _ _ _ _
      | exact ih5 _ _ _ _ _ _ _
      | exact dbm_Closed.mono _ _
      | exact gimballaw10_awake.mono _
      | exact gimballaw10_nodes.mono _ _
      | exact LeO.none _
      | refine LeO.ite ?_ ?_
      | refine LeO.bind ?_ (fun _ => ?_)
    · intro y0 y1 y2 y3 y4 y5
      unfold gimballaw10_DbmTriangles.l2
      repeat' first
      | (with_reducible exact ih0 _ _ _ _)
      | (with_reducible exact ih1 _ _ _ _ _)
      | (with_reducible exact ih2 _ _ _ _ _)
      | (with_reducible exact ih3 _ _ _ _ _ _)
      | (with_reducible exact ih4 _ _ _ _ _ _)
      | (with_reducible exact ih5 _ _ _ _ _ _ _)
      | (with_reducible exact dbm_Closed.mono _ _)
      | (with_reducible exact gimballaw10_awake.mono _)
      | (with_reducible exact gimballaw10_nodes.mono _ _)
      | (with_reducible exact LeO.refl _)
      | (with_reducible exact LeO.none _)
      | (with_reducible refine LeO.ite ?_ ?_)
      | (with_reducible refine LeO.bind ?_ (fun _ => ?_))
      | exact ih0 _ _ _ _
      | exact ih1 _ _ _ _ _
      | exact ih2 _ _ _ _ _
      | exact ih3 _ _ _ _ _ _
      | exact ih4 _ _ _ _ _ _
      | exact ih5 _ _ _ _ _ _ _
      | exact dbm_Closed.mono _ _
      | exact gimballaw10_awake.mono _
      | exact gimballaw10_nodes.mono _ _
      | exact LeO.none _
      | refine LeO.ite ?_ ?_
      | refine LeO.bind ?_ (fun _ => ?_)
    · intro y0 y1 y2 y3 y4 y5 y6
      unfold gimballaw10_DbmTriangles.j5
      repeat' first
      | (with_reducible exact ih0 _ _ _ _)
      | (with_reducible exact ih1 _ _ _ _ _)
      | (with_reducible exact ih2 _ _ _ _ _)
      | (with_reducible exact ih3 _ _ _ _ _ _)
      | (with_reducible exact ih4 _ _ _ _ _ _)
      | (with_reducible exact ih5 _ _ _ _ _ _ _)
      | (with_reducible exact dbm_Closed.mono _ _)
      | (with_reducible exact gimballaw10_awake.mono _)
      | (with_reducible exact gimballaw10_nodes.mono _ _)
      | (with_reducible exact LeO.refl _)
      | (with_reducible exact LeO.none _)
      | (with_reducible refine LeO.ite ?_ ?_)
      | (with_reducible refine LeO.bind ?_ (fun _ => ?_))
      | exact ih0 _ _ _ _
      | exact ih1 _ _ _ _ _
      | exact ih2 _ _ _ _ _
      | exact ih3 _ _ _ _ _ _
      | exact ih4 _ _ _ _ _ _
      | exact ih5 _ _ _ _ _ _ _
      | exact dbm_Closed.mono _ _
      | exact gimballaw10_awake.mono _
      | exact gimballaw10_nodes.mono _ _
      | exact LeO.none _
      | refine LeO.ite ?_ ?_
      | refine LeO.bind ?_ (fun _ => ?_)
theorem gimballaw10_DbmTriangles.mono : ∀ a0 k, LeO (gimballaw10_DbmTriangles.f k a0) (gimballaw10_DbmTriangles.f (k + 1) a0) := by
  intro a0 k
  obtain ⟨ih0, ih1, ih2, ih3, ih4, ih5⟩ := gimballaw10_DbmTriangles.mono_l k
  unfold gimballaw10_DbmTriangles.f
  repeat' first
      | (with_reducible exact ih0 _ _ _ _)
      | (with_reducible exact ih1 _ _ _ _ _)
      | (with_reducible exact ih2 _ _ _ _ _)
      | (with_reducible exact ih3 _ _ _ _ _ _)
      | (with_reducible exact ih4 _ _ _ _ _ _)
      | (with_reducible exact ih5 _ _ _ _ _ _ _)
      | (with_reducible exact dbm_Closed.mono _ _)
      | (with_reducible exact gimballaw10_awake.mono _)
      | (with_reducible exact gimballaw10_nodes.mono _ _)
      | (with_reducible exact LeO.refl _)
      | (with_reducible exact LeO.none _)
      | (with_reducible refine LeO.ite ?_ ?_)
      | (with_reducible refine LeO.bind ?_ (fun _ => ?_))
      | exact ih0 _ _ _ _
      | exact ih1 _ _ _ _ _
      | exact ih2 _ _ _ _ _
      | exact ih3 _ _ _ _ _ _
      | exact ih4 _ _ _ _ _ _
      | exact ih5 _ _ _ _ _ _ _
      | exact dbm_Closed.mono _ _
      | exact gimballaw10_awake.mono _
      | exact gimballaw10_nodes.mono _ _
      | exact LeO.none _
      | refine LeO.ite ?_ ?_
      | refine LeO.bind ?_ (fun _ => ?_)
def gimballaw10_DbmTriangles.T10 : Bool × List (List Nat × List Nat) := (true, [([], []), ([], []), ([], []), ([1, 2], [1, 2]), ([], []), ([3, 4], [3, 4]), ([0, 5], [0, 5]), ([6], [6]), ([], []), ([], []), ([], []), ([9, 10], [9, 10]), ([], []), ([11, 12], [11, 12]), ([8, 13], [8, 13]), ([14], [14]), ([15], [15]), ([7, 16], [7, 16]), ([17, 16, 0, 1, 2, 3, 4, 5, 6, 7, 8, 9, 10, 11, 12, 13, 14, 15, 16, 17], [17])])
def gimballaw10_DbmTriangles.B10 : List Nat := [0, 0, 0, 6, 0, 30, 63, 127, 0, 0, 0, 1536, 0, 7680, 16128, 32512, 65280, 131071, 262143]
theorem gimballaw10_DbmTriangles.tab10 : rtab .any (opsOf Try.f9 10) = gimballaw10_DbmTriangles.T10 := by kernel_rfl
theorem gimballaw10_DbmTriangles.bits10 : waitsOk gimballaw10_DbmTriangles.T10.2 gimballaw10_DbmTriangles.B10 = true := by kernel_rfl
def gimballaw10_DbmTriangles.T17 : Bool × List (List Nat × List Nat) := (true, [([], []), ([], []), ([], []), ([1, 2], [1, 2]), ([], []), ([3, 4], [3, 4]), ([0, 5], [0, 5]), ([6], [6]), ([], []), ([], []), ([8, 9], [8, 9]), ([10], [10]), ([7, 11], [7, 11]), ([12, 11, 0, 1, 2, 3, 4, 5, 6, 7, 8, 9, 10, 11, 12], [12])])
def gimballaw10_DbmTriangles.B17 : List Nat := [0, 0, 0, 6, 0, 30, 63, 127, 0, 0, 768, 1792, 4095, 8191]
theorem gimballaw10_DbmTriangles.tab17 : rtab .any (opsOf Try.f9 17) = gimballaw10_DbmTriangles.T17 := by kernel_rfl
theorem gimballaw10_DbmTriangles.bits17 : waitsOk gimballaw10_DbmTriangles.T17.2 gimballaw10_DbmTriangles.B17 = true := by kernel_rfl
set_option maxHeartbeats 8000000 in
set_option maxRecDepth 100000 in
theorem gimballaw10_DbmTriangles.calls (k : Nat) (A0 : Option Addr) (c0 : Nat) (l0 : List Int) (w : World) (hr0 : Kd.C (Kd.int .i64) w A0 l0.length l0) (hc0 : l0.length ≤ c0) (h : gimballaw10_DbmTriangles.f k l0 = some true) :
    Calls Try.prog 9 #[.slice A0 l0.length c0] w fun e w' => e = .returned (.bool true) ∧ Below w.heap.size w w' := by
  have HR0 := Aside0.mk hr0
  have HC0 := Aside0.mk hc0
  clear hr0 hc0
  have HB := Aside0.mk (Below.refl w.heap.size w)
  have H : ((gimballaw10_nodes.f k l0).bind fun t355 => (gimballaw10_DbmTriangles.l0 k l0 t355 (decide (t355 ≥ 0)) 0)) = some true := h
  clear h
  replace H := Option.bind_eq_some_iff.mp H
  obtain ⟨t355, A20, H⟩ := H
  replace H : (gimballaw10_DbmTriangles.l0 k l0 t355 (decide (t355 ≥ 0)) 0) = some true := H
  have A2 := Aside0.mk A20
  clear A20
  have H' := Aside0.mk H
  clear H
  go_enter Try.func9, Try.ntmps9
  go_wp2_with (first | ((with_reducible refine gate_callee (f := 26) rfl ?_); refine goesL_ (some 11) rfl rfl Try.func26 (by kernel_rfl) rfl #[.slice A0 l0.length c0] rfl (by (try simp only [List.map_toArray, List.map_cons, List.map_nil]); first | done | rfl | (simp only [List.length_drop, List.length_take]; rfl)) ?_; (with_reducible refine (gimballaw10_nodes.calls k _ _ l0 t355 _ ?side1 ?side2 A2.out).mono ?_); (case side1 => repeat (first | exact HR0.out | (with_reducible refine Kd.C_alloc ?_ _) | (with_reducible refine Kd.C_drewN ?_ _) | (with_reducible refine Kd.C_drew ?_))); (case side2 => exact HC0.out); rintro e w' ⟨rfl, ⟨nd, rfl⟩⟩; refine ⟨_, rfl, ?_⟩))
  go_loopg [4, 5] k (fun kq v4 v5 w' => ∃ (x4_1 : Bool) (x5_1 : Int), v4 = .bool x4_1 ∧ v5 = .int .i64 x5_1 ∧ Aside0 (gimballaw10_DbmTriangles.l0 kq l0 t355 x4_1 x5_1 = some true) ∧ Aside0 (kq ≤ k) ∧ Aside0 (Below w.heap.size w w'))
  case atStart => exact ⟨(decide (t355 ≥ 0)), (0), (by first | rfl | (simp; done) | (simp [*]; done)), (by first | rfl | (simp; done) | (simp [*]; done)), H', ⟨Nat.le_refl _⟩, ⟨by repeat (first | (with_reducible first | exact HB.out | apply below_alloc | apply pw_below_drewN | apply below_drew1) | exact HB.out)⟩⟩
  case round =>
   clear H'
   try clear c2
   try clear p2
   obtain ⟨x4_1, x5_1, rfl, rfl, HA, HK1, HB⟩ := hrel
   cases gk with
   | zero => exact absurd HA.out (by simp [gimballaw10_DbmTriangles.l0])
   | succ k1 =>
    have H := HA.out
    clear HA
    simp only [gimballaw10_DbmTriangles.l0] at H
    have HC3 := Aside0.mk H
    clear H
    go_upto_region 4 with (fail)
    go_cut [19] (fun v19 wc => ∃ (kq : Nat) (x19_2 : Bool), v19 = .bool x19_2 ∧ Aside0 (gimballaw10_DbmTriangles.j1 kq l0 t355 x4_1 x5_1 x19_2 = some true) ∧ Aside0 (kq ≤ k1) ∧ Aside0 (Below w.heap.size w wc))
    case first =>
     have H := HC3.out
     clear HC3
     by_cases c4 : x5_1 < t355
     ·
      rw [if_pos c4] at H
      have c4b0 : decide (x5_1 < t355) = true := decide_eq_true c4
      clear c4
      (first | rw [c4b0] | (simp only [i64_w, i32_w]; rw [c4b0]) | skip)
      have H' := Aside0.mk H
      clear H
      go_wp2
      go_meet
      case rel => exact ⟨_, (x4_1), (by first | rfl | (simp; done) | (simp [*]; done)), H', ⟨by have := HK1.out; first | omega | exact Nat.le_refl _⟩, ⟨by repeat (first | (with_reducible first | exact HB.out | apply below_alloc | apply pw_below_drewN | apply below_drew1) | exact HB.out)⟩⟩
     ·
      rw [if_neg c4] at H
      have c4b0 : decide (x5_1 < t355) = false := decide_eq_false c4
      clear c4
      (first | rw [c4b0] | (simp only [i64_w, i32_w]; rw [c4b0]) | skip)
      have H' := Aside0.mk H
      clear H
      go_wp2
      go_meet
      case rel => exact ⟨_, (false), (by first | rfl | (simp; done) | (simp [*]; done)), H', ⟨by have := HK1.out; first | omega | exact Nat.le_refl _⟩, ⟨by repeat (first | (with_reducible first | exact HB.out | apply below_alloc | apply pw_below_drewN | apply below_drew1) | exact HB.out)⟩⟩
    case rest =>
     clear HC3
     try clear c2
     try clear p2
     try clear c4
     try clear c4b0
     try clear p2
     obtain ⟨kq, x19_2, rfl, HA, HJ2, HB⟩ := hcut
     cases kq with
     | zero => exact absurd HA.out (by simp [gimballaw10_DbmTriangles.j1])
     | succ kj2 =>
      have H := HA.out
      clear HA
      simp only [gimballaw10_DbmTriangles.j1] at H
      by_cases c5 : x19_2 = true
      ·
       subst c5
       have H1 : (if 0 ≤ (wrap64 ((wrap64 (x5_1 * t355)) + x5_1)) then (if (wrap64 ((wrap64 (x5_1 * t355)) + x5_1)) < (l0.length : Int) then (gimballaw10_DbmTriangles.l1 kj2 l0 t355 ((rd l0 (wrap64 ((wrap64 (x5_1 * t355)) + x5_1))) == 0) x5_1 0) else (none)) else (none)) = some true := by rw [if_pos rfl] at H; exact H
       clear H
       have H := H1
       clear H1
       obtain ⟨ji6, hji6⟩ : ∃ j_ : Int, (wrap64 ((wrap64 (x5_1 * t355)) + x5_1)) = j_ := ⟨_, rfl⟩
       replace H : (if 0 ≤ (ji6) then (if (ji6) < (l0.length : Int) then (gimballaw10_DbmTriangles.l1 kj2 l0 t355 ((rd l0 (ji6)) == 0) x5_1 0) else (none)) else (none)) = some true := by first | (rw [hji6] at H; exact H) | (simp only [hji6] at H ⊢; exact H)
       have hji6w : (IntKind.i64.wrap ((wrap64 (x5_1 * t355)) + x5_1)) = ji6 := (i64_w _).trans hji6
       by_cases c7 : 0 ≤ (ji6)
       ·
        rw [if_pos c7] at H
        have c7b0 : decide (0 ≤ (ji6)) = true := decide_eq_true c7
        clear c7
        by_cases c8 : (ji6) < (l0.length : Int)
        ·
         rw [if_pos c8] at H
         have c8b0 : decide ((ji6) < (l0.length : Int)) = true := decide_eq_true c8
         clear c8
         have H' := Aside0.mk H
         clear H
         have p358 : 0 ≤ ((ji6) : Int) := of_decide_eq_true (by first | (with_reducible assumption) | assumption)
         have q358 : (ji6) < (l0.length : Int) := of_decide_eq_true (by first | (with_reducible assumption) | assumption)
         obtain ⟨ad358, e358, hx358_0⟩ := Kd.at_int HR0.out (ji6) p358 q358
         cases e358
         replace hx358_0 := (HB.out.cell (World.block_lt_of_cell? w _ hx358_0)).trans hx358_0
         replace p358 := eq_true p358
         replace q358 := eq_true q358
         go_wp2
         go_loopg [4, 6] kj2 (fun kq v4 v6 w' => ∃ (x4_3 : Bool) (x6_3 : Int), v4 = .bool x4_3 ∧ v6 = .int .i64 x6_3 ∧ Aside0 (gimballaw10_DbmTriangles.l1 kq l0 t355 x4_3 x5_1 x6_3 = some true) ∧ Aside0 (kq ≤ kj2) ∧ Aside0 (Below w.heap.size w w'))
         case atStart => exact ⟨(((rd l0 (ji6)) == 0)), (0), (by first | rfl | (simp; done) | (simp only [← hji6] <;> (first | rfl | simp)) | (simp [*]; done)), (by first | rfl | (simp; done) | (simp [*]; done)), H', ⟨Nat.le_refl _⟩, ⟨by repeat (first | (with_reducible first | exact HB.out | apply below_alloc | apply pw_below_drewN | apply below_drew1) | exact HB.out)⟩⟩
         case round =>
          clear H'
          try clear c2
          try clear p2
          try clear p3
          try clear q3
          try clear hx3
          try clear c4
          try clear c4b0
          try clear c5
          try clear p6
          try clear c7
          try clear c7b0
          try clear c8
          try clear c8b0
          try clear hx358_0
          try clear p2
          try clear p358
          try clear q358
          obtain ⟨x4_3, x6_3, rfl, rfl, HA, HK3, HB⟩ := hrel
          cases gk with
          | zero => exact absurd HA.out (by simp [gimballaw10_DbmTriangles.l1])
          | succ k3 =>
           have H := HA.out
           clear HA
           simp only [gimballaw10_DbmTriangles.l1] at H
           have HC9 := Aside0.mk H
           clear H
           go_upto_region 8 with (fail)
           go_cut [36] (fun v36 wc => ∃ (kq : Nat) (x36_8 : Bool), v36 = .bool x36_8 ∧ Aside0 (gimballaw10_DbmTriangles.j3 kq l0 t355 x4_3 x5_1 x6_3 x36_8 = some true) ∧ Aside0 (kq ≤ k3) ∧ Aside0 (Below w.heap.size w wc))
           case first =>
            have H := HC9.out
            clear HC9
            by_cases c10 : x6_3 < t355
            ·
             rw [if_pos c10] at H
             have c10b0 : decide (x6_3 < t355) = true := decide_eq_true c10
             clear c10
             (first | rw [c10b0] | (simp only [i64_w, i32_w]; rw [c10b0]) | skip)
             have H' := Aside0.mk H
             clear H
             go_wp2
             go_meet
             case rel => exact ⟨_, (x4_3), (by first | rfl | (simp; done) | (simp [*]; done)), H', ⟨by have := HK1.out; have := HJ2.out; have := HK3.out; first | omega | exact Nat.le_refl _⟩, ⟨by repeat (first | (with_reducible first | exact HB.out | apply below_alloc | apply pw_below_drewN | apply below_drew1) | exact HB.out)⟩⟩
            ·
             rw [if_neg c10] at H
             have c10b0 : decide (x6_3 < t355) = false := decide_eq_false c10
             clear c10
             (first | rw [c10b0] | (simp only [i64_w, i32_w]; rw [c10b0]) | skip)
             have H' := Aside0.mk H
             clear H
             go_wp2
             go_meet
             case rel => exact ⟨_, (false), (by first | rfl | (simp; done) | (simp [*]; done)), H', ⟨by have := HK1.out; have := HJ2.out; have := HK3.out; first | omega | exact Nat.le_refl _⟩, ⟨by repeat (first | (with_reducible first | exact HB.out | apply below_alloc | apply pw_below_drewN | apply below_drew1) | exact HB.out)⟩⟩
           case rest =>
            clear HC9
            try clear c1
            try clear c2
            try clear p2
            try clear p3
            try clear q3
            try clear hx3
            try clear c4
            try clear c4b0
            try clear c5
            try clear p6
            try clear c7
            try clear c7b0
            try clear c8
            try clear c8b0
            try clear c9
            try clear c10
            try clear c10b0
            try clear hx358_0
            try clear p2
            try clear p3
            try clear p358
            try clear p6
            try clear q3
            try clear q358
            obtain ⟨kq, x36_8, rfl, HA, HJ8, HB⟩ := hcut
            cases kq with
            | zero => exact absurd HA.out (by simp [gimballaw10_DbmTriangles.j3])
            | succ kj8 =>
             have H := HA.out
             clear HA
             simp only [gimballaw10_DbmTriangles.j3] at H
             by_cases c11 : x36_8 = true
             ·
              subst c11
              have H1 : (if 0 ≤ (wrap64 ((wrap64 (x5_1 * t355)) + x6_3)) then (if (wrap64 ((wrap64 (x5_1 * t355)) + x6_3)) < (l0.length : Int) then ((gimballaw10_taken.f (rd l0 (wrap64 ((wrap64 (x5_1 * t355)) + x6_3)))).bind fun t361 => (gimballaw10_DbmTriangles.l2 kj8 l0 t355 ((rd l0 (wrap64 ((wrap64 (x5_1 * t355)) + x6_3))) == t361) x5_1 x6_3 0)) else (none)) else (none)) = some true := by rw [if_pos rfl] at H; exact H
              clear H
              have H := H1
              clear H1
              obtain ⟨ji12, hji12⟩ : ∃ j_ : Int, (wrap64 ((wrap64 (x5_1 * t355)) + x6_3)) = j_ := ⟨_, rfl⟩
              replace H : (if 0 ≤ (ji12) then (if (ji12) < (l0.length : Int) then ((gimballaw10_taken.f (rd l0 (ji12))).bind fun t361 => (gimballaw10_DbmTriangles.l2 kj8 l0 t355 ((rd l0 (ji12)) == t361) x5_1 x6_3 0)) else (none)) else (none)) = some true := by first | (rw [hji12] at H; exact H) | (simp only [hji12] at H ⊢; exact H)
              have hji12w : (IntKind.i64.wrap ((wrap64 (x5_1 * t355)) + x6_3)) = ji12 := (i64_w _).trans hji12
              by_cases c13 : 0 ≤ (ji12)
              ·
               rw [if_pos c13] at H
               have c13b0 : decide (0 ≤ (ji12)) = true := decide_eq_true c13
               clear c13
               by_cases c14 : (ji12) < (l0.length : Int)
               ·
                rw [if_pos c14] at H
                have c14b0 : decide ((ji12) < (l0.length : Int)) = true := decide_eq_true c14
                clear c14
                replace H := Option.bind_eq_some_iff.mp H
                obtain ⟨t361, A150, H⟩ := H
                replace H : (gimballaw10_DbmTriangles.l2 kj8 l0 t355 ((rd l0 (ji12)) == t361) x5_1 x6_3 0) = some true := H
                have A15 := Aside0.mk A150
                clear A150
                have H' := Aside0.mk H
                clear H
                try go_wp2
                have n0_ := Aside0.mk (below_drew1 HB.out)
                clear HB
                have HB := n0_
                clear n0_
                have p359 : 0 ≤ ((ji12) : Int) := of_decide_eq_true (by first | (with_reducible assumption) | assumption)
                have q359 : (ji12) < (l0.length : Int) := of_decide_eq_true (by first | (with_reducible assumption) | assumption)
                obtain ⟨ad359, e359, hx359_0⟩ := Kd.at_int HR0.out (ji12) p359 q359
                have hw359_0 := hx359_0
                obtain rfl : ad358 = ad359 := (by injection e359)
                replace hx359_0 := (HB.out.cell (World.block_lt_of_cell? w _ hx359_0)).trans hx359_0
                replace p359 := eq_true p359
                replace q359 := eq_true q359
                have p360 : 0 ≤ ((ji12) : Int) := of_decide_eq_true (by first | (with_reducible assumption) | assumption)
                have q360 : (ji12) < (l0.length : Int) := of_decide_eq_true (by first | (with_reducible assumption) | assumption)
                obtain ⟨ad360, e360, hx360_0⟩ := Kd.at_int HR0.out (ji12) p360 q360
                have hw360_0 := hx360_0
                obtain rfl : ad358 = ad360 := (by injection e360)
                replace hx360_0 := (HB.out.cell (World.block_lt_of_cell? w _ hx360_0)).trans hx360_0
                replace p360 := eq_true p360
                replace q360 := eq_true q360
                refine start_ (n := 19) (S := fun w' => w'.cell? (ad358.add ((ji12)).toNat) = some (.int .i64 (rd l0 (ji12))) ∧ w'.cell? (ad358.add ((ji12)).toNat) = some (.int .i64 (rd l0 (ji12)))) (ds := []) #[false, false, false, false, false, false, false, false, false, false, false, false, false, false, false, false, false, false, false] (by kernel_rfl) rfl rfl ⟨((HB.out.cell (World.block_lt_of_cell? w _ hw359_0)).trans hw359_0), ((HB.out.cell (World.block_lt_of_cell? w _ hw360_0)).trans hw360_0)⟩ (fun hHeld => ?_); refine with_tabW gimballaw10_DbmTriangles.tab10 gimballaw10_DbmTriangles.bits10 (fun HT_ HW_ => ?_)
                generalize wc.drew = w16 at HB hx359_0 hx360_0 hHeld ⊢
                refine pure_ (i := 0) (N := some 39) (v := ?_) (a' := ?_) #[true, false, false, false, false, false, false, false, false, false, false, false, false, false, false, false, false, false, false] rfl rfl (any_of HT_.out (by kernel_rfl)) (fun _ _ _ h => h) (Or.inl ⟨by rfl, ?_⟩) ?_ ?_
                rotate_left
                ·
                 intro w'
                 go_simp
                 with_reducible rfl
                rotate_left
                ·
                 simp only [Act.put, List.setIfInBounds_toArray, List.set_cons_zero, List.set_cons_succ, i64_w, i32_w]
                 rfl
                refine pure_ (i := 1) (N := some 40) (v := ?_) (a' := ?_) #[true, true, false, false, false, false, false, false, false, false, false, false, false, false, false, false, false, false, false] rfl rfl (any_of HT_.out (by kernel_rfl)) (fun _ _ _ h => h) (Or.inl ⟨by rfl, ?_⟩) ?_ ?_
                rotate_left
                ·
                 intro w'
                 go_simp
                 with_reducible rfl
                rotate_left
                ·
                 simp only [Act.put, List.setIfInBounds_toArray, List.set_cons_zero, List.set_cons_succ, i64_w, i32_w]
                 rfl
                refine pure_ (i := 2) (N := some 41) (v := ?_) (a' := ?_) #[true, true, true, false, false, false, false, false, false, false, false, false, false, false, false, false, false, false, false] rfl rfl (any_of HT_.out (by kernel_rfl)) (fun _ _ _ h => h) (Or.inl ⟨by rfl, ?_⟩) ?_ ?_
                rotate_left
                ·
                 intro w'
                 go_simp
                 with_reducible rfl
                rotate_left
                ·
                 simp only [Act.put, List.setIfInBounds_toArray, List.set_cons_zero, List.set_cons_succ, i64_w, i32_w]
                 rfl
                refine pure_ (i := 3) (N := some 42) (v := ?_) (a' := ?_) #[true, true, true, true, false, false, false, false, false, false, false, false, false, false, false, false, false, false, false] rfl rfl (any_of HT_.out (by kernel_rfl)) (fun _ _ _ h => h) (Or.inl ⟨by rfl, ?_⟩) ?_ ?_
                rotate_left
                ·
                 intro w'
                 go_simp
                 with_reducible rfl
                rotate_left
                ·
                 simp only [Act.put, List.setIfInBounds_toArray, List.set_cons_zero, List.set_cons_succ, i64_w, i32_w]
                 rfl
                refine pure_ (i := 4) (N := some 43) (v := ?_) (a' := ?_) #[true, true, true, true, true, false, false, false, false, false, false, false, false, false, false, false, false, false, false] rfl rfl (any_of HT_.out (by kernel_rfl)) (fun _ _ _ h => h) (Or.inl ⟨by rfl, ?_⟩) ?_ ?_
                rotate_left
                ·
                 intro w'
                 go_simp
                 with_reducible rfl
                rotate_left
                ·
                 simp only [Act.put, List.setIfInBounds_toArray, List.set_cons_zero, List.set_cons_succ, i64_w, i32_w]
                 rfl
                refine pure_ (i := 5) (N := some 44) (v := ?_) (a' := ?_) #[true, true, true, true, true, true, false, false, false, false, false, false, false, false, false, false, false, false, false] rfl rfl (any_of HT_.out (by kernel_rfl)) (fun _ _ _ h => h) (Or.inl ⟨by rfl, ?_⟩) ?_ ?_
                rotate_left
                ·
                 intro w'
                 go_simp
                 with_reducible rfl
                rotate_left
                ·
                 simp only [Act.put, List.setIfInBounds_toArray, List.set_cons_zero, List.set_cons_succ, i64_w, i32_w]
                 rfl
                refine pure_ (i := 6) (N := some 45) (v := ?_) (a' := ?_) #[true, true, true, true, true, true, true, false, false, false, false, false, false, false, false, false, false, false, false] rfl rfl (any_of HT_.out (by kernel_rfl)) (fun _ _ _ h => h) (Or.inl ⟨by rfl, ?_⟩) ?_ ?_
                rotate_left
                ·
                 intro w'
                 go_simp
                 with_reducible rfl
                rotate_left
                ·
                 simp only [Act.put, List.setIfInBounds_toArray, List.set_cons_zero, List.set_cons_succ, i64_w, i32_w]
                 rfl
                refine pure_ (i := 8) (N := some 47) (v := ?_) (a' := ?_) #[true, true, true, true, true, true, true, false, true, false, false, false, false, false, false, false, false, false, false] rfl rfl (any_of HT_.out (by kernel_rfl)) (fun _ _ _ h => h) (Or.inl ⟨by rfl, ?_⟩) ?_ ?_
                rotate_left
                ·
                 intro w'
                 go_simp
                 with_reducible rfl
                rotate_left
                ·
                 simp only [Act.put, List.setIfInBounds_toArray, List.set_cons_zero, List.set_cons_succ, i64_w, i32_w]
                 rfl
                refine pure_ (i := 9) (N := some 48) (v := ?_) (a' := ?_) #[true, true, true, true, true, true, true, false, true, true, false, false, false, false, false, false, false, false, false] rfl rfl (any_of HT_.out (by kernel_rfl)) (fun _ _ _ h => h) (Or.inl ⟨by rfl, ?_⟩) ?_ ?_
                rotate_left
                ·
                 intro w'
                 go_simp
                 with_reducible rfl
                rotate_left
                ·
                 simp only [Act.put, List.setIfInBounds_toArray, List.set_cons_zero, List.set_cons_succ, i64_w, i32_w]
                 rfl
                refine pure_ (i := 10) (N := some 49) (v := ?_) (a' := ?_) #[true, true, true, true, true, true, true, false, true, true, true, false, false, false, false, false, false, false, false] rfl rfl (any_of HT_.out (by kernel_rfl)) (fun _ _ _ h => h) (Or.inl ⟨by rfl, ?_⟩) ?_ ?_
                rotate_left
                ·
                 intro w'
                 go_simp
                 with_reducible rfl
                rotate_left
                ·
                 simp only [Act.put, List.setIfInBounds_toArray, List.set_cons_zero, List.set_cons_succ, i64_w, i32_w]
                 rfl
                refine pure_ (i := 11) (N := some 50) (v := ?_) (a' := ?_) #[true, true, true, true, true, true, true, false, true, true, true, true, false, false, false, false, false, false, false] rfl rfl (any_of HT_.out (by kernel_rfl)) (fun _ _ _ h => h) (Or.inl ⟨by rfl, ?_⟩) ?_ ?_
                rotate_left
                ·
                 intro w'
                 go_simp
                 with_reducible rfl
                rotate_left
                ·
                 simp only [Act.put, List.setIfInBounds_toArray, List.set_cons_zero, List.set_cons_succ, i64_w, i32_w]
                 rfl
                refine pure_ (i := 12) (N := some 51) (v := ?_) (a' := ?_) #[true, true, true, true, true, true, true, false, true, true, true, true, true, false, false, false, false, false, false] rfl rfl (any_of HT_.out (by kernel_rfl)) (fun _ _ _ h => h) (Or.inl ⟨by rfl, ?_⟩) ?_ ?_
                rotate_left
                ·
                 intro w'
                 go_simp
                 with_reducible rfl
                rotate_left
                ·
                 simp only [Act.put, List.setIfInBounds_toArray, List.set_cons_zero, List.set_cons_succ, i64_w, i32_w]
                 rfl
                refine pure_ (i := 13) (N := some 52) (v := ?_) (a' := ?_) #[true, true, true, true, true, true, true, false, true, true, true, true, true, true, false, false, false, false, false] rfl rfl (any_of HT_.out (by kernel_rfl)) (fun _ _ _ h => h) (Or.inl ⟨by rfl, ?_⟩) ?_ ?_
                rotate_left
                ·
                 intro w'
                 go_simp
                 with_reducible rfl
                rotate_left
                ·
                 simp only [Act.put, List.setIfInBounds_toArray, List.set_cons_zero, List.set_cons_succ, i64_w, i32_w]
                 rfl
                refine pure_ (i := 14) (N := some 53) (v := ?_) (a' := ?_) #[true, true, true, true, true, true, true, false, true, true, true, true, true, true, true, false, false, false, false] rfl rfl (any_of HT_.out (by kernel_rfl)) (fun _ _ _ h => h) (Or.inl ⟨by rfl, ?_⟩) ?_ ?_
                rotate_left
                ·
                 intro w'
                 go_simp
                 with_reducible rfl
                rotate_left
                ·
                 simp only [Act.put, List.setIfInBounds_toArray, List.set_cons_zero, List.set_cons_succ, i64_w, i32_w]
                 rfl
                refine take_ (i := 7) (N := some 46) (v := ?_) (a' := ?_) #[true, true, true, true, true, true, true, true, true, true, true, true, true, true, true, false, false, false, false] rfl rfl (take_ofW HT_.out HW_.out (by kernel_rfl)) (fun _ _ _ h => h) (Or.inl ⟨by rfl, ?_⟩) hHeld ?_ ?_
                rotate_left
                ·
                 rintro w' ⟨s0, s1⟩
                 go_simp
                 with_reducible rfl
                rotate_left
                ·
                 simp only [Act.put, List.setIfInBounds_toArray, List.set_cons_zero, List.set_cons_succ, i64_w, i32_w]
                 rfl
                refine take_ (i := 15) (N := some 54) (v := ?_) (a' := ?_) #[true, true, true, true, true, true, true, true, true, true, true, true, true, true, true, true, false, false, false] rfl rfl (take_ofW HT_.out HW_.out (by kernel_rfl)) (fun _ _ _ h => h) (Or.inl ⟨by rfl, ?_⟩) hHeld ?_ ?_
                rotate_left
                ·
                 rintro w' ⟨s0, s1⟩
                 go_simp
                 with_reducible rfl
                rotate_left
                ·
                 simp only [Act.put, List.setIfInBounds_toArray, List.set_cons_zero, List.set_cons_succ, i64_w, i32_w]
                 rfl
                refine one_ (i := 16) (N := some 55) #[true, true, true, true, true, true, true, true, true, true, true, true, true, true, true, true, true, false, false] rfl rfl (one_of HT_.out (by kernel_rfl)) (by decide) (fun K hK => ?_)
                refine goes_ Try.func27 (by kernel_rfl) rfl #[.int .i64 (rd l0 (ji12))] (by rfl) rfl rfl (by (try simp only [List.map_toArray, List.map_cons, List.map_nil]); first | done | (simp only [hji12]; rfl) | rfl | (simp only [List.length_drop, List.length_take]; rfl)) ?_
                with_reducible refine (gimballaw10_taken.calls (rd l0 (ji12)) t361 _ A15.out).mono ?_
                rintro e w' ⟨rfl, ⟨nd, rfl⟩⟩
                refine ⟨_, rfl, ?_⟩
                refine hK.out _ _ ⟨((HB.out.cell (World.block_lt_of_cell? w _ hw359_0)).trans hw359_0), ((HB.out.cell (World.block_lt_of_cell? w _ hw360_0)).trans hw360_0)⟩ (fun hHeld => ?_)
                clear hK K
                refine norm_ (a' := ?_) ?_ ?_
                rotate_left
                ·
                 show Act.put _ (some 55) _ = _
                 simp only [Act.put, List.setIfInBounds_toArray, List.set_cons_zero, List.set_cons_succ, i64_w, i32_w]
                 rfl
                refine pure_ (i := 17) (N := some 56) (v := ?_) (a' := ?_) #[true, true, true, true, true, true, true, true, true, true, true, true, true, true, true, true, true, true, false] rfl rfl (any_of HT_.out (by kernel_rfl)) (fun _ _ _ h => h) (Or.inl ⟨by rfl, ?_⟩) ?_ ?_
                rotate_left
                ·
                 intro w'
                 go_simp
                 with_reducible rfl
                rotate_left
                ·
                 simp only [Act.put, List.setIfInBounds_toArray, List.set_cons_zero, List.set_cons_succ, i64_w, i32_w]
                 rfl
                refine pure_ (i := 18) (N := some 4) (v := ?_) (a' := ?_) #[true, true, true, true, true, true, true, true, true, true, true, true, true, true, true, true, true, true, true] rfl rfl (any_of HT_.out (by kernel_rfl)) (fun _ _ _ h => h) (Or.inl ⟨by rfl, ?_⟩) ?_ ?_
                rotate_left
                ·
                 intro w'
                 go_simp
                 with_reducible rfl
                rotate_left
                ·
                 simp only [Act.put, List.setIfInBounds_toArray, List.set_cons_zero, List.set_cons_succ, i64_w, i32_w]
                 rfl
                refine done_ (done_of HT_.out (by kernel_rfl)) ?_
                try go_wp2
                go_loopg [4, 7] kj8 (fun kq v4 v7 w' => ∃ (x4_5 : Bool) (x7_5 : Int), v4 = .bool x4_5 ∧ v7 = .int .i64 x7_5 ∧ Aside0 (gimballaw10_DbmTriangles.l2 kq l0 t355 x4_5 x5_1 x6_3 x7_5 = some true) ∧ Aside0 (kq ≤ kj8) ∧ Aside0 (Below w.heap.size w w'))
                case atStart => exact ⟨(((rd l0 (ji12)) == t361)), (0), (by first | rfl | (simp; done) | (simp only [← hji12] <;> (first | rfl | simp)) | (simp [*]; done)), (by first | rfl | (simp; done) | (simp [*]; done)), H', ⟨Nat.le_refl _⟩, ⟨by repeat (first | (with_reducible first | exact HB.out | apply below_alloc | apply pw_below_drewN | apply below_drew1) | exact HB.out)⟩⟩
                case round =>
                 clear H'
                 try clear c1
                 try clear c2
                 try clear p2
                 try clear p3
                 try clear q3
                 try clear hx3
                 try clear c4
                 try clear c4b0
                 try clear c5
                 try clear p6
                 try clear c7
                 try clear c7b0
                 try clear c8
                 try clear c8b0
                 try clear c9
                 try clear c10
                 try clear c10b0
                 try clear c11
                 try clear c13
                 try clear c13b0
                 try clear c14
                 try clear c14b0
                 try clear hx358_0
                 try clear hx359_0
                 try clear hx360_0
                 try clear p2
                 try clear p3
                 try clear p358
                 try clear p359
                 try clear p360
                 try clear p6
                 try clear q3
                 try clear q358
                 try clear q359
                 try clear q360
                 obtain ⟨x4_5, x7_5, rfl, rfl, HA, HK5, HB⟩ := hrel
                 cases gk with
                 | zero => exact absurd HA.out (by simp [gimballaw10_DbmTriangles.l2])
                 | succ k5 =>
                  have H := HA.out
                  clear HA
                  simp only [gimballaw10_DbmTriangles.l2] at H
                  have HC17 := Aside0.mk H
                  clear H
                  go_upto_region 12 with (fail)
                  go_cut [62] (fun v62 wc => ∃ (kq : Nat) (x62_16 : Bool), v62 = .bool x62_16 ∧ Aside0 (gimballaw10_DbmTriangles.j5 kq l0 t355 x4_5 x5_1 x6_3 x7_5 x62_16 = some true) ∧ Aside0 (kq ≤ k5) ∧ Aside0 (Below w.heap.size w wc))
                  case first =>
                   have H := HC17.out
                   clear HC17
                   by_cases c18 : x7_5 < t355
                   ·
                    rw [if_pos c18] at H
                    have c18b0 : decide (x7_5 < t355) = true := decide_eq_true c18
                    clear c18
                    (first | rw [c18b0] | (simp only [i64_w, i32_w]; rw [c18b0]) | skip)
                    have H' := Aside0.mk H
                    clear H
                    go_wp2
                    go_meet
                    case rel => exact ⟨_, (x4_5), (by first | rfl | (simp; done) | (simp [*]; done)), H', ⟨by have := HK1.out; have := HJ2.out; have := HK3.out; have := HJ8.out; have := HK5.out; first | omega | exact Nat.le_refl _⟩, ⟨by repeat (first | (with_reducible first | exact HB.out | apply below_alloc | apply pw_below_drewN | apply below_drew1) | exact HB.out)⟩⟩
                   ·
                    rw [if_neg c18] at H
                    have c18b0 : decide (x7_5 < t355) = false := decide_eq_false c18
                    clear c18
                    (first | rw [c18b0] | (simp only [i64_w, i32_w]; rw [c18b0]) | skip)
                    have H' := Aside0.mk H
                    clear H
                    go_wp2
                    go_meet
                    case rel => exact ⟨_, (false), (by first | rfl | (simp; done) | (simp [*]; done)), H', ⟨by have := HK1.out; have := HJ2.out; have := HK3.out; have := HJ8.out; have := HK5.out; first | omega | exact Nat.le_refl _⟩, ⟨by repeat (first | (with_reducible first | exact HB.out | apply below_alloc | apply pw_below_drewN | apply below_drew1) | exact HB.out)⟩⟩
                  case rest =>
                   clear HC17
                   try clear c1
                   try clear c2
                   try clear p2
                   try clear p3
                   try clear q3
                   try clear hx3
                   try clear c4
                   try clear c4b0
                   try clear c5
                   try clear p6
                   try clear c7
                   try clear c7b0
                   try clear c8
                   try clear c8b0
                   try clear c9
                   try clear c10
                   try clear c10b0
                   try clear c11
                   try clear c13
                   try clear c13b0
                   try clear c14
                   try clear c14b0
                   try clear c18
                   try clear c18b0
                   try clear hx358_0
                   try clear hx359_0
                   try clear hx360_0
                   try clear p2
                   try clear p3
                   try clear p358
                   try clear p359
                   try clear p360
                   try clear p6
                   try clear q3
                   try clear q358
                   try clear q359
                   try clear q360
                   obtain ⟨kq, x62_16, rfl, HA, HJ16, HB⟩ := hcut
                   cases kq with
                   | zero => exact absurd HA.out (by simp [gimballaw10_DbmTriangles.j5])
                   | succ kj16 =>
                    have H := HA.out
                    clear HA
                    simp only [gimballaw10_DbmTriangles.j5] at H
                    by_cases c19 : x62_16 = true
                    ·
                     subst c19
                     have H1 : (if 0 ≤ (wrap64 ((wrap64 (x5_1 * t355)) + x7_5)) then (if (wrap64 ((wrap64 (x5_1 * t355)) + x7_5)) < (l0.length : Int) then ((gimballaw10_taken.f (rd l0 (wrap64 ((wrap64 (x5_1 * t355)) + x7_5)))).bind fun t363 => (if 0 ≤ (wrap64 ((wrap64 (x7_5 * t355)) + x6_3)) then (if (wrap64 ((wrap64 (x7_5 * t355)) + x6_3)) < (l0.length : Int) then ((gimballaw10_taken.f (rd l0 (wrap64 ((wrap64 (x7_5 * t355)) + x6_3)))).bind fun t365 => (if t363 < 4611686018427387904 then (if t365 < 4611686018427387904 then (if 0 ≤ (wrap64 ((wrap64 (x5_1 * t355)) + x6_3)) then (if (wrap64 ((wrap64 (x5_1 * t355)) + x6_3)) < (l0.length : Int) then ((gimballaw10_taken.f (wrap64 (t363 + t365))).bind fun t367 => (gimballaw10_DbmTriangles.l2 kj16 l0 t355 (decide ((rd l0 (wrap64 ((wrap64 (x5_1 * t355)) + x6_3))) ≤ t367)) x5_1 x6_3 (wrap64 (x7_5 + 1)))) else (none)) else (none)) else (gimballaw10_DbmTriangles.l2 kj16 l0 t355 x4_5 x5_1 x6_3 (wrap64 (x7_5 + 1)))) else (gimballaw10_DbmTriangles.l2 kj16 l0 t355 x4_5 x5_1 x6_3 (wrap64 (x7_5 + 1))))) else (none)) else (none))) else (none)) else (none)) = some true := by rw [if_pos rfl] at H; exact H
                     clear H
                     have H := H1
                     clear H1
                     obtain ⟨ji20, hji20⟩ : ∃ j_ : Int, (wrap64 ((wrap64 (x5_1 * t355)) + x7_5)) = j_ := ⟨_, rfl⟩
                     replace H : (if 0 ≤ (ji20) then (if (ji20) < (l0.length : Int) then ((gimballaw10_taken.f (rd l0 (ji20))).bind fun t363 => (if 0 ≤ (wrap64 ((wrap64 (x7_5 * t355)) + x6_3)) then (if (wrap64 ((wrap64 (x7_5 * t355)) + x6_3)) < (l0.length : Int) then ((gimballaw10_taken.f (rd l0 (wrap64 ((wrap64 (x7_5 * t355)) + x6_3)))).bind fun t365 => (if t363 < 4611686018427387904 then (if t365 < 4611686018427387904 then (if 0 ≤ (wrap64 ((wrap64 (x5_1 * t355)) + x6_3)) then (if (wrap64 ((wrap64 (x5_1 * t355)) + x6_3)) < (l0.length : Int) then ((gimballaw10_taken.f (wrap64 (t363 + t365))).bind fun t367 => (gimballaw10_DbmTriangles.l2 kj16 l0 t355 (decide ((rd l0 (wrap64 ((wrap64 (x5_1 * t355)) + x6_3))) ≤ t367)) x5_1 x6_3 (wrap64 (x7_5 + 1)))) else (none)) else (none)) else (gimballaw10_DbmTriangles.l2 kj16 l0 t355 x4_5 x5_1 x6_3 (wrap64 (x7_5 + 1)))) else (gimballaw10_DbmTriangles.l2 kj16 l0 t355 x4_5 x5_1 x6_3 (wrap64 (x7_5 + 1))))) else (none)) else (none))) else (none)) else (none)) = some true := by first | (rw [hji20] at H; exact H) | (simp only [hji20] at H ⊢; exact H)
                     have hji20w : (IntKind.i64.wrap ((wrap64 (x5_1 * t355)) + x7_5)) = ji20 := (i64_w _).trans hji20
                     by_cases c21 : 0 ≤ (ji20)
                     ·
                      rw [if_pos c21] at H
                      have c21b0 : decide (0 ≤ (ji20)) = true := decide_eq_true c21
                      clear c21
                      by_cases c22 : (ji20) < (l0.length : Int)
                      ·
                       rw [if_pos c22] at H
                       have c22b0 : decide ((ji20) < (l0.length : Int)) = true := decide_eq_true c22
                       clear c22
                       replace H := Option.bind_eq_some_iff.mp H
                       obtain ⟨t363, A230, H⟩ := H
                       replace H : (if 0 ≤ (wrap64 ((wrap64 (x7_5 * t355)) + x6_3)) then (if (wrap64 ((wrap64 (x7_5 * t355)) + x6_3)) < (l0.length : Int) then ((gimballaw10_taken.f (rd l0 (wrap64 ((wrap64 (x7_5 * t355)) + x6_3)))).bind fun t365 => (if t363 < 4611686018427387904 then (if t365 < 4611686018427387904 then (if 0 ≤ (wrap64 ((wrap64 (x5_1 * t355)) + x6_3)) then (if (wrap64 ((wrap64 (x5_1 * t355)) + x6_3)) < (l0.length : Int) then ((gimballaw10_taken.f (wrap64 (t363 + t365))).bind fun t367 => (gimballaw10_DbmTriangles.l2 kj16 l0 t355 (decide ((rd l0 (wrap64 ((wrap64 (x5_1 * t355)) + x6_3))) ≤ t367)) x5_1 x6_3 (wrap64 (x7_5 + 1)))) else (none)) else (none)) else (gimballaw10_DbmTriangles.l2 kj16 l0 t355 x4_5 x5_1 x6_3 (wrap64 (x7_5 + 1)))) else (gimballaw10_DbmTriangles.l2 kj16 l0 t355 x4_5 x5_1 x6_3 (wrap64 (x7_5 + 1))))) else (none)) else (none)) = some true := H
                       have A23 := Aside0.mk A230
                       clear A230
                       obtain ⟨ji24, hji24⟩ : ∃ j_ : Int, (wrap64 ((wrap64 (x7_5 * t355)) + x6_3)) = j_ := ⟨_, rfl⟩
                       replace H : (if 0 ≤ (ji24) then (if (ji24) < (l0.length : Int) then ((gimballaw10_taken.f (rd l0 (ji24))).bind fun t365 => (if t363 < 4611686018427387904 then (if t365 < 4611686018427387904 then (if 0 ≤ (wrap64 ((wrap64 (x5_1 * t355)) + x6_3)) then (if (wrap64 ((wrap64 (x5_1 * t355)) + x6_3)) < (l0.length : Int) then ((gimballaw10_taken.f (wrap64 (t363 + t365))).bind fun t367 => (gimballaw10_DbmTriangles.l2 kj16 l0 t355 (decide ((rd l0 (wrap64 ((wrap64 (x5_1 * t355)) + x6_3))) ≤ t367)) x5_1 x6_3 (wrap64 (x7_5 + 1)))) else (none)) else (none)) else (gimballaw10_DbmTriangles.l2 kj16 l0 t355 x4_5 x5_1 x6_3 (wrap64 (x7_5 + 1)))) else (gimballaw10_DbmTriangles.l2 kj16 l0 t355 x4_5 x5_1 x6_3 (wrap64 (x7_5 + 1))))) else (none)) else (none)) = some true := by first | (rw [hji24] at H; exact H) | (simp only [hji24] at H ⊢; exact H)
                       (try rw [hji24] at A23)
                       have hji24w : (IntKind.i64.wrap ((wrap64 (x7_5 * t355)) + x6_3)) = ji24 := (i64_w _).trans hji24
                       by_cases c25 : 0 ≤ (ji24)
                       ·
                        rw [if_pos c25] at H
                        have c25b0 : decide (0 ≤ (ji24)) = true := decide_eq_true c25
                        clear c25
                        by_cases c26 : (ji24) < (l0.length : Int)
                        ·
                         rw [if_pos c26] at H
                         have c26b0 : decide ((ji24) < (l0.length : Int)) = true := decide_eq_true c26
                         clear c26
                         replace H := Option.bind_eq_some_iff.mp H
                         obtain ⟨t365, A270, H⟩ := H
                         replace H : (if t363 < 4611686018427387904 then (if t365 < 4611686018427387904 then (if 0 ≤ (wrap64 ((wrap64 (x5_1 * t355)) + x6_3)) then (if (wrap64 ((wrap64 (x5_1 * t355)) + x6_3)) < (l0.length : Int) then ((gimballaw10_taken.f (wrap64 (t363 + t365))).bind fun t367 => (gimballaw10_DbmTriangles.l2 kj16 l0 t355 (decide ((rd l0 (wrap64 ((wrap64 (x5_1 * t355)) + x6_3))) ≤ t367)) x5_1 x6_3 (wrap64 (x7_5 + 1)))) else (none)) else (none)) else (gimballaw10_DbmTriangles.l2 kj16 l0 t355 x4_5 x5_1 x6_3 (wrap64 (x7_5 + 1)))) else (gimballaw10_DbmTriangles.l2 kj16 l0 t355 x4_5 x5_1 x6_3 (wrap64 (x7_5 + 1)))) = some true := H
                         have A27 := Aside0.mk A270
                         clear A270
                         by_cases c28 : t363 < 4611686018427387904
                         ·
                          rw [if_pos c28] at H
                          have c28b0 : decide (t363 < 4611686018427387904) = true := decide_eq_true c28
                          clear c28
                          by_cases c29 : t365 < 4611686018427387904
                          ·
                           rw [if_pos c29] at H
                           have c29b0 : decide (t365 < 4611686018427387904) = true := decide_eq_true c29
                           clear c29
                           try clear hji12w
                           try clear hji12
                           obtain ⟨ji30, hji30⟩ : ∃ j_ : Int, (wrap64 ((wrap64 (x5_1 * t355)) + x6_3)) = j_ := ⟨_, rfl⟩
                           replace H : (if 0 ≤ (ji30) then (if (ji30) < (l0.length : Int) then ((gimballaw10_taken.f (wrap64 (t363 + t365))).bind fun t367 => (gimballaw10_DbmTriangles.l2 kj16 l0 t355 (decide ((rd l0 (ji30)) ≤ t367)) x5_1 x6_3 (wrap64 (x7_5 + 1)))) else (none)) else (none)) = some true := by first | (rw [hji30] at H; exact H) | (simp only [hji30] at H ⊢; exact H)
                           (try rw [hji30] at A23)
                           (try rw [hji30] at A27)
                           have hji30w : (IntKind.i64.wrap ((wrap64 (x5_1 * t355)) + x6_3)) = ji30 := (i64_w _).trans hji30
                           by_cases c31 : 0 ≤ (ji30)
                           ·
                            rw [if_pos c31] at H
                            have c31b0 : decide (0 ≤ (ji30)) = true := decide_eq_true c31
                            clear c31
                            by_cases c32 : (ji30) < (l0.length : Int)
                            ·
                             rw [if_pos c32] at H
                             have c32b0 : decide ((ji30) < (l0.length : Int)) = true := decide_eq_true c32
                             clear c32
                             replace H := Option.bind_eq_some_iff.mp H
                             obtain ⟨t367, A330, H⟩ := H
                             replace H : (gimballaw10_DbmTriangles.l2 kj16 l0 t355 (decide ((rd l0 (ji30)) ≤ t367)) x5_1 x6_3 (wrap64 (x7_5 + 1))) = some true := H
                             have A33 := Aside0.mk A330
                             clear A330
                             have H' := Aside0.mk H
                             clear H
                             have p362 : 0 ≤ ((ji20) : Int) := of_decide_eq_true (by first | (with_reducible assumption) | assumption)
                             have q362 : (ji20) < (l0.length : Int) := of_decide_eq_true (by first | (with_reducible assumption) | assumption)
                             obtain ⟨ad362, e362, hx362_0⟩ := Kd.at_int HR0.out (ji20) p362 q362
                             obtain rfl : ad358 = ad362 := (by injection e362)
                             replace hx362_0 := (HB.out.cell (World.block_lt_of_cell? w _ hx362_0)).trans hx362_0
                             replace p362 := eq_true p362
                             replace q362 := eq_true q362
                             try go_wp2_with (first | ((with_reducible refine gate_callee (f := 27) rfl ?_); refine goesL_ (some 73) rfl rfl Try.func27 (by kernel_rfl) rfl #[.int .i64 (rd l0 (ji20))] rfl (by (try simp only [List.map_toArray, List.map_cons, List.map_nil]); first | done | (simp only [hji20]; rfl) | rfl | (simp only [List.length_drop, List.length_take]; rfl)) ?_; (with_reducible refine (gimballaw10_taken.calls (rd l0 (ji20)) t363 _ A23.out).mono ?_); rintro e w' ⟨rfl, ⟨nd, rfl⟩⟩; refine ⟨_, rfl, ?_⟩; have p364 : 0 ≤ ((ji24) : Int) := of_decide_eq_true (by first | (with_reducible assumption) | assumption); have q364 : (ji24) < (l0.length : Int) := of_decide_eq_true (by first | (with_reducible assumption) | assumption); obtain ⟨ad364, e364, hx364_0⟩ := Kd.at_int HR0.out (ji24) p364 q364; obtain rfl : ad358 = ad364 := (by injection e364); replace hx364_0 := (HB.out.cell (World.block_lt_of_cell? w _ hx364_0)).trans hx364_0; replace p364 := eq_true p364; replace q364 := eq_true q364) | ((with_reducible refine gate_callee (f := 27) rfl ?_); refine goesL_ (some 82) rfl rfl Try.func27 (by kernel_rfl) rfl #[.int .i64 (rd l0 (ji24))] rfl (by (try simp only [List.map_toArray, List.map_cons, List.map_nil]); first | done | (simp only [hji24]; rfl) | rfl | (simp only [List.length_drop, List.length_take]; rfl)) ?_; (with_reducible refine (gimballaw10_taken.calls (rd l0 (ji24)) t365 _ A27.out).mono ?_); rintro e w' ⟨rfl, ⟨nd, rfl⟩⟩; refine ⟨_, rfl, ?_⟩))
                             (try (rw [drewN_self wc]; generalize hq_ : World.drewN wc _ = wc; have n0_ : Aside0 (Below w.heap.size w wc) := ⟨by rw [← hq_]; exact (by repeat (first | (with_reducible first | exact HB.out | apply below_alloc | apply pw_below_drewN | apply below_drew1) | exact HB.out))⟩; clear HB hq_; have HB := n0_; clear n0_))
                             have n0_ := Aside0.mk (below_drew1 HB.out)
                             clear HB
                             have HB := n0_
                             clear n0_
                             have p366 : 0 ≤ ((ji30) : Int) := of_decide_eq_true (by first | (with_reducible assumption) | assumption)
                             have q366 : (ji30) < (l0.length : Int) := of_decide_eq_true (by first | (with_reducible assumption) | assumption)
                             obtain ⟨ad366, e366, hx366_0⟩ := Kd.at_int HR0.out (ji30) p366 q366
                             have hw366_0 := hx366_0
                             obtain rfl : ad358 = ad366 := (by injection e366)
                             replace hx366_0 := (HB.out.cell (World.block_lt_of_cell? w _ hx366_0)).trans hx366_0
                             replace p366 := eq_true p366
                             replace q366 := eq_true q366
                             refine start_ (n := 14) (S := fun w' => w'.cell? (ad358.add ((ji30)).toNat) = some (.int .i64 (rd l0 (ji30)))) (ds := []) #[false, false, false, false, false, false, false, false, false, false, false, false, false, false] (by kernel_rfl) rfl rfl (((HB.out.cell (World.block_lt_of_cell? w _ hw366_0)).trans hw366_0)) (fun hHeld => ?_); refine with_tabW gimballaw10_DbmTriangles.tab17 gimballaw10_DbmTriangles.bits17 (fun HT_ HW_ => ?_)
                             generalize wc.drew = w34 at HB hx366_0 hHeld ⊢
                             refine pure_ (i := 0) (N := some 89) (v := ?_) (a' := ?_) #[true, false, false, false, false, false, false, false, false, false, false, false, false, false] rfl rfl (any_of HT_.out (by kernel_rfl)) (fun _ _ _ h => h) (Or.inl ⟨by rfl, ?_⟩) ?_ ?_
                             rotate_left
                             ·
                              intro w'
                              go_simp
                              with_reducible rfl
                             rotate_left
                             ·
                              simp only [Act.put, List.setIfInBounds_toArray, List.set_cons_zero, List.set_cons_succ, i64_w, i32_w]
                              rfl
                             refine pure_ (i := 1) (N := some 90) (v := ?_) (a' := ?_) #[true, true, false, false, false, false, false, false, false, false, false, false, false, false] rfl rfl (any_of HT_.out (by kernel_rfl)) (fun _ _ _ h => h) (Or.inl ⟨by rfl, ?_⟩) ?_ ?_
                             rotate_left
                             ·
                              intro w'
                              go_simp
                              with_reducible rfl
                             rotate_left
                             ·
                              simp only [Act.put, List.setIfInBounds_toArray, List.set_cons_zero, List.set_cons_succ, i64_w, i32_w]
                              rfl
                             refine pure_ (i := 2) (N := some 91) (v := ?_) (a' := ?_) #[true, true, true, false, false, false, false, false, false, false, false, false, false, false] rfl rfl (any_of HT_.out (by kernel_rfl)) (fun _ _ _ h => h) (Or.inl ⟨by rfl, ?_⟩) ?_ ?_
                             rotate_left
                             ·
                              intro w'
                              go_simp
                              with_reducible rfl
                             rotate_left
                             ·
                              simp only [Act.put, List.setIfInBounds_toArray, List.set_cons_zero, List.set_cons_succ, i64_w, i32_w]
                              rfl
                             refine pure_ (i := 3) (N := some 92) (v := ?_) (a' := ?_) #[true, true, true, true, false, false, false, false, false, false, false, false, false, false] rfl rfl (any_of HT_.out (by kernel_rfl)) (fun _ _ _ h => h) (Or.inl ⟨by rfl, ?_⟩) ?_ ?_
                             rotate_left
                             ·
                              intro w'
                              go_simp
                              with_reducible rfl
                             rotate_left
                             ·
                              simp only [Act.put, List.setIfInBounds_toArray, List.set_cons_zero, List.set_cons_succ, i64_w, i32_w]
                              rfl
                             refine pure_ (i := 4) (N := some 93) (v := ?_) (a' := ?_) #[true, true, true, true, true, false, false, false, false, false, false, false, false, false] rfl rfl (any_of HT_.out (by kernel_rfl)) (fun _ _ _ h => h) (Or.inl ⟨by rfl, ?_⟩) ?_ ?_
                             rotate_left
                             ·
                              intro w'
                              go_simp
                              with_reducible rfl
                             rotate_left
                             ·
                              simp only [Act.put, List.setIfInBounds_toArray, List.set_cons_zero, List.set_cons_succ, i64_w, i32_w]
                              rfl
                             refine pure_ (i := 5) (N := some 94) (v := ?_) (a' := ?_) #[true, true, true, true, true, true, false, false, false, false, false, false, false, false] rfl rfl (any_of HT_.out (by kernel_rfl)) (fun _ _ _ h => h) (Or.inl ⟨by rfl, ?_⟩) ?_ ?_
                             rotate_left
                             ·
                              intro w'
                              go_simp
                              with_reducible rfl
                             rotate_left
                             ·
                              simp only [Act.put, List.setIfInBounds_toArray, List.set_cons_zero, List.set_cons_succ, i64_w, i32_w]
                              rfl
                             refine pure_ (i := 6) (N := some 95) (v := ?_) (a' := ?_) #[true, true, true, true, true, true, true, false, false, false, false, false, false, false] rfl rfl (any_of HT_.out (by kernel_rfl)) (fun _ _ _ h => h) (Or.inl ⟨by rfl, ?_⟩) ?_ ?_
                             rotate_left
                             ·
                              intro w'
                              go_simp
                              with_reducible rfl
                             rotate_left
                             ·
                              simp only [Act.put, List.setIfInBounds_toArray, List.set_cons_zero, List.set_cons_succ, i64_w, i32_w]
                              rfl
                             refine pure_ (i := 8) (N := some 97) (v := ?_) (a' := ?_) #[true, true, true, true, true, true, true, false, true, false, false, false, false, false] rfl rfl (any_of HT_.out (by kernel_rfl)) (fun _ _ _ h => h) (Or.inl ⟨by rfl, ?_⟩) ?_ ?_
                             rotate_left
                             ·
                              intro w'
                              go_simp
                              with_reducible rfl
                             rotate_left
                             ·
                              simp only [Act.put, List.setIfInBounds_toArray, List.set_cons_zero, List.set_cons_succ, i64_w, i32_w]
                              rfl
                             refine pure_ (i := 9) (N := some 98) (v := ?_) (a' := ?_) #[true, true, true, true, true, true, true, false, true, true, false, false, false, false] rfl rfl (any_of HT_.out (by kernel_rfl)) (fun _ _ _ h => h) (Or.inl ⟨by rfl, ?_⟩) ?_ ?_
                             rotate_left
                             ·
                              intro w'
                              go_simp
                              with_reducible rfl
                             rotate_left
                             ·
                              simp only [Act.put, List.setIfInBounds_toArray, List.set_cons_zero, List.set_cons_succ, i64_w, i32_w]
                              rfl
                             refine pure_ (i := 10) (N := some 99) (v := ?_) (a' := ?_) #[true, true, true, true, true, true, true, false, true, true, true, false, false, false] rfl rfl (any_of HT_.out (by kernel_rfl)) (fun _ _ _ h => h) (Or.inl ⟨by rfl, ?_⟩) ?_ ?_
                             rotate_left
                             ·
                              intro w'
                              go_simp
                              with_reducible rfl
                             rotate_left
                             ·
                              simp only [Act.put, List.setIfInBounds_toArray, List.set_cons_zero, List.set_cons_succ, i64_w, i32_w]
                              rfl
                             refine take_ (i := 7) (N := some 96) (v := ?_) (a' := ?_) #[true, true, true, true, true, true, true, true, true, true, true, false, false, false] rfl rfl (take_ofW HT_.out HW_.out (by kernel_rfl)) (fun _ _ _ h => h) (Or.inl ⟨by rfl, ?_⟩) hHeld ?_ ?_
                             rotate_left
                             ·
                              intro w' s0
                              go_simp
                              with_reducible rfl
                             rotate_left
                             ·
                              simp only [Act.put, List.setIfInBounds_toArray, List.set_cons_zero, List.set_cons_succ, i64_w, i32_w]
                              rfl
                             refine one_ (i := 11) (N := some 100) #[true, true, true, true, true, true, true, true, true, true, true, true, false, false] rfl rfl (one_of HT_.out (by kernel_rfl)) (by decide) (fun K hK => ?_)
                             refine goes_ Try.func27 (by kernel_rfl) rfl #[.int .i64 (wrap64 (t363 + t365))] (by rfl) rfl rfl (by (try simp only [List.map_toArray, List.map_cons, List.map_nil]); first | done | rfl | (simp only [List.length_drop, List.length_take]; rfl)) ?_
                             with_reducible refine (gimballaw10_taken.calls (wrap64 (t363 + t365)) t367 _ A33.out).mono ?_
                             rintro e w' ⟨rfl, ⟨nd, rfl⟩⟩
                             refine ⟨_, rfl, ?_⟩
                             refine hK.out _ _ (((HB.out.cell (World.block_lt_of_cell? w _ hw366_0)).trans hw366_0)) (fun hHeld => ?_)
                             clear hK K
                             refine norm_ (a' := ?_) ?_ ?_
                             rotate_left
                             ·
                              show Act.put _ (some 100) _ = _
                              simp only [Act.put, List.setIfInBounds_toArray, List.set_cons_zero, List.set_cons_succ, i64_w, i32_w]
                              rfl
                             refine pure_ (i := 12) (N := some 101) (v := ?_) (a' := ?_) #[true, true, true, true, true, true, true, true, true, true, true, true, true, false] rfl rfl (any_of HT_.out (by kernel_rfl)) (fun _ _ _ h => h) (Or.inl ⟨by rfl, ?_⟩) ?_ ?_
                             rotate_left
                             ·
                              intro w'
                              go_simp
                              with_reducible rfl
                             rotate_left
                             ·
                              simp only [Act.put, List.setIfInBounds_toArray, List.set_cons_zero, List.set_cons_succ, i64_w, i32_w]
                              rfl
                             refine pure_ (i := 13) (N := some 4) (v := ?_) (a' := ?_) #[true, true, true, true, true, true, true, true, true, true, true, true, true, true] rfl rfl (any_of HT_.out (by kernel_rfl)) (fun _ _ _ h => h) (Or.inl ⟨by rfl, ?_⟩) ?_ ?_
                             rotate_left
                             ·
                              intro w'
                              go_simp
                              with_reducible rfl
                             rotate_left
                             ·
                              simp only [Act.put, List.setIfInBounds_toArray, List.set_cons_zero, List.set_cons_succ, i64_w, i32_w]
                              rfl
                             refine done_ (done_of HT_.out (by kernel_rfl)) ?_
                             try go_wp2
                             go_roundg kj16
                             case measure => have := HK1.out; have := HJ2.out; have := HK3.out; have := HJ8.out; have := HK5.out; have := HJ16.out; omega
                             case rel => exact ⟨(decide ((rd l0 (ji30)) ≤ t367)), (wrap64 (x7_5 + 1)), (by first | rfl | (simp; done) | (simp only [← hji30] <;> (first | rfl | simp)) | (simp [*]; done)), (by first | rfl | (simp; done) | (simp [*]; done)), H', ⟨by have := HK1.out; have := HJ2.out; have := HK3.out; have := HJ8.out; have := HK5.out; have := HJ16.out; omega⟩, ⟨by repeat (first | (with_reducible first | exact HB.out | apply below_alloc | apply pw_below_drewN | apply below_drew1) | exact HB.out)⟩⟩
                            ·
                             rw [if_neg c32] at H
                             exact absurd H (by simp)
                           ·
                            rw [if_neg c31] at H
                            exact absurd H (by simp)
                          ·
                           rw [if_neg c29] at H
                           have c29b0 : decide (t365 < 4611686018427387904) = false := decide_eq_false c29
                           clear c29
                           have H' := Aside0.mk H
                           clear H
                           have p362 : 0 ≤ ((ji20) : Int) := of_decide_eq_true (by first | (with_reducible assumption) | assumption)
                           have q362 : (ji20) < (l0.length : Int) := of_decide_eq_true (by first | (with_reducible assumption) | assumption)
                           obtain ⟨ad362, e362, hx362_0⟩ := Kd.at_int HR0.out (ji20) p362 q362
                           obtain rfl : ad358 = ad362 := (by injection e362)
                           replace hx362_0 := (HB.out.cell (World.block_lt_of_cell? w _ hx362_0)).trans hx362_0
                           replace p362 := eq_true p362
                           replace q362 := eq_true q362
                           go_wp2_with (first | ((with_reducible refine gate_callee (f := 27) rfl ?_); refine goesL_ (some 73) rfl rfl Try.func27 (by kernel_rfl) rfl #[.int .i64 (rd l0 (ji20))] rfl (by (try simp only [List.map_toArray, List.map_cons, List.map_nil]); first | done | (simp only [hji20]; rfl) | rfl | (simp only [List.length_drop, List.length_take]; rfl)) ?_; (with_reducible refine (gimballaw10_taken.calls (rd l0 (ji20)) t363 _ A23.out).mono ?_); rintro e w' ⟨rfl, ⟨nd, rfl⟩⟩; refine ⟨_, rfl, ?_⟩; have p364 : 0 ≤ ((ji24) : Int) := of_decide_eq_true (by first | (with_reducible assumption) | assumption); have q364 : (ji24) < (l0.length : Int) := of_decide_eq_true (by first | (with_reducible assumption) | assumption); obtain ⟨ad364, e364, hx364_0⟩ := Kd.at_int HR0.out (ji24) p364 q364; obtain rfl : ad358 = ad364 := (by injection e364); replace hx364_0 := (HB.out.cell (World.block_lt_of_cell? w _ hx364_0)).trans hx364_0; replace p364 := eq_true p364; replace q364 := eq_true q364) | ((with_reducible refine gate_callee (f := 27) rfl ?_); refine goesL_ (some 82) rfl rfl Try.func27 (by kernel_rfl) rfl #[.int .i64 (rd l0 (ji24))] rfl (by (try simp only [List.map_toArray, List.map_cons, List.map_nil]); first | done | (simp only [hji24]; rfl) | rfl | (simp only [List.length_drop, List.length_take]; rfl)) ?_; (with_reducible refine (gimballaw10_taken.calls (rd l0 (ji24)) t365 _ A27.out).mono ?_); rintro e w' ⟨rfl, ⟨nd, rfl⟩⟩; refine ⟨_, rfl, ?_⟩))
                           go_roundg kj16
                           case measure => have := HK1.out; have := HJ2.out; have := HK3.out; have := HJ8.out; have := HK5.out; have := HJ16.out; omega
                           case rel => exact ⟨(x4_5), (wrap64 (x7_5 + 1)), (by first | rfl | (simp; done) | (simp [*]; done)), (by first | rfl | (simp; done) | (simp [*]; done)), H', ⟨by have := HK1.out; have := HJ2.out; have := HK3.out; have := HJ8.out; have := HK5.out; have := HJ16.out; omega⟩, ⟨by repeat (first | (with_reducible first | exact HB.out | apply below_alloc | apply pw_below_drewN | apply below_drew1) | exact HB.out)⟩⟩
                         ·
                          rw [if_neg c28] at H
                          have c28b0 : decide (t363 < 4611686018427387904) = false := decide_eq_false c28
                          clear c28
                          have H' := Aside0.mk H
                          clear H
                          have p362 : 0 ≤ ((ji20) : Int) := of_decide_eq_true (by first | (with_reducible assumption) | assumption)
                          have q362 : (ji20) < (l0.length : Int) := of_decide_eq_true (by first | (with_reducible assumption) | assumption)
                          obtain ⟨ad362, e362, hx362_0⟩ := Kd.at_int HR0.out (ji20) p362 q362
                          obtain rfl : ad358 = ad362 := (by injection e362)
                          replace hx362_0 := (HB.out.cell (World.block_lt_of_cell? w _ hx362_0)).trans hx362_0
                          replace p362 := eq_true p362
                          replace q362 := eq_true q362
                          go_wp2_with (first | ((with_reducible refine gate_callee (f := 27) rfl ?_); refine goesL_ (some 73) rfl rfl Try.func27 (by kernel_rfl) rfl #[.int .i64 (rd l0 (ji20))] rfl (by (try simp only [List.map_toArray, List.map_cons, List.map_nil]); first | done | (simp only [hji20]; rfl) | rfl | (simp only [List.length_drop, List.length_take]; rfl)) ?_; (with_reducible refine (gimballaw10_taken.calls (rd l0 (ji20)) t363 _ A23.out).mono ?_); rintro e w' ⟨rfl, ⟨nd, rfl⟩⟩; refine ⟨_, rfl, ?_⟩; have p364 : 0 ≤ ((ji24) : Int) := of_decide_eq_true (by first | (with_reducible assumption) | assumption); have q364 : (ji24) < (l0.length : Int) := of_decide_eq_true (by first | (with_reducible assumption) | assumption); obtain ⟨ad364, e364, hx364_0⟩ := Kd.at_int HR0.out (ji24) p364 q364; obtain rfl : ad358 = ad364 := (by injection e364); replace hx364_0 := (HB.out.cell (World.block_lt_of_cell? w _ hx364_0)).trans hx364_0; replace p364 := eq_true p364; replace q364 := eq_true q364) | ((with_reducible refine gate_callee (f := 27) rfl ?_); refine goesL_ (some 82) rfl rfl Try.func27 (by kernel_rfl) rfl #[.int .i64 (rd l0 (ji24))] rfl (by (try simp only [List.map_toArray, List.map_cons, List.map_nil]); first | done | (simp only [hji24]; rfl) | rfl | (simp only [List.length_drop, List.length_take]; rfl)) ?_; (with_reducible refine (gimballaw10_taken.calls (rd l0 (ji24)) t365 _ A27.out).mono ?_); rintro e w' ⟨rfl, ⟨nd, rfl⟩⟩; refine ⟨_, rfl, ?_⟩))
                          go_roundg kj16
                          case measure => have := HK1.out; have := HJ2.out; have := HK3.out; have := HJ8.out; have := HK5.out; have := HJ16.out; omega
                          case rel => exact ⟨(x4_5), (wrap64 (x7_5 + 1)), (by first | rfl | (simp; done) | (simp [*]; done)), (by first | rfl | (simp; done) | (simp [*]; done)), H', ⟨by have := HK1.out; have := HJ2.out; have := HK3.out; have := HJ8.out; have := HK5.out; have := HJ16.out; omega⟩, ⟨by repeat (first | (with_reducible first | exact HB.out | apply below_alloc | apply pw_below_drewN | apply below_drew1) | exact HB.out)⟩⟩
                        ·
                         rw [if_neg c26] at H
                         exact absurd H (by simp)
                       ·
                        rw [if_neg c25] at H
                        exact absurd H (by simp)
                      ·
                       rw [if_neg c22] at H
                       exact absurd H (by simp)
                     ·
                      rw [if_neg c21] at H
                      exact absurd H (by simp)
                    ·
                     replace c19 := Bool.eq_false_iff.mpr c19
                     subst c19
                     have H1 : (gimballaw10_DbmTriangles.l1 kj16 l0 t355 x4_5 x5_1 (wrap64 (x6_3 + 1))) = some true := by rw [if_neg (show ¬ (false = true) by decide)] at H; exact H
                     clear H
                     have H := H1
                     clear H1
                     have H' := Aside0.mk H
                     clear H
                     go_wp2
                     go_roundg kj16
                     case measure => have := HK1.out; have := HJ2.out; have := HK3.out; have := HJ8.out; have := HK5.out; have := HJ16.out; omega
                     case rel => exact ⟨(x4_5), (wrap64 (x6_3 + 1)), (by first | rfl | (simp; done) | (simp [*]; done)), (by first | rfl | (simp; done) | (simp [*]; done)), H', ⟨by have := HK1.out; have := HJ2.out; have := HK3.out; have := HJ8.out; have := HK5.out; have := HJ16.out; omega⟩, ⟨by repeat (first | (with_reducible first | exact HB.out | apply below_alloc | apply pw_below_drewN | apply below_drew1) | exact HB.out)⟩⟩
               ·
                rw [if_neg c14] at H
                exact absurd H (by simp)
              ·
               rw [if_neg c13] at H
               exact absurd H (by simp)
             ·
              replace c11 := Bool.eq_false_iff.mpr c11
              subst c11
              have H1 : (gimballaw10_DbmTriangles.l0 kj8 l0 t355 x4_3 (wrap64 (x5_1 + 1))) = some true := by rw [if_neg (show ¬ (false = true) by decide)] at H; exact H
              clear H
              have H := H1
              clear H1
              have H' := Aside0.mk H
              clear H
              go_wp2
              go_roundg kj8
              case measure => have := HK1.out; have := HJ2.out; have := HK3.out; have := HJ8.out; omega
              case rel => exact ⟨(x4_3), (wrap64 (x5_1 + 1)), (by first | rfl | (simp; done) | (simp [*]; done)), (by first | rfl | (simp; done) | (simp [*]; done)), H', ⟨by have := HK1.out; have := HJ2.out; have := HK3.out; have := HJ8.out; omega⟩, ⟨by repeat (first | (with_reducible first | exact HB.out | apply below_alloc | apply pw_below_drewN | apply below_drew1) | exact HB.out)⟩⟩
        ·
         rw [if_neg c8] at H
         exact absurd H (by simp)
       ·
        rw [if_neg c7] at H
        exact absurd H (by simp)
      ·
       replace c5 := Bool.eq_false_iff.mpr c5
       subst c5
       have H1 : ((dbm_Closed.f kj2 l0).bind fun t356 => (if (t356 == x4_1) = true then ((gimballaw10_awake.f kj2).bind fun t357 => (some t357)) else (some false))) = some true := by rw [if_neg (show ¬ (false = true) by decide)] at H; exact H
       clear H
       have H := H1
       clear H1
       replace H := Option.bind_eq_some_iff.mp H
       obtain ⟨t356, A350, H⟩ := H
       replace H : (if (t356 == x4_1) = true then ((gimballaw10_awake.f kj2).bind fun t357 => (some t357)) else (some false)) = some true := H
       have A35 := Aside0.mk A350
       clear A350
       by_cases c36 : (t356 == x4_1) = true
       ·
        rw [if_pos c36] at H
        have c36b0 : (t356 == x4_1) = true := c36
        (try (have c36b1 : decide (t356 = x4_1) = true := by simpa using c36))
        (try (have c36b2 : (t356 == x4_1) = true := by simpa using c36))
        clear c36
        replace H := Option.bind_eq_some_iff.mp H
        obtain ⟨t357, A370, H⟩ := H
        replace H : (some t357) = some true := H
        have A37 := Aside0.mk A370
        clear A370
        have hret_ := Option.some.inj H
        clear H
        go_wp2_with (first | ((with_reducible refine gate_callee (f := 28) rfl ?_); refine goesL_ (some 103) rfl rfl Try.func28 (by kernel_rfl) rfl #[.slice A0 l0.length c0] rfl (by (try simp only [List.map_toArray, List.map_cons, List.map_nil]); first | done | rfl | (simp only [List.length_drop, List.length_take]; rfl)) ?_; (with_reducible refine (dbm_Closed.calls kj2 _ _ l0 t356 _ ?side1 ?side2 A35.out).mono ?_); (case side1 => repeat (first | exact (Kd.C_below HR0.out HB.out) | (with_reducible refine Kd.C_alloc ?_ _) | (with_reducible refine Kd.C_drewN ?_ _) | (with_reducible refine Kd.C_drew ?_))); (case side2 => exact HC0.out); rintro e w38 ⟨rfl, hb⟩; refine ⟨_, rfl, ?_⟩; have n0_ := Aside0.mk (below_step (by repeat (first | (with_reducible first | exact HB.out | apply below_alloc | apply pw_below_drewN | apply below_drew1) | exact HB.out)) hb); clear HB; have HB := n0_; clear n0_; (try clear hb); (try clear hb2); (try clear hk); (try clear hi)) | (go_at_call 22; (with_reducible refine (gimballaw10_awake.calls kj2  t357 _ A37.out).mono ?_); rintro e w39 ⟨rfl, hb⟩; have n0_ := Aside0.mk (below_step (by repeat (first | (with_reducible first | exact HB.out | apply below_alloc | apply pw_below_drewN | apply below_drew1) | exact HB.out)) hb); clear HB; have HB := n0_; clear n0_; (try clear hb); (try clear hb2); (try clear hk); (try clear hi)))
        go_ret
        exact ⟨by first | rfl | (simp [errW_none, errW_some] <;> rfl) | (simp [*, errW_none, errW_some] <;> rfl), by repeat (first | (with_reducible first | exact HB.out | apply below_alloc | apply pw_below_drewN | apply below_drew1) | exact HB.out)⟩
       ·
        rw [if_neg c36] at H
        have c36b0 : (t356 == x4_1) = false := by simpa using c36
        (try (have c36b1 : decide (t356 = x4_1) = false := by simpa using c36))
        (try (have c36b2 : (t356 == x4_1) = false := by simpa using c36))
        (try (have c36b3 : ¬ (t356 = x4_1) := by simpa using c36))
        clear c36
        exact absurd H (by simp)

/-- THE ONE PURE STATEMENT of gimballaw10_DbmTriangles: yours. -/
def gimballaw10_DbmTriangles.Pure : Prop := ∀ (l0 : List Int), l0.length ≤ maxLen → l0.length * 8 ≤ 140737488351232 → (∀ x ∈ l0, (Lit.int .i64 x).wf = true) → ∃ k, gimballaw10_DbmTriangles.f k l0 = some true
theorem gimballaw10_DbmTriangles.walk (P : gimballaw10_DbmTriangles.Pure) (a0 : Option Addr) (len0 cap0 : Nat) (z0 : List Int) (w : World) (w0 : (a0 = none ∧ len0 = 0 ∧ cap0 = 0 ∧ z0 = []) ∨ ∃ x, a0 = some x ∧ len0 ≤ cap0 ∧ cap0 ≤ maxLen ∧ z0.length = cap0 ∧ (∀ i, i < z0.length → w.cell? (x.add i) = some (.int .i64 (z0.getD i 0))) ∧ ∀ n ∈ z0, (Lit.int .i64 n).wf = true) (y0 : len0 * 8 ≤ 140737488351232) :
    Calls Try.prog 9 #[.slice a0 len0 cap0] w fun e w' => e = .returned (.bool true) ∧ Below w.heap.size w w' := by
  obtain ⟨l0, rfl, hr0, hm0, hw0, hc0⟩ := ReadsInt.ofRowC w0
  obtain ⟨k, h⟩ := P l0 hm0 y0 hw0
  refine (gimballaw10_DbmTriangles.calls k _ _ l0  w (Kd.C_of_reads (d := (0 : Int)) (h1 := fun _ => rfl) hr0) hc0 h).mono ?_
  rintro e w' ⟨rfl, hd⟩
  exact ⟨rfl, hd⟩

end Go.Proofs.Ytklignhpkojmhaa.P
