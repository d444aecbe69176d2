/- What the law's proof needs of Px5. -/
import Derived.Test.YtiemdfdebdmchaaTrSU2
import Derived.Test.YtiemdfdebdmchaaTrSU
import Derived.Test.YtiemdfdebdmchaaTrSPx0
import Derived.Test.YtiemdfdebdmchaaTrSPx1
import Derived.Test.YtiemdfdebdmchaaTrSPx2
import Derived.Test.YtiemdfdebdmchaaTrSPx4
import Derived.Test.YtiemdfdebdmchaaTrSS0
import Derived.Test.YtiemdfdebdmchaaTrSS1
-- PRINTED by print.py (a twelfth state) out of the translation. Not trusted: Lean checks it.
namespace Go.Proofs.Ytiemdfdebdmchaa.P
open Go.RowKit Go.Proofs.YtiemdfdebdmchaaW.PrintWords Go.Proofs.YtiemdfdebdmchaaW.PrintLast Go.Proofs.YtiemdfdebdmchaaW.PrintMore Go.Proofs.YtiemdfdebdmchaaO
attribute [local go_sem] max2_int min2_int max_two min_two max_three min_three max_four min_four   -- for this text's walks alone
set_option linter.unusedVariables false
set_option linter.unusedSimpArgs false
mutual
def trace_Encode.l0 : Nat → List Int → List Int → Int → Int → Int → Int → Int → Int → Int → List Int → List (List Int) → List (List Int) → Option (List Int × Int)
  | 0, _, _, _, _, _, _, _, _, _, _, _, _ => none
  | k + 1, x4, x38, x39, x40, x128000, x128001, x128002, x128003, x128004, x128005, x128006, x128007 => if x40 < x39 then (if 0 ≤ x40 then (if x40 < (x38.length : Int) then ((trace_number.f k x4 (IntKind.u64.wrap (rd x38 x40))).bind fun t132 => (trace_Encode.l0 k t132 x38 x39 (wrap64 (x40 + 1)) x128000 x128001 x128002 x128003 x128004 x128005 x128006 x128007)) else (none)) else (none)) else ((trace_number.f k x4 (IntKind.u64.wrap (x128003))).bind fun t135 => ((trace_number.f k t135 (IntKind.u64.wrap (x128004))).bind fun t138 => ((trace_rowsteps.f k t138 (x128005.length : Int) x128005).bind fun t142 => ((trace_number.f k t142 (IntKind.u64.wrap ((x128006.length : Int)))).bind fun t145 => (trace_Encode.l1 k t145 x128006 (x128006.length : Int) 0 x128000 x128001 x128002 x128003 x128004 x128005 x128006 x128007)))))
def trace_Encode.l1 : Nat → List Int → List (List Int) → Int → Int → Int → Int → Int → Int → Int → List Int → List (List Int) → List (List Int) → Option (List Int × Int)
  | 0, _, _, _, _, _, _, _, _, _, _, _, _ => none
  | k + 1, x4, x73, x74, x75, x128000, x128001, x128002, x128003, x128004, x128005, x128006, x128007 => if x75 < x74 then (if 0 ≤ x75 then (if x75 < (x73.length : Int) then ((trace_rowsteps.f k x4 ((rd_L1 x73 x75).length : Int) (rd_L1 x73 x75)).bind fun t150 => (trace_Encode.l1 k t150 x73 x74 (wrap64 (x75 + 1)) x128000 x128001 x128002 x128003 x128004 x128005 x128006 x128007)) else (none)) else (none)) else ((trace_number.f k x4 (IntKind.u64.wrap ((x128007.length : Int)))).bind fun t153 => (trace_Encode.l2 k t153 ([] : List Int) x128007 (x128007.length : Int) 0))
def trace_Encode.l2 : Nat → List Int → List Int → List (List Int) → Int → Int → Option (List Int × Int)
  | 0, _, _, _, _, _ => none
  | k + 1, x4, x10, x93, x94, x95 => if x95 < x94 then (if 0 ≤ x95 then (if x95 < (x93.length : Int) then ((trace_rowbeside.f k x4 ((rd_L1 x93 x95).length : Int) (rd_L1 x93 x95) x10).bind fun t159 => (trace_Encode.l2 k t159 (rd_L1 x93 x95) x93 x94 (wrap64 (x95 + 1)))) else (none)) else (none)) else ((code_Sum.f k x4).bind fun t162 => ((some (([(t162) % 256, (t162 / 256) % 256, (t162 / 65536) % 256, (t162 / 16777216) % 256] : List Int) : List Int)).bind fun y163 => (if x4.length + y163.length < 140737488355328 then (some ((x4 ++ y163), 0)) else (none))))
end
def trace_Encode.f (k : Nat) (a0_0 : Int) (l0_1 : List Int) (a0_2 : Int) (a0_3 : Int) (a0_4 : Int) (a0_5 : Int) (a0_6 : Int) (l0_7 : List Int) (l0_8 : List (List Int)) (l0_9 : List (List Int)) : Option (List Int × Int) := (trace_fit.f a0_0 l0_1 a0_2 a0_3 a0_4 a0_5 a0_6 l0_7 l0_8 l0_9).bind fun t115 => (if t115 = true then ((trace_signedF.f k (([71, 84, 82, 67, 1] : List Int)) a0_0).bind fun t120 => ((trace_rowsteps.f k t120 (l0_1.length : Int) l0_1).bind fun t124 => ((some (([a0_2, a0_3, a0_4] : List Int) : List Int)).bind fun y128 => (trace_Encode.l0 k t124 y128 (y128.length : Int) 0 a0_2 a0_3 a0_4 a0_5 a0_6 l0_7 l0_8 l0_9)))) else (some (([] : List Int), 333)))
theorem trace_Encode.mono_l : ∀ k, (∀ y0 y1 y2 y3 y4 y5 y6 y7 y8 y9 y10 y11, LeO (trace_Encode.l0 k y0 y1 y2 y3 y4 y5 y6 y7 y8 y9 y10 y11) (trace_Encode.l0 (k + 1) y0 y1 y2 y3 y4 y5 y6 y7 y8 y9 y10 y11)) ∧ (∀ y0 y1 y2 y3 y4 y5 y6 y7 y8 y9 y10 y11, LeO (trace_Encode.l1 k y0 y1 y2 y3 y4 y5 y6 y7 y8 y9 y10 y11) (trace_Encode.l1 (k + 1) y0 y1 y2 y3 y4 y5 y6 y7 y8 y9 y10 y11)) ∧ (∀ y0 y1 y2 y3 y4, LeO (trace_Encode.l2 k y0 y1 y2 y3 y4) (trace_Encode.l2 (k + 1) y0 y1 y2 y3 y4))
  | 0 => ⟨fun _ _ _ _ _ _ _ _ _ _ _ _ r h => by simp [trace_Encode.l0] at h, fun _ _ _ _ _ _ _ _ _ _ _ _ r h => by simp [trace_Encode.l1] at h, fun _ _ _ _ _ r h => by simp [trace_Encode.l2] at h⟩
  | k + 1 => by
    obtain ⟨ih0, ih1, ih2⟩ := trace_Encode.mono_l k
    refine ⟨?_, ?_, ?_⟩
    · intro y0 y1 y2 y3 y4 y5 y6 y7 y8 y9 y10 y11
      unfold trace_Encode.l0
      repeat' first
      | (with_reducible exact ih0 _ _ _ _ _ _ _ _ _ _ _ _)
      | (with_reducible exact ih1 _ _ _ _ _ _ _ _ _ _ _ _)
      | (with_reducible exact ih2 _ _ _ _ _)
      | (with_reducible exact code_Sum.mono _ _)
      | (with_reducible exact trace_number.mono _ _ _)
      | (with_reducible exact trace_rowbeside.mono _ _ _ _ _)
      | (with_reducible exact trace_rowsteps.mono _ _ _ _)
      | (with_reducible exact trace_signedF.mono _ _ _)
      | (with_reducible exact LeO.refl _)
      | (with_reducible exact LeO.none _)
      | (with_reducible refine LeO.ite ?_ ?_)
      | (with_reducible refine LeO.bind ?_ (fun _ => ?_))
      | exact ih0 _ _ _ _ _ _ _ _ _ _ _ _
      | exact ih1 _ _ _ _ _ _ _ _ _ _ _ _
      | exact ih2 _ _ _ _ _
      | exact code_Sum.mono _ _
      | exact trace_number.mono _ _ _
      | exact trace_rowbeside.mono _ _ _ _ _
      | exact trace_rowsteps.mono _ _ _ _
      | exact trace_signedF.mono _ _ _
      | exact LeO.none _
      | refine LeO.ite ?_ ?_
      | refine LeO.bind ?_ (fun _ => ?_)
    · intro y0 y1 y2 y3 y4 y5 y6 y7 y8 y9 y10 y11
      unfold trace_Encode.l1
      repeat' first
      | (with_reducible exact ih0 _ _ _ _ _ _ _ _ _ _ _ _)
      | (with_reducible exact ih1 _ _ _ _ _ _ _ _ _ _ _ _)
      | (with_reducible exact ih2 _ _ _ _ _)
      | (with_reducible exact code_Sum.mono _ _)
      | (with_reducible exact trace_number.mono _ _ _)
      | (with_reducible exact trace_rowbeside.mono _ _ _ _ _)
      | (with_reducible exact trace_rowsteps.mono _ _ _ _)
      | (with_reducible exact trace_signedF.mono _ _ _)
      | (with_reducible exact LeO.refl _)
      | (with_reducible exact LeO.none _)
      | (with_reducible refine LeO.ite ?_ ?_)
      | (with_reducible refine LeO.bind ?_ (fun _ => ?_))
      | exact ih0 _ _ _ _ _ _ _ _ _ _ _ _
      | exact ih1 _ _ _ _ _ _ _ _ _ _ _ _
      | exact ih2 _ _ _ _ _
      | exact code_Sum.mono _ _
      | exact trace_number.mono _ _ _
      | exact trace_rowbeside.mono _ _ _ _ _
      | exact trace_rowsteps.mono _ _ _ _
      | exact trace_signedF.mono _ _ _
      | exact LeO.none _
      | refine LeO.ite ?_ ?_
      | refine LeO.bind ?_ (fun _ => ?_)
    · intro y0 y1 y2 y3 y4
      unfold trace_Encode.l2
      repeat' first
      | (with_reducible exact ih0 _ _ _ _ _ _ _ _ _ _ _ _)
      | (with_reducible exact ih1 _ _ _ _ _ _ _ _ _ _ _ _)
      | (with_reducible exact ih2 _ _ _ _ _)
      | (with_reducible exact code_Sum.mono _ _)
      | (with_reducible exact trace_number.mono _ _ _)
      | (with_reducible exact trace_rowbeside.mono _ _ _ _ _)
      | (with_reducible exact trace_rowsteps.mono _ _ _ _)
      | (with_reducible exact trace_signedF.mono _ _ _)
      | (with_reducible exact LeO.refl _)
      | (with_reducible exact LeO.none _)
      | (with_reducible refine LeO.ite ?_ ?_)
      | (with_reducible refine LeO.bind ?_ (fun _ => ?_))
      | exact ih0 _ _ _ _ _ _ _ _ _ _ _ _
      | exact ih1 _ _ _ _ _ _ _ _ _ _ _ _
      | exact ih2 _ _ _ _ _
      | exact code_Sum.mono _ _
      | exact trace_number.mono _ _ _
      | exact trace_rowbeside.mono _ _ _ _ _
      | exact trace_rowsteps.mono _ _ _ _
      | exact trace_signedF.mono _ _ _
      | exact LeO.none _
      | refine LeO.ite ?_ ?_
      | refine LeO.bind ?_ (fun _ => ?_)
theorem trace_Encode.mono : ∀ a0 a1 a2 a3 a4 a5 a6 a7 a8 a9 k, LeO (trace_Encode.f k a0 a1 a2 a3 a4 a5 a6 a7 a8 a9) (trace_Encode.f (k + 1) a0 a1 a2 a3 a4 a5 a6 a7 a8 a9) := by
  intro a0 a1 a2 a3 a4 a5 a6 a7 a8 a9 k
  obtain ⟨ih0, ih1, ih2⟩ := trace_Encode.mono_l k
  unfold trace_Encode.f
  repeat' first
      | (with_reducible exact ih0 _ _ _ _ _ _ _ _ _ _ _ _)
      | (with_reducible exact ih1 _ _ _ _ _ _ _ _ _ _ _ _)
      | (with_reducible exact ih2 _ _ _ _ _)
      | (with_reducible exact code_Sum.mono _ _)
      | (with_reducible exact trace_number.mono _ _ _)
      | (with_reducible exact trace_rowbeside.mono _ _ _ _ _)
      | (with_reducible exact trace_rowsteps.mono _ _ _ _)
      | (with_reducible exact trace_signedF.mono _ _ _)
      | (with_reducible exact LeO.refl _)
      | (with_reducible exact LeO.none _)
      | (with_reducible refine LeO.ite ?_ ?_)
      | (with_reducible refine LeO.bind ?_ (fun _ => ?_))
      | exact ih0 _ _ _ _ _ _ _ _ _ _ _ _
      | exact ih1 _ _ _ _ _ _ _ _ _ _ _ _
      | exact ih2 _ _ _ _ _
      | exact code_Sum.mono _ _
      | exact trace_number.mono _ _ _
      | exact trace_rowbeside.mono _ _ _ _ _
      | exact trace_rowsteps.mono _ _ _ _
      | exact trace_signedF.mono _ _ _
      | exact LeO.none _
      | refine LeO.ite ?_ ?_
      | refine LeO.bind ?_ (fun _ => ?_)
def trace_Encode.T4 : Bool × List (List Nat × List Nat) := (true, [([], []), ([], []), ([1], [1]), ([2], [2]), ([], []), ([4], [4]), ([5], [5]), ([0, 3, 6, 6], [0, 3, 6]), ([7, 7, 0, 1, 2, 3, 4, 5, 6, 7], [0, 7])])
def trace_Encode.B4 : List Nat := [0, 0, 2, 6, 0, 16, 48, 127, 255]
theorem trace_Encode.tab4 : rtab .any (opsOf Try.f8 4) = trace_Encode.T4 := by kernel_rfl
theorem trace_Encode.bits4 : waitsOk trace_Encode.T4.2 trace_Encode.B4 = true := by kernel_rfl
def trace_Encode.T11 : Bool × List (List Nat × List Nat) := (true, [([], []), ([], []), ([1], [1]), ([2], [2]), ([0, 3], [0, 3]), ([], []), ([5], [5]), ([6], [6]), ([4, 7, 4], [4, 7]), ([8, 8, 0, 1, 2, 3, 4, 5, 6, 7, 8], [0, 8])])
def trace_Encode.B11 : List Nat := [0, 0, 2, 6, 15, 0, 32, 96, 255, 511]
theorem trace_Encode.tab11 : rtab .any (opsOf Try.f8 11) = trace_Encode.T11 := by kernel_rfl
theorem trace_Encode.bits11 : waitsOk trace_Encode.T11.2 trace_Encode.B11 = true := by kernel_rfl
def trace_Encode.T12 : Bool × List (List Nat × List Nat) := (true, [([], []), ([], []), ([1], [1]), ([2], [2]), ([], []), ([4], [4]), ([5], [5]), ([0, 3, 6, 6], [0, 3, 6]), ([7, 7, 0, 1, 2, 3, 4, 5, 6, 7], [0, 7])])
def trace_Encode.B12 : List Nat := [0, 0, 2, 6, 0, 16, 48, 127, 255]
theorem trace_Encode.tab12 : rtab .any (opsOf Try.f8 12) = trace_Encode.T12 := by kernel_rfl
theorem trace_Encode.bits12 : waitsOk trace_Encode.T12.2 trace_Encode.B12 = true := by kernel_rfl
set_option maxHeartbeats 8000000 in
set_option maxRecDepth 100000 in
theorem trace_Encode.calls (k : Nat) (a0_0 : Int) (A0_1 : Option Addr) (c0_1 : Nat) (l0_1 : List Int) (a0_2 : Int) (a0_3 : Int) (a0_4 : Int) (a0_5 : Int) (a0_6 : Int) (A0_7 : Option Addr) (c0_7 : Nat) (l0_7 : List Int) (A0_8 : Option Addr) (c0_8 : Nat) (l0_8 : List (List Int)) (P0_9_ : Nat → Prop) (A0_9 : Option Addr) (c0_9 : Nat) (l0_9 : List (List Int)) (r1 : List Int) (r2 : Int) (w : World) (hr0_1 : Kd.C (Kd.int .i64) w A0_1 l0_1.length l0_1) (hc0_1 : l0_1.length ≤ c0_1) (hr0_7 : Kd.C (Kd.int .i64) w A0_7 l0_7.length l0_7) (hc0_7 : l0_7.length ≤ c0_7) (hr0_8 : Kd.C (Kd.slice 2 (Kd.int .i64)) w A0_8 l0_8.length l0_8) (hc0_8 : l0_8.length ≤ c0_8) (hs0_9 : Kd.V (Kd.slice 2 (Kd.int .i64)) 22 w w.heap.size (fun k_ => P0_9_ k_) (.slice A0_9 l0_9.length c0_9) l0_9) (h : trace_Encode.f k a0_0 l0_1 a0_2 a0_3 a0_4 a0_5 a0_6 l0_7 l0_8 l0_9 = some (r1, r2)) :
    Calls Try.prog 8 #[.agg #[.int .i64 a0_0, .slice A0_1 l0_1.length c0_1, .int .i64 a0_2, .int .i64 a0_3, .int .i64 a0_4, .int .i64 a0_5, .int .i64 a0_6, .slice A0_7 l0_7.length c0_7, .slice A0_8 l0_8.length c0_8, .slice A0_9 l0_9.length c0_9]] w fun e w' => ∃ v0_ : Value, e = .returned (.tuple #[v0_, .int .i64 r2]) ∧ Kd.R (Kd.int .u8) 5 w' w.heap.size (fun k_ => (w.heap.size ≤ k_)) v0_ r1 ∧ Below w.heap.size w w' := by
  have hu27 := Try.underlying27
  have hu25 := Try.underlying25
  have HR0_1 := Aside0.mk hr0_1
  have HC0_1 := Aside0.mk hc0_1
  clear hr0_1 hc0_1
  have HR0_7 := Aside0.mk hr0_7
  have HC0_7 := Aside0.mk hc0_7
  clear hr0_7 hc0_7
  have HR0_8 := Aside0.mk hr0_8
  have HC0_8 := Aside0.mk hc0_8
  clear hr0_8 hc0_8
  have HO0_9 := Aside0.mk (show Kd.V (Kd.slice 2 (Kd.int .i64)) 22 w w.heap.size (fun k_ => (P0_9_ k_ ∨ w.heap.size ≤ k_)) (.slice A0_9 l0_9.length c0_9) l0_9 from Kd.V_mono hs0_9 (fun k_ hk => .inl hk))
  have HB := Aside0.mk (Below.refl w.heap.size w)
  have H : ((trace_fit.f a0_0 l0_1 a0_2 a0_3 a0_4 a0_5 a0_6 l0_7 l0_8 l0_9).bind fun t115 => (if t115 = true then ((trace_signedF.f k (([71, 84, 82, 67, 1] : List Int)) a0_0).bind fun t120 => ((trace_rowsteps.f k t120 (l0_1.length : Int) l0_1).bind fun t124 => ((some (([a0_2, a0_3, a0_4] : List Int) : List Int)).bind fun y128 => (trace_Encode.l0 k t124 y128 (y128.length : Int) 0 a0_2 a0_3 a0_4 a0_5 a0_6 l0_7 l0_8 l0_9)))) else (some (([] : List Int), 333)))) = some (r1, r2) := h
  clear h
  replace H := Option.bind_eq_some_iff.mp H
  obtain ⟨t115, A20, H⟩ := H
  replace H : (if t115 = true then ((trace_signedF.f k (([71, 84, 82, 67, 1] : List Int)) a0_0).bind fun t120 => ((trace_rowsteps.f k t120 (l0_1.length : Int) l0_1).bind fun t124 => ((some (([a0_2, a0_3, a0_4] : List Int) : List Int)).bind fun y128 => (trace_Encode.l0 k t124 y128 (y128.length : Int) 0 a0_2 a0_3 a0_4 a0_5 a0_6 l0_7 l0_8 l0_9)))) else (some (([] : List Int), 333))) = some (r1, r2) := H
  have A2 := Aside0.mk A20
  clear A20
  by_cases c3 : t115 = true
  ·
   subst c3
   have H1 : ((trace_signedF.f k (([71, 84, 82, 67, 1] : List Int)) a0_0).bind fun t120 => ((trace_rowsteps.f k t120 (l0_1.length : Int) l0_1).bind fun t124 => ((some (([a0_2, a0_3, a0_4] : List Int) : List Int)).bind fun y128 => (trace_Encode.l0 k t124 y128 (y128.length : Int) 0 a0_2 a0_3 a0_4 a0_5 a0_6 l0_7 l0_8 l0_9)))) = some (r1, r2) := by rw [if_pos rfl] at H; exact H
   clear H
   have H := H1
   clear H1
   obtain ⟨y116, hy116⟩ : ∃ y_ : List Int, y_ = (([71, 84, 82, 67, 1] : List Int)) := ⟨_, rfl⟩
   replace H : ((trace_signedF.f k y116 a0_0).bind fun t120 => ((trace_rowsteps.f k t120 (l0_1.length : Int) l0_1).bind fun t124 => ((some (([a0_2, a0_3, a0_4] : List Int) : List Int)).bind fun y128 => (trace_Encode.l0 k t124 y128 (y128.length : Int) 0 a0_2 a0_3 a0_4 a0_5 a0_6 l0_7 l0_8 l0_9)))) = some (r1, r2) := by first | (rw [hy116]; with_reducible exact H) | (have H2_ := (Option.bind_some _ _).symm.trans H; rw [hy116]; with_reducible exact H2_) | (have H2_ := (Option.bind_some _ _).symm.trans H; with_reducible exact H2_) | with_reducible exact H | (rw [hy116]; exact H) | exact H
   have Ny116 := Aside0.mk hy116
   clear hy116
   replace H := Option.bind_eq_some_iff.mp H
   obtain ⟨t120, A40, H⟩ := H
   replace H : ((trace_rowsteps.f k t120 (l0_1.length : Int) l0_1).bind fun t124 => ((some (([a0_2, a0_3, a0_4] : List Int) : List Int)).bind fun y128 => (trace_Encode.l0 k t124 y128 (y128.length : Int) 0 a0_2 a0_3 a0_4 a0_5 a0_6 l0_7 l0_8 l0_9))) = some (r1, r2) := H
   have A4 := Aside0.mk A40
   clear A40
   replace H := Option.bind_eq_some_iff.mp H
   obtain ⟨t124, A50, H⟩ := H
   replace H : ((some (([a0_2, a0_3, a0_4] : List Int) : List Int)).bind fun y128 => (trace_Encode.l0 k t124 y128 (y128.length : Int) 0 a0_2 a0_3 a0_4 a0_5 a0_6 l0_7 l0_8 l0_9)) = some (r1, r2) := H
   have A5 := Aside0.mk A50
   clear A50
   obtain ⟨y128, hy128⟩ : ∃ y_ : List Int, y_ = (([a0_2, a0_3, a0_4] : List Int)) := ⟨_, rfl⟩
   replace H : (trace_Encode.l0 k t124 y128 (y128.length : Int) 0 a0_2 a0_3 a0_4 a0_5 a0_6 l0_7 l0_8 l0_9) = some (r1, r2) := by first | (rw [hy128]; with_reducible exact H) | (have H2_ := (Option.bind_some _ _).symm.trans H; rw [hy128]; with_reducible exact H2_) | (have H2_ := (Option.bind_some _ _).symm.trans H; with_reducible exact H2_) | with_reducible exact H | (rw [hy128]; exact H) | exact H
   have Ny128 := Aside0.mk hy128
   clear hy128
   have H' := Aside0.mk H
   clear H
   go_enter Try.func8, Try.ntmps8
   try go_wp2_with (first | ((with_reducible refine gate_dst (N := 1) rfl ?_); refine box_event ?hg (N := 1) ?hd (cs := #[.int .i64 a0_0, .slice A0_1 l0_1.length c0_1, .int .i64 a0_2, .int .i64 a0_3, .int .i64 a0_4, .int .i64 a0_5, .int .i64 a0_6, .slice A0_7 l0_7.length c0_7, .slice A0_8 l0_8.length c0_8, .slice A0_9 l0_9.length c0_9]) (t := 27) ?hr ?_; (case hd => rfl); (case hg => rfl); (case hr => first | (go_simp; done) | (go_simp; rfl)); intro gb114 hg w6 hbox hb; have n0_ := Aside0.mk (Kd.V_below (Kd.V_elderB (by (with_reducible repeat (first | apply Kd.V_alloc | apply Kd.V_drewN | apply Kd.V_drew)); exact HO0_9.out) gb114 (Nat.le_of_eq hg.symm)) hb); have n1_ := bst HB hb; have n2_ := Aside0.mk (hbox); have n3_ := bsz HB hg; have n4_ := bsz HB hg; clear HO0_9; clear HB; have HO0_9 := n0_; have HB := n1_; have BK114 := n2_; have GW114 := n3_; have GE114 := n4_; clear n0_ n1_ n2_ n3_ n4_; clear hb hbox hg; have hcz7_0 := hcz BK114 0; have hcz7_1 := hcz BK114 1; have hcz7_2 := hcz BK114 2; have hcz7_3 := hcz BK114 3; have hcz7_4 := hcz BK114 4; have hcz7_5 := hcz BK114 5; have hcz7_6 := hcz BK114 6; have hcz7_7 := hcz BK114 7; have hcz7_8 := hcz BK114 8; have hcz7_9 := hcz BK114 9; have hfz7_0 := blk_frozen BK114.out 0; have hfz7_1 := blk_frozen BK114.out 1; have hfz7_2 := blk_frozen BK114.out 2; have hfz7_3 := blk_frozen BK114.out 3; have hfz7_4 := blk_frozen BK114.out 4; have hfz7_5 := blk_frozen BK114.out 5; have hfz7_6 := blk_frozen BK114.out 6; have hfz7_7 := blk_frozen BK114.out 7; have hfz7_8 := blk_frozen BK114.out 8; have hfz7_9 := blk_frozen BK114.out 9) | ((with_reducible refine gate_callee (f := 18) rfl ?_); refine goesL_ (some 15) rfl rfl Try.func18 (by kernel_rfl) rfl #[.agg #[.int .i64 a0_0, .slice A0_1 l0_1.length c0_1, .int .i64 a0_2, .int .i64 a0_3, .int .i64 a0_4, .int .i64 a0_5, .int .i64 a0_6, .slice A0_7 l0_7.length c0_7, .slice A0_8 l0_8.length c0_8, .slice A0_9 l0_9.length c0_9]] rfl (by (try simp only [List.map_toArray, List.map_cons, List.map_nil]); first | done | rfl | (simp only [List.length_drop, List.length_take]; rfl)) ?_; (with_reducible refine (trace_fit.calls a0_0 _ _ l0_1 a0_2 a0_3 a0_4 a0_5 a0_6 _ _ l0_7 _ _ l0_8 _ _ l0_9 true _ ?side1 ?side2 ?side3 ?side4 ?side5 ?side6 ?side7 ?side8 A2.out).mono ?_); (case side1 => repeat (first | exact (Kd.C_below HR0_1.out HB.out) | (with_reducible refine Kd.C_alloc ?_ _) | (with_reducible refine Kd.C_drewN ?_ _) | (with_reducible refine Kd.C_drew ?_))); (case side2 => exact HC0_1.out); (case side3 => repeat (first | exact (Kd.C_below HR0_7.out HB.out) | (with_reducible refine Kd.C_alloc ?_ _) | (with_reducible refine Kd.C_drewN ?_ _) | (with_reducible refine Kd.C_drew ?_))); (case side4 => exact HC0_7.out); (case side5 => repeat (first | exact (Kd.C_below HR0_8.out HB.out) | (with_reducible refine Kd.C_alloc ?_ _) | (with_reducible refine Kd.C_drewN ?_ _) | (with_reducible refine Kd.C_drew ?_))); (case side6 => exact HC0_8.out); (case side7 => repeat (first | exact (Kd.V_reads' HO0_9.out).2.2 | (with_reducible refine Kd.C_alloc ?_ _) | (with_reducible refine Kd.C_drewN ?_ _) | (with_reducible refine Kd.C_drew ?_))); (case side8 => exact (Kd.V_reads' HO0_9.out).2.1); rintro e w8 ⟨rfl, hb⟩; refine ⟨_, rfl, ?_⟩; have n0_ := Aside0.mk (Kd.V_below (by (with_reducible repeat (first | apply Kd.V_alloc | apply Kd.V_drewN | apply Kd.V_drew)); exact HO0_9.out) hb); have n1_ := bst HB hb; replace BK114 := bbw BK114 hb; clear HO0_9; clear HB; have HO0_9 := n0_; have HB := n1_; clear n0_ n1_; (try clear hb); (try clear hb2); (try clear hk); (try clear hi)) | ((with_reducible refine gate_dst (N := 17) rfl ?_); refine lit_mark (N := 17) (N2 := 18) rfl rfl rfl rfl ([71, 84, 82, 67, 1] : List Int) Try.underlying28 Try.underlying5 rfl (fun _ => rfl) (by simp) ?hr ?_; (case hr => first | (go_simp; done) | (go_simp; rfl)); intro A9 w10 hC_ hb; rw [← Ny116.out] at hC_ ⊢; have n0_ := Aside0.mk (Kd.V_below (by (with_reducible repeat (first | apply Kd.V_alloc | apply Kd.V_drewN | apply Kd.V_drew)); exact HO0_9.out) hb); have n1_ := bst HB hb; have n2_ := Aside0.mk (hC_); have n3_ := Aside0.mk ((Nat.le_refl y116.length)); replace BK114 := bbw BK114 hb; clear HO0_9; clear HB; have HO0_9 := n0_; have HB := n1_; have HR119 := n2_; have HC119 := n3_; clear n0_ n1_ n2_ n3_; clear hb hC_; have hcz11_0 := hcz BK114 0; have hcz11_1 := hcz BK114 1; have hcz11_2 := hcz BK114 2; have hcz11_3 := hcz BK114 3; have hcz11_4 := hcz BK114 4; have hcz11_5 := hcz BK114 5; have hcz11_6 := hcz BK114 6; have hcz11_7 := hcz BK114 7; have hcz11_8 := hcz BK114 8; have hcz11_9 := hcz BK114 9; have hfz11_0 := blk_frozen BK114.out 0; have hfz11_1 := blk_frozen BK114.out 1; have hfz11_2 := blk_frozen BK114.out 2; have hfz11_3 := blk_frozen BK114.out 3; have hfz11_4 := blk_frozen BK114.out 4; have hfz11_5 := blk_frozen BK114.out 5; have hfz11_6 := blk_frozen BK114.out 6; have hfz11_7 := blk_frozen BK114.out 7; have hfz11_8 := blk_frozen BK114.out 8; have hfz11_9 := blk_frozen BK114.out 9) | ((with_reducible refine gate_callee (f := 19) rfl ?_); refine goesL_ (some 21) rfl rfl Try.func19 (by kernel_rfl) rfl #[.slice A9 y116.length (y116.length), .int .i64 a0_0] rfl (by (try simp only [List.map_toArray, List.map_cons, List.map_nil]); first | done | rfl | (simp only [List.length_drop, List.length_take]; rfl)) ?_; (with_reducible refine (trace_signedF.calls k _ _ y116 a0_0 t120 _ ?side1 ?side2 A4.out).mono ?_); (case side1 => repeat (first | exact (by repeat (first | (with_reducible exact HR119.out) | (with_reducible refine Kd.C_alloc ?_ _) | (with_reducible refine Kd.C_drewN ?_ _) | (with_reducible refine Kd.C_drew ?_) | exact HR119.out)) | (with_reducible refine Kd.C_alloc ?_ _) | (with_reducible refine Kd.C_drewN ?_ _) | (with_reducible refine Kd.C_drew ?_))); (case side2 => exact HC119.out); rintro e w12 ⟨v121, rfl, ho0, hb⟩; refine ⟨_, rfl, ?_⟩; have n0_ := Aside0.mk (Kd.V_elder' (by (with_reducible repeat (first | apply Kd.V_alloc | apply Kd.V_drewN | apply Kd.V_drew)); exact HO0_9.out) (Kd.R_base ho0) hb); have n1_ := Aside0.mk (Kd.R_lower (Kd.R_newM (M := fun k_ => (w.heap.size ≤ k_)) ho0 (below_size (by repeat (first | (with_reducible first | exact HB.out | apply below_alloc | apply pw_below_drewN | apply below_drew1 | refine below_set ?_ GE114.out) | exact HB.out))) (fun k_ h_ => h_)) (below_size (by repeat (first | (with_reducible first | exact HB.out | apply below_alloc | apply pw_below_drewN | apply below_drew1 | refine below_set ?_ GE114.out) | exact HB.out)))); have n2_ := Aside0.mk (Kd.C_below (by repeat (first | (with_reducible exact HR119.out) | (with_reducible refine Kd.C_alloc ?_ _) | (with_reducible refine Kd.C_drewN ?_ _) | (with_reducible refine Kd.C_drew ?_) | exact HR119.out)) hb); have n3_ := bst HB hb; replace BK114 := bbw BK114 hb; clear HO0_9; clear HR119; clear HB; have HO0_9 := n0_; have HO122 := n1_; have HR119 := n2_; have HB := n3_; clear n0_ n1_ n2_ n3_; (try clear hb); (try clear hb2); (try clear hk); (try clear hi); (try clear ho0)))
   have n0_ := Aside0.mk (Kd.V_drew HO0_9.out)
   have n1_ := Aside0.mk (Kd.R_drew HO122.out)
   have n2_ := Aside0.mk (blk_drew BK114.out)
   have n3_ := Aside0.mk (Kd.C_drew HR119.out)
   have n4_ := Aside0.mk (below_drew1 HB.out)
   clear HO0_9
   clear HO122
   clear BK114
   clear HR119
   clear HB
   have HO0_9 := n0_
   have HO122 := n1_
   have BK114 := n2_
   have HR119 := n3_
   have HB := n4_
   clear n0_ n1_ n2_ n3_ n4_
   refine start_ (n := 9) (S := fun w' => w'.cell? ⟨gb114, 0, none⟩ = some (.int .i64 a0_0) ∧ w'.cell? ⟨gb114, 1, none⟩ = some (.slice A0_1 l0_1.length c0_1) ∧ w'.cell? ⟨gb114, 2, none⟩ = some (.int .i64 a0_2) ∧ w'.cell? ⟨gb114, 3, none⟩ = some (.int .i64 a0_3) ∧ w'.cell? ⟨gb114, 4, none⟩ = some (.int .i64 a0_4) ∧ w'.cell? ⟨gb114, 5, none⟩ = some (.int .i64 a0_5) ∧ w'.cell? ⟨gb114, 6, none⟩ = some (.int .i64 a0_6) ∧ w'.cell? ⟨gb114, 7, none⟩ = some (.slice A0_7 l0_7.length c0_7) ∧ w'.cell? ⟨gb114, 8, none⟩ = some (.slice A0_8 l0_8.length c0_8) ∧ w'.cell? ⟨gb114, 9, none⟩ = some (.slice A0_9 l0_9.length c0_9)) (ds := []) #[false, false, false, false, false, false, false, false, false] (by kernel_rfl) rfl rfl ⟨hcz BK114 0, hcz BK114 1, hcz BK114 2, hcz BK114 3, hcz BK114 4, hcz BK114 5, hcz BK114 6, hcz BK114 7, hcz BK114 8, hcz BK114 9⟩ (fun hHeld => ?_); refine with_tabW trace_Encode.tab4 trace_Encode.bits4 (fun HT_ HW_ => ?_)
   generalize w12.drew = w13 at HO0_9 HO122 BK114 HR119 HB hHeld ⊢
   refine pureQ 0 22 HT_.out ?_
   refine pureQ 1 23 HT_.out ?_
   refine pureQ 4 26 HT_.out ?_
   refine takeQ 2 24 HT_.out HW_.out hHeld ?_
   refine pureQ 3 25 HT_.out ?_
   refine takeQ 5 27 HT_.out HW_.out hHeld ?_
   refine oneQ 6 28 HT_.out (fun K hK => ?_)
   refine seq_step21 (by rfl) (N := 28) rfl _ (.slice A0_1 l0_1.length c0_1) rfl rfl ?_
   intro gb123 hg w14 hbox hb
   have n0_ := Aside0.mk (Kd.V_below (Kd.V_elderB (by (with_reducible repeat (first | apply Kd.V_alloc | apply Kd.V_drewN | apply Kd.V_drew)); exact HO0_9.out) gb123 (Nat.le_of_eq hg.symm)) hb)
   have n1_ := Aside0.mk (Kd.R_below (by (with_reducible repeat (first | apply Kd.R_alloc | apply Kd.R_drewN | apply Kd.R_drew)); exact HO122.out) hb)
   have n2_ := Aside0.mk (Kd.C_below (by repeat (first | (with_reducible exact HR119.out) | (with_reducible refine Kd.C_alloc ?_ _) | (with_reducible refine Kd.C_drewN ?_ _) | (with_reducible refine Kd.C_drew ?_) | exact HR119.out)) hb)
   have n3_ := bst HB hb
   have n4_ := Aside0.mk (hbox)
   have n5_ := bsz HB hg
   have n6_ := bsz HB hg
   have n7_ := bn1 BK114 hg
   have n8_ := bn2 BK114 hg
   replace BK114 := bbw BK114 hb
   clear HO0_9
   clear HO122
   clear HR119
   clear HB
   have HO0_9 := n0_
   have HO122 := n1_
   have HR119 := n2_
   have HB := n3_
   have BK123 := n4_
   have GW123 := n5_
   have GE123 := n6_
   have NB114_123 := n7_
   have NB123_114 := n8_
   clear n0_ n1_ n2_ n3_ n4_ n5_ n6_ n7_ n8_
   clear hb hbox hg
   obtain ⟨Ao15, co15, eo15⟩ := Kd.R_slice HO122.out
   (first | subst eo15 | (injection eo15 with f1_ f2_ f3_; have f4_ := f1_.symm; have f5_ := f3_.symm; clear f1_ f2_ f3_; subst f4_; subst f5_))
   refine hK.out _ _ ⟨hcz BK114 0, hcz BK114 1, hcz BK114 2, hcz BK114 3, hcz BK114 4, hcz BK114 5, hcz BK114 6, hcz BK114 7, hcz BK114 8, hcz BK114 9⟩ (fun hHeld => ?_)
   clear hK K
   refine normQ (N := 28) ?_
   refine oneQ 7 29 HT_.out (fun K hK => ?_)
   refine goesQ Try.func20 #[.slice Ao15 t120.length co15, .int .i64 (l0_1.length : Int), .func (.func 35) #[] #[.pointer (some ⟨gb123, 0, none⟩)]] ?_
   with_reducible refine (trace_rowsteps.calls k (fun k_ => some k_ = (.slice Ao15 t120.length co15 : Value).ownBlock) (.slice Ao15 t120.length co15) t120 (l0_1.length : Int)  gb123 A0_1 c0_1 l0_1 t124 w _ ?side1 ?side2 ?side3 ?side4 A5.out).mono ?_
   (case side1 => repeat (first | (with_reducible first | exact HB.out | apply below_alloc | apply pw_below_drewN | apply below_drew1 | refine below_set ?_ GE114.out | refine below_set ?_ GE123.out) | exact HB.out))
   (case side2 => exact Kd.R_tight rfl HO122.out)
   (case side3 => exact Kd.C_kept_came (Kd.heap_int .i64) HR0_1.out (by repeat (first | (with_reducible first | exact HB.out | apply below_alloc | apply pw_below_drewN | apply below_drew1 | refine below_set ?_ GE114.out | refine below_set ?_ GE123.out) | exact HB.out)) (fun k_ hs_ => (fun e_ => Kd.R_base HO122.out k_ e_.symm) hs_))
   (case side4 => exact HC0_1.out)
   rintro e w16 ⟨v125, rfl, ho0, hb, hkp⟩
   refine ⟨_, rfl, ?_⟩
   have n0_ := Aside0.mk (Kd.V_mono (ok' := fun k_ => (P0_9_ k_ ∨ w.heap.size ≤ k_) ∧ k_ ≠ gb114 ∧ k_ ≠ gb123 ∧ some k_ ≠ (v125 : Value).ownBlock) (Kd.V_keptB (HO0_9.out) hkp (fun k_ hk_ hs_ => (hk_.1.2) hs_)) (fun k_ hk_ => ⟨hk_.1.1.1.1, hk_.1.1.1.2, hk_.1.2, fun e_ => Or.elim (ho0.1 k_ e_.symm) (fun hs_ => hk_.2.1 hs_) (fun hn_ => Nat.not_le.2 hk_.2.2 hn_)⟩))
   have n1_ := Aside0.mk (blk_kept (pk BK114.out) hkp (fun hs_ => (fun e_ => (Kd.R_ne HO122.out BK114.out (by decide)) e_) hs_))
   have n2_ := Aside0.mk (blk_kept (pk BK123.out) hkp (fun hs_ => (fun e_ => (Kd.R_ne HO122.out BK123.out (by decide)) e_) hs_))
   have n3_ := Aside0.mk (Kd.R_mono (ok' := fun k_ => (w.heap.size ≤ k_)) ho0 (fun k_ hk_ => Or.elim hk_ (fun hs_ => (HO122.out.1 k_ (hs_).symm).1) (fun hn_ => (Nat.le_trans (below_size (by repeat (first | (with_reducible first | exact HB.out | apply below_alloc | apply pw_below_drewN | apply below_drew1 | refine below_set ?_ GE114.out | refine below_set ?_ GE123.out) | exact HB.out))) hn_))))
   have n4_ := Aside0.mk (hb)
   clear HO0_9
   clear BK114
   clear BK123
   clear HB
   clear HO122
   have HO0_9 := n0_
   have BK114 := n1_
   have BK123 := n2_
   have HO126 := n3_
   have HB := n4_
   clear n0_ n1_ n2_ n3_ n4_
   (try clear hb)
   (try clear hkp)
   (try clear ho0)
   refine hK.out _ _ ⟨hcz BK114 0, hcz BK114 1, hcz BK114 2, hcz BK114 3, hcz BK114 4, hcz BK114 5, hcz BK114 6, hcz BK114 7, hcz BK114 8, hcz BK114 9⟩ (fun hHeld => ?_)
   clear hK K
   refine normQ (N := 29) ?_
   refine pureQ 8 4 HT_.out ?_
   refine done_ (done_of HT_.out (by kernel_rfl)) ?_
   have hnb17 := NB114_123.out
   have hnc17 := NB123_114.out
   have hcz18_0 := hcz BK114 0
   have hcz18_1 := hcz BK114 1
   have hcz18_2 := hcz BK114 2
   have hcz18_3 := hcz BK114 3
   have hcz18_4 := hcz BK114 4
   have hcz18_5 := hcz BK114 5
   have hcz18_6 := hcz BK114 6
   have hcz18_7 := hcz BK114 7
   have hcz18_8 := hcz BK114 8
   have hcz18_9 := hcz BK114 9
   have hfz18_0 := blk_frozen BK114.out 0
   have hfz18_1 := blk_frozen BK114.out 1
   have hfz18_2 := blk_frozen BK114.out 2
   have hfz18_3 := blk_frozen BK114.out 3
   have hfz18_4 := blk_frozen BK114.out 4
   have hfz18_5 := blk_frozen BK114.out 5
   have hfz18_6 := blk_frozen BK114.out 6
   have hfz18_7 := blk_frozen BK114.out 7
   have hfz18_8 := blk_frozen BK114.out 8
   have hfz18_9 := blk_frozen BK114.out 9
   try go_wp2_with (first | ((with_reducible refine gate_dst (N := 5) rfl ?_); refine box_event ?hg (N := 5) ?hd (cs := #[.int .i64 0, .int .i64 0, .int .i64 0, .int .i64 0, .int .i64 0, .slice none 0 0, .slice none 0 0, .slice none 0 0]) (t := 25) ?hr ?_; (case hd => rfl); (case hg => rfl); (case hr => first | (go_simp; done) | (go_simp; rfl)); intro gb127 hg w19 hbox hb; have n0_ := Aside0.mk (Kd.V_below (Kd.V_elderB (by (with_reducible repeat (first | apply Kd.V_alloc | apply Kd.V_drewN | apply Kd.V_drew)); exact HO0_9.out) gb127 (Nat.le_of_eq hg.symm)) hb); have n1_ := Aside0.mk (Kd.R_below (by (with_reducible repeat (first | apply Kd.R_alloc | apply Kd.R_drewN | apply Kd.R_drew)); exact HO126.out) hb); have n2_ := bst HB hb; have n3_ := Aside0.mk (hbox); have n4_ := bsz HB hg; have n5_ := bsz HB hg; have n6_ := bn1 BK114 hg; have n7_ := bn2 BK114 hg; have n8_ := bn1 BK123 hg; have n9_ := bn2 BK123 hg; replace BK114 := bbw BK114 hb; replace BK123 := bbw BK123 hb; clear HO0_9; clear HO126; clear HB; have HO0_9 := n0_; have HO126 := n1_; have HB := n2_; have BK127 := n3_; have GW127 := n4_; have GE127 := n5_; have NB114_127 := n6_; have NB127_114 := n7_; have NB123_127 := n8_; have NB127_123 := n9_; clear n0_ n1_ n2_ n3_ n4_ n5_ n6_ n7_ n8_ n9_; clear hb hbox hg; have hnb20 := NB127_114.out; have hnc20 := NB114_127.out; have hnb21 := NB127_123.out; have hnc21 := NB123_127.out; have hcz22_0 := hcz BK127 0; have hcz22_1 := hcz BK127 1; have hcz22_2 := hcz BK127 2; have hcz22_3 := hcz BK127 3; have hcz22_4 := hcz BK127 4; have hcz22_5 := hcz BK127 5; have hcz22_6 := hcz BK127 6; have hcz22_7 := hcz BK127 7; have hfz22_0 := blk_frozen BK127.out 0; have hfz22_1 := blk_frozen BK127.out 1; have hfz22_2 := blk_frozen BK127.out 2; have hfz22_3 := blk_frozen BK127.out 3; have hfz22_4 := blk_frozen BK127.out 4; have hfz22_5 := blk_frozen BK127.out 5; have hfz22_6 := blk_frozen BK127.out 6; have hfz22_7 := blk_frozen BK127.out 7) | ((with_reducible refine gate_dst (N := 38) rfl ?_); refine Kd.R_lit (Kd.int .i64) _ 3 ?hg (N := 38) ?hd (xs := ([a0_2, a0_3, a0_4] : List Int)) (inner := [.int .i64 a0_2, .int .i64 a0_3, .int .i64 a0_4]) (ok := fun _ => True) (okp := fun _ => True) ?hr ?hp (fun _ hk => hk) trivial (Below.refl _ _) (Nat.le_refl _) (by simp) ?_; (case hd => rfl); (case hg => rfl); (case hr => first | (go_simp; done) | (go_simp; rfl)); (case hp => exact (Reps.one (show Kd.M (Kd.int .i64) _ _ _ a0_2 [.int .i64 a0_2] from rfl) (Reps.one (show Kd.M (Kd.int .i64) _ _ _ a0_3 [.int .i64 a0_3] from rfl) (Reps.one (show Kd.M (Kd.int .i64) _ _ _ a0_4 [.int .i64 a0_4] from rfl) (Reps.none _ _))))); intro v129 w23 ho24 hb hg_ hnew_; clear hg_ hnew_; (first | rw [← Ny128.out] at ho24 | (simp only [Int.reduceToNat] at ho24; rw [← Ny128.out] at ho24)); have n0_ := Aside0.mk (Kd.V_elder' (by (with_reducible repeat (first | apply Kd.V_alloc | apply Kd.V_drewN | apply Kd.V_drew)); exact (Kd.V_mono (Kd.V_far (p := ⟨gb127, 7, none⟩) (Kd.V_far (p := ⟨gb127, 6, none⟩) (Kd.V_far (p := ⟨gb127, 5, none⟩) (Kd.V_far (p := ⟨gb127, 4, none⟩) (Kd.V_far (p := ⟨gb127, 3, none⟩) (Kd.V_far (p := ⟨gb127, 2, none⟩) (Kd.V_far (p := ⟨gb127, 1, none⟩) (Kd.V_far (p := ⟨gb127, 0, none⟩) (Kd.V_mono HO0_9.out (fun k_ hk => (⟨hk, hk.2⟩ : _ ∧ k_ ≠ gb127))) (fun _ hk => hk.2) (.int .i64 a0_2)) (fun _ hk => hk.2) (.int .i64 a0_3)) (fun _ hk => hk.2) (.int .i64 a0_4)) (fun _ hk => hk.2) (.int .i64 a0_5)) (fun _ hk => hk.2) (.int .i64 a0_6)) (fun _ hk => hk.2) (.slice A0_7 l0_7.length c0_7)) (fun _ hk => hk.2) (.slice A0_8 l0_8.length c0_8)) (fun _ hk => hk.2) (.slice A0_9 l0_9.length c0_9)) (fun _ h_ => h_.1))) (Kd.R_base ho24) hb); have n1_ := Aside0.mk (Kd.R_below (by (with_reducible repeat (first | apply Kd.R_alloc | apply Kd.R_drewN | apply Kd.R_drew)); exact (Kd.R_mono (Kd.R_far (p := ⟨gb127, 7, none⟩) (Kd.R_far (p := ⟨gb127, 6, none⟩) (Kd.R_far (p := ⟨gb127, 5, none⟩) (Kd.R_far (p := ⟨gb127, 4, none⟩) (Kd.R_far (p := ⟨gb127, 3, none⟩) (Kd.R_far (p := ⟨gb127, 2, none⟩) (Kd.R_far (p := ⟨gb127, 1, none⟩) (Kd.R_far (p := ⟨gb127, 0, none⟩) (Kd.R_types HO126.out BK127.out (by decide)) (fun _ hk => hk.2) (.int .i64 a0_2)) (fun _ hk => hk.2) (.int .i64 a0_3)) (fun _ hk => hk.2) (.int .i64 a0_4)) (fun _ hk => hk.2) (.int .i64 a0_5)) (fun _ hk => hk.2) (.int .i64 a0_6)) (fun _ hk => hk.2) (.slice A0_7 l0_7.length c0_7)) (fun _ hk => hk.2) (.slice A0_8 l0_8.length c0_8)) (fun _ hk => hk.2) (.slice A0_9 l0_9.length c0_9)) (fun _ h_ => h_.1))) hb); have n2_ := Aside0.mk (Kd.R_lower (Kd.R_newM (M := fun k_ => (w.heap.size ≤ k_)) ho24 (below_size (by repeat (first | (with_reducible first | exact HB.out | apply below_alloc | apply pw_below_drewN | apply below_drew1 | refine below_set ?_ GE114.out | refine below_set ?_ GE123.out | refine below_set ?_ GE127.out) | exact HB.out))) (fun k_ h_ => h_)) (below_size (by repeat (first | (with_reducible first | exact HB.out | apply below_alloc | apply pw_below_drewN | apply below_drew1 | refine below_set ?_ GE114.out | refine below_set ?_ GE123.out | refine below_set ?_ GE127.out) | exact HB.out)))); have n3_ := Aside0.mk (blk_below (g := gb114) (o := .cells #[.int .i64 a0_0, .slice A0_1 l0_1.length c0_1, .int .i64 a0_2, .int .i64 a0_3, .int .i64 a0_4, .int .i64 a0_5, .int .i64 a0_6, .slice A0_7 l0_7.length c0_7, .slice A0_8 l0_8.length c0_8, .slice A0_9 l0_9.length c0_9] 27 (0, 0)) (by refine pkB ?_; refine blk_far ?_ NB114_127.out _; refine pkB ?_; refine blk_far ?_ NB114_127.out _; refine pkB ?_; refine blk_far ?_ NB114_127.out _; refine pkB ?_; refine blk_far ?_ NB114_127.out _; refine pkB ?_; refine blk_far ?_ NB114_127.out _; refine pkB ?_; refine blk_far ?_ NB114_127.out _; refine pkB ?_; refine blk_far ?_ NB114_127.out _; refine pkB ?_; refine blk_far ?_ NB114_127.out _; refine pkB ?_; exact BK114.out) hb); have n4_ := Aside0.mk (blk_below (g := gb123) (o := .cells #[.slice A0_1 l0_1.length c0_1] 22 (0, 0)) (by refine pkB ?_; refine blk_far ?_ NB123_127.out _; refine pkB ?_; refine blk_far ?_ NB123_127.out _; refine pkB ?_; refine blk_far ?_ NB123_127.out _; refine pkB ?_; refine blk_far ?_ NB123_127.out _; refine pkB ?_; refine blk_far ?_ NB123_127.out _; refine pkB ?_; refine blk_far ?_ NB123_127.out _; refine pkB ?_; refine blk_far ?_ NB123_127.out _; refine pkB ?_; refine blk_far ?_ NB123_127.out _; refine pkB ?_; exact BK123.out) hb); have n5_ := Aside0.mk (blk_below (g := gb127) (o := .cells #[.int .i64 a0_2, .int .i64 a0_3, .int .i64 a0_4, .int .i64 a0_5, .int .i64 a0_6, .slice A0_7 l0_7.length c0_7, .slice A0_8 l0_8.length c0_8, .slice A0_9 l0_9.length c0_9] 25 (0, 0)) (by refine pkB ?_; refine blk_put (cs := #[.int .i64 a0_2, .int .i64 a0_3, .int .i64 a0_4, .int .i64 a0_5, .int .i64 a0_6, .slice A0_7 l0_7.length c0_7, .slice A0_8 l0_8.length c0_8, .slice none 0 0]) ?_ 7 _ (by first | rfl | (subst_vars; rfl)); refine pkB ?_; refine blk_put (cs := #[.int .i64 a0_2, .int .i64 a0_3, .int .i64 a0_4, .int .i64 a0_5, .int .i64 a0_6, .slice A0_7 l0_7.length c0_7, .slice none 0 0, .slice none 0 0]) ?_ 6 _ (by first | rfl | (subst_vars; rfl)); refine pkB ?_; refine blk_put (cs := #[.int .i64 a0_2, .int .i64 a0_3, .int .i64 a0_4, .int .i64 a0_5, .int .i64 a0_6, .slice none 0 0, .slice none 0 0, .slice none 0 0]) ?_ 5 _ (by first | rfl | (subst_vars; rfl)); refine pkB ?_; refine blk_put (cs := #[.int .i64 a0_2, .int .i64 a0_3, .int .i64 a0_4, .int .i64 a0_5, .int .i64 0, .slice none 0 0, .slice none 0 0, .slice none 0 0]) ?_ 4 _ (by first | rfl | (subst_vars; rfl)); refine pkB ?_; refine blk_put (cs := #[.int .i64 a0_2, .int .i64 a0_3, .int .i64 a0_4, .int .i64 0, .int .i64 0, .slice none 0 0, .slice none 0 0, .slice none 0 0]) ?_ 3 _ (by first | rfl | (subst_vars; rfl)); refine pkB ?_; refine blk_put (cs := #[.int .i64 a0_2, .int .i64 a0_3, .int .i64 0, .int .i64 0, .int .i64 0, .slice none 0 0, .slice none 0 0, .slice none 0 0]) ?_ 2 _ (by first | rfl | (subst_vars; rfl)); refine pkB ?_; refine blk_put (cs := #[.int .i64 a0_2, .int .i64 0, .int .i64 0, .int .i64 0, .int .i64 0, .slice none 0 0, .slice none 0 0, .slice none 0 0]) ?_ 1 _ (by first | rfl | (subst_vars; rfl)); refine pkB ?_; refine blk_put (cs := #[.int .i64 0, .int .i64 0, .int .i64 0, .int .i64 0, .int .i64 0, .slice none 0 0, .slice none 0 0, .slice none 0 0]) ?_ 0 _ (by first | rfl | (subst_vars; rfl)); refine pkB ?_; exact BK127.out) hb); have n6_ := bst HB hb; clear HO0_9; clear HO126; clear BK114; clear BK123; clear BK127; clear HB; have HO0_9 := n0_; have HO126 := n1_; have HO130 := n2_; have BK114 := n3_; have BK123 := n4_; have BK127 := n5_; have HB := n6_; clear n0_ n1_ n2_ n3_ n4_ n5_ n6_; clear hb ho24; obtain ⟨Ao25, co25, eo25⟩ := Kd.R_slice HO130.out; subst eo25))
   go_loopg [4, 40] k (fun kq v4 v40 w' => ∃ (x4_1 : List Int) (x40_1 : Int), v40 = .int .i64 x40_1 ∧ Aside0 (trace_Encode.l0 kq x4_1 y128 (y128.length : Int) x40_1 a0_2 a0_3 a0_4 a0_5 a0_6 l0_7 l0_8 l0_9 = some (r1, r2)) ∧ Aside0 (kq ≤ k) ∧ Aside0 (Kd.R (Kd.int .u8) 5 w' w.heap.size (fun k_ => (w.heap.size ≤ k_)) v4 x4_1) ∧ Aside0 (Kd.R (Kd.int .i64) 3 w' w.heap.size (fun k_ => (w.heap.size ≤ k_)) (.slice Ao25 y128.length co25) y128) ∧ Aside0 (Kd.V (Kd.slice 2 (Kd.int .i64)) 22 w' w.heap.size (fun k_ => (P0_9_ k_ ∨ w.heap.size ≤ k_) ∧ some k_ ≠ (v4 : Value).ownBlock ∧ some k_ ≠ ((.slice Ao25 y128.length co25) : Value).ownBlock ∧ k_ ≠ gb114 ∧ k_ ≠ gb123 ∧ k_ ≠ gb127) (.slice A0_9 l0_9.length c0_9) l0_9) ∧ Aside0 (Kd.V (Kd.slice 2 (Kd.int .i64)) 22 w' w.heap.size (fun k_ => (P0_9_ k_ ∨ w.heap.size ≤ k_) ∧ some k_ ≠ (v4 : Value).ownBlock ∧ some k_ ≠ ((.slice Ao25 y128.length co25) : Value).ownBlock ∧ k_ ≠ gb114 ∧ k_ ≠ gb123 ∧ k_ ≠ gb127) (.slice A0_9 l0_9.length c0_9) l0_9) ∧ Aside0 (w'.heap[gb114]? = some (.cells #[.int .i64 a0_0, (.slice A0_1 l0_1.length c0_1), .int .i64 a0_2, .int .i64 a0_3, .int .i64 a0_4, .int .i64 a0_5, .int .i64 a0_6, (.slice A0_7 l0_7.length c0_7), (.slice A0_8 l0_8.length c0_8), (.slice A0_9 l0_9.length c0_9)] 27 (0, 0))) ∧ Aside0 (w'.heap[gb123]? = some (.cells #[(.slice A0_1 l0_1.length c0_1)] 22 (0, 0))) ∧ Aside0 (w'.heap[gb127]? = some (.cells #[.int .i64 a0_2, .int .i64 a0_3, .int .i64 a0_4, .int .i64 a0_5, .int .i64 a0_6, (.slice A0_7 l0_7.length c0_7), (.slice A0_8 l0_8.length c0_8), (.slice A0_9 l0_9.length c0_9)] 25 (0, 0))) ∧ Aside0 (Below w.heap.size w w'))
   case atStart => exact ⟨(t124), (0), (by first | rfl | (simp; done) | (simp [*]; done)), H', ⟨Nat.le_refl _⟩, ⟨by (with_reducible repeat (first | apply Kd.R_alloc | apply Kd.R_drewN | apply Kd.R_drew)); exact HO126.out⟩, ⟨by (with_reducible repeat (first | apply Kd.R_alloc | apply Kd.R_drewN | apply Kd.R_drew)); exact Kd.R_mono HO130.out (fun _ hk => hk.1)⟩, ⟨by (with_reducible repeat (first | apply Kd.V_alloc | apply Kd.V_drewN | apply Kd.V_drew)); exact Kd.V_mono HO0_9.out (fun _ hk => ⟨hk.1.1.1, ⟨hk.1.1.2.2.2, ⟨hk.2, ⟨hk.1.1.2.1, ⟨hk.1.1.2.2.1, hk.1.2⟩⟩⟩⟩⟩)⟩, ⟨by (with_reducible repeat (first | apply Kd.V_alloc | apply Kd.V_drewN | apply Kd.V_drew)); exact Kd.V_mono HO0_9.out (fun _ hk => ⟨hk.1.1.1, ⟨hk.1.1.2.2.2, ⟨hk.2, ⟨hk.1.1.2.1, ⟨hk.1.1.2.2.1, hk.1.2⟩⟩⟩⟩⟩)⟩, pkA BK114, pkA BK123, pkA BK127, bpk HB⟩
   case round =>
    clear H'
    try clear c1
    try clear c2
    try clear p2
    try clear c3
    try clear c8
    try clear c9
    try clear c17
    try clear c18
    try clear c20
    try clear c21
    try clear p21
    try clear hcz11_0
    try clear hcz11_1
    try clear hcz11_2
    try clear hcz11_3
    try clear hcz11_4
    try clear hcz11_5
    try clear hcz11_6
    try clear hcz11_7
    try clear hcz11_8
    try clear hcz11_9
    try clear hcz18_0
    try clear hcz18_1
    try clear hcz18_2
    try clear hcz18_3
    try clear hcz18_4
    try clear hcz18_5
    try clear hcz18_6
    try clear hcz18_7
    try clear hcz18_8
    try clear hcz18_9
    try clear hcz22_0
    try clear hcz22_1
    try clear hcz22_2
    try clear hcz22_3
    try clear hcz22_4
    try clear hcz22_5
    try clear hcz22_6
    try clear hcz22_7
    try clear hcz7_0
    try clear hcz7_1
    try clear hcz7_2
    try clear hcz7_3
    try clear hcz7_4
    try clear hcz7_5
    try clear hcz7_6
    try clear hcz7_7
    try clear hcz7_8
    try clear hcz7_9
    try clear hfz11_0
    try clear hfz11_1
    try clear hfz11_2
    try clear hfz11_3
    try clear hfz11_4
    try clear hfz11_5
    try clear hfz11_6
    try clear hfz11_7
    try clear hfz11_8
    try clear hfz11_9
    try clear hfz18_0
    try clear hfz18_1
    try clear hfz18_2
    try clear hfz18_3
    try clear hfz18_4
    try clear hfz18_5
    try clear hfz18_6
    try clear hfz18_7
    try clear hfz18_8
    try clear hfz18_9
    try clear hfz22_0
    try clear hfz22_1
    try clear hfz22_2
    try clear hfz22_3
    try clear hfz22_4
    try clear hfz22_5
    try clear hfz22_6
    try clear hfz22_7
    try clear hfz7_0
    try clear hfz7_1
    try clear hfz7_2
    try clear hfz7_3
    try clear hfz7_4
    try clear hfz7_5
    try clear hfz7_6
    try clear hfz7_7
    try clear hfz7_8
    try clear hfz7_9
    obtain ⟨x4_1, x40_1, rfl, HA, HK1, HO_4, HO_38, HO_115009, HO_128007, BK114, BK123, BK127, HB⟩ := hrel
    cases gk with
    | zero => exact absurd HA.out (by simp [trace_Encode.l0])
    | succ k1 =>
     have H := HA.out
     clear HA
     simp only [trace_Encode.l0] at H
     by_cases c26 : x40_1 < (y128.length : Int)
     ·
      rw [if_pos c26] at H
      have c26b0 : decide (x40_1 < (y128.length : Int)) = true := decide_eq_true c26
      clear c26
      by_cases c27 : 0 ≤ x40_1
      ·
       rw [if_pos c27] at H
       have c27b0 : decide (0 ≤ x40_1) = true := decide_eq_true c27
       clear c27
       by_cases c28 : x40_1 < (y128.length : Int)
       ·
        rw [if_pos c28] at H
        have c28b0 : decide (x40_1 < (y128.length : Int)) = true := decide_eq_true c28
        clear c28
        replace H := Option.bind_eq_some_iff.mp H
        obtain ⟨t132, A290, H⟩ := H
        replace H : (trace_Encode.l0 k1 t132 y128 (y128.length : Int) (wrap64 (x40_1 + 1)) a0_2 a0_3 a0_4 a0_5 a0_6 l0_7 l0_8 l0_9) = some (r1, r2) := H
        have A29 := Aside0.mk A290
        clear A290
        have H' := Aside0.mk H
        clear H
        have p131 : 0 ≤ (x40_1 : Int) := of_decide_eq_true (by first | (with_reducible assumption) | assumption)
        have q131 : x40_1 < (y128.length : Int) := of_decide_eq_true (by first | (with_reducible assumption) | assumption)
        obtain ⟨ad131, e131, hx131_0⟩ := Kd.at_int (Kd.R_reads' HO_38.out).2.2 x40_1 p131 q131
        cases e131
        replace p131 := eq_true p131
        replace q131 := eq_true q131
        obtain ⟨Ao30, co30, eo30⟩ := Kd.R_slice HO_4.out
        subst eo30
        go_wp2_with (first | ((with_reducible refine gate_callee (f := 22) rfl ?_); refine goesL_ (some 47) rfl rfl Try.func22 (by kernel_rfl) rfl #[.slice Ao30 x4_1.length co30, .int .u64 (IntKind.u64.wrap (rd y128 x40_1))] rfl (by (try simp only [List.map_toArray, List.map_cons, List.map_nil]); first | done | rfl | (simp only [List.length_drop, List.length_take]; rfl)) ?_; (with_reducible refine (trace_number.calls k1 (fun k_ => some k_ = (.slice Ao30 x4_1.length co30 : Value).ownBlock) (.slice Ao30 x4_1.length co30) x4_1 (IntKind.u64.wrap (rd y128 x40_1)) t132 w _ ?side1 ?side2 A29.out).mono ?_); (case side1 => repeat (first | (with_reducible first | exact HB.out | apply below_alloc | apply pw_below_drewN | apply below_drew1 | refine below_set ?_ GE114.out | refine below_set ?_ GE123.out | refine below_set ?_ GE127.out) | exact HB.out)); (case side2 => exact Kd.R_tight rfl HO_4.out); rintro e w31 ⟨v133, rfl, ho0, hb, hkp⟩; refine ⟨_, rfl, ?_⟩; have n0_ := Aside0.mk (Kd.R_mono (ok' := fun k_ => (w.heap.size ≤ k_)) (Kd.R_keptB ((Kd.R_apart' HO_38.out (Kd.R_typed HO_4.out) (by decide))) hkp (fun k_ hk_ hs_ => (hk_.2) hs_)) (fun k_ hk_ => hk_.1.1)); have n1_ := Aside0.mk (Kd.V_mono (ok' := fun k_ => (P0_9_ k_ ∨ w.heap.size ≤ k_) ∧ some k_ ≠ (.slice (some ad131) y128.length co25 : Value).ownBlock ∧ k_ ≠ gb114 ∧ k_ ≠ gb123 ∧ k_ ≠ gb127 ∧ some k_ ≠ (v133 : Value).ownBlock) (Kd.V_keptB (HO_115009.out) hkp (fun k_ hk_ hs_ => (hk_.2.1) hs_)) (fun k_ hk_ => ⟨hk_.1.1, hk_.1.2.2.1, hk_.1.2.2.2.1, hk_.1.2.2.2.2.1, hk_.1.2.2.2.2.2, fun e_ => Or.elim (ho0.1 k_ e_.symm) (fun hs_ => hk_.2.1 hs_) (fun hn_ => Nat.not_le.2 hk_.2.2 hn_)⟩)); have n2_ := Aside0.mk (Kd.V_mono (ok' := fun k_ => (P0_9_ k_ ∨ w.heap.size ≤ k_) ∧ some k_ ≠ (.slice (some ad131) y128.length co25 : Value).ownBlock ∧ k_ ≠ gb114 ∧ k_ ≠ gb123 ∧ k_ ≠ gb127 ∧ some k_ ≠ (v133 : Value).ownBlock) (Kd.V_keptB (HO_128007.out) hkp (fun k_ hk_ hs_ => (hk_.2.1) hs_)) (fun k_ hk_ => ⟨hk_.1.1, hk_.1.2.2.1, hk_.1.2.2.2.1, hk_.1.2.2.2.2.1, hk_.1.2.2.2.2.2, fun e_ => Or.elim (ho0.1 k_ e_.symm) (fun hs_ => hk_.2.1 hs_) (fun hn_ => Nat.not_le.2 hk_.2.2 hn_)⟩)); have n3_ := Aside0.mk (blk_kept (pk BK114.out) hkp (fun hs_ => (fun e_ => (Kd.R_ne HO_4.out BK114.out (by decide)) e_) hs_)); have n4_ := Aside0.mk (blk_kept (pk BK123.out) hkp (fun hs_ => (fun e_ => (Kd.R_ne HO_4.out BK123.out (by decide)) e_) hs_)); have n5_ := Aside0.mk (blk_kept (pk BK127.out) hkp (fun hs_ => (fun e_ => (Kd.R_ne HO_4.out BK127.out (by decide)) e_) hs_)); have n6_ := Aside0.mk (Kd.R_mono (ok' := fun k_ => (w.heap.size ≤ k_)) ho0 (fun k_ hk_ => Or.elim hk_ (fun hs_ => (HO_4.out.1 k_ (hs_).symm)) (fun hn_ => (Nat.le_trans (below_size (by repeat (first | (with_reducible first | exact HB.out | apply below_alloc | apply pw_below_drewN | apply below_drew1 | refine below_set ?_ GE114.out | refine below_set ?_ GE123.out | refine below_set ?_ GE127.out) | exact HB.out))) hn_)))); have n7_ := Aside0.mk (hb); clear HO_38; clear HO_115009; clear HO_128007; clear BK114; clear BK123; clear BK127; clear HB; clear HO_4; have HO_38 := n0_; have HO_115009 := n1_; have HO_128007 := n2_; have BK114 := n3_; have BK123 := n4_; have BK127 := n5_; have HO134 := n6_; have HB := n7_; clear n0_ n1_ n2_ n3_ n4_ n5_ n6_ n7_; (try clear hb); (try clear hkp); (try clear ho0)))
        go_roundg k1
        case measure => have := HK1.out; omega
        case rel => exact ⟨(t132), (wrap64 (x40_1 + 1)), (by first | rfl | (simp; done) | (simp [*]; done)), H', ⟨by have := HK1.out; omega⟩, ⟨by (with_reducible repeat (first | apply Kd.R_alloc | apply Kd.R_drewN | apply Kd.R_drew)); exact HO134.out⟩, ⟨by (with_reducible repeat (first | apply Kd.R_alloc | apply Kd.R_drewN | apply Kd.R_drew)); exact HO_38.out⟩, ⟨by (with_reducible repeat (first | apply Kd.V_alloc | apply Kd.V_drewN | apply Kd.V_drew)); exact Kd.V_mono HO_115009.out (fun _ hk => ⟨hk.1, ⟨hk.2.2.2.2.2, ⟨hk.2.1, ⟨hk.2.2.1, ⟨hk.2.2.2.1, hk.2.2.2.2.1⟩⟩⟩⟩⟩)⟩, ⟨by (with_reducible repeat (first | apply Kd.V_alloc | apply Kd.V_drewN | apply Kd.V_drew)); exact Kd.V_mono HO_128007.out (fun _ hk => ⟨hk.1, ⟨hk.2.2.2.2.2, ⟨hk.2.1, ⟨hk.2.2.1, ⟨hk.2.2.2.1, hk.2.2.2.2.1⟩⟩⟩⟩⟩)⟩, pkA BK114, pkA BK123, pkA BK127, bpk HB⟩
       ·
        rw [if_neg c28] at H
        exact absurd H (by simp)
      ·
       rw [if_neg c27] at H
       exact absurd H (by simp)
     ·
      rw [if_neg c26] at H
      have c26b0 : decide (x40_1 < (y128.length : Int)) = false := decide_eq_false c26
      clear c26
      replace H := Option.bind_eq_some_iff.mp H
      obtain ⟨t135, A320, H⟩ := H
      replace H : ((trace_number.f k1 t135 (IntKind.u64.wrap (a0_6))).bind fun t138 => ((trace_rowsteps.f k1 t138 (l0_7.length : Int) l0_7).bind fun t142 => ((trace_number.f k1 t142 (IntKind.u64.wrap ((l0_8.length : Int)))).bind fun t145 => (trace_Encode.l1 k1 t145 l0_8 (l0_8.length : Int) 0 a0_2 a0_3 a0_4 a0_5 a0_6 l0_7 l0_8 l0_9)))) = some (r1, r2) := H
      have A32 := Aside0.mk A320
      clear A320
      replace H := Option.bind_eq_some_iff.mp H
      obtain ⟨t138, A330, H⟩ := H
      replace H : ((trace_rowsteps.f k1 t138 (l0_7.length : Int) l0_7).bind fun t142 => ((trace_number.f k1 t142 (IntKind.u64.wrap ((l0_8.length : Int)))).bind fun t145 => (trace_Encode.l1 k1 t145 l0_8 (l0_8.length : Int) 0 a0_2 a0_3 a0_4 a0_5 a0_6 l0_7 l0_8 l0_9))) = some (r1, r2) := H
      have A33 := Aside0.mk A330
      clear A330
      replace H := Option.bind_eq_some_iff.mp H
      obtain ⟨t142, A340, H⟩ := H
      replace H : ((trace_number.f k1 t142 (IntKind.u64.wrap ((l0_8.length : Int)))).bind fun t145 => (trace_Encode.l1 k1 t145 l0_8 (l0_8.length : Int) 0 a0_2 a0_3 a0_4 a0_5 a0_6 l0_7 l0_8 l0_9)) = some (r1, r2) := H
      have A34 := Aside0.mk A340
      clear A340
      replace H := Option.bind_eq_some_iff.mp H
      obtain ⟨t145, A350, H⟩ := H
      replace H : (trace_Encode.l1 k1 t145 l0_8 (l0_8.length : Int) 0 a0_2 a0_3 a0_4 a0_5 a0_6 l0_7 l0_8 l0_9) = some (r1, r2) := H
      have A35 := Aside0.mk A350
      clear A350
      have H' := Aside0.mk H
      clear H
      try go_wp2
      have n0_ := Aside0.mk (Kd.R_drew HO_4.out)
      have n1_ := Aside0.mk (Kd.R_drew HO_38.out)
      have n2_ := Aside0.mk (Kd.V_drew HO_115009.out)
      have n3_ := Aside0.mk (Kd.V_drew HO_128007.out)
      have n4_ := Aside0.mk (blk_drew BK114.out)
      have n5_ := Aside0.mk (blk_drew BK123.out)
      have n6_ := Aside0.mk (blk_drew BK127.out)
      have n7_ := Aside0.mk (below_drew1 HB.out)
      clear HO_4
      clear HO_38
      clear HO_115009
      clear HO_128007
      clear BK114
      clear BK123
      clear BK127
      clear HB
      have HO_4 := n0_
      have HO_38 := n1_
      have HO_115009 := n2_
      have HO_128007 := n3_
      have BK114 := n4_
      have BK123 := n5_
      have BK127 := n6_
      have HB := n7_
      clear n0_ n1_ n2_ n3_ n4_ n5_ n6_ n7_
      obtain ⟨Ao37, co37, eo37⟩ := Kd.R_slice HO_4.out
      (first | subst eo37 | (injection eo37 with f1_ f2_ f3_; have f4_ := f1_.symm; have f5_ := f3_.symm; clear f1_ f2_ f3_; subst f4_; subst f5_))
      refine start_ (n := 10) (S := fun w' => w'.cell? ⟨gb127, 0, none⟩ = some (.int .i64 a0_2) ∧ w'.cell? ⟨gb127, 1, none⟩ = some (.int .i64 a0_3) ∧ w'.cell? ⟨gb127, 2, none⟩ = some (.int .i64 a0_4) ∧ w'.cell? ⟨gb127, 3, none⟩ = some (.int .i64 a0_5) ∧ w'.cell? ⟨gb127, 4, none⟩ = some (.int .i64 a0_6) ∧ w'.cell? ⟨gb127, 5, none⟩ = some (.slice A0_7 l0_7.length c0_7) ∧ w'.cell? ⟨gb127, 6, none⟩ = some (.slice A0_8 l0_8.length c0_8) ∧ w'.cell? ⟨gb127, 7, none⟩ = some (.slice A0_9 l0_9.length c0_9)) (ds := []) #[false, false, false, false, false, false, false, false, false, false] (by kernel_rfl) rfl rfl ⟨hcz BK127 0, hcz BK127 1, hcz BK127 2, hcz BK127 3, hcz BK127 4, hcz BK127 5, hcz BK127 6, hcz BK127 7⟩ (fun hHeld => ?_); refine with_tabW trace_Encode.tab11 trace_Encode.bits11 (fun HT_ HW_ => ?_)
      generalize wr.drew = w36 at HO_4 HO_38 HO_115009 HO_128007 BK114 BK123 BK127 HB hHeld ⊢
      refine pureQ 0 49 HT_.out ?_
      refine pureQ 1 50 HT_.out ?_
      refine pureQ 5 54 HT_.out ?_
      refine takeQ 2 51 HT_.out HW_.out hHeld ?_
      refine pureQ 3 52 HT_.out ?_
      refine takeQ 6 55 HT_.out HW_.out hHeld ?_
      refine pureQ 7 56 HT_.out ?_
      refine oneQ 4 53 HT_.out (fun K hK => ?_)
      refine goesQ Try.func22 #[.slice Ao37 x4_1.length co37, .int .u64 (IntKind.u64.wrap (a0_5))] ?_
      with_reducible refine (trace_number.calls k1 (fun k_ => some k_ = (.slice Ao37 x4_1.length co37 : Value).ownBlock) (.slice Ao37 x4_1.length co37) x4_1 (IntKind.u64.wrap (a0_5)) t135 w _ ?side1 ?side2 A32.out).mono ?_
      (case side1 => repeat (first | (with_reducible first | exact HB.out | apply below_alloc | apply pw_below_drewN | apply below_drew1 | refine below_set ?_ GE114.out | refine below_set ?_ GE123.out | refine below_set ?_ GE127.out) | exact HB.out))
      (case side2 => exact Kd.R_tight rfl HO_4.out)
      rintro e w38 ⟨v136, rfl, ho0, hb, hkp⟩
      refine ⟨_, rfl, ?_⟩
      have n0_ := Aside0.mk (Kd.R_mono (ok' := fun k_ => (w.heap.size ≤ k_)) (Kd.R_keptB ((Kd.R_apart' HO_38.out (Kd.R_typed HO_4.out) (by decide))) hkp (fun k_ hk_ hs_ => (hk_.2) hs_)) (fun k_ hk_ => hk_.1.1))
      have n1_ := Aside0.mk (Kd.V_mono (ok' := fun k_ => (P0_9_ k_ ∨ w.heap.size ≤ k_) ∧ some k_ ≠ (.slice Ao25 y128.length co25 : Value).ownBlock ∧ k_ ≠ gb114 ∧ k_ ≠ gb123 ∧ k_ ≠ gb127 ∧ some k_ ≠ (v136 : Value).ownBlock) (Kd.V_keptB (HO_115009.out) hkp (fun k_ hk_ hs_ => (hk_.2.1) hs_)) (fun k_ hk_ => ⟨hk_.1.1, hk_.1.2.2.1, hk_.1.2.2.2.1, hk_.1.2.2.2.2.1, hk_.1.2.2.2.2.2, fun e_ => Or.elim (ho0.1 k_ e_.symm) (fun hs_ => hk_.2.1 hs_) (fun hn_ => Nat.not_le.2 hk_.2.2 hn_)⟩))
      have n2_ := Aside0.mk (Kd.V_mono (ok' := fun k_ => (P0_9_ k_ ∨ w.heap.size ≤ k_) ∧ some k_ ≠ (.slice Ao25 y128.length co25 : Value).ownBlock ∧ k_ ≠ gb114 ∧ k_ ≠ gb123 ∧ k_ ≠ gb127 ∧ some k_ ≠ (v136 : Value).ownBlock) (Kd.V_keptB (HO_128007.out) hkp (fun k_ hk_ hs_ => (hk_.2.1) hs_)) (fun k_ hk_ => ⟨hk_.1.1, hk_.1.2.2.1, hk_.1.2.2.2.1, hk_.1.2.2.2.2.1, hk_.1.2.2.2.2.2, fun e_ => Or.elim (ho0.1 k_ e_.symm) (fun hs_ => hk_.2.1 hs_) (fun hn_ => Nat.not_le.2 hk_.2.2 hn_)⟩))
      have n3_ := Aside0.mk (blk_kept (pk BK114.out) hkp (fun hs_ => (fun e_ => (Kd.R_ne HO_4.out BK114.out (by decide)) e_) hs_))
      have n4_ := Aside0.mk (blk_kept (pk BK123.out) hkp (fun hs_ => (fun e_ => (Kd.R_ne HO_4.out BK123.out (by decide)) e_) hs_))
      have n5_ := Aside0.mk (blk_kept (pk BK127.out) hkp (fun hs_ => (fun e_ => (Kd.R_ne HO_4.out BK127.out (by decide)) e_) hs_))
      have n6_ := Aside0.mk (Kd.R_mono (ok' := fun k_ => (w.heap.size ≤ k_)) ho0 (fun k_ hk_ => Or.elim hk_ (fun hs_ => (HO_4.out.1 k_ (hs_).symm)) (fun hn_ => (Nat.le_trans (below_size (by repeat (first | (with_reducible first | exact HB.out | apply below_alloc | apply pw_below_drewN | apply below_drew1 | refine below_set ?_ GE114.out | refine below_set ?_ GE123.out | refine below_set ?_ GE127.out) | exact HB.out))) hn_))))
      have n7_ := Aside0.mk (hb)
      clear HO_38
      clear HO_115009
      clear HO_128007
      clear BK114
      clear BK123
      clear BK127
      clear HB
      clear HO_4
      have HO_38 := n0_
      have HO_115009 := n1_
      have HO_128007 := n2_
      have BK114 := n3_
      have BK123 := n4_
      have BK127 := n5_
      have HO137 := n6_
      have HB := n7_
      clear n0_ n1_ n2_ n3_ n4_ n5_ n6_ n7_
      (try clear hb)
      (try clear hkp)
      (try clear ho0)
      obtain ⟨Ao39, co39, eo39⟩ := Kd.R_slice HO137.out
      (first | subst eo39 | (injection eo39 with f1_ f2_ f3_; have f4_ := f1_.symm; have f5_ := f3_.symm; clear f1_ f2_ f3_; subst f4_; subst f5_))
      refine hK.out _ _ ⟨hcz BK127 0, hcz BK127 1, hcz BK127 2, hcz BK127 3, hcz BK127 4, hcz BK127 5, hcz BK127 6, hcz BK127 7⟩ (fun hHeld => ?_)
      clear hK K
      refine normQ (N := 53) ?_
      refine oneQ 8 57 HT_.out (fun K hK => ?_)
      refine goesQ Try.func22 #[.slice Ao39 t135.length co39, .int .u64 (IntKind.u64.wrap (a0_6))] ?_
      with_reducible refine (trace_number.calls k1 (fun k_ => some k_ = (.slice Ao39 t135.length co39 : Value).ownBlock) (.slice Ao39 t135.length co39) t135 (IntKind.u64.wrap (a0_6)) t138 w _ ?side1 ?side2 A33.out).mono ?_
      (case side1 => repeat (first | (with_reducible first | exact HB.out | apply below_alloc | apply pw_below_drewN | apply below_drew1 | refine below_set ?_ GE114.out | refine below_set ?_ GE123.out | refine below_set ?_ GE127.out) | exact HB.out))
      (case side2 => exact Kd.R_tight rfl HO137.out)
      rintro e w40 ⟨v139, rfl, ho0, hb, hkp⟩
      refine ⟨_, rfl, ?_⟩
      have n0_ := Aside0.mk (Kd.R_mono (ok' := fun k_ => (w.heap.size ≤ k_)) (Kd.R_keptB ((Kd.R_apart' HO_38.out (Kd.R_typed HO137.out) (by decide))) hkp (fun k_ hk_ hs_ => (hk_.2) hs_)) (fun k_ hk_ => hk_.1.1))
      have n1_ := Aside0.mk (Kd.V_mono (ok' := fun k_ => (P0_9_ k_ ∨ w.heap.size ≤ k_) ∧ some k_ ≠ (.slice Ao25 y128.length co25 : Value).ownBlock ∧ k_ ≠ gb114 ∧ k_ ≠ gb123 ∧ k_ ≠ gb127 ∧ some k_ ≠ (v139 : Value).ownBlock) (Kd.V_keptB (HO_115009.out) hkp (fun k_ hk_ hs_ => (hk_.2.2.2.2.2) hs_)) (fun k_ hk_ => ⟨hk_.1.1, hk_.1.2.1, hk_.1.2.2.1, hk_.1.2.2.2.1, hk_.1.2.2.2.2.1, fun e_ => Or.elim (ho0.1 k_ e_.symm) (fun hs_ => hk_.2.1 hs_) (fun hn_ => Nat.not_le.2 hk_.2.2 hn_)⟩))
      have n2_ := Aside0.mk (Kd.V_mono (ok' := fun k_ => (P0_9_ k_ ∨ w.heap.size ≤ k_) ∧ some k_ ≠ (.slice Ao25 y128.length co25 : Value).ownBlock ∧ k_ ≠ gb114 ∧ k_ ≠ gb123 ∧ k_ ≠ gb127 ∧ some k_ ≠ (v139 : Value).ownBlock) (Kd.V_keptB (HO_128007.out) hkp (fun k_ hk_ hs_ => (hk_.2.2.2.2.2) hs_)) (fun k_ hk_ => ⟨hk_.1.1, hk_.1.2.1, hk_.1.2.2.1, hk_.1.2.2.2.1, hk_.1.2.2.2.2.1, fun e_ => Or.elim (ho0.1 k_ e_.symm) (fun hs_ => hk_.2.1 hs_) (fun hn_ => Nat.not_le.2 hk_.2.2 hn_)⟩))
      have n3_ := Aside0.mk (blk_kept (pk BK114.out) hkp (fun hs_ => (fun e_ => (Kd.R_ne HO137.out BK114.out (by decide)) e_) hs_))
      have n4_ := Aside0.mk (blk_kept (pk BK123.out) hkp (fun hs_ => (fun e_ => (Kd.R_ne HO137.out BK123.out (by decide)) e_) hs_))
      have n5_ := Aside0.mk (blk_kept (pk BK127.out) hkp (fun hs_ => (fun e_ => (Kd.R_ne HO137.out BK127.out (by decide)) e_) hs_))
      have n6_ := Aside0.mk (Kd.R_mono (ok' := fun k_ => (w.heap.size ≤ k_)) ho0 (fun k_ hk_ => Or.elim hk_ (fun hs_ => (HO137.out.1 k_ (hs_).symm)) (fun hn_ => (Nat.le_trans (below_size (by repeat (first | (with_reducible first | exact HB.out | apply below_alloc | apply pw_below_drewN | apply below_drew1 | refine below_set ?_ GE114.out | refine below_set ?_ GE123.out | refine below_set ?_ GE127.out) | exact HB.out))) hn_))))
      have n7_ := Aside0.mk (hb)
      clear HO_38
      clear HO_115009
      clear HO_128007
      clear BK114
      clear BK123
      clear BK127
      clear HB
      clear HO137
      have HO_38 := n0_
      have HO_115009 := n1_
      have HO_128007 := n2_
      have BK114 := n3_
      have BK123 := n4_
      have BK127 := n5_
      have HO140 := n6_
      have HB := n7_
      clear n0_ n1_ n2_ n3_ n4_ n5_ n6_ n7_
      (try clear hb)
      (try clear hkp)
      (try clear ho0)
      refine hK.out _ _ ⟨hcz BK127 0, hcz BK127 1, hcz BK127 2, hcz BK127 3, hcz BK127 4, hcz BK127 5, hcz BK127 6, hcz BK127 7⟩ (fun hHeld => ?_)
      clear hK K
      refine normQ (N := 57) ?_
      refine pureQ 9 4 HT_.out ?_
      refine done_ (done_of HT_.out (by kernel_rfl)) ?_
      try go_wp2
      have n0_ := Aside0.mk (Kd.R_drew HO_38.out)
      have n1_ := Aside0.mk (Kd.V_drew HO_115009.out)
      have n2_ := Aside0.mk (Kd.V_drew HO_128007.out)
      have n3_ := Aside0.mk (Kd.R_drew HO140.out)
      have n4_ := Aside0.mk (blk_drew BK114.out)
      have n5_ := Aside0.mk (blk_drew BK123.out)
      have n6_ := Aside0.mk (blk_drew BK127.out)
      have n7_ := Aside0.mk (below_drew1 HB.out)
      clear HO_38
      clear HO_115009
      clear HO_128007
      clear HO140
      clear BK114
      clear BK123
      clear BK127
      clear HB
      have HO_38 := n0_
      have HO_115009 := n1_
      have HO_128007 := n2_
      have HO140 := n3_
      have BK114 := n4_
      have BK123 := n5_
      have BK127 := n6_
      have HB := n7_
      clear n0_ n1_ n2_ n3_ n4_ n5_ n6_ n7_
      refine start_ (n := 9) (S := fun w' => w'.cell? ⟨gb127, 0, none⟩ = some (.int .i64 a0_2) ∧ w'.cell? ⟨gb127, 1, none⟩ = some (.int .i64 a0_3) ∧ w'.cell? ⟨gb127, 2, none⟩ = some (.int .i64 a0_4) ∧ w'.cell? ⟨gb127, 3, none⟩ = some (.int .i64 a0_5) ∧ w'.cell? ⟨gb127, 4, none⟩ = some (.int .i64 a0_6) ∧ w'.cell? ⟨gb127, 5, none⟩ = some (.slice A0_7 l0_7.length c0_7) ∧ w'.cell? ⟨gb127, 6, none⟩ = some (.slice A0_8 l0_8.length c0_8) ∧ w'.cell? ⟨gb127, 7, none⟩ = some (.slice A0_9 l0_9.length c0_9)) (ds := []) #[false, false, false, false, false, false, false, false, false] (by kernel_rfl) rfl rfl ⟨hcz BK127 0, hcz BK127 1, hcz BK127 2, hcz BK127 3, hcz BK127 4, hcz BK127 5, hcz BK127 6, hcz BK127 7⟩ (fun hHeld => ?_); refine with_tabW trace_Encode.tab12 trace_Encode.bits12 (fun HT_ HW_ => ?_)
      generalize w40.drew = w41 at HO_38 HO_115009 HO_128007 HO140 BK114 BK123 BK127 HB hHeld ⊢
      refine pureQ 0 58 HT_.out ?_
      refine pureQ 1 59 HT_.out ?_
      refine pureQ 4 62 HT_.out ?_
      refine takeQ 2 60 HT_.out HW_.out hHeld ?_
      refine pureQ 3 61 HT_.out ?_
      refine takeQ 5 63 HT_.out HW_.out hHeld ?_
      refine oneQ 6 64 HT_.out (fun K hK => ?_)
      refine seq_step21 (by rfl) (N := 64) rfl _ (.slice A0_7 l0_7.length c0_7) rfl rfl ?_
      intro gb141 hg w42 hbox hb
      have n0_ := Aside0.mk (Kd.R_below (by (with_reducible repeat (first | apply Kd.R_alloc | apply Kd.R_drewN | apply Kd.R_drew)); exact HO_38.out) hb)
      have n1_ := Aside0.mk (Kd.V_below (Kd.V_elderB (by (with_reducible repeat (first | apply Kd.V_alloc | apply Kd.V_drewN | apply Kd.V_drew)); exact HO_115009.out) gb141 (Nat.le_of_eq hg.symm)) hb)
      have n2_ := Aside0.mk (Kd.V_below (Kd.V_elderB (by (with_reducible repeat (first | apply Kd.V_alloc | apply Kd.V_drewN | apply Kd.V_drew)); exact HO_128007.out) gb141 (Nat.le_of_eq hg.symm)) hb)
      have n3_ := Aside0.mk (Kd.R_below (by (with_reducible repeat (first | apply Kd.R_alloc | apply Kd.R_drewN | apply Kd.R_drew)); exact HO140.out) hb)
      have n4_ := bst HB hb
      have n5_ := Aside0.mk (hbox)
      have n6_ := bsz HB hg
      have n7_ := bsz HB hg
      have n8_ := bn1 BK114 hg
      have n9_ := bn2 BK114 hg
      have n10_ := bn1 BK123 hg
      have n11_ := bn2 BK123 hg
      have n12_ := bn1 BK127 hg
      have n13_ := bn2 BK127 hg
      replace BK114 := bbw BK114 hb
      replace BK123 := bbw BK123 hb
      replace BK127 := bbw BK127 hb
      clear HO_38
      clear HO_115009
      clear HO_128007
      clear HO140
      clear HB
      have HO_38 := n0_
      have HO_115009 := n1_
      have HO_128007 := n2_
      have HO140 := n3_
      have HB := n4_
      have BK141 := n5_
      have GW141 := n6_
      have GE141 := n7_
      have NB114_141 := n8_
      have NB141_114 := n9_
      have NB123_141 := n10_
      have NB141_123 := n11_
      have NB127_141 := n12_
      have NB141_127 := n13_
      clear n0_ n1_ n2_ n3_ n4_ n5_ n6_ n7_ n8_ n9_ n10_ n11_ n12_ n13_
      clear hb hbox hg
      obtain ⟨Ao43, co43, eo43⟩ := Kd.R_slice HO140.out
      (first | subst eo43 | (injection eo43 with f1_ f2_ f3_; have f4_ := f1_.symm; have f5_ := f3_.symm; clear f1_ f2_ f3_; subst f4_; subst f5_))
      refine hK.out _ _ ⟨hcz BK127 0, hcz BK127 1, hcz BK127 2, hcz BK127 3, hcz BK127 4, hcz BK127 5, hcz BK127 6, hcz BK127 7⟩ (fun hHeld => ?_)
      clear hK K
      refine normQ (N := 64) ?_
      refine oneQ 7 65 HT_.out (fun K hK => ?_)
      refine goesQ Try.func20 #[.slice Ao43 t138.length co43, .int .i64 (l0_7.length : Int), .func (.func 35) #[] #[.pointer (some ⟨gb141, 0, none⟩)]] ?_
      with_reducible refine (trace_rowsteps.calls k1 (fun k_ => some k_ = (.slice Ao43 t138.length co43 : Value).ownBlock) (.slice Ao43 t138.length co43) t138 (l0_7.length : Int)  gb141 A0_7 c0_7 l0_7 t142 w _ ?side1 ?side2 ?side3 ?side4 A34.out).mono ?_
      (case side1 => repeat (first | (with_reducible first | exact HB.out | apply below_alloc | apply pw_below_drewN | apply below_drew1 | refine below_set ?_ GE114.out | refine below_set ?_ GE123.out | refine below_set ?_ GE127.out | refine below_set ?_ GE141.out) | exact HB.out))
      (case side2 => exact Kd.R_tight rfl HO140.out)
      (case side3 => exact Kd.C_kept_came (Kd.heap_int .i64) HR0_7.out (by repeat (first | (with_reducible first | exact HB.out | apply below_alloc | apply pw_below_drewN | apply below_drew1 | refine below_set ?_ GE114.out | refine below_set ?_ GE123.out | refine below_set ?_ GE127.out | refine below_set ?_ GE141.out) | exact HB.out)) (fun k_ hs_ => (fun e_ => Kd.R_base HO140.out k_ e_.symm) hs_))
      (case side4 => exact HC0_7.out)
      rintro e w44 ⟨v143, rfl, ho0, hb, hkp⟩
      refine ⟨_, rfl, ?_⟩
      have n0_ := Aside0.mk (Kd.R_mono (ok' := fun k_ => (w.heap.size ≤ k_)) (Kd.R_keptB ((Kd.R_apart' HO_38.out (Kd.R_typed HO140.out) (by decide))) hkp (fun k_ hk_ hs_ => (hk_.2) hs_)) (fun k_ hk_ => hk_.1.1))
      have n1_ := Aside0.mk (Kd.V_mono (ok' := fun k_ => (P0_9_ k_ ∨ w.heap.size ≤ k_) ∧ some k_ ≠ (.slice Ao25 y128.length co25 : Value).ownBlock ∧ k_ ≠ gb114 ∧ k_ ≠ gb123 ∧ k_ ≠ gb127 ∧ k_ ≠ gb141 ∧ some k_ ≠ (v143 : Value).ownBlock) (Kd.V_keptB (HO_115009.out) hkp (fun k_ hk_ hs_ => (hk_.1.2.2.2.2.2) hs_)) (fun k_ hk_ => ⟨hk_.1.1.1, hk_.1.1.2.1, hk_.1.1.2.2.1, hk_.1.1.2.2.2.1, hk_.1.1.2.2.2.2.1, hk_.1.2, fun e_ => Or.elim (ho0.1 k_ e_.symm) (fun hs_ => hk_.2.1 hs_) (fun hn_ => Nat.not_le.2 hk_.2.2 hn_)⟩))
      have n2_ := Aside0.mk (Kd.V_mono (ok' := fun k_ => (P0_9_ k_ ∨ w.heap.size ≤ k_) ∧ some k_ ≠ (.slice Ao25 y128.length co25 : Value).ownBlock ∧ k_ ≠ gb114 ∧ k_ ≠ gb123 ∧ k_ ≠ gb127 ∧ k_ ≠ gb141 ∧ some k_ ≠ (v143 : Value).ownBlock) (Kd.V_keptB (HO_128007.out) hkp (fun k_ hk_ hs_ => (hk_.1.2.2.2.2.2) hs_)) (fun k_ hk_ => ⟨hk_.1.1.1, hk_.1.1.2.1, hk_.1.1.2.2.1, hk_.1.1.2.2.2.1, hk_.1.1.2.2.2.2.1, hk_.1.2, fun e_ => Or.elim (ho0.1 k_ e_.symm) (fun hs_ => hk_.2.1 hs_) (fun hn_ => Nat.not_le.2 hk_.2.2 hn_)⟩))
      have n3_ := Aside0.mk (blk_kept (pk BK114.out) hkp (fun hs_ => (fun e_ => (Kd.R_ne HO140.out BK114.out (by decide)) e_) hs_))
      have n4_ := Aside0.mk (blk_kept (pk BK123.out) hkp (fun hs_ => (fun e_ => (Kd.R_ne HO140.out BK123.out (by decide)) e_) hs_))
      have n5_ := Aside0.mk (blk_kept (pk BK127.out) hkp (fun hs_ => (fun e_ => (Kd.R_ne HO140.out BK127.out (by decide)) e_) hs_))
      have n6_ := Aside0.mk (blk_kept (pk BK141.out) hkp (fun hs_ => (fun e_ => (Kd.R_ne HO140.out BK141.out (by decide)) e_) hs_))
      have n7_ := Aside0.mk (Kd.R_mono (ok' := fun k_ => (w.heap.size ≤ k_)) ho0 (fun k_ hk_ => Or.elim hk_ (fun hs_ => (HO140.out.1 k_ (hs_).symm)) (fun hn_ => (Nat.le_trans (below_size (by repeat (first | (with_reducible first | exact HB.out | apply below_alloc | apply pw_below_drewN | apply below_drew1 | refine below_set ?_ GE114.out | refine below_set ?_ GE123.out | refine below_set ?_ GE127.out | refine below_set ?_ GE141.out) | exact HB.out))) hn_))))
      have n8_ := Aside0.mk (hb)
      clear HO_38
      clear HO_115009
      clear HO_128007
      clear BK114
      clear BK123
      clear BK127
      clear BK141
      clear HB
      clear HO140
      have HO_38 := n0_
      have HO_115009 := n1_
      have HO_128007 := n2_
      have BK114 := n3_
      have BK123 := n4_
      have BK127 := n5_
      have BK141 := n6_
      have HO144 := n7_
      have HB := n8_
      clear n0_ n1_ n2_ n3_ n4_ n5_ n6_ n7_ n8_
      (try clear hb)
      (try clear hkp)
      (try clear ho0)
      refine hK.out _ _ ⟨hcz BK127 0, hcz BK127 1, hcz BK127 2, hcz BK127 3, hcz BK127 4, hcz BK127 5, hcz BK127 6, hcz BK127 7⟩ (fun hHeld => ?_)
      clear hK K
      refine normQ (N := 65) ?_
      refine pureQ 8 4 HT_.out ?_
      refine done_ (done_of HT_.out (by kernel_rfl)) ?_
      have hnb45 := NB127_114.out
      have hnc45 := NB114_127.out
      have hnb46 := NB127_123.out
      have hnc46 := NB123_127.out
      have hnb47 := NB127_141.out
      have hnc47 := NB141_127.out
      have hcz48_0 := hcz BK127 0
      have hcz48_1 := hcz BK127 1
      have hcz48_2 := hcz BK127 2
      have hcz48_3 := hcz BK127 3
      have hcz48_4 := hcz BK127 4
      have hcz48_5 := hcz BK127 5
      have hcz48_6 := hcz BK127 6
      have hcz48_7 := hcz BK127 7
      have hfz48_0 := blk_frozen BK127.out 0
      have hfz48_1 := blk_frozen BK127.out 1
      have hfz48_2 := blk_frozen BK127.out 2
      have hfz48_3 := blk_frozen BK127.out 3
      have hfz48_4 := blk_frozen BK127.out 4
      have hfz48_5 := blk_frozen BK127.out 5
      have hfz48_6 := blk_frozen BK127.out 6
      have hfz48_7 := blk_frozen BK127.out 7
      obtain ⟨Ao49, co49, eo49⟩ := Kd.R_slice HO144.out
      subst eo49
      try go_wp2_with (first | ((with_reducible refine gate_callee (f := 22) rfl ?_); refine goesL_ (some 71) rfl rfl Try.func22 (by kernel_rfl) rfl #[.slice Ao49 t142.length co49, .int .u64 (IntKind.u64.wrap ((l0_8.length : Int)))] rfl (by (try simp only [List.map_toArray, List.map_cons, List.map_nil]); first | done | rfl | (simp only [List.length_drop, List.length_take]; rfl)) ?_; (with_reducible refine (trace_number.calls k1 (fun k_ => some k_ = (.slice Ao49 t142.length co49 : Value).ownBlock) (.slice Ao49 t142.length co49) t142 (IntKind.u64.wrap ((l0_8.length : Int))) t145 w _ ?side1 ?side2 A35.out).mono ?_); (case side1 => repeat (first | (with_reducible first | exact HB.out | apply below_alloc | apply pw_below_drewN | apply below_drew1 | refine below_set ?_ GE114.out | refine below_set ?_ GE123.out | refine below_set ?_ GE127.out | refine below_set ?_ GE141.out) | exact HB.out)); (case side2 => exact Kd.R_tight rfl HO144.out); rintro e w50 ⟨v146, rfl, ho0, hb, hkp⟩; refine ⟨_, rfl, ?_⟩; have n0_ := Aside0.mk (Kd.R_mono (ok' := fun k_ => (w.heap.size ≤ k_)) (Kd.R_keptB ((Kd.R_apart' HO_38.out (Kd.R_typed HO144.out) (by decide))) hkp (fun k_ hk_ hs_ => (hk_.2) hs_)) (fun k_ hk_ => hk_.1.1)); have n1_ := Aside0.mk (Kd.V_mono (ok' := fun k_ => (P0_9_ k_ ∨ w.heap.size ≤ k_) ∧ some k_ ≠ (.slice Ao25 y128.length co25 : Value).ownBlock ∧ k_ ≠ gb114 ∧ k_ ≠ gb123 ∧ k_ ≠ gb127 ∧ k_ ≠ gb141 ∧ some k_ ≠ (v146 : Value).ownBlock) (Kd.V_keptB (HO_115009.out) hkp (fun k_ hk_ hs_ => (hk_.2.2.2.2.2.2) hs_)) (fun k_ hk_ => ⟨hk_.1.1, hk_.1.2.1, hk_.1.2.2.1, hk_.1.2.2.2.1, hk_.1.2.2.2.2.1, hk_.1.2.2.2.2.2.1, fun e_ => Or.elim (ho0.1 k_ e_.symm) (fun hs_ => hk_.2.1 hs_) (fun hn_ => Nat.not_le.2 hk_.2.2 hn_)⟩)); have n2_ := Aside0.mk (Kd.V_mono (ok' := fun k_ => (P0_9_ k_ ∨ w.heap.size ≤ k_) ∧ some k_ ≠ (.slice Ao25 y128.length co25 : Value).ownBlock ∧ k_ ≠ gb114 ∧ k_ ≠ gb123 ∧ k_ ≠ gb127 ∧ k_ ≠ gb141 ∧ some k_ ≠ (v146 : Value).ownBlock) (Kd.V_keptB (HO_128007.out) hkp (fun k_ hk_ hs_ => (hk_.2.2.2.2.2.2) hs_)) (fun k_ hk_ => ⟨hk_.1.1, hk_.1.2.1, hk_.1.2.2.1, hk_.1.2.2.2.1, hk_.1.2.2.2.2.1, hk_.1.2.2.2.2.2.1, fun e_ => Or.elim (ho0.1 k_ e_.symm) (fun hs_ => hk_.2.1 hs_) (fun hn_ => Nat.not_le.2 hk_.2.2 hn_)⟩)); have n3_ := Aside0.mk (blk_kept (pk BK114.out) hkp (fun hs_ => (fun e_ => (Kd.R_ne HO144.out BK114.out (by decide)) e_) hs_)); have n4_ := Aside0.mk (blk_kept (pk BK123.out) hkp (fun hs_ => (fun e_ => (Kd.R_ne HO144.out BK123.out (by decide)) e_) hs_)); have n5_ := Aside0.mk (blk_kept (pk BK127.out) hkp (fun hs_ => (fun e_ => (Kd.R_ne HO144.out BK127.out (by decide)) e_) hs_)); have n6_ := Aside0.mk (blk_kept (pk BK141.out) hkp (fun hs_ => (fun e_ => (Kd.R_ne HO144.out BK141.out (by decide)) e_) hs_)); have n7_ := Aside0.mk (Kd.R_mono (ok' := fun k_ => (w.heap.size ≤ k_)) ho0 (fun k_ hk_ => Or.elim hk_ (fun hs_ => (HO144.out.1 k_ (hs_).symm)) (fun hn_ => (Nat.le_trans (below_size (by repeat (first | (with_reducible first | exact HB.out | apply below_alloc | apply pw_below_drewN | apply below_drew1 | refine below_set ?_ GE114.out | refine below_set ?_ GE123.out | refine below_set ?_ GE127.out | refine below_set ?_ GE141.out) | exact HB.out))) hn_)))); have n8_ := Aside0.mk (hb); clear HO_38; clear HO_115009; clear HO_128007; clear BK114; clear BK123; clear BK127; clear BK141; clear HB; clear HO144; have HO_38 := n0_; have HO_115009 := n1_; have HO_128007 := n2_; have BK114 := n3_; have BK123 := n4_; have BK127 := n5_; have BK141 := n6_; have HO147 := n7_; have HB := n8_; clear n0_ n1_ n2_ n3_ n4_ n5_ n6_ n7_ n8_; (try clear hb); (try clear hkp); (try clear ho0); have hcz51_0 := hcz BK127 0; have hcz51_1 := hcz BK127 1; have hcz51_2 := hcz BK127 2; have hcz51_3 := hcz BK127 3; have hcz51_4 := hcz BK127 4; have hcz51_5 := hcz BK127 5; have hcz51_6 := hcz BK127 6; have hcz51_7 := hcz BK127 7; have hfz51_0 := blk_frozen BK127.out 0; have hfz51_1 := blk_frozen BK127.out 1; have hfz51_2 := blk_frozen BK127.out 2; have hfz51_3 := blk_frozen BK127.out 3; have hfz51_4 := blk_frozen BK127.out 4; have hfz51_5 := blk_frozen BK127.out 5; have hfz51_6 := blk_frozen BK127.out 6; have hfz51_7 := blk_frozen BK127.out 7))
      go_loopg [4, 75] k1 (fun kq v4 v75 w' => ∃ (x4_2 : List Int) (x75_2 : Int), v75 = .int .i64 x75_2 ∧ Aside0 (trace_Encode.l1 kq x4_2 l0_8 (l0_8.length : Int) x75_2 a0_2 a0_3 a0_4 a0_5 a0_6 l0_7 l0_8 l0_9 = some (r1, r2)) ∧ Aside0 (kq ≤ k1) ∧ Aside0 (Kd.R (Kd.int .u8) 5 w' w.heap.size (fun k_ => (w.heap.size ≤ k_)) v4 x4_2) ∧ Aside0 (Kd.V (Kd.slice 2 (Kd.int .i64)) 22 w' w.heap.size (fun k_ => (P0_9_ k_ ∨ w.heap.size ≤ k_) ∧ some k_ ≠ (v4 : Value).ownBlock ∧ k_ ≠ gb114 ∧ k_ ≠ gb123 ∧ k_ ≠ gb127 ∧ k_ ≠ gb141) (.slice A0_9 l0_9.length c0_9) l0_9) ∧ Aside0 (Kd.V (Kd.slice 2 (Kd.int .i64)) 22 w' w.heap.size (fun k_ => (P0_9_ k_ ∨ w.heap.size ≤ k_) ∧ some k_ ≠ (v4 : Value).ownBlock ∧ k_ ≠ gb114 ∧ k_ ≠ gb123 ∧ k_ ≠ gb127 ∧ k_ ≠ gb141) (.slice A0_9 l0_9.length c0_9) l0_9) ∧ Aside0 (w'.heap[gb114]? = some (.cells #[.int .i64 a0_0, (.slice A0_1 l0_1.length c0_1), .int .i64 a0_2, .int .i64 a0_3, .int .i64 a0_4, .int .i64 a0_5, .int .i64 a0_6, (.slice A0_7 l0_7.length c0_7), (.slice A0_8 l0_8.length c0_8), (.slice A0_9 l0_9.length c0_9)] 27 (0, 0))) ∧ Aside0 (w'.heap[gb123]? = some (.cells #[(.slice A0_1 l0_1.length c0_1)] 22 (0, 0))) ∧ Aside0 (w'.heap[gb127]? = some (.cells #[.int .i64 a0_2, .int .i64 a0_3, .int .i64 a0_4, .int .i64 a0_5, .int .i64 a0_6, (.slice A0_7 l0_7.length c0_7), (.slice A0_8 l0_8.length c0_8), (.slice A0_9 l0_9.length c0_9)] 25 (0, 0))) ∧ Aside0 (w'.heap[gb141]? = some (.cells #[(.slice A0_7 l0_7.length c0_7)] 22 (0, 0))) ∧ Aside0 (Below w.heap.size w w'))
      case atStart => exact ⟨(t145), (0), (by first | rfl | (simp; done) | (simp [*]; done)), H', ⟨Nat.le_refl _⟩, ⟨by (with_reducible repeat (first | apply Kd.R_alloc | apply Kd.R_drewN | apply Kd.R_drew)); exact HO147.out⟩, ⟨by (with_reducible repeat (first | apply Kd.V_alloc | apply Kd.V_drewN | apply Kd.V_drew)); exact Kd.V_mono HO_115009.out (fun _ hk => ⟨hk.1, ⟨hk.2.2.2.2.2.2, ⟨hk.2.2.1, ⟨hk.2.2.2.1, ⟨hk.2.2.2.2.1, hk.2.2.2.2.2.1⟩⟩⟩⟩⟩)⟩, ⟨by (with_reducible repeat (first | apply Kd.V_alloc | apply Kd.V_drewN | apply Kd.V_drew)); exact Kd.V_mono HO_128007.out (fun _ hk => ⟨hk.1, ⟨hk.2.2.2.2.2.2, ⟨hk.2.2.1, ⟨hk.2.2.2.1, ⟨hk.2.2.2.2.1, hk.2.2.2.2.2.1⟩⟩⟩⟩⟩)⟩, pkA BK114, pkA BK123, pkA BK127, pkA BK141, bpk HB⟩
      case round =>
       clear H'
       try clear c1
       try clear p1
       try clear q1
       try clear hx1
       try clear c2
       try clear p2
       try clear c3
       try clear c4
       try clear p6
       try clear c8
       try clear c9
       try clear p13
       try clear q13
       try clear hx13
       try clear c17
       try clear c18
       try clear c20
       try clear c21
       try clear p21
       try clear c22
       try clear c26
       try clear c26b0
       try clear c27
       try clear c27b0
       try clear c28
       try clear c28b0
       try clear c45
       try clear c46
       try clear c47
       try clear hcz11_0
       try clear hcz11_1
       try clear hcz11_2
       try clear hcz11_3
       try clear hcz11_4
       try clear hcz11_5
       try clear hcz11_6
       try clear hcz11_7
       try clear hcz11_8
       try clear hcz11_9
       try clear hcz18_0
       try clear hcz18_1
       try clear hcz18_2
       try clear hcz18_3
       try clear hcz18_4
       try clear hcz18_5
       try clear hcz18_6
       try clear hcz18_7
       try clear hcz18_8
       try clear hcz18_9
       try clear hcz22_0
       try clear hcz22_1
       try clear hcz22_2
       try clear hcz22_3
       try clear hcz22_4
       try clear hcz22_5
       try clear hcz22_6
       try clear hcz22_7
       try clear hcz48_0
       try clear hcz48_1
       try clear hcz48_2
       try clear hcz48_3
       try clear hcz48_4
       try clear hcz48_5
       try clear hcz48_6
       try clear hcz48_7
       try clear hcz51_0
       try clear hcz51_1
       try clear hcz51_2
       try clear hcz51_3
       try clear hcz51_4
       try clear hcz51_5
       try clear hcz51_6
       try clear hcz51_7
       try clear hcz7_0
       try clear hcz7_1
       try clear hcz7_2
       try clear hcz7_3
       try clear hcz7_4
       try clear hcz7_5
       try clear hcz7_6
       try clear hcz7_7
       try clear hcz7_8
       try clear hcz7_9
       try clear hfz11_0
       try clear hfz11_1
       try clear hfz11_2
       try clear hfz11_3
       try clear hfz11_4
       try clear hfz11_5
       try clear hfz11_6
       try clear hfz11_7
       try clear hfz11_8
       try clear hfz11_9
       try clear hfz18_0
       try clear hfz18_1
       try clear hfz18_2
       try clear hfz18_3
       try clear hfz18_4
       try clear hfz18_5
       try clear hfz18_6
       try clear hfz18_7
       try clear hfz18_8
       try clear hfz18_9
       try clear hfz22_0
       try clear hfz22_1
       try clear hfz22_2
       try clear hfz22_3
       try clear hfz22_4
       try clear hfz22_5
       try clear hfz22_6
       try clear hfz22_7
       try clear hfz48_0
       try clear hfz48_1
       try clear hfz48_2
       try clear hfz48_3
       try clear hfz48_4
       try clear hfz48_5
       try clear hfz48_6
       try clear hfz48_7
       try clear hfz51_0
       try clear hfz51_1
       try clear hfz51_2
       try clear hfz51_3
       try clear hfz51_4
       try clear hfz51_5
       try clear hfz51_6
       try clear hfz51_7
       try clear hfz7_0
       try clear hfz7_1
       try clear hfz7_2
       try clear hfz7_3
       try clear hfz7_4
       try clear hfz7_5
       try clear hfz7_6
       try clear hfz7_7
       try clear hfz7_8
       try clear hfz7_9
       try clear hx131_0
       try clear p131
       try clear p2
       try clear p21
       try clear q131
       obtain ⟨x4_2, x75_2, rfl, HA, HK2, HO_4, HO_115009, HO_128007, BK114, BK123, BK127, BK141, HB⟩ := hrel
       cases gk with
       | zero => exact absurd HA.out (by simp [trace_Encode.l1])
       | succ k2 =>
        have H := HA.out
        clear HA
        simp only [trace_Encode.l1] at H
        by_cases c52 : x75_2 < (l0_8.length : Int)
        ·
         rw [if_pos c52] at H
         have c52b0 : decide (x75_2 < (l0_8.length : Int)) = true := decide_eq_true c52
         clear c52
         by_cases c53 : 0 ≤ x75_2
         ·
          rw [if_pos c53] at H
          have c53b0 : decide (0 ≤ x75_2) = true := decide_eq_true c53
          clear c53
          by_cases c54 : x75_2 < (l0_8.length : Int)
          ·
           rw [if_pos c54] at H
           have c54b0 : decide (x75_2 < (l0_8.length : Int)) = true := decide_eq_true c54
           clear c54
           replace H := Option.bind_eq_some_iff.mp H
           obtain ⟨t150, A550, H⟩ := H
           replace H : (trace_Encode.l1 k2 t150 l0_8 (l0_8.length : Int) (wrap64 (x75_2 + 1)) a0_2 a0_3 a0_4 a0_5 a0_6 l0_7 l0_8 l0_9) = some (r1, r2) := H
           have A55 := Aside0.mk A550
           clear A550
           have H' := Aside0.mk H
           clear H
           have p148 : 0 ≤ (x75_2 : Int) := of_decide_eq_true (by first | (with_reducible assumption) | assumption)
           have q148 : x75_2 < (l0_8.length : Int) := of_decide_eq_true (by first | (with_reducible assumption) | assumption)
           obtain ⟨ad148, A148_0, c148_0, e148, hx148_0, hl148_0, hi148_0⟩ := at_L1 HR0_8.out x75_2 p148 q148
           cases e148
           replace hx148_0 := (HB.out.cell (World.block_lt_of_cell? w _ hx148_0)).trans hx148_0
           have HR148_0 := Aside0.mk hi148_0
           have HC148_0 := Aside0.mk hl148_0
           clear hi148_0 hl148_0
           replace p148 := eq_true p148
           replace q148 := eq_true q148
           go_wp2_with (first | ((with_reducible refine gate_callee (f := 21) rfl ?_); refine seq_event21 rfl (N := 83) rfl _ (.slice A148_0 (rd_L1 l0_8 x75_2).length c148_0) rfl rfl ?_; intro gb149 hg w56 hbox hb; have n0_ := Aside0.mk (Kd.R_below (by (with_reducible repeat (first | apply Kd.R_alloc | apply Kd.R_drewN | apply Kd.R_drew)); exact HO_4.out) hb); have n1_ := Aside0.mk (Kd.V_below (Kd.V_elderB (by (with_reducible repeat (first | apply Kd.V_alloc | apply Kd.V_drewN | apply Kd.V_drew)); exact HO_115009.out) gb149 (Nat.le_of_eq hg.symm)) hb); have n2_ := Aside0.mk (Kd.V_below (Kd.V_elderB (by (with_reducible repeat (first | apply Kd.V_alloc | apply Kd.V_drewN | apply Kd.V_drew)); exact HO_128007.out) gb149 (Nat.le_of_eq hg.symm)) hb); have n3_ := bst HB hb; have n4_ := Aside0.mk (hbox); have n5_ := bsz HB hg; have n6_ := bsz HB hg; have n7_ := bn1 BK114 hg; have n8_ := bn2 BK114 hg; have n9_ := bn1 BK123 hg; have n10_ := bn2 BK123 hg; have n11_ := bn1 BK127 hg; have n12_ := bn2 BK127 hg; have n13_ := bn1 BK141 hg; have n14_ := bn2 BK141 hg; replace BK114 := bbw BK114 hb; replace BK123 := bbw BK123 hb; replace BK127 := bbw BK127 hb; replace BK141 := bbw BK141 hb; clear HO_4; clear HO_115009; clear HO_128007; clear HB; have HO_4 := n0_; have HO_115009 := n1_; have HO_128007 := n2_; have HB := n3_; have BK149 := n4_; have GW149 := n5_; have GE149 := n6_; have NB114_149 := n7_; have NB149_114 := n8_; have NB123_149 := n9_; have NB149_123 := n10_; have NB127_149 := n11_; have NB149_127 := n12_; have NB141_149 := n13_; have NB149_141 := n14_; clear n0_ n1_ n2_ n3_ n4_ n5_ n6_ n7_ n8_ n9_ n10_ n11_ n12_ n13_ n14_; clear hb hbox hg; obtain ⟨Ao57, co57, eo57⟩ := Kd.R_slice HO_4.out; subst eo57) | ((with_reducible refine gate_callee (f := 20) rfl ?_); refine goesL_ (some 84) rfl rfl Try.func20 (by kernel_rfl) rfl #[.slice Ao57 x4_2.length co57, .int .i64 ((rd_L1 l0_8 x75_2).length : Int), .func (.func 35) #[] #[.pointer (some ⟨gb149, 0, none⟩)]] rfl (by (try simp only [List.map_toArray, List.map_cons, List.map_nil]); first | done | rfl | (simp only [List.length_drop, List.length_take]; rfl)) ?_; (with_reducible refine (trace_rowsteps.calls k2 (fun k_ => some k_ = (.slice Ao57 x4_2.length co57 : Value).ownBlock) (.slice Ao57 x4_2.length co57) x4_2 ((rd_L1 l0_8 x75_2).length : Int)  gb149 A148_0 c148_0 (rd_L1 l0_8 x75_2) t150 w _ ?side1 ?side2 ?side3 ?side4 A55.out).mono ?_); (case side1 => repeat (first | (with_reducible first | exact HB.out | apply below_alloc | apply pw_below_drewN | apply below_drew1 | refine below_set ?_ GE114.out | refine below_set ?_ GE123.out | refine below_set ?_ GE127.out | refine below_set ?_ GE141.out | refine below_set ?_ GE149.out) | exact HB.out)); (case side2 => exact Kd.R_tight rfl HO_4.out); (case side3 => exact Kd.C_kept_came (Kd.heap_int .i64) HR148_0.out (by repeat (first | (with_reducible first | exact HB.out | apply below_alloc | apply pw_below_drewN | apply below_drew1 | refine below_set ?_ GE114.out | refine below_set ?_ GE123.out | refine below_set ?_ GE127.out | refine below_set ?_ GE141.out | refine below_set ?_ GE149.out) | exact HB.out)) (fun k_ hs_ => (fun e_ => Kd.R_base HO_4.out k_ e_.symm) hs_)); (case side4 => exact HC148_0.out); rintro e w58 ⟨v151, rfl, ho0, hb, hkp⟩; refine ⟨_, rfl, ?_⟩; have n0_ := Aside0.mk (Kd.V_mono (ok' := fun k_ => (P0_9_ k_ ∨ w.heap.size ≤ k_) ∧ k_ ≠ gb114 ∧ k_ ≠ gb123 ∧ k_ ≠ gb127 ∧ k_ ≠ gb141 ∧ k_ ≠ gb149 ∧ some k_ ≠ (v151 : Value).ownBlock) (Kd.V_keptB (HO_115009.out) hkp (fun k_ hk_ hs_ => (hk_.1.2.1) hs_)) (fun k_ hk_ => ⟨hk_.1.1.1, hk_.1.1.2.2.1, hk_.1.1.2.2.2.1, hk_.1.1.2.2.2.2.1, hk_.1.1.2.2.2.2.2, hk_.1.2, fun e_ => Or.elim (ho0.1 k_ e_.symm) (fun hs_ => hk_.2.1 hs_) (fun hn_ => Nat.not_le.2 hk_.2.2 hn_)⟩)); have n1_ := Aside0.mk (Kd.V_mono (ok' := fun k_ => (P0_9_ k_ ∨ w.heap.size ≤ k_) ∧ k_ ≠ gb114 ∧ k_ ≠ gb123 ∧ k_ ≠ gb127 ∧ k_ ≠ gb141 ∧ k_ ≠ gb149 ∧ some k_ ≠ (v151 : Value).ownBlock) (Kd.V_keptB (HO_128007.out) hkp (fun k_ hk_ hs_ => (hk_.1.2.1) hs_)) (fun k_ hk_ => ⟨hk_.1.1.1, hk_.1.1.2.2.1, hk_.1.1.2.2.2.1, hk_.1.1.2.2.2.2.1, hk_.1.1.2.2.2.2.2, hk_.1.2, fun e_ => Or.elim (ho0.1 k_ e_.symm) (fun hs_ => hk_.2.1 hs_) (fun hn_ => Nat.not_le.2 hk_.2.2 hn_)⟩)); have n2_ := Aside0.mk (blk_kept (pk BK114.out) hkp (fun hs_ => (fun e_ => (Kd.R_ne HO_4.out BK114.out (by decide)) e_) hs_)); have n3_ := Aside0.mk (blk_kept (pk BK123.out) hkp (fun hs_ => (fun e_ => (Kd.R_ne HO_4.out BK123.out (by decide)) e_) hs_)); have n4_ := Aside0.mk (blk_kept (pk BK127.out) hkp (fun hs_ => (fun e_ => (Kd.R_ne HO_4.out BK127.out (by decide)) e_) hs_)); have n5_ := Aside0.mk (blk_kept (pk BK141.out) hkp (fun hs_ => (fun e_ => (Kd.R_ne HO_4.out BK141.out (by decide)) e_) hs_)); have n6_ := Aside0.mk (blk_kept (pk BK149.out) hkp (fun hs_ => (fun e_ => (Kd.R_ne HO_4.out BK149.out (by decide)) e_) hs_)); have n7_ := Aside0.mk (Kd.R_mono (ok' := fun k_ => (w.heap.size ≤ k_)) ho0 (fun k_ hk_ => Or.elim hk_ (fun hs_ => (HO_4.out.1 k_ (hs_).symm)) (fun hn_ => (Nat.le_trans (below_size (by repeat (first | (with_reducible first | exact HB.out | apply below_alloc | apply pw_below_drewN | apply below_drew1 | refine below_set ?_ GE114.out | refine below_set ?_ GE123.out | refine below_set ?_ GE127.out | refine below_set ?_ GE141.out | refine below_set ?_ GE149.out) | exact HB.out))) hn_)))); have n8_ := Aside0.mk (hb); clear HO_115009; clear HO_128007; clear BK114; clear BK123; clear BK127; clear BK141; clear BK149; clear HB; clear HO_4; have HO_115009 := n0_; have HO_128007 := n1_; have BK114 := n2_; have BK123 := n3_; have BK127 := n4_; have BK141 := n5_; have BK149 := n6_; have HO152 := n7_; have HB := n8_; clear n0_ n1_ n2_ n3_ n4_ n5_ n6_ n7_ n8_; (try clear hb); (try clear hkp); (try clear ho0)))
           go_roundg k2
           case measure => have := HK1.out; have := HK2.out; omega
           case rel => exact ⟨(t150), (wrap64 (x75_2 + 1)), (by first | rfl | (simp; done) | (simp [*]; done)), H', ⟨by have := HK1.out; have := HK2.out; omega⟩, ⟨by (with_reducible repeat (first | apply Kd.R_alloc | apply Kd.R_drewN | apply Kd.R_drew)); exact HO152.out⟩, ⟨by (with_reducible repeat (first | apply Kd.V_alloc | apply Kd.V_drewN | apply Kd.V_drew)); exact Kd.V_mono HO_115009.out (fun _ hk => ⟨hk.1, ⟨hk.2.2.2.2.2.2, ⟨hk.2.1, ⟨hk.2.2.1, ⟨hk.2.2.2.1, hk.2.2.2.2.1⟩⟩⟩⟩⟩)⟩, ⟨by (with_reducible repeat (first | apply Kd.V_alloc | apply Kd.V_drewN | apply Kd.V_drew)); exact Kd.V_mono HO_128007.out (fun _ hk => ⟨hk.1, ⟨hk.2.2.2.2.2.2, ⟨hk.2.1, ⟨hk.2.2.1, ⟨hk.2.2.2.1, hk.2.2.2.2.1⟩⟩⟩⟩⟩)⟩, pkA BK114, pkA BK123, pkA BK127, pkA BK141, bpk HB⟩
          ·
           rw [if_neg c54] at H
           exact absurd H (by simp)
         ·
          rw [if_neg c53] at H
          exact absurd H (by simp)
        ·
         rw [if_neg c52] at H
         have c52b0 : decide (x75_2 < (l0_8.length : Int)) = false := decide_eq_false c52
         clear c52
         replace H := Option.bind_eq_some_iff.mp H
         obtain ⟨t153, A590, H⟩ := H
         replace H : (trace_Encode.l2 k2 t153 ([] : List Int) l0_9 (l0_9.length : Int) 0) = some (r1, r2) := H
         have A59 := Aside0.mk A590
         clear A590
         have H' := Aside0.mk H
         clear H
         have hnb60 := NB127_114.out
         have hnc60 := NB114_127.out
         have hnb61 := NB127_123.out
         have hnc61 := NB123_127.out
         have hnb62 := NB127_141.out
         have hnc62 := NB141_127.out
         have hcz63_0 := hcz BK127 0
         have hcz63_1 := hcz BK127 1
         have hcz63_2 := hcz BK127 2
         have hcz63_3 := hcz BK127 3
         have hcz63_4 := hcz BK127 4
         have hcz63_5 := hcz BK127 5
         have hcz63_6 := hcz BK127 6
         have hcz63_7 := hcz BK127 7
         have hfz63_0 := blk_frozen BK127.out 0
         have hfz63_1 := blk_frozen BK127.out 1
         have hfz63_2 := blk_frozen BK127.out 2
         have hfz63_3 := blk_frozen BK127.out 3
         have hfz63_4 := blk_frozen BK127.out 4
         have hfz63_5 := blk_frozen BK127.out 5
         have hfz63_6 := blk_frozen BK127.out 6
         have hfz63_7 := blk_frozen BK127.out 7
         obtain ⟨Ao64, co64, eo64⟩ := Kd.R_slice HO_4.out
         subst eo64
         go_wp2_with (first | ((with_reducible refine gate_callee (f := 22) rfl ?_); refine goesL_ (some 91) rfl rfl Try.func22 (by kernel_rfl) rfl #[.slice Ao64 x4_2.length co64, .int .u64 (IntKind.u64.wrap ((l0_9.length : Int)))] rfl (by (try simp only [List.map_toArray, List.map_cons, List.map_nil]); first | done | rfl | (simp only [List.length_drop, List.length_take]; rfl)) ?_; (with_reducible refine (trace_number.calls k2 (fun k_ => some k_ = (.slice Ao64 x4_2.length co64 : Value).ownBlock) (.slice Ao64 x4_2.length co64) x4_2 (IntKind.u64.wrap ((l0_9.length : Int))) t153 w _ ?side1 ?side2 A59.out).mono ?_); (case side1 => repeat (first | (with_reducible first | exact HB.out | apply below_alloc | apply pw_below_drewN | apply below_drew1 | refine below_set ?_ GE114.out | refine below_set ?_ GE123.out | refine below_set ?_ GE127.out | refine below_set ?_ GE141.out) | exact HB.out)); (case side2 => exact Kd.R_tight rfl HO_4.out); rintro e w65 ⟨v154, rfl, ho0, hb, hkp⟩; refine ⟨_, rfl, ?_⟩; have n0_ := Aside0.mk (Kd.V_mono (ok' := fun k_ => (P0_9_ k_ ∨ w.heap.size ≤ k_) ∧ k_ ≠ gb114 ∧ k_ ≠ gb123 ∧ k_ ≠ gb127 ∧ k_ ≠ gb141 ∧ some k_ ≠ (v154 : Value).ownBlock) (Kd.V_keptB (HO_115009.out) hkp (fun k_ hk_ hs_ => (hk_.2.1) hs_)) (fun k_ hk_ => ⟨hk_.1.1, hk_.1.2.2.1, hk_.1.2.2.2.1, hk_.1.2.2.2.2.1, hk_.1.2.2.2.2.2, fun e_ => Or.elim (ho0.1 k_ e_.symm) (fun hs_ => hk_.2.1 hs_) (fun hn_ => Nat.not_le.2 hk_.2.2 hn_)⟩)); have n1_ := Aside0.mk (Kd.V_mono (ok' := fun k_ => (P0_9_ k_ ∨ w.heap.size ≤ k_) ∧ k_ ≠ gb114 ∧ k_ ≠ gb123 ∧ k_ ≠ gb127 ∧ k_ ≠ gb141 ∧ some k_ ≠ (v154 : Value).ownBlock) (Kd.V_keptB (HO_128007.out) hkp (fun k_ hk_ hs_ => (hk_.2.1) hs_)) (fun k_ hk_ => ⟨hk_.1.1, hk_.1.2.2.1, hk_.1.2.2.2.1, hk_.1.2.2.2.2.1, hk_.1.2.2.2.2.2, fun e_ => Or.elim (ho0.1 k_ e_.symm) (fun hs_ => hk_.2.1 hs_) (fun hn_ => Nat.not_le.2 hk_.2.2 hn_)⟩)); have n2_ := Aside0.mk (blk_kept (pk BK114.out) hkp (fun hs_ => (fun e_ => (Kd.R_ne HO_4.out BK114.out (by decide)) e_) hs_)); have n3_ := Aside0.mk (blk_kept (pk BK123.out) hkp (fun hs_ => (fun e_ => (Kd.R_ne HO_4.out BK123.out (by decide)) e_) hs_)); have n4_ := Aside0.mk (blk_kept (pk BK127.out) hkp (fun hs_ => (fun e_ => (Kd.R_ne HO_4.out BK127.out (by decide)) e_) hs_)); have n5_ := Aside0.mk (blk_kept (pk BK141.out) hkp (fun hs_ => (fun e_ => (Kd.R_ne HO_4.out BK141.out (by decide)) e_) hs_)); have n6_ := Aside0.mk (Kd.R_mono (ok' := fun k_ => (w.heap.size ≤ k_)) ho0 (fun k_ hk_ => Or.elim hk_ (fun hs_ => (HO_4.out.1 k_ (hs_).symm)) (fun hn_ => (Nat.le_trans (below_size (by repeat (first | (with_reducible first | exact HB.out | apply below_alloc | apply pw_below_drewN | apply below_drew1 | refine below_set ?_ GE114.out | refine below_set ?_ GE123.out | refine below_set ?_ GE127.out | refine below_set ?_ GE141.out) | exact HB.out))) hn_)))); have n7_ := Aside0.mk (hb); clear HO_115009; clear HO_128007; clear BK114; clear BK123; clear BK127; clear BK141; clear HB; clear HO_4; have HO_115009 := n0_; have HO_128007 := n1_; have BK114 := n2_; have BK123 := n3_; have BK127 := n4_; have BK141 := n5_; have HO155 := n6_; have HB := n7_; clear n0_ n1_ n2_ n3_ n4_ n5_ n6_ n7_; (try clear hb); (try clear hkp); (try clear ho0); have hcz66_0 := hcz BK127 0; have hcz66_1 := hcz BK127 1; have hcz66_2 := hcz BK127 2; have hcz66_3 := hcz BK127 3; have hcz66_4 := hcz BK127 4; have hcz66_5 := hcz BK127 5; have hcz66_6 := hcz BK127 6; have hcz66_7 := hcz BK127 7; have hfz66_0 := blk_frozen BK127.out 0; have hfz66_1 := blk_frozen BK127.out 1; have hfz66_2 := blk_frozen BK127.out 2; have hfz66_3 := blk_frozen BK127.out 3; have hfz66_4 := blk_frozen BK127.out 4; have hfz66_5 := blk_frozen BK127.out 5; have hfz66_6 := blk_frozen BK127.out 6; have hfz66_7 := blk_frozen BK127.out 7))
         go_loopg [4, 10, 95] k2 (fun kq v4 v10 v95 w' => ∃ (x4_3 : List Int) (x10_3 : List Int) (x95_3 : Int), v95 = .int .i64 x95_3 ∧ Aside0 (trace_Encode.l2 kq x4_3 x10_3 l0_9 (l0_9.length : Int) x95_3 = some (r1, r2)) ∧ Aside0 (kq ≤ k2) ∧ Aside0 (Kd.R (Kd.int .u8) 5 w' w.heap.size (fun k_ => (w.heap.size ≤ k_)) v4 x4_3) ∧ Aside0 (Kd.V (Kd.int .i64) 2 w' w.heap.size (fun k_ => (P0_9_ k_ ∨ w.heap.size ≤ k_) ∧ some k_ ≠ (v4 : Value).ownBlock ∧ k_ ≠ gb114 ∧ k_ ≠ gb123 ∧ k_ ≠ gb127 ∧ k_ ≠ gb141) v10 x10_3) ∧ Aside0 (Kd.V (Kd.slice 2 (Kd.int .i64)) 22 w' w.heap.size (fun k_ => (P0_9_ k_ ∨ w.heap.size ≤ k_) ∧ some k_ ≠ (v4 : Value).ownBlock ∧ k_ ≠ gb114 ∧ k_ ≠ gb123 ∧ k_ ≠ gb127 ∧ k_ ≠ gb141) (.slice A0_9 l0_9.length c0_9) l0_9) ∧ Aside0 (Kd.V (Kd.slice 2 (Kd.int .i64)) 22 w' w.heap.size (fun k_ => (P0_9_ k_ ∨ w.heap.size ≤ k_) ∧ some k_ ≠ (v4 : Value).ownBlock ∧ k_ ≠ gb114 ∧ k_ ≠ gb123 ∧ k_ ≠ gb127 ∧ k_ ≠ gb141) (.slice A0_9 l0_9.length c0_9) l0_9) ∧ Aside0 (Kd.V (Kd.slice 2 (Kd.int .i64)) 22 w' w.heap.size (fun k_ => (P0_9_ k_ ∨ w.heap.size ≤ k_) ∧ some k_ ≠ (v4 : Value).ownBlock ∧ k_ ≠ gb114 ∧ k_ ≠ gb123 ∧ k_ ≠ gb127 ∧ k_ ≠ gb141) (.slice A0_9 l0_9.length c0_9) l0_9) ∧ Aside0 (w'.heap[gb114]? = some (.cells #[.int .i64 a0_0, (.slice A0_1 l0_1.length c0_1), .int .i64 a0_2, .int .i64 a0_3, .int .i64 a0_4, .int .i64 a0_5, .int .i64 a0_6, (.slice A0_7 l0_7.length c0_7), (.slice A0_8 l0_8.length c0_8), (.slice A0_9 l0_9.length c0_9)] 27 (0, 0))) ∧ Aside0 (w'.heap[gb123]? = some (.cells #[(.slice A0_1 l0_1.length c0_1)] 22 (0, 0))) ∧ Aside0 (w'.heap[gb127]? = some (.cells #[.int .i64 a0_2, .int .i64 a0_3, .int .i64 a0_4, .int .i64 a0_5, .int .i64 a0_6, (.slice A0_7 l0_7.length c0_7), (.slice A0_8 l0_8.length c0_8), (.slice A0_9 l0_9.length c0_9)] 25 (0, 0))) ∧ Aside0 (w'.heap[gb141]? = some (.cells #[(.slice A0_7 l0_7.length c0_7)] 22 (0, 0))) ∧ Aside0 (Below w.heap.size w w'))
         case atStart => exact ⟨(t153), (([] : List Int)), (0), (by first | rfl | (simp; done) | (simp [*]; done)), H', ⟨Nat.le_refl _⟩, ⟨by (with_reducible repeat (first | apply Kd.R_alloc | apply Kd.R_drewN | apply Kd.R_drew)); exact HO155.out⟩, ⟨Kd.V_nil _ _ _ _ _⟩, ⟨by (with_reducible repeat (first | apply Kd.V_alloc | apply Kd.V_drewN | apply Kd.V_drew)); exact Kd.V_mono HO_128007.out (fun _ hk => ⟨hk.1, ⟨hk.2.2.2.2.2, ⟨hk.2.1, ⟨hk.2.2.1, ⟨hk.2.2.2.1, hk.2.2.2.2.1⟩⟩⟩⟩⟩)⟩, ⟨by (with_reducible repeat (first | apply Kd.V_alloc | apply Kd.V_drewN | apply Kd.V_drew)); exact Kd.V_mono HO_115009.out (fun _ hk => ⟨hk.1, ⟨hk.2.2.2.2.2, ⟨hk.2.1, ⟨hk.2.2.1, ⟨hk.2.2.2.1, hk.2.2.2.2.1⟩⟩⟩⟩⟩)⟩, ⟨by (with_reducible repeat (first | apply Kd.V_alloc | apply Kd.V_drewN | apply Kd.V_drew)); exact Kd.V_mono HO_128007.out (fun _ hk => ⟨hk.1, ⟨hk.2.2.2.2.2, ⟨hk.2.1, ⟨hk.2.2.1, ⟨hk.2.2.2.1, hk.2.2.2.2.1⟩⟩⟩⟩⟩)⟩, pkA BK114, pkA BK123, pkA BK127, pkA BK141, bpk HB⟩
         case round =>
          clear H'
          try clear c1
          try clear p1
          try clear q1
          try clear hx1
          try clear c2
          try clear p2
          try clear c3
          try clear c4
          try clear c5
          try clear c6
          try clear p6
          try clear c8
          try clear c9
          try clear p13
          try clear q13
          try clear hx13
          try clear c14
          try clear p14
          try clear q14
          try clear hx14
          try clear c17
          try clear c18
          try clear c20
          try clear c21
          try clear p21
          try clear c22
          try clear c26
          try clear c26b0
          try clear c27
          try clear c27b0
          try clear c28
          try clear c28b0
          try clear c45
          try clear c46
          try clear c47
          try clear c52
          try clear c52b0
          try clear c53
          try clear c53b0
          try clear c54
          try clear c54b0
          try clear c60
          try clear c61
          try clear c62
          try clear p64
          try clear hcz11_0
          try clear hcz11_1
          try clear hcz11_2
          try clear hcz11_3
          try clear hcz11_4
          try clear hcz11_5
          try clear hcz11_6
          try clear hcz11_7
          try clear hcz11_8
          try clear hcz11_9
          try clear hcz18_0
          try clear hcz18_1
          try clear hcz18_2
          try clear hcz18_3
          try clear hcz18_4
          try clear hcz18_5
          try clear hcz18_6
          try clear hcz18_7
          try clear hcz18_8
          try clear hcz18_9
          try clear hcz22_0
          try clear hcz22_1
          try clear hcz22_2
          try clear hcz22_3
          try clear hcz22_4
          try clear hcz22_5
          try clear hcz22_6
          try clear hcz22_7
          try clear hcz48_0
          try clear hcz48_1
          try clear hcz48_2
          try clear hcz48_3
          try clear hcz48_4
          try clear hcz48_5
          try clear hcz48_6
          try clear hcz48_7
          try clear hcz51_0
          try clear hcz51_1
          try clear hcz51_2
          try clear hcz51_3
          try clear hcz51_4
          try clear hcz51_5
          try clear hcz51_6
          try clear hcz51_7
          try clear hcz63_0
          try clear hcz63_1
          try clear hcz63_2
          try clear hcz63_3
          try clear hcz63_4
          try clear hcz63_5
          try clear hcz63_6
          try clear hcz63_7
          try clear hcz66_0
          try clear hcz66_1
          try clear hcz66_2
          try clear hcz66_3
          try clear hcz66_4
          try clear hcz66_5
          try clear hcz66_6
          try clear hcz66_7
          try clear hcz7_0
          try clear hcz7_1
          try clear hcz7_2
          try clear hcz7_3
          try clear hcz7_4
          try clear hcz7_5
          try clear hcz7_6
          try clear hcz7_7
          try clear hcz7_8
          try clear hcz7_9
          try clear hfz11_0
          try clear hfz11_1
          try clear hfz11_2
          try clear hfz11_3
          try clear hfz11_4
          try clear hfz11_5
          try clear hfz11_6
          try clear hfz11_7
          try clear hfz11_8
          try clear hfz11_9
          try clear hfz18_0
          try clear hfz18_1
          try clear hfz18_2
          try clear hfz18_3
          try clear hfz18_4
          try clear hfz18_5
          try clear hfz18_6
          try clear hfz18_7
          try clear hfz18_8
          try clear hfz18_9
          try clear hfz22_0
          try clear hfz22_1
          try clear hfz22_2
          try clear hfz22_3
          try clear hfz22_4
          try clear hfz22_5
          try clear hfz22_6
          try clear hfz22_7
          try clear hfz48_0
          try clear hfz48_1
          try clear hfz48_2
          try clear hfz48_3
          try clear hfz48_4
          try clear hfz48_5
          try clear hfz48_6
          try clear hfz48_7
          try clear hfz51_0
          try clear hfz51_1
          try clear hfz51_2
          try clear hfz51_3
          try clear hfz51_4
          try clear hfz51_5
          try clear hfz51_6
          try clear hfz51_7
          try clear hfz63_0
          try clear hfz63_1
          try clear hfz63_2
          try clear hfz63_3
          try clear hfz63_4
          try clear hfz63_5
          try clear hfz63_6
          try clear hfz63_7
          try clear hfz66_0
          try clear hfz66_1
          try clear hfz66_2
          try clear hfz66_3
          try clear hfz66_4
          try clear hfz66_5
          try clear hfz66_6
          try clear hfz66_7
          try clear hfz7_0
          try clear hfz7_1
          try clear hfz7_2
          try clear hfz7_3
          try clear hfz7_4
          try clear hfz7_5
          try clear hfz7_6
          try clear hfz7_7
          try clear hfz7_8
          try clear hfz7_9
          try clear hx131_0
          try clear hx148_0
          try clear p1
          try clear p13
          try clear p131
          try clear p148
          try clear p2
          try clear p21
          try clear p6
          try clear q1
          try clear q13
          try clear q131
          try clear q148
          obtain ⟨x4_3, x10_3, x95_3, rfl, HA, HK3, HO_4, HO_10, HO_93, HO_115009, HO_128007, BK114, BK123, BK127, BK141, HB⟩ := hrel
          cases gk with
          | zero => exact absurd HA.out (by simp [trace_Encode.l2])
          | succ k3 =>
           have H := HA.out
           clear HA
           simp only [trace_Encode.l2] at H
           by_cases c67 : x95_3 < (l0_9.length : Int)
           ·
            rw [if_pos c67] at H
            have c67b0 : decide (x95_3 < (l0_9.length : Int)) = true := decide_eq_true c67
            clear c67
            by_cases c68 : 0 ≤ x95_3
            ·
             rw [if_pos c68] at H
             have c68b0 : decide (0 ≤ x95_3) = true := decide_eq_true c68
             clear c68
             by_cases c69 : x95_3 < (l0_9.length : Int)
             ·
              rw [if_pos c69] at H
              have c69b0 : decide (x95_3 < (l0_9.length : Int)) = true := decide_eq_true c69
              clear c69
              replace H := Option.bind_eq_some_iff.mp H
              obtain ⟨t159, A700, H⟩ := H
              replace H : (trace_Encode.l2 k3 t159 (rd_L1 l0_9 x95_3) l0_9 (l0_9.length : Int) (wrap64 (x95_3 + 1))) = some (r1, r2) := H
              have A70 := Aside0.mk A700
              clear A700
              have H' := Aside0.mk H
              clear H
              have p156 : 0 ≤ (x95_3 : Int) := of_decide_eq_true (by first | (with_reducible assumption) | assumption)
              have q156 : x95_3 < (l0_9.length : Int) := of_decide_eq_true (by first | (with_reducible assumption) | assumption)
              obtain ⟨ad156, A156_0, c156_0, e156, hx156_0, hl156_0, hi156_0⟩ := at_L1 (Kd.V_reads' HO_93.out).2.2 x95_3 p156 q156
              cases e156
              obtain ⟨ce156, hce156, hMe156, hcc156⟩ := Kd.V_get HO_93.out [] x95_3 p156 (by first | exact q156 | exact of_decide_eq_true (by first | (with_reducible assumption) | assumption) | (have e_ := (Kd.V_reads' HO_93.out).1; omega))
              obtain ⟨ua156_0, uc156_0, rfl, ul156_0, ge156_0⟩ := Kd.FK_slice_open hMe156
              have hv156_0 := hcc156 0 _ rfl
              rw [Nat.add_zero, show ((Kd.slice 2 (Kd.int .i64))).sz = 1 from rfl, Nat.mul_one] at hv156_0
              replace hv156_0 := Option.some.inj (hv156_0.symm.trans hx156_0)
              injection hv156_0 with hva_ hvn_ hvc_
              rw [hva_] at ge156_0
              rw [hvc_] at ul156_0
              have HL156_0 := Aside0.mk (show Kd.V (Kd.int .i64) 2 _ w.heap.size _ _ (rd_L1 l0_9 x95_3) from Kd.V_mk ul156_0 ge156_0)
              clear hva_ hvn_ hvc_ ge156_0 ul156_0
              clear hcc156 hce156
              have HR156_0 := Aside0.mk hi156_0
              have HC156_0 := Aside0.mk hl156_0
              clear hi156_0 hl156_0
              replace p156 := eq_true p156
              replace q156 := eq_true q156
              obtain ⟨Ao71, co71, eo71⟩ := Kd.V_slice HO_10.out
              subst eo71
              go_wp2_with (first | ((with_reducible refine gate_callee (f := 23) rfl ?_); refine seq_event23 rfl (N := 104) rfl _ _ (.slice A156_0 (rd_L1 l0_9 x95_3).length c156_0) (.slice Ao71 x10_3.length co71) rfl rfl rfl ?_; intro gb157 hg w72 hbox hb gb158 hg2 hbox2; have n0_ := Aside0.mk (Kd.R_below (by (with_reducible repeat (first | apply Kd.R_alloc | apply Kd.R_drewN | apply Kd.R_drew)); exact HO_4.out) hb); have n1_ := Aside0.mk (Kd.V_below (Kd.V_elderB (Kd.V_elderB (by (with_reducible repeat (first | apply Kd.V_alloc | apply Kd.V_drewN | apply Kd.V_drew)); exact HO_10.out) gb157 (Nat.le_of_eq hg.symm)) gb158 (Nat.le_trans (Nat.le_of_eq hg.symm) (Nat.le_of_lt hg2))) hb); have n2_ := Aside0.mk (Kd.V_below (Kd.V_elderB (Kd.V_elderB (by (with_reducible repeat (first | apply Kd.V_alloc | apply Kd.V_drewN | apply Kd.V_drew)); exact HO_93.out) gb157 (Nat.le_of_eq hg.symm)) gb158 (Nat.le_trans (Nat.le_of_eq hg.symm) (Nat.le_of_lt hg2))) hb); have n3_ := Aside0.mk (Kd.V_below (Kd.V_elderB (Kd.V_elderB (by (with_reducible repeat (first | apply Kd.V_alloc | apply Kd.V_drewN | apply Kd.V_drew)); exact HO_115009.out) gb157 (Nat.le_of_eq hg.symm)) gb158 (Nat.le_trans (Nat.le_of_eq hg.symm) (Nat.le_of_lt hg2))) hb); have n4_ := Aside0.mk (Kd.V_below (Kd.V_elderB (Kd.V_elderB (by (with_reducible repeat (first | apply Kd.V_alloc | apply Kd.V_drewN | apply Kd.V_drew)); exact HO_128007.out) gb157 (Nat.le_of_eq hg.symm)) gb158 (Nat.le_trans (Nat.le_of_eq hg.symm) (Nat.le_of_lt hg2))) hb); have n5_ := Aside0.mk (Kd.V_below (Kd.V_elderB (Kd.V_elderB (by (with_reducible repeat (first | apply Kd.V_alloc | apply Kd.V_drewN | apply Kd.V_drew)); exact HL156_0.out) gb157 (Nat.le_of_eq hg.symm)) gb158 (Nat.le_trans (Nat.le_of_eq hg.symm) (Nat.le_of_lt hg2))) hb); have n6_ := Aside0.mk (Kd.C_below (by repeat (first | (with_reducible exact HR156_0.out) | (with_reducible refine Kd.C_alloc ?_ _) | (with_reducible refine Kd.C_drewN ?_ _) | (with_reducible refine Kd.C_drew ?_) | exact HR156_0.out)) hb); have n7_ := bst HB hb; have n8_ := Aside0.mk (hbox); have n9_ := bsz HB hg; have n10_ := bsz HB hg; have n11_ := bn1 BK114 hg; have n12_ := bn2 BK114 hg; have n13_ := bn1 BK123 hg; have n14_ := bn2 BK123 hg; have n15_ := bn1 BK127 hg; have n16_ := bn2 BK127 hg; have n17_ := bn1 BK141 hg; have n18_ := bn2 BK141 hg; have n19_ := Aside0.mk (hbox2); have n20_ := Aside0.mk ((Nat.le_trans (by rw [hg]; exact (below_size (by repeat (first | (with_reducible first | exact HB.out | apply below_alloc | apply pw_below_drewN | apply below_drew1 | refine below_set ?_ GE114.out | refine below_set ?_ GE123.out | refine below_set ?_ GE127.out | refine below_set ?_ GE141.out) | exact HB.out))) : w.heap.size ≤ gb157) (Nat.le_of_lt hg2) : _ ≤ gb158)); have n21_ := Aside0.mk ((Nat.le_trans (by rw [hg]; exact (below_size (by repeat (first | (with_reducible first | exact HB.out | apply below_alloc | apply pw_below_drewN | apply below_drew1 | refine below_set ?_ GE114.out | refine below_set ?_ GE123.out | refine below_set ?_ GE127.out | refine below_set ?_ GE141.out) | exact HB.out))) : w.heap.size ≤ gb157) (Nat.le_of_lt hg2) : _ ≤ gb158)); have n22_ := Aside0.mk ((Nat.ne_of_lt (Nat.lt_trans (by rw [hg]; exact blk_lt (g := gb114) (o := .cells #[.int .i64 a0_0, .slice A0_1 l0_1.length c0_1, .int .i64 a0_2, .int .i64 a0_3, .int .i64 a0_4, .int .i64 a0_5, .int .i64 a0_6, .slice A0_7 l0_7.length c0_7, .slice A0_8 l0_8.length c0_8, .slice (some ad156) l0_9.length c0_9] 27 (0, 0)) (pk BK114.out)) hg2) : gb114 ≠ gb158)); have n23_ := Aside0.mk ((Nat.ne_of_gt (Nat.lt_trans (by rw [hg]; exact blk_lt (g := gb114) (o := .cells #[.int .i64 a0_0, .slice A0_1 l0_1.length c0_1, .int .i64 a0_2, .int .i64 a0_3, .int .i64 a0_4, .int .i64 a0_5, .int .i64 a0_6, .slice A0_7 l0_7.length c0_7, .slice A0_8 l0_8.length c0_8, .slice (some ad156) l0_9.length c0_9] 27 (0, 0)) (pk BK114.out)) hg2) : gb158 ≠ gb114)); have n24_ := Aside0.mk ((Nat.ne_of_lt (Nat.lt_trans (by rw [hg]; exact blk_lt (g := gb123) (o := .cells #[.slice A0_1 l0_1.length c0_1] 22 (0, 0)) (pk BK123.out)) hg2) : gb123 ≠ gb158)); have n25_ := Aside0.mk ((Nat.ne_of_gt (Nat.lt_trans (by rw [hg]; exact blk_lt (g := gb123) (o := .cells #[.slice A0_1 l0_1.length c0_1] 22 (0, 0)) (pk BK123.out)) hg2) : gb158 ≠ gb123)); have n26_ := Aside0.mk ((Nat.ne_of_lt (Nat.lt_trans (by rw [hg]; exact blk_lt (g := gb127) (o := .cells #[.int .i64 a0_2, .int .i64 a0_3, .int .i64 a0_4, .int .i64 a0_5, .int .i64 a0_6, .slice A0_7 l0_7.length c0_7, .slice A0_8 l0_8.length c0_8, .slice (some ad156) l0_9.length c0_9] 25 (0, 0)) (pk BK127.out)) hg2) : gb127 ≠ gb158)); have n27_ := Aside0.mk ((Nat.ne_of_gt (Nat.lt_trans (by rw [hg]; exact blk_lt (g := gb127) (o := .cells #[.int .i64 a0_2, .int .i64 a0_3, .int .i64 a0_4, .int .i64 a0_5, .int .i64 a0_6, .slice A0_7 l0_7.length c0_7, .slice A0_8 l0_8.length c0_8, .slice (some ad156) l0_9.length c0_9] 25 (0, 0)) (pk BK127.out)) hg2) : gb158 ≠ gb127)); have n28_ := Aside0.mk ((Nat.ne_of_lt (Nat.lt_trans (by rw [hg]; exact blk_lt (g := gb141) (o := .cells #[.slice A0_7 l0_7.length c0_7] 22 (0, 0)) (pk BK141.out)) hg2) : gb141 ≠ gb158)); have n29_ := Aside0.mk ((Nat.ne_of_gt (Nat.lt_trans (by rw [hg]; exact blk_lt (g := gb141) (o := .cells #[.slice A0_7 l0_7.length c0_7] 22 (0, 0)) (pk BK141.out)) hg2) : gb158 ≠ gb141)); have n30_ := Aside0.mk ((Nat.ne_of_lt hg2 : gb157 ≠ gb158)); have n31_ := Aside0.mk ((Nat.ne_of_gt hg2 : gb158 ≠ gb157)); replace BK114 := bbw BK114 hb; replace BK123 := bbw BK123 hb; replace BK127 := bbw BK127 hb; replace BK141 := bbw BK141 hb; clear HO_4; clear HO_10; clear HO_93; clear HO_115009; clear HO_128007; clear HL156_0; clear HR156_0; clear HB; have HO_4 := n0_; have HO_10 := n1_; have HO_93 := n2_; have HO_115009 := n3_; have HO_128007 := n4_; have HL156_0 := n5_; have HR156_0 := n6_; have HB := n7_; have BK157 := n8_; have GW157 := n9_; have GE157 := n10_; have NB114_157 := n11_; have NB157_114 := n12_; have NB123_157 := n13_; have NB157_123 := n14_; have NB127_157 := n15_; have NB157_127 := n16_; have NB141_157 := n17_; have NB157_141 := n18_; have BK158 := n19_; have GW158 := n20_; have GE158 := n21_; have NB114_158 := n22_; have NB158_114 := n23_; have NB123_158 := n24_; have NB158_123 := n25_; have NB127_158 := n26_; have NB158_127 := n27_; have NB141_158 := n28_; have NB158_141 := n29_; have NB157_158 := n30_; have NB158_157 := n31_; clear n0_ n1_ n2_ n3_ n4_ n5_ n6_ n7_ n8_ n9_ n10_ n11_ n12_ n13_ n14_ n15_ n16_ n17_ n18_ n19_ n20_ n21_ n22_ n23_ n24_ n25_ n26_ n27_ n28_ n29_ n30_ n31_; clear hg2 hbox2; clear hb hbox hg; obtain ⟨Ao73, co73, eo73⟩ := Kd.R_slice HO_4.out; subst eo73) | ((with_reducible refine gate_callee (f := 20) rfl ?_); refine goesL_ (some 105) rfl rfl Try.func20 (by kernel_rfl) rfl #[.slice Ao73 x4_3.length co73, .int .i64 ((rd_L1 l0_9 x95_3).length : Int), .func (.func 36) #[] #[.pointer (some ⟨gb157, 0, none⟩), .pointer (some ⟨gb158, 0, none⟩)]] rfl (by (try simp only [List.map_toArray, List.map_cons, List.map_nil]); first | done | rfl | (simp only [List.length_drop, List.length_take]; rfl)) ?_; (with_reducible refine (trace_rowbeside.calls k3 (fun k_ => some k_ = (.slice Ao73 x4_3.length co73 : Value).ownBlock) (.slice Ao73 x4_3.length co73) x4_3 ((rd_L1 l0_9 x95_3).length : Int)  gb157 A156_0 c156_0 (rd_L1 l0_9 x95_3) gb158 Ao71 co71 x10_3 t159 w _ ?side1 ?side2 ?side3 ?side4 ?side5 ?side6 A70.out).mono ?_); (case side1 => repeat (first | (with_reducible first | exact HB.out | apply below_alloc | apply pw_below_drewN | apply below_drew1 | refine below_set ?_ GE114.out | refine below_set ?_ GE123.out | refine below_set ?_ GE127.out | refine below_set ?_ GE141.out | refine below_set ?_ GE158.out | refine below_set ?_ GE157.out) | exact HB.out)); (case side2 => exact Kd.R_tight rfl HO_4.out); (case side3 => exact Kd.C_kept_ownV (HL156_0.out) (fun k_ hk_ hs_ => (hk_.1.1.2.1) hs_)); (case side4 => exact HC156_0.out); (case side5 => exact Kd.C_kept_ownV (HO_10.out) (fun k_ hk_ hs_ => (hk_.1.1.2.1) hs_)); (case side6 => exact (Kd.V_reads' HO_10.out).2.1); rintro e w74 ⟨v160, rfl, ho0, hb, hkp⟩; refine ⟨_, rfl, ?_⟩; have n0_ := Aside0.mk (Kd.V_mono (ok' := fun k_ => (P0_9_ k_ ∨ w.heap.size ≤ k_) ∧ k_ ≠ gb114 ∧ k_ ≠ gb123 ∧ k_ ≠ gb127 ∧ k_ ≠ gb141 ∧ k_ ≠ gb158 ∧ k_ ≠ gb157 ∧ some k_ ≠ (v160 : Value).ownBlock) (Kd.V_keptB (HO_10.out) hkp (fun k_ hk_ hs_ => (hk_.1.1.2.1) hs_)) (fun k_ hk_ => ⟨hk_.1.1.1.1, hk_.1.1.1.2.2.1, hk_.1.1.1.2.2.2.1, hk_.1.1.1.2.2.2.2.1, hk_.1.1.1.2.2.2.2.2, hk_.1.2, hk_.1.1.2, fun e_ => Or.elim (ho0.1 k_ e_.symm) (fun hs_ => hk_.2.1 hs_) (fun hn_ => Nat.not_le.2 hk_.2.2 hn_)⟩)); have n1_ := Aside0.mk (Kd.V_mono (ok' := fun k_ => (P0_9_ k_ ∨ w.heap.size ≤ k_) ∧ k_ ≠ gb114 ∧ k_ ≠ gb123 ∧ k_ ≠ gb127 ∧ k_ ≠ gb141 ∧ k_ ≠ gb158 ∧ k_ ≠ gb157 ∧ some k_ ≠ (v160 : Value).ownBlock) (Kd.V_keptB (HO_93.out) hkp (fun k_ hk_ hs_ => (hk_.1.1.2.1) hs_)) (fun k_ hk_ => ⟨hk_.1.1.1.1, hk_.1.1.1.2.2.1, hk_.1.1.1.2.2.2.1, hk_.1.1.1.2.2.2.2.1, hk_.1.1.1.2.2.2.2.2, hk_.1.2, hk_.1.1.2, fun e_ => Or.elim (ho0.1 k_ e_.symm) (fun hs_ => hk_.2.1 hs_) (fun hn_ => Nat.not_le.2 hk_.2.2 hn_)⟩)); have n2_ := Aside0.mk (Kd.V_mono (ok' := fun k_ => (P0_9_ k_ ∨ w.heap.size ≤ k_) ∧ k_ ≠ gb114 ∧ k_ ≠ gb123 ∧ k_ ≠ gb127 ∧ k_ ≠ gb141 ∧ k_ ≠ gb158 ∧ k_ ≠ gb157 ∧ some k_ ≠ (v160 : Value).ownBlock) (Kd.V_keptB (HO_115009.out) hkp (fun k_ hk_ hs_ => (hk_.1.1.2.1) hs_)) (fun k_ hk_ => ⟨hk_.1.1.1.1, hk_.1.1.1.2.2.1, hk_.1.1.1.2.2.2.1, hk_.1.1.1.2.2.2.2.1, hk_.1.1.1.2.2.2.2.2, hk_.1.2, hk_.1.1.2, fun e_ => Or.elim (ho0.1 k_ e_.symm) (fun hs_ => hk_.2.1 hs_) (fun hn_ => Nat.not_le.2 hk_.2.2 hn_)⟩)); have n3_ := Aside0.mk (Kd.V_mono (ok' := fun k_ => (P0_9_ k_ ∨ w.heap.size ≤ k_) ∧ k_ ≠ gb114 ∧ k_ ≠ gb123 ∧ k_ ≠ gb127 ∧ k_ ≠ gb141 ∧ k_ ≠ gb158 ∧ k_ ≠ gb157 ∧ some k_ ≠ (v160 : Value).ownBlock) (Kd.V_keptB (HO_128007.out) hkp (fun k_ hk_ hs_ => (hk_.1.1.2.1) hs_)) (fun k_ hk_ => ⟨hk_.1.1.1.1, hk_.1.1.1.2.2.1, hk_.1.1.1.2.2.2.1, hk_.1.1.1.2.2.2.2.1, hk_.1.1.1.2.2.2.2.2, hk_.1.2, hk_.1.1.2, fun e_ => Or.elim (ho0.1 k_ e_.symm) (fun hs_ => hk_.2.1 hs_) (fun hn_ => Nat.not_le.2 hk_.2.2 hn_)⟩)); have n4_ := Aside0.mk (blk_kept (pk BK114.out) hkp (fun hs_ => (fun e_ => (Kd.R_ne HO_4.out BK114.out (by decide)) e_) hs_)); have n5_ := Aside0.mk (blk_kept (pk BK123.out) hkp (fun hs_ => (fun e_ => (Kd.R_ne HO_4.out BK123.out (by decide)) e_) hs_)); have n6_ := Aside0.mk (blk_kept (pk BK127.out) hkp (fun hs_ => (fun e_ => (Kd.R_ne HO_4.out BK127.out (by decide)) e_) hs_)); have n7_ := Aside0.mk (blk_kept (pk BK141.out) hkp (fun hs_ => (fun e_ => (Kd.R_ne HO_4.out BK141.out (by decide)) e_) hs_)); have n8_ := Aside0.mk (Kd.V_mono (ok' := fun k_ => (P0_9_ k_ ∨ w.heap.size ≤ k_) ∧ k_ ≠ gb114 ∧ k_ ≠ gb123 ∧ k_ ≠ gb127 ∧ k_ ≠ gb141 ∧ k_ ≠ gb158 ∧ k_ ≠ gb157 ∧ some k_ ≠ (v160 : Value).ownBlock) (Kd.V_keptB (HL156_0.out) hkp (fun k_ hk_ hs_ => (hk_.1.1.2.1) hs_)) (fun k_ hk_ => ⟨hk_.1.1.1.1, hk_.1.1.1.2.2.1, hk_.1.1.1.2.2.2.1, hk_.1.1.1.2.2.2.2.1, hk_.1.1.1.2.2.2.2.2, hk_.1.2, hk_.1.1.2, fun e_ => Or.elim (ho0.1 k_ e_.symm) (fun hs_ => hk_.2.1 hs_) (fun hn_ => Nat.not_le.2 hk_.2.2 hn_)⟩)); have n9_ := Aside0.mk (blk_kept (pk BK158.out) hkp (fun hs_ => (fun e_ => (Kd.R_ne HO_4.out BK158.out (by decide)) e_) hs_)); have n10_ := Aside0.mk (blk_kept (pk BK157.out) hkp (fun hs_ => (fun e_ => (Kd.R_ne HO_4.out BK157.out (by decide)) e_) hs_)); have n11_ := Aside0.mk (Kd.R_mono (ok' := fun k_ => (w.heap.size ≤ k_)) ho0 (fun k_ hk_ => Or.elim hk_ (fun hs_ => (HO_4.out.1 k_ (hs_).symm)) (fun hn_ => (Nat.le_trans (below_size (by repeat (first | (with_reducible first | exact HB.out | apply below_alloc | apply pw_below_drewN | apply below_drew1 | refine below_set ?_ GE114.out | refine below_set ?_ GE123.out | refine below_set ?_ GE127.out | refine below_set ?_ GE141.out | refine below_set ?_ GE158.out | refine below_set ?_ GE157.out) | exact HB.out))) hn_)))); have n12_ := Aside0.mk (hb); clear HO_10; clear HO_93; clear HO_115009; clear HO_128007; clear BK114; clear BK123; clear BK127; clear BK141; clear HL156_0; clear BK158; clear BK157; clear HB; clear HO_4; have HO_10 := n0_; have HO_93 := n1_; have HO_115009 := n2_; have HO_128007 := n3_; have BK114 := n4_; have BK123 := n5_; have BK127 := n6_; have BK141 := n7_; have HL156_0 := n8_; have BK158 := n9_; have BK157 := n10_; have HO161 := n11_; have HB := n12_; clear n0_ n1_ n2_ n3_ n4_ n5_ n6_ n7_ n8_ n9_ n10_ n11_ n12_; (try clear hb); (try clear hkp); (try clear ho0)))
              go_roundg k3
              case measure => have := HK1.out; have := HK2.out; have := HK3.out; omega
              case rel => exact ⟨(t159), (rd_L1 l0_9 x95_3), (wrap64 (x95_3 + 1)), (by first | rfl | (simp; done) | (simp [*]; done)), H', ⟨by have := HK1.out; have := HK2.out; have := HK3.out; omega⟩, ⟨by (with_reducible repeat (first | apply Kd.R_alloc | apply Kd.R_drewN | apply Kd.R_drew)); exact HO161.out⟩, ⟨by (with_reducible repeat (first | apply Kd.V_alloc | apply Kd.V_drewN | apply Kd.V_drew)); exact Kd.V_mono HL156_0.out (fun _ hk => ⟨hk.1, ⟨hk.2.2.2.2.2.2.2, ⟨hk.2.1, ⟨hk.2.2.1, ⟨hk.2.2.2.1, hk.2.2.2.2.1⟩⟩⟩⟩⟩)⟩, ⟨by (with_reducible repeat (first | apply Kd.V_alloc | apply Kd.V_drewN | apply Kd.V_drew)); exact Kd.V_mono HO_93.out (fun _ hk => ⟨hk.1, ⟨hk.2.2.2.2.2.2.2, ⟨hk.2.1, ⟨hk.2.2.1, ⟨hk.2.2.2.1, hk.2.2.2.2.1⟩⟩⟩⟩⟩)⟩, ⟨by (with_reducible repeat (first | apply Kd.V_alloc | apply Kd.V_drewN | apply Kd.V_drew)); exact Kd.V_mono HO_115009.out (fun _ hk => ⟨hk.1, ⟨hk.2.2.2.2.2.2.2, ⟨hk.2.1, ⟨hk.2.2.1, ⟨hk.2.2.2.1, hk.2.2.2.2.1⟩⟩⟩⟩⟩)⟩, ⟨by (with_reducible repeat (first | apply Kd.V_alloc | apply Kd.V_drewN | apply Kd.V_drew)); exact Kd.V_mono HO_128007.out (fun _ hk => ⟨hk.1, ⟨hk.2.2.2.2.2.2.2, ⟨hk.2.1, ⟨hk.2.2.1, ⟨hk.2.2.2.1, hk.2.2.2.2.1⟩⟩⟩⟩⟩)⟩, pkA BK114, pkA BK123, pkA BK127, pkA BK141, bpk HB⟩
             ·
              rw [if_neg c69] at H
              exact absurd H (by simp)
            ·
             rw [if_neg c68] at H
             exact absurd H (by simp)
           ·
            rw [if_neg c67] at H
            have c67b0 : decide (x95_3 < (l0_9.length : Int)) = false := decide_eq_false c67
            clear c67
            replace H := Option.bind_eq_some_iff.mp H
            obtain ⟨t162, A750, H⟩ := H
            replace H : ((some (([(t162) % 256, (t162 / 256) % 256, (t162 / 65536) % 256, (t162 / 16777216) % 256] : List Int) : List Int)).bind fun y163 => (if x4_3.length + y163.length < 140737488355328 then (some ((x4_3 ++ y163), 0)) else (none))) = some (r1, r2) := H
            have A75 := Aside0.mk A750
            clear A750
            obtain ⟨y163, hy163⟩ : ∃ y_ : List Int, y_ = (([(t162) % 256, (t162 / 256) % 256, (t162 / 65536) % 256, (t162 / 16777216) % 256] : List Int)) := ⟨_, rfl⟩
            replace H : (if x4_3.length + y163.length < 140737488355328 then (some ((x4_3 ++ y163), 0)) else (none)) = some (r1, r2) := by first | (rw [hy163]; with_reducible exact H) | (have H2_ := (Option.bind_some _ _).symm.trans H; rw [hy163]; with_reducible exact H2_) | (have H2_ := (Option.bind_some _ _).symm.trans H; with_reducible exact H2_) | with_reducible exact H | (rw [hy163]; exact H) | exact H
            have Ny163 := Aside0.mk hy163
            clear hy163
            by_cases c76 : x4_3.length + y163.length < 140737488355328
            ·
             rw [if_pos c76] at H
             have LMc76 := Aside0.mk c76
             clear c76
             obtain ⟨y166, hy166⟩ : ∃ y_ : List Int, y_ = (x4_3 ++ y163) := ⟨_, rfl⟩
             replace H : (some (y166, 0)) = some (r1, r2) := by first | (rw [hy166]; with_reducible exact H) | (have H2_ := (Option.bind_some _ _).symm.trans H; rw [hy166]; with_reducible exact H2_) | (have H2_ := (Option.bind_some _ _).symm.trans H; with_reducible exact H2_) | with_reducible exact H | (rw [hy166]; exact H) | exact H
             have Ny166 := Aside0.mk hy166
             clear hy166
             simp only [Option.some.injEq, Prod.mk.injEq] at H
             obtain ⟨rfl, rfl⟩ := H
             obtain ⟨Ao77, co77, eo77⟩ := Kd.R_slice HO_4.out
             subst eo77
             go_wp2_with (first | ((with_reducible refine gate_callee (f := 24) rfl ?_); refine goesL_ (some 109) rfl rfl Try.func24 (by kernel_rfl) rfl #[.slice Ao77 x4_3.length co77] rfl (by (try simp only [List.map_toArray, List.map_cons, List.map_nil]); first | done | rfl | (simp only [List.length_drop, List.length_take]; rfl)) ?_; (with_reducible refine (code_Sum.calls k3 _ _ x4_3 t162 _ ?side1 ?side2 A75.out).mono ?_); (case side1 => repeat (first | exact (Kd.R_reads' HO_4.out).2.2 | (with_reducible refine Kd.C_alloc ?_ _) | (with_reducible refine Kd.C_drewN ?_ _) | (with_reducible refine Kd.C_drew ?_))); (case side2 => exact (Kd.R_reads' HO_4.out).2.1); rintro e w' ⟨rfl, ⟨nd, rfl⟩⟩; refine ⟨_, rfl, ?_⟩) | ((with_reducible refine gate_dst (N := 122) rfl ?_); refine Kd.R_lit (Kd.int .u8) _ 5 ?hg (N := 122) ?hd (xs := ([(t162) % 256, (t162 / 256) % 256, (t162 / 65536) % 256, (t162 / 16777216) % 256] : List Int)) (inner := [.int .u8 ((t162) % 256), .int .u8 ((t162 / 256) % 256), .int .u8 ((t162 / 65536) % 256), .int .u8 ((t162 / 16777216) % 256)]) (ok := fun _ => True) (okp := fun _ => True) ?hr ?hp (fun _ hk => hk) trivial (Below.refl _ _) (Nat.le_refl _) (by simp) ?_; (case hd => rfl); (case hg => rfl); (case hr => first | (go_simp; done) | (go_simp; rfl)); (case hp => exact (Reps.one (show Kd.M (Kd.int .u8) _ _ _ ((t162) % 256) [.int .u8 ((t162) % 256)] from rfl) (Reps.one (show Kd.M (Kd.int .u8) _ _ _ ((t162 / 256) % 256) [.int .u8 ((t162 / 256) % 256)] from rfl) (Reps.one (show Kd.M (Kd.int .u8) _ _ _ ((t162 / 65536) % 256) [.int .u8 ((t162 / 65536) % 256)] from rfl) (Reps.one (show Kd.M (Kd.int .u8) _ _ _ ((t162 / 16777216) % 256) [.int .u8 ((t162 / 16777216) % 256)] from rfl) (Reps.none _ _)))))); intro v164 w78 ho79 hb hg_ hnew_; clear hg_ hnew_; (first | rw [← Ny163.out] at ho79 | (simp only [Int.reduceToNat] at ho79; rw [← Ny163.out] at ho79)); have n0_ := Aside0.mk (Kd.R_elder' (by (with_reducible repeat (first | apply Kd.R_alloc | apply Kd.R_drewN | apply Kd.R_drew)); exact HO_4.out) (Kd.R_base ho79) hb); have n1_ := Aside0.mk (Kd.V_elder' (by (with_reducible repeat (first | apply Kd.V_alloc | apply Kd.V_drewN | apply Kd.V_drew)); exact HO_10.out) (Kd.R_base ho79) hb); have n2_ := Aside0.mk (Kd.V_elder' (by (with_reducible repeat (first | apply Kd.V_alloc | apply Kd.V_drewN | apply Kd.V_drew)); exact HO_93.out) (Kd.R_base ho79) hb); have n3_ := Aside0.mk (Kd.V_elder' (by (with_reducible repeat (first | apply Kd.V_alloc | apply Kd.V_drewN | apply Kd.V_drew)); exact HO_115009.out) (Kd.R_base ho79) hb); have n4_ := Aside0.mk (Kd.V_elder' (by (with_reducible repeat (first | apply Kd.V_alloc | apply Kd.V_drewN | apply Kd.V_drew)); exact HO_128007.out) (Kd.R_base ho79) hb); have n5_ := Aside0.mk (Kd.R_lower (Kd.R_new' (Kd.R_newM (M := fun k_ => (w.heap.size ≤ k_)) ho79 (below_size (by repeat (first | (with_reducible first | exact HB.out | apply below_alloc | apply pw_below_drewN | apply below_drew1 | refine below_set ?_ GE114.out | refine below_set ?_ GE123.out | refine below_set ?_ GE127.out | refine below_set ?_ GE141.out) | exact HB.out))) (fun k_ h_ => h_)) (Kd.R_lt (by (with_reducible repeat (first | apply Kd.R_alloc | apply Kd.R_drewN | apply Kd.R_drew)); exact HO_4.out))) (below_size (by repeat (first | (with_reducible first | exact HB.out | apply below_alloc | apply pw_below_drewN | apply below_drew1 | refine below_set ?_ GE114.out | refine below_set ?_ GE123.out | refine below_set ?_ GE127.out | refine below_set ?_ GE141.out) | exact HB.out)))); have n6_ := bst HB hb; replace BK114 := bbw BK114 hb; replace BK123 := bbw BK123 hb; replace BK127 := bbw BK127 hb; replace BK141 := bbw BK141 hb; clear HO_4; clear HO_10; clear HO_93; clear HO_115009; clear HO_128007; clear HB; have HO_4 := n0_; have HO_10 := n1_; have HO_93 := n2_; have HO_115009 := n3_; have HO_128007 := n4_; have HO165 := n5_; have HB := n6_; clear n0_ n1_ n2_ n3_ n4_ n5_ n6_; clear hb ho79; obtain ⟨Ao81, co81, eo81⟩ := Kd.R_slice HO165.out; subst eo81) | ((with_reducible refine gate_builtin (b := .append) (xs := #[.tmp 110, .tmp 122]) rfl ?_); at_builtin; refine Kd.R_append_rows (Kd.int .u8) (w0 := w) w.heap.size rfl (.tmp 110) (.tmp 122) 28 5 (.int .u8 0) 1 rfl Try.underlying28 info5 rfl (by decide) (by omega) (.slice Ao77 x4_3.length co77) x4_3 y163 _ _ _ (fun k_ => (w.heap.size ≤ k_) ∧ some k_ ≠ (.slice Ao81 y163.length co81 : Value).ownBlock) (fun _ => False) rfl rfl ?aO ?aR (fun _ _ h => h) (fun _ h => h.elim) ?aF ?aB ?aS ?aL ?_; (case aR => repeat (first | exact (Kd.R_reads' HO165.out).2.2 | (with_reducible refine Kd.C_alloc ?_ _) | (with_reducible refine Kd.C_drewN ?_ _) | (with_reducible refine Kd.C_drew ?_))); (case aB => exact (by repeat (first | (with_reducible first | exact HB.out | apply below_alloc | apply pw_below_drewN | apply below_drew1 | refine below_set ?_ GE114.out | refine below_set ?_ GE123.out | refine below_set ?_ GE127.out | refine below_set ?_ GE141.out) | exact HB.out))); (case aF => exact (fun k_ hk => ⟨(Nat.le_trans (below_size (by repeat (first | (with_reducible first | exact HB.out | apply below_alloc | apply pw_below_drewN | apply below_drew1 | refine below_set ?_ GE114.out | refine below_set ?_ GE123.out | refine below_set ?_ GE127.out | refine below_set ?_ GE141.out) | exact HB.out))) hk), Kd.fresh' (Kd.R_lt (by (with_reducible repeat (first | apply Kd.R_alloc | apply Kd.R_drewN | apply Kd.R_drew)); exact HO165.out)) k_ hk⟩)); (case aO => exact (by (with_reducible repeat (first | apply Kd.R_alloc | apply Kd.R_drewN | apply Kd.R_drew)); exact HO_4.out)); (case aS => exact (below_size (by repeat (first | (with_reducible first | exact HB.out | apply below_alloc | apply pw_below_drewN | apply below_drew1 | refine below_set ?_ GE114.out | refine below_set ?_ GE123.out | refine below_set ?_ GE127.out | refine below_set ?_ GE141.out) | exact HB.out)))); (case aL => have := LMc76.out; omega); intro v167 w80 ho hb hg hat; rw [← Ny166.out] at ho; have n0_ := Aside0.mk (Kd.V_afterv (ok := (fun k_ => (P0_9_ k_ ∨ w.heap.size ≤ k_) ∧ some k_ ≠ (.slice Ao81 y163.length co81 : Value).ownBlock ∧ k_ ≠ gb114 ∧ k_ ≠ gb123 ∧ k_ ≠ gb127 ∧ k_ ≠ gb141)) (by (with_reducible repeat (first | apply Kd.V_alloc | apply Kd.V_drewN | apply Kd.V_drew)); exact Kd.V_mono HO_10.out (fun _ hk => ⟨⟨hk.1.1, ⟨hk.2, ⟨hk.1.2.2.1, ⟨hk.1.2.2.2.1, ⟨hk.1.2.2.2.2.1, hk.1.2.2.2.2.2⟩⟩⟩⟩⟩, hk.1.2.1⟩)) hg hat); have n1_ := Aside0.mk (Kd.V_afterv (ok := (fun k_ => (P0_9_ k_ ∨ w.heap.size ≤ k_) ∧ some k_ ≠ (.slice Ao81 y163.length co81 : Value).ownBlock ∧ k_ ≠ gb114 ∧ k_ ≠ gb123 ∧ k_ ≠ gb127 ∧ k_ ≠ gb141)) (by (with_reducible repeat (first | apply Kd.V_alloc | apply Kd.V_drewN | apply Kd.V_drew)); exact Kd.V_mono HO_93.out (fun _ hk => ⟨⟨hk.1.1, ⟨hk.2, ⟨hk.1.2.2.1, ⟨hk.1.2.2.2.1, ⟨hk.1.2.2.2.2.1, hk.1.2.2.2.2.2⟩⟩⟩⟩⟩, hk.1.2.1⟩)) hg hat); have n2_ := Aside0.mk (Kd.V_afterv (ok := (fun k_ => (P0_9_ k_ ∨ w.heap.size ≤ k_) ∧ some k_ ≠ (.slice Ao81 y163.length co81 : Value).ownBlock ∧ k_ ≠ gb114 ∧ k_ ≠ gb123 ∧ k_ ≠ gb127 ∧ k_ ≠ gb141)) (by (with_reducible repeat (first | apply Kd.V_alloc | apply Kd.V_drewN | apply Kd.V_drew)); exact Kd.V_mono HO_115009.out (fun _ hk => ⟨⟨hk.1.1, ⟨hk.2, ⟨hk.1.2.2.1, ⟨hk.1.2.2.2.1, ⟨hk.1.2.2.2.2.1, hk.1.2.2.2.2.2⟩⟩⟩⟩⟩, hk.1.2.1⟩)) hg hat); have n3_ := Aside0.mk (Kd.V_afterv (ok := (fun k_ => (P0_9_ k_ ∨ w.heap.size ≤ k_) ∧ some k_ ≠ (.slice Ao81 y163.length co81 : Value).ownBlock ∧ k_ ≠ gb114 ∧ k_ ≠ gb123 ∧ k_ ≠ gb127 ∧ k_ ≠ gb141)) (by (with_reducible repeat (first | apply Kd.V_alloc | apply Kd.V_drewN | apply Kd.V_drew)); exact Kd.V_mono HO_128007.out (fun _ hk => ⟨⟨hk.1.1, ⟨hk.2, ⟨hk.1.2.2.1, ⟨hk.1.2.2.2.1, ⟨hk.1.2.2.2.2.1, hk.1.2.2.2.2.2⟩⟩⟩⟩⟩, hk.1.2.1⟩)) hg hat); have n4_ := Aside0.mk (blk_grown (g := gb114) (o := .cells #[.int .i64 a0_0, .slice A0_1 l0_1.length c0_1, .int .i64 a0_2, .int .i64 a0_3, .int .i64 a0_4, .int .i64 a0_5, .int .i64 a0_6, .slice A0_7 l0_7.length c0_7, .slice A0_8 l0_8.length c0_8, .slice A0_9 l0_9.length c0_9] 27 (0, 0)) (pk BK114.out) hg (Kd.R_ne HO_4.out BK114.out (by decide))); have n5_ := Aside0.mk (blk_grown (g := gb123) (o := .cells #[.slice A0_1 l0_1.length c0_1] 22 (0, 0)) (pk BK123.out) hg (Kd.R_ne HO_4.out BK123.out (by decide))); have n6_ := Aside0.mk (blk_grown (g := gb127) (o := .cells #[.int .i64 a0_2, .int .i64 a0_3, .int .i64 a0_4, .int .i64 a0_5, .int .i64 a0_6, .slice A0_7 l0_7.length c0_7, .slice A0_8 l0_8.length c0_8, .slice A0_9 l0_9.length c0_9] 25 (0, 0)) (pk BK127.out) hg (Kd.R_ne HO_4.out BK127.out (by decide))); have n7_ := Aside0.mk (blk_grown (g := gb141) (o := .cells #[.slice A0_7 l0_7.length c0_7] 22 (0, 0)) (pk BK141.out) hg (Kd.R_ne HO_4.out BK141.out (by decide))); have n8_ := Aside0.mk (Kd.R_after (ok := (fun k_ => (w.heap.size ≤ k_))) (by (with_reducible repeat (first | apply Kd.R_alloc | apply Kd.R_drewN | apply Kd.R_drew)); exact Kd.R_mono HO165.out (fun _ hk => ⟨hk.1.1, hk.2⟩)) hg hat); have n9_ := Aside0.mk (hb); have n10_ := Aside0.mk (ho); clear HO_10; clear HO_93; clear HO_115009; clear HO_128007; clear BK114; clear BK123; clear BK127; clear BK141; clear HO165; clear HB; clear HO_4; have HO_10 := n0_; have HO_93 := n1_; have HO_115009 := n2_; have HO_128007 := n3_; have BK114 := n4_; have BK123 := n5_; have BK127 := n6_; have BK141 := n7_; have HO165 := n8_; have HB := n9_; have HO168 := n10_; clear n0_ n1_ n2_ n3_ n4_ n5_ n6_ n7_ n8_ n9_ n10_; clear ho hb hg hat))
             go_ret2
             exact ⟨_, by first | rfl | (simp [errW_none, errW_some] <;> rfl) | (simp [*, errW_none, errW_some] <;> rfl) | kernel_rfl, by (with_reducible repeat (first | apply Kd.R_alloc | apply Kd.R_drewN | apply Kd.R_drew)); exact Kd.R_mono HO168.out (fun _ hk => hk.1), by repeat (first | (with_reducible first | exact HB.out | apply below_alloc | apply pw_below_drewN | apply below_drew1 | refine below_set ?_ GE114.out | refine below_set ?_ GE123.out | refine below_set ?_ GE127.out | refine below_set ?_ GE141.out) | exact HB.out)⟩
            ·
             rw [if_neg c76] at H
             exact absurd H (by simp)
  ·
   replace c3 := Bool.eq_false_iff.mpr c3
   subst c3
   have H1 : (some (([] : List Int), 333)) = some (r1, r2) := by rw [if_neg (show ¬ (false = true) by decide)] at H; exact H
   clear H
   have H := H1
   clear H1
   simp only [Option.some.injEq, Prod.mk.injEq] at H
   obtain ⟨rfl, rfl⟩ := H
   go_enter Try.func8, Try.ntmps8
   go_wp2_with (first | ((with_reducible refine gate_dst (N := 1) rfl ?_); refine box_event ?hg (N := 1) ?hd (cs := #[.int .i64 a0_0, .slice A0_1 l0_1.length c0_1, .int .i64 a0_2, .int .i64 a0_3, .int .i64 a0_4, .int .i64 a0_5, .int .i64 a0_6, .slice A0_7 l0_7.length c0_7, .slice A0_8 l0_8.length c0_8, .slice A0_9 l0_9.length c0_9]) (t := 27) ?hr ?_; (case hd => rfl); (case hg => rfl); (case hr => first | (go_simp; done) | (go_simp; rfl)); intro gb114 hg w82 hbox hb; have n0_ := Aside0.mk (Kd.V_below (Kd.V_elderB (by (with_reducible repeat (first | apply Kd.V_alloc | apply Kd.V_drewN | apply Kd.V_drew)); exact HO0_9.out) gb114 (Nat.le_of_eq hg.symm)) hb); have n1_ := bst HB hb; have n2_ := Aside0.mk (hbox); have n3_ := bsz HB hg; have n4_ := bsz HB hg; clear HO0_9; clear HB; have HO0_9 := n0_; have HB := n1_; have BK114 := n2_; have GW114 := n3_; have GE114 := n4_; clear n0_ n1_ n2_ n3_ n4_; clear hb hbox hg; have hcz83_0 := hcz BK114 0; have hcz83_1 := hcz BK114 1; have hcz83_2 := hcz BK114 2; have hcz83_3 := hcz BK114 3; have hcz83_4 := hcz BK114 4; have hcz83_5 := hcz BK114 5; have hcz83_6 := hcz BK114 6; have hcz83_7 := hcz BK114 7; have hcz83_8 := hcz BK114 8; have hcz83_9 := hcz BK114 9; have hfz83_0 := blk_frozen BK114.out 0; have hfz83_1 := blk_frozen BK114.out 1; have hfz83_2 := blk_frozen BK114.out 2; have hfz83_3 := blk_frozen BK114.out 3; have hfz83_4 := blk_frozen BK114.out 4; have hfz83_5 := blk_frozen BK114.out 5; have hfz83_6 := blk_frozen BK114.out 6; have hfz83_7 := blk_frozen BK114.out 7; have hfz83_8 := blk_frozen BK114.out 8; have hfz83_9 := blk_frozen BK114.out 9) | ((with_reducible refine gate_callee (f := 18) rfl ?_); refine goesL_ (some 15) rfl rfl Try.func18 (by kernel_rfl) rfl #[.agg #[.int .i64 a0_0, .slice A0_1 l0_1.length c0_1, .int .i64 a0_2, .int .i64 a0_3, .int .i64 a0_4, .int .i64 a0_5, .int .i64 a0_6, .slice A0_7 l0_7.length c0_7, .slice A0_8 l0_8.length c0_8, .slice A0_9 l0_9.length c0_9]] rfl (by (try simp only [List.map_toArray, List.map_cons, List.map_nil]); first | done | rfl | (simp only [List.length_drop, List.length_take]; rfl)) ?_; (with_reducible refine (trace_fit.calls a0_0 _ _ l0_1 a0_2 a0_3 a0_4 a0_5 a0_6 _ _ l0_7 _ _ l0_8 _ _ l0_9 false _ ?side1 ?side2 ?side3 ?side4 ?side5 ?side6 ?side7 ?side8 A2.out).mono ?_); (case side1 => repeat (first | exact (Kd.C_below HR0_1.out HB.out) | (with_reducible refine Kd.C_alloc ?_ _) | (with_reducible refine Kd.C_drewN ?_ _) | (with_reducible refine Kd.C_drew ?_))); (case side2 => exact HC0_1.out); (case side3 => repeat (first | exact (Kd.C_below HR0_7.out HB.out) | (with_reducible refine Kd.C_alloc ?_ _) | (with_reducible refine Kd.C_drewN ?_ _) | (with_reducible refine Kd.C_drew ?_))); (case side4 => exact HC0_7.out); (case side5 => repeat (first | exact (Kd.C_below HR0_8.out HB.out) | (with_reducible refine Kd.C_alloc ?_ _) | (with_reducible refine Kd.C_drewN ?_ _) | (with_reducible refine Kd.C_drew ?_))); (case side6 => exact HC0_8.out); (case side7 => repeat (first | exact (Kd.V_reads' HO0_9.out).2.2 | (with_reducible refine Kd.C_alloc ?_ _) | (with_reducible refine Kd.C_drewN ?_ _) | (with_reducible refine Kd.C_drew ?_))); (case side8 => exact (Kd.V_reads' HO0_9.out).2.1); rintro e w84 ⟨rfl, hb⟩; refine ⟨_, rfl, ?_⟩; have n0_ := Aside0.mk (Kd.V_below (by (with_reducible repeat (first | apply Kd.V_alloc | apply Kd.V_drewN | apply Kd.V_drew)); exact HO0_9.out) hb); have n1_ := bst HB hb; replace BK114 := bbw BK114 hb; clear HO0_9; clear HB; have HO0_9 := n0_; have HB := n1_; clear n0_ n1_; (try clear hb); (try clear hb2); (try clear hk); (try clear hi)))
   go_ret2
   exact ⟨_, by first | rfl | (simp [errW_none, errW_some] <;> rfl) | (simp [*, errW_none, errW_some] <;> rfl) | kernel_rfl, by first | exact Kd.R_nil _ _ _ _ _ | exact Kd.N_nil _ _ _ _ _ | exact Kd.V_nil _ _ _ _ _ | exact Kd.Q_nil _ _ _ _ _ | exact Kd.S_nil _ _ _ _ _, by repeat (first | (with_reducible first | exact HB.out | apply below_alloc | apply pw_below_drewN | apply below_drew1 | refine below_set ?_ GE114.out) | exact HB.out)⟩
end Go.Proofs.Ytiemdfdebdmchaa.P
