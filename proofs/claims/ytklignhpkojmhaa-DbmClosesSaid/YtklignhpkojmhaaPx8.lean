-- PRINTED by print.py (a twelfth state) out of the translation. Not trusted: Lean checks it.
import Derived.Test.YtklignhpkojmhaaPx0
import Derived.Test.YtklignhpkojmhaaPx4
import Derived.Test.YtklignhpkojmhaaPx7
namespace Go.Proofs.Ytklignhpkojmhaa.P
open Go.RowKit Go.Proofs.YtklignhpkojmhaaW.PrintWords Go.Proofs.YtklignhpkojmhaaW.PrintLast Go.Proofs.YtklignhpkojmhaaW.PrintMore Go.Proofs.YtklignhpkojmhaaO
attribute [local go_sem] max2_int min2_int max_two min_two max_three min_three max_four min_four   -- for this text's walks alone
set_option linter.unusedVariables false
set_option linter.unusedSimpArgs false

/-! ### dbm_Set: function 19 -/
mutual
def dbm_Set.j0 : Nat → Int → Int → Int → List Int → Int → Bool → Option (List Int)
  | 0, _, _, _, _, _, _ => none
  | k + 1, x1, x2, x3, x9, x10, x45 => if x45 = true then (some x9) else (dbm_Set.l0 k x1 x2 x3 x9 x10 (x9.length : Int) 0)
def dbm_Set.l0 : Nat → Int → Int → Int → List Int → Int → Int → Int → Option (List Int)
  | 0, _, _, _, _, _, _, _ => none
  | k + 1, x1, x2, x3, x9, x10, x48, x49 => if x49 < x48 then (if 0 ≤ x49 then (if x49 < (x9.length : Int) then ((dbm_taken.f (rd x9 x49)).bind fun t150 => (dbm_Set.l0 k x1 x2 x3 (x9.set (x49 : Int).toNat t150) x10 x48 (wrap64 (x49 + 1)))) else (none)) else (none)) else (if 0 ≤ (wrap64 ((wrap64 (x1 * x10)) + x2)) then (if (wrap64 ((wrap64 (x1 * x10)) + x2)) < (x9.length : Int) then ((dbm_taken.f x3).bind fun t153 => ((some (x9.set ((wrap64 ((wrap64 (x1 * x10)) + x2)) : Int).toNat (mn (rd x9 (wrap64 ((wrap64 (x1 * x10)) + x2))) t153) : List Int)).bind fun y154 => (if 0 ≤ (wrap64 ((wrap64 ((Go.bits .xor .i64 x2 1) * x10)) + (Go.bits .xor .i64 x1 1))) then (if (wrap64 ((wrap64 ((Go.bits .xor .i64 x2 1) * x10)) + (Go.bits .xor .i64 x1 1))) < (x9.length : Int) then ((dbm_taken.f x3).bind fun t156 => (some (y154.set ((wrap64 ((wrap64 ((Go.bits .xor .i64 x2 1) * x10)) + (Go.bits .xor .i64 x1 1))) : Int).toNat (mn (rd y154 (wrap64 ((wrap64 ((Go.bits .xor .i64 x2 1) * x10)) + (Go.bits .xor .i64 x1 1)))) t156)))) else (none)) else (none)))) else (none)) else (none))
end
def dbm_Set.f (k : Nat) (l0 : List Int) (a1 : Int) (a2 : Int) (a3 : Int) : Option (List Int) := if 0 ≤ (l0.length : Int) then (if ((l0.length : Int) : Int).toNat ≤ 35184372088832 then ((some (cpy (List.replicate ((l0.length : Int) : Int).toNat 0) l0 : List Int)).bind fun y146 => ((dbm_size.f k l0).bind fun bt147 => (if bt147.2 = true then (if a1 < 0 then (dbm_Set.j0 k a1 a2 a3 y146 bt147.1 true) else (if a1 ≥ bt147.1 then (dbm_Set.j0 k a1 a2 a3 y146 bt147.1 true) else (if a2 < 0 then (dbm_Set.j0 k a1 a2 a3 y146 bt147.1 true) else (dbm_Set.j0 k a1 a2 a3 y146 bt147.1 (decide (a2 ≥ bt147.1)))))) else (dbm_Set.j0 k a1 a2 a3 y146 bt147.1 true)))) else (none)) else (none)
theorem dbm_Set.mono_l : ∀ k, (∀ y0 y1 y2 y3 y4 y5, LeO (dbm_Set.j0 k y0 y1 y2 y3 y4 y5) (dbm_Set.j0 (k + 1) y0 y1 y2 y3 y4 y5)) ∧ (∀ y0 y1 y2 y3 y4 y5 y6, LeO (dbm_Set.l0 k y0 y1 y2 y3 y4 y5 y6) (dbm_Set.l0 (k + 1) y0 y1 y2 y3 y4 y5 y6))
  | 0 => ⟨fun _ _ _ _ _ _ r h => by simp [dbm_Set.j0] at h, fun _ _ _ _ _ _ _ r h => by simp [dbm_Set.l0] at h⟩
  | k + 1 => by
    obtain ⟨ih0, ih1⟩ := dbm_Set.mono_l k
    refine ⟨?_, ?_⟩
    · intro y0 y1 y2 y3 y4 y5
      unfold dbm_Set.j0
      repeat' first
      | (with_reducible exact ih0 _ _ _ _ _ _)
      | (with_reducible exact ih1 _ _ _ _ _ _ _)
      | (with_reducible exact dbm_size.mono _ _)
      | (with_reducible exact LeO.refl _)
      | (with_reducible exact LeO.none _)
      | (with_reducible refine LeO.ite ?_ ?_)
      | (with_reducible refine LeO.bind ?_ (fun _ => ?_))
      | exact ih0 _ _ _ _ _ _
      | exact ih1 _ _ _ _ _ _ _
      | exact dbm_size.mono _ _
      | exact LeO.none _
      | refine LeO.ite ?_ ?_
      | refine LeO.bind ?_ (fun _ => ?_)
    · intro y0 y1 y2 y3 y4 y5 y6
      unfold dbm_Set.l0
      repeat' first
      | (with_reducible exact ih0 _ _ _ _ _ _)
      | (with_reducible exact ih1 _ _ _ _ _ _ _)
      | (with_reducible exact dbm_size.mono _ _)
      | (with_reducible exact LeO.refl _)
      | (with_reducible exact LeO.none _)
      | (with_reducible refine LeO.ite ?_ ?_)
      | (with_reducible refine LeO.bind ?_ (fun _ => ?_))
      | exact ih0 _ _ _ _ _ _
      | exact ih1 _ _ _ _ _ _ _
      | exact dbm_size.mono _ _
      | exact LeO.none _
      | refine LeO.ite ?_ ?_
      | refine LeO.bind ?_ (fun _ => ?_)
theorem dbm_Set.mono : ∀ a0 a1 a2 a3 k, LeO (dbm_Set.f k a0 a1 a2 a3) (dbm_Set.f (k + 1) a0 a1 a2 a3) := by
  intro a0 a1 a2 a3 k
  obtain ⟨ih0, ih1⟩ := dbm_Set.mono_l k
  unfold dbm_Set.f
  repeat' first
      | (with_reducible exact ih0 _ _ _ _ _ _)
      | (with_reducible exact ih1 _ _ _ _ _ _ _)
      | (with_reducible exact dbm_size.mono _ _)
      | (with_reducible exact LeO.refl _)
      | (with_reducible exact LeO.none _)
      | (with_reducible refine LeO.ite ?_ ?_)
      | (with_reducible refine LeO.bind ?_ (fun _ => ?_))
      | exact ih0 _ _ _ _ _ _
      | exact ih1 _ _ _ _ _ _ _
      | exact dbm_size.mono _ _
      | exact LeO.none _
      | refine LeO.ite ?_ ?_
      | refine LeO.bind ?_ (fun _ => ?_)
def dbm_Set.T14 : Bool × List (List Nat × List Nat) := (true, [([], []), ([], []), ([], []), ([], []), ([2, 3], [2, 3]), ([4], [4]), ([], []), ([6], [6]), ([5, 7], [5, 7]), ([0, 1, 0, 1, 2, 3, 4, 5, 6, 7, 8], [0, 1]), ([9, 8, 7, 0, 1, 2, 3, 4, 5, 6, 7, 8], [8, 9])])
def dbm_Set.B14 : List Nat := [0, 0, 0, 0, 12, 28, 0, 64, 252, 511, 1023]
theorem dbm_Set.tab14 : rtab .any (opsOf Try.f19 14) = dbm_Set.T14 := by kernel_rfl
theorem dbm_Set.bits14 : waitsOk dbm_Set.T14.2 dbm_Set.B14 = true := by kernel_rfl
set_option maxHeartbeats 8000000 in
set_option maxRecDepth 100000 in
theorem dbm_Set.calls (k : Nat) (A0 : Option Addr) (c0 : Nat) (l0 : List Int) (a1 : Int) (a2 : Int) (a3 : Int) (r : List Int) (w : World) (hr0 : Kd.C (Kd.int .i64) w A0 l0.length l0) (hc0 : l0.length ≤ c0) (h : dbm_Set.f k l0 a1 a2 a3 = some r) :
    Calls Try.prog 19 #[.slice A0 l0.length c0, .int .i64 a1, .int .i64 a2, .int .i64 a3] w fun e w' => ∃ v0_ : Value, e = .returned (v0_) ∧ Kd.R (Kd.int .i64) 2 w' w.heap.size (fun _ => True) v0_ r ∧ Below w.heap.size w w' := by
  have hu39 := Try.underlying39
  have hix39_0 : ∀ (y0_ : Int) (y1_ : Int) (W : World), (Instr.index 39 (.agg #[.int .i64 y0_, .int .i64 y1_]) (.int .i64 0)).run Try.prog W = .ok (.int .i64 y0_) W := fun _ _ _ => by kernel_rfl
  have hix39_1 : ∀ (y0_ : Int) (y1_ : Int) (W : World), (Instr.index 39 (.agg #[.int .i64 y0_, .int .i64 y1_]) (.int .i64 1)).run Try.prog W = .ok (.int .i64 y1_) W := fun _ _ _ => by kernel_rfl
  have HR0 := Aside0.mk hr0
  have HC0 := Aside0.mk hc0
  clear hr0 hc0
  have HB := Aside0.mk (Below.refl w.heap.size w)
  have H : (if 0 ≤ (l0.length : Int) then (if ((l0.length : Int) : Int).toNat ≤ 35184372088832 then ((some (cpy (List.replicate ((l0.length : Int) : Int).toNat 0) l0 : List Int)).bind fun y146 => ((dbm_size.f k l0).bind fun bt147 => (if bt147.2 = true then (if a1 < 0 then (dbm_Set.j0 k a1 a2 a3 y146 bt147.1 true) else (if a1 ≥ bt147.1 then (dbm_Set.j0 k a1 a2 a3 y146 bt147.1 true) else (if a2 < 0 then (dbm_Set.j0 k a1 a2 a3 y146 bt147.1 true) else (dbm_Set.j0 k a1 a2 a3 y146 bt147.1 (decide (a2 ≥ bt147.1)))))) else (dbm_Set.j0 k a1 a2 a3 y146 bt147.1 true)))) else (none)) else (none)) = some r := h
  clear h
  by_cases c5 : 0 ≤ (l0.length : Int)
  ·
   rw [if_pos c5] at H
   have c5b0 := eq_true c5
   have c5b1 : decide (0 ≤ (l0.length : Int)) = true := decide_eq_true c5
   clear c5
   by_cases c6 : ((l0.length : Int) : Int).toNat ≤ 35184372088832
   ·
    rw [if_pos c6] at H
    have c6b0 := eq_true c6
    have c6b1 : decide (((l0.length : Int) : Int).toNat ≤ 35184372088832) = true := decide_eq_true c6
    clear c6
    obtain ⟨y143, hy143⟩ : ∃ y_ : List Int, y_ = (List.replicate ((l0.length : Int) : Int).toNat 0) := ⟨_, rfl⟩
    replace H : ((some (cpy y143 l0 : List Int)).bind fun y146 => ((dbm_size.f k l0).bind fun bt147 => (if bt147.2 = true then (if a1 < 0 then (dbm_Set.j0 k a1 a2 a3 y146 bt147.1 true) else (if a1 ≥ bt147.1 then (dbm_Set.j0 k a1 a2 a3 y146 bt147.1 true) else (if a2 < 0 then (dbm_Set.j0 k a1 a2 a3 y146 bt147.1 true) else (dbm_Set.j0 k a1 a2 a3 y146 bt147.1 (decide (a2 ≥ bt147.1)))))) else (dbm_Set.j0 k a1 a2 a3 y146 bt147.1 true)))) = some r := by first | (rw [hy143]; with_reducible exact H) | (have H2_ := (Option.bind_some _ _).symm.trans H; rw [hy143]; with_reducible exact H2_) | (have H2_ := (Option.bind_some _ _).symm.trans H; with_reducible exact H2_) | with_reducible exact H | (rw [hy143]; exact H) | exact H
    have Ny143 := Aside0.mk hy143
    clear hy143
    obtain ⟨y146, hy146⟩ : ∃ y_ : List Int, y_ = (cpy y143 l0) := ⟨_, rfl⟩
    replace H : ((dbm_size.f k l0).bind fun bt147 => (if bt147.2 = true then (if a1 < 0 then (dbm_Set.j0 k a1 a2 a3 y146 bt147.1 true) else (if a1 ≥ bt147.1 then (dbm_Set.j0 k a1 a2 a3 y146 bt147.1 true) else (if a2 < 0 then (dbm_Set.j0 k a1 a2 a3 y146 bt147.1 true) else (dbm_Set.j0 k a1 a2 a3 y146 bt147.1 (decide (a2 ≥ bt147.1)))))) else (dbm_Set.j0 k a1 a2 a3 y146 bt147.1 true))) = some r := by first | (rw [hy146]; with_reducible exact H) | (have H2_ := (Option.bind_some _ _).symm.trans H; rw [hy146]; with_reducible exact H2_) | (have H2_ := (Option.bind_some _ _).symm.trans H; with_reducible exact H2_) | with_reducible exact H | (rw [hy146]; exact H) | exact H
    have Ny146 := Aside0.mk hy146
    clear hy146
    replace H := Option.bind_eq_some_iff.mp H
    obtain ⟨⟨t147, t148⟩, A70, H⟩ := H
    replace H : (if t148 = true then (if a1 < 0 then (dbm_Set.j0 k a1 a2 a3 y146 t147 true) else (if a1 ≥ t147 then (dbm_Set.j0 k a1 a2 a3 y146 t147 true) else (if a2 < 0 then (dbm_Set.j0 k a1 a2 a3 y146 t147 true) else (dbm_Set.j0 k a1 a2 a3 y146 t147 (decide (a2 ≥ t147)))))) else (dbm_Set.j0 k a1 a2 a3 y146 t147 true)) = some r := H
    have A7 := Aside0.mk A70
    clear A70
    have HC8 := Aside0.mk H
    clear H
    go_enter Try.func19, Try.ntmps19
    go_upto_region 4 with (first | ((with_reducible refine gate_dst (N := 17) rfl ?_); refine Kd.R_make (Kd.int .i64) _ 2 rfl (N := 17) rfl 22 _ _ rfl (l0.length : Int) rfl rfl Try.underlying22 (.int .i64 0) 8 info2 rfl (by decide) (by omega) 0 (ok := fun _ => True) (okp := fun _ => True) rfl (fun _ hk => hk) trivial (of_decide_eq_true (by first | (with_reducible assumption) | assumption)) (Nat.le_trans (Nat.mul_le_mul_right _ (of_decide_eq_true (by first | (with_reducible assumption) | assumption) : (l0.length : Int).toNat ≤ 35184372088832)) (by omega)) (Below.refl _ _) (Nat.le_refl _) ?_; intro v144 w9 ho10 hb hg_ hnew_; clear hg_ hnew_; (first | rw [← Ny143.out] at ho10 | (simp only [Int.reduceToNat] at ho10; rw [← Ny143.out] at ho10)); have n0_ := Aside0.mk (Kd.R_lower ho10 (below_size (by repeat (first | (with_reducible first | exact HB.out | apply below_alloc | apply pw_below_drewN | apply below_drew1) | exact HB.out)))); have n1_ := Aside0.mk (below_step (by repeat (first | (with_reducible first | exact HB.out | apply below_alloc | apply pw_below_drewN | apply below_drew1) | exact HB.out)) hb); clear HB; have HO145 := n0_; have HB := n1_; clear n0_ n1_; clear hb ho10; obtain ⟨Ao12, co12, eo12⟩ := Kd.R_slice HO145.out; subst eo12) | ((with_reducible refine gate_builtin (b := .copy) (xs := #[.tmp 18, .tmp 19]) rfl ?_); refine copy_event (k := .i64) (w0 := w) (base := w.heap.size) rfl (.tmp 18) (.tmp 19) 22 22 2 rfl Try.underlying22 info2 (.slice Ao12 y143.length co12) y143 l0 _ _ _ (fun _ => True) rfl rfl ?aO ?aR ?aB ?_; (case aO => exact (by (with_reducible repeat (first | apply Kd.R_alloc | apply Kd.R_drewN | apply Kd.R_drew)); exact HO145.out)); (case aR => repeat (first | exact (Kd.C_below HR0.out HB.out) | (with_reducible refine Kd.C_alloc ?_ _) | (with_reducible refine Kd.C_drewN ?_ _) | (with_reducible refine Kd.C_drew ?_))); (case aB => exact (by repeat (first | (with_reducible first | exact HB.out | apply below_alloc | apply pw_below_drewN | apply below_drew1) | exact HB.out))); intro w11 hp_ hb hg; rw [← Ny146.out] at hp_; have n0_ := Aside0.mk (hp_); have n1_ := Aside0.mk (hb); clear HO145; clear HB; have HO145 := n0_; have HB := n1_; clear n0_ n1_; clear hp_ hb hg) | ((with_reducible refine gate_callee (f := 34) rfl ?_); refine goesL_ (some 23) rfl rfl Try.func34 (by kernel_rfl) rfl #[.slice A0 l0.length c0] rfl (by (try simp only [List.map_toArray, List.map_cons, List.map_nil]); first | done | rfl | (simp only [List.length_drop, List.length_take]; rfl)) ?_; (with_reducible refine (dbm_size.calls k _ _ l0 t147 t148 _ ?side1 ?side2 A7.out).mono ?_); (case side1 => repeat (first | exact (Kd.C_below HR0.out HB.out) | (with_reducible refine Kd.C_alloc ?_ _) | (with_reducible refine Kd.C_drewN ?_ _) | (with_reducible refine Kd.C_drew ?_))); (case side2 => exact HC0.out); rintro e w' ⟨rfl, ⟨nd, rfl⟩⟩; refine ⟨_, rfl, ?_⟩; (try (rw [drewN_self w11]; generalize hq_ : World.drewN w11 _ = w11; have n0_ : Aside0 (Kd.R (Kd.int .i64) 2 w11 w.heap.size (fun _ => True) (.slice Ao12 y143.length co12) y146) := ⟨by rw [← hq_]; exact (by (with_reducible repeat (first | apply Kd.R_alloc | apply Kd.R_drewN | apply Kd.R_drew)); exact HO145.out)⟩; have n1_ : Aside0 (Below w.heap.size w w11) := ⟨by rw [← hq_]; exact (by repeat (first | (with_reducible first | exact HB.out | apply below_alloc | apply pw_below_drewN | apply below_drew1) | exact HB.out))⟩; clear HO145 HB hq_; have HO145 := n0_; have HB := n1_; clear n0_ n1_))))
    (try simp only [Act.put, List.setIfInBounds_toArray, List.set_cons_zero, List.set_cons_succ])
    go_cut [45] (fun v45 wc => ∃ (kq : Nat) (x45_7 : Bool), v45 = .bool x45_7 ∧ Aside0 (dbm_Set.j0 kq a1 a2 a3 y146 t147 x45_7 = some r) ∧ Aside0 (kq ≤ k) ∧ Aside0 (Kd.R (Kd.int .i64) 2 wc w.heap.size (fun _ => True) (.slice Ao12 y143.length co12) y146) ∧ Aside0 (Below w.heap.size w wc))
    case first =>
     have H := HC8.out
     clear HC8
     by_cases c13 : t148 = true
     ·
      subst c13
      have H1 : (if a1 < 0 then (dbm_Set.j0 k a1 a2 a3 y146 t147 true) else (if a1 ≥ t147 then (dbm_Set.j0 k a1 a2 a3 y146 t147 true) else (if a2 < 0 then (dbm_Set.j0 k a1 a2 a3 y146 t147 true) else (dbm_Set.j0 k a1 a2 a3 y146 t147 (decide (a2 ≥ t147)))))) = some r := by rw [if_pos rfl] at H; exact H
      clear H
      have H := H1
      clear H1
      by_cases c14 : a1 < 0
      ·
       rw [if_pos c14] at H
       have c14b0 : decide (a1 < 0) = true := decide_eq_true c14
       clear c14
       (first | rw [c14b0] | (simp only [i64_w, i32_w]; rw [c14b0]) | skip)
       have H' := Aside0.mk H
       clear H
       go_wp2
       go_meet
       case rel => exact ⟨_, (true), (by first | rfl | (simp; done) | (simp [*]; done)), H', ⟨by first | omega | exact Nat.le_refl _⟩, ⟨by (with_reducible repeat (first | apply Kd.R_alloc | apply Kd.R_drewN | apply Kd.R_drew)); exact HO145.out⟩, ⟨by repeat (first | (with_reducible first | exact HB.out | apply below_alloc | apply pw_below_drewN | apply below_drew1) | exact HB.out)⟩⟩
      ·
       rw [if_neg c14] at H
       have c14b0 : decide (a1 < 0) = false := decide_eq_false c14
       clear c14
       (first | rw [c14b0] | (simp only [i64_w, i32_w]; rw [c14b0]) | skip)
       by_cases c15 : a1 ≥ t147
       ·
        rw [if_pos c15] at H
        have c15b0 : decide (t147 ≤ a1) = true := decide_eq_true c15
        clear c15
        have H' := Aside0.mk H
        clear H
        go_wp2
        go_meet
        case rel => exact ⟨_, (true), (by first | rfl | (simp; done) | (simp [*]; done)), H', ⟨by first | omega | exact Nat.le_refl _⟩, ⟨by (with_reducible repeat (first | apply Kd.R_alloc | apply Kd.R_drewN | apply Kd.R_drew)); exact HO145.out⟩, ⟨by repeat (first | (with_reducible first | exact HB.out | apply below_alloc | apply pw_below_drewN | apply below_drew1) | exact HB.out)⟩⟩
       ·
        rw [if_neg c15] at H
        have c15b0 : decide (t147 ≤ a1) = false := decide_eq_false c15
        clear c15
        by_cases c16 : a2 < 0
        ·
         rw [if_pos c16] at H
         have c16b0 : decide (a2 < 0) = true := decide_eq_true c16
         clear c16
         have H' := Aside0.mk H
         clear H
         go_wp2
         go_meet
         case rel => exact ⟨_, (true), (by first | rfl | (simp; done) | (simp [*]; done)), H', ⟨by first | omega | exact Nat.le_refl _⟩, ⟨by (with_reducible repeat (first | apply Kd.R_alloc | apply Kd.R_drewN | apply Kd.R_drew)); exact HO145.out⟩, ⟨by repeat (first | (with_reducible first | exact HB.out | apply below_alloc | apply pw_below_drewN | apply below_drew1) | exact HB.out)⟩⟩
        ·
         rw [if_neg c16] at H
         have c16b0 : decide (a2 < 0) = false := decide_eq_false c16
         clear c16
         have H' := Aside0.mk H
         clear H
         go_wp2
         go_meet
         case rel => exact ⟨_, (decide (a2 ≥ t147)), (by first | rfl | (simp; done) | (simp [*]; done)), H', ⟨by first | omega | exact Nat.le_refl _⟩, ⟨by (with_reducible repeat (first | apply Kd.R_alloc | apply Kd.R_drewN | apply Kd.R_drew)); exact HO145.out⟩, ⟨by repeat (first | (with_reducible first | exact HB.out | apply below_alloc | apply pw_below_drewN | apply below_drew1) | exact HB.out)⟩⟩
     ·
      replace c13 := Bool.eq_false_iff.mpr c13
      subst c13
      have H1 : (dbm_Set.j0 k a1 a2 a3 y146 t147 true) = some r := by rw [if_neg (show ¬ (false = true) by decide)] at H; exact H
      clear H
      have H := H1
      clear H1
      have H' := Aside0.mk H
      clear H
      go_wp2
      go_meet
      case rel => exact ⟨_, (true), (by first | rfl | (simp; done) | (simp [*]; done)), H', ⟨by first | omega | exact Nat.le_refl _⟩, ⟨by (with_reducible repeat (first | apply Kd.R_alloc | apply Kd.R_drewN | apply Kd.R_drew)); exact HO145.out⟩, ⟨by repeat (first | (with_reducible first | exact HB.out | apply below_alloc | apply pw_below_drewN | apply below_drew1) | exact HB.out)⟩⟩
    case rest =>
     clear HC8
     try clear c1
     try clear p2
     try clear c3
     try clear c5
     try clear c5b0
     try clear c5b1
     try clear c6
     try clear c6b0
     try clear c6b1
     try clear c13
     try clear c14
     try clear c14b0
     try clear c15
     try clear c15b0
     try clear c16
     try clear c16b0
     obtain ⟨kq, x45_7, rfl, HA, HJ7, HO_9, HB⟩ := hcut
     have hl9_7 := (Kd.R_reads' HO_9.out).1
     rw [hl9_7] at HO_9
     (try simp only [hl9_7])
     cases kq with
     | zero => exact absurd HA.out (by simp [dbm_Set.j0])
     | succ kj7 =>
      have H := HA.out
      clear HA
      simp only [dbm_Set.j0] at H
      by_cases c17 : x45_7 = true
      ·
       subst c17
       have H1 : (some y146) = some r := by rw [if_pos rfl] at H; exact H
       clear H
       have H := H1
       clear H1
       obtain rfl := Option.some.inj H
       go_wp2
       go_ret
       exact ⟨_, by first | rfl | (simp [errW_none, errW_some] <;> rfl) | (simp [*, errW_none, errW_some] <;> rfl) | kernel_rfl, by (with_reducible repeat (first | apply Kd.R_alloc | apply Kd.R_drewN | apply Kd.R_drew)); exact HO_9.out, by repeat (first | (with_reducible first | exact HB.out | apply below_alloc | apply pw_below_drewN | apply below_drew1) | exact HB.out)⟩
      ·
       replace c17 := Bool.eq_false_iff.mpr c17
       subst c17
       have H1 : (dbm_Set.l0 kj7 a1 a2 a3 y146 t147 (y146.length : Int) 0) = some r := by rw [if_neg (show ¬ (false = true) by decide)] at H; exact H
       clear H
       have H := H1
       clear H1
       have H' := Aside0.mk H
       clear H
       go_wp2
       go_loopg [49] kj7 (fun kq v49 w' => ∃ (x9_2 : List Int) (x49_2 : Int), v49 = .int .i64 x49_2 ∧ Aside0 (dbm_Set.l0 kq a1 a2 a3 x9_2 t147 (y146.length : Int) x49_2 = some r) ∧ Aside0 (kq ≤ kj7) ∧ Aside0 (Kd.R (Kd.int .i64) 2 w' w.heap.size (fun _ => True) (.slice Ao12 y146.length co12) x9_2) ∧ Aside0 (Below w.heap.size w w'))
       case atStart => exact ⟨(y146), (0), (by first | rfl | (simp; done) | (simp [*]; done)), H', ⟨Nat.le_refl _⟩, ⟨by (try simp only [hl9_7]); (with_reducible repeat (first | apply Kd.R_alloc | apply Kd.R_drewN | apply Kd.R_drew)); exact HO_9.out⟩, ⟨by repeat (first | (with_reducible first | exact HB.out | apply below_alloc | apply pw_below_drewN | apply below_drew1) | exact HB.out)⟩⟩
       case round =>
        clear H'
        try clear c1
        try clear p2
        try clear c3
        try clear c5
        try clear c5b0
        try clear c5b1
        try clear c6
        try clear c6b0
        try clear c6b1
        try clear c13
        try clear c14
        try clear c14b0
        try clear c15
        try clear c15b0
        try clear c16
        try clear c16b0
        try clear c17
        try clear p2
        obtain ⟨x9_2, x49_2, rfl, HA, HK2, HO_9, HB⟩ := hrel
        have hl9_2 := (Kd.R_reads' HO_9.out).1
        rw [hl9_2] at HO_9
        (try simp only [hl9_2])
        cases gk with
        | zero => exact absurd HA.out (by simp [dbm_Set.l0])
        | succ k2 =>
         have H := HA.out
         clear HA
         simp only [dbm_Set.l0] at H
         by_cases c18 : x49_2 < (y146.length : Int)
         ·
          rw [if_pos c18] at H
          have c18b0 : decide (x49_2 < (y146.length : Int)) = true := decide_eq_true c18
          (try simp only [hl9_7] at c18b0)
          (try simp only [hl9_2] at c18b0)
          clear c18
          by_cases c19 : 0 ≤ x49_2
          ·
           rw [if_pos c19] at H
           have c19b0 : decide (0 ≤ x49_2) = true := decide_eq_true c19
           (try simp only [hl9_7] at c19b0)
           (try simp only [hl9_2] at c19b0)
           clear c19
           by_cases c20 : x49_2 < (x9_2.length : Int)
           ·
            rw [if_pos c20] at H
            have c20b0 : decide (x49_2 < (x9_2.length : Int)) = true := decide_eq_true c20
            (try simp only [hl9_7] at c20b0)
            (try simp only [hl9_2] at c20b0)
            clear c20
            replace H := Option.bind_eq_some_iff.mp H
            obtain ⟨t150, A210, H⟩ := H
            replace H : (dbm_Set.l0 k2 a1 a2 a3 (x9_2.set (x49_2 : Int).toNat t150) t147 (y146.length : Int) (wrap64 (x49_2 + 1))) = some r := H
            have A21 := Aside0.mk A210
            clear A210
            obtain ⟨y151, hy151⟩ : ∃ y_ : List Int, y_ = (x9_2.set (x49_2 : Int).toNat t150) := ⟨_, rfl⟩
            replace H : (dbm_Set.l0 k2 a1 a2 a3 y151 t147 (y146.length : Int) (wrap64 (x49_2 + 1))) = some r := by first | (rw [hy151]; with_reducible exact H) | (have H2_ := (Option.bind_some _ _).symm.trans H; rw [hy151]; with_reducible exact H2_) | (have H2_ := (Option.bind_some _ _).symm.trans H; with_reducible exact H2_) | with_reducible exact H | (rw [hy151]; exact H) | exact H
            have Ny151 := Aside0.mk hy151
            clear hy151
            have H' := Aside0.mk H
            clear H
            have p23 : 0 ≤ (x49_2 : Int) := of_decide_eq_true (by first | (with_reducible assumption) | assumption)
            have q23 : (x49_2 : Int) < ((x9_2.length : Int) : Int) := of_decide_eq_true (by first | (with_reducible assumption) | assumption)
            obtain ⟨go23, co23, eo23, gb23, gl23, cl23, HG23⟩ := Kd.R_form HO_9.out (by omega)
            (first | cases eo23 | (injection eo23 with ea_ en_ ec_; (first | subst ea_ | (injection ea_ with ea_; subst ea_)); subst ec_; clear en_))
            have GB23 := Aside0.mk gb23
            have GG23 := Aside0.mk HG23
            clear gb23 gl23 HG23
            clear p23 q23
            have p149 : 0 ≤ (x49_2 : Int) := of_decide_eq_true (by first | (with_reducible assumption) | assumption)
            have q149 : x49_2 < (x9_2.length : Int) := of_decide_eq_true (by first | (with_reducible assumption) | assumption)
            obtain ⟨ad149, e149, hx149_0⟩ := Kd.at_int (Kd.R_reads' HO_9.out).2.2 x49_2 p149 q149
            obtain rfl : (⟨go23, 0, none⟩ : Addr) = ad149 := (by injection e149)
            (first | simp only [add_plain] at hx149_0 | simp only [add_at] at hx149_0 | simp only [Addr.add, Nat.zero_add] at hx149_0 | skip)
            replace p149 := eq_true p149
            replace q149 := eq_true q149
            go_wp2_with (first | ((with_reducible refine gate_callee (f := 36) rfl ?_); refine goesL_ (some 58) rfl rfl Try.func36 (by kernel_rfl) rfl #[.int .i64 (rd x9_2 x49_2)] rfl (by (try simp only [List.map_toArray, List.map_cons, List.map_nil]); first | done | rfl | (simp only [List.length_drop, List.length_take]; rfl)) ?_; (with_reducible refine (dbm_taken.calls (rd x9_2 x49_2) t150 _ A21.out).mono ?_); rintro e w24 ⟨rfl, hb⟩; refine ⟨_, rfl, ?_⟩; have n0_ := Aside0.mk (Kd.R_below (by (with_reducible repeat (first | apply Kd.R_alloc | apply Kd.R_drewN | apply Kd.R_drew)); exact HO_9.out) hb); have n1_ := Aside0.mk (below_step (by repeat (first | (with_reducible first | exact HB.out | apply below_alloc | apply pw_below_drewN | apply below_drew1) | exact HB.out)) hb); clear HO_9; clear HB; have HO_9 := n0_; have HB := n1_; clear n0_ n1_; (try clear hb); (try clear hb2); (try clear hk); (try clear hi); have p22 : 0 ≤ (x49_2 : Int) := of_decide_eq_true (by first | (with_reducible assumption) | assumption); have q22 : (x49_2 : Int) < ((x9_2.length : Int) : Int) := of_decide_eq_true (by first | (with_reducible assumption) | assumption); obtain ⟨hx22_0, hf22_0⟩ := Kd.R_celln 0 HO_9.out (x49_2 : Int) p22 q22; replace p22 := eq_true p22; replace q22 := eq_true q22; obtain ⟨hy25_, hz25_⟩ := Kd.R_celln 0 HO_9.out (x49_2 : Int) (of_decide_eq_true (by first | (with_reducible assumption) | assumption)) (of_decide_eq_true (by first | (with_reducible assumption) | assumption)); have HP25 := Kd.R_putg HO_9.out (x49_2 : Int) t150) | ((with_reducible refine gate_store (t := 2) (p := 59) rfl ?_); refine store_event (t := 2) (p := 59) (v := ?vo_w26) (w1 := (w24.setCell ⟨go23, (x49_2 : Int).toNat, none⟩ (.int .i64 t150))) ?hg ?ho ?hn ?hr ?_; (case ho => rfl); (case hg => rfl); (case hn => rfl); (case hr => first | (go_simp; done) | (go_simp; rfl)); intro w26 hw; have hg : w24.grownBy w26 (some go23) := (by rw [hw]; exact HP25.2); have hp_ : Kd.R (Kd.int .i64) 2 w26 w.heap.size (fun _ => True) (.slice (some ⟨go23, 0, none⟩) x9_2.length co12) y151 := (by rw [hw, Ny151.out]; exact HP25.1); clear HP25; have n0_ := Aside0.mk (hp_); have n1_ := Aside0.mk ((by rw [hw]; exact below_set (HB.out) GB23.out : Below w.heap.size w w26)); clear HO_9; clear HB; have HO_9 := n0_; have HB := n1_; clear n0_ n1_; clear hg hw hp_))
            (try simp only [← hl9_2])
            go_roundg k2
            case measure => have := HJ7.out; have := HK2.out; omega
            case rel => exact ⟨(y151), (wrap64 (x49_2 + 1)), (by first | rfl | (simp; done) | (simp [*]; done)), H', ⟨by have := HJ7.out; have := HK2.out; omega⟩, ⟨by (try simp only [hl9_7]); (try simp only [hl9_2]); (with_reducible repeat (first | apply Kd.R_alloc | apply Kd.R_drewN | apply Kd.R_drew)); exact HO_9.out⟩, ⟨by repeat (first | (with_reducible first | exact HB.out | apply below_alloc | apply pw_below_drewN | apply below_drew1) | exact HB.out)⟩⟩
           ·
            rw [if_neg c20] at H
            exact absurd H (by simp)
          ·
           rw [if_neg c19] at H
           exact absurd H (by simp)
         ·
          rw [if_neg c18] at H
          have c18b0 : decide (x49_2 < (y146.length : Int)) = false := decide_eq_false c18
          (try simp only [hl9_7] at c18b0)
          (try simp only [hl9_2] at c18b0)
          clear c18
          have HC27 := Aside0.mk H
          clear H
          go_wp2
          refine loop_looped ?_
          refine looped_round (fun K_ hK_ => ?_)
          have H := HC27.out
          clear HC27
          try clear c1
          try clear p1
          try clear q1
          try clear hx1
          try clear c2
          try clear p2
          try clear q2
          try clear hx2
          try clear c3
          try clear c5
          try clear c5b0
          try clear c5b1
          try clear c6
          try clear c6b0
          try clear c6b1
          try clear p6
          try clear c13
          try clear c14
          try clear c14b0
          try clear p14
          try clear q14
          try clear hx14
          try clear c15
          try clear c15b0
          try clear c16
          try clear c16b0
          try clear c17
          try clear c18
          try clear c18b0
          try clear c19
          try clear c19b0
          try clear c20
          try clear c20b0
          try clear p22
          try clear q22
          try clear hx22
          try clear hf22
          try clear p23
          try clear q23
          try clear hx149_0
          try clear hx22_0
          try clear p149
          try clear p2
          try clear p22
          try clear p23
          try clear q149
          try clear q22
          try clear q23
          obtain ⟨ji28, hji28⟩ : ∃ j_ : Int, (wrap64 ((wrap64 (a1 * t147)) + a2)) = j_ := ⟨_, rfl⟩
          replace H : (if 0 ≤ (ji28) then (if (ji28) < (x9_2.length : Int) then ((dbm_taken.f a3).bind fun t153 => ((some (x9_2.set ((ji28) : Int).toNat (mn (rd x9_2 (ji28)) t153) : List Int)).bind fun y154 => (if 0 ≤ (wrap64 ((wrap64 ((Go.bits .xor .i64 a2 1) * t147)) + (Go.bits .xor .i64 a1 1))) then (if (wrap64 ((wrap64 ((Go.bits .xor .i64 a2 1) * t147)) + (Go.bits .xor .i64 a1 1))) < (x9_2.length : Int) then ((dbm_taken.f a3).bind fun t156 => (some (y154.set ((wrap64 ((wrap64 ((Go.bits .xor .i64 a2 1) * t147)) + (Go.bits .xor .i64 a1 1))) : Int).toNat (mn (rd y154 (wrap64 ((wrap64 ((Go.bits .xor .i64 a2 1) * t147)) + (Go.bits .xor .i64 a1 1)))) t156)))) else (none)) else (none)))) else (none)) else (none)) = some r := by first | (rw [hji28] at H; exact H) | (simp only [hji28] at H ⊢; exact H)
          have hji28w : (IntKind.i64.wrap ((wrap64 (a1 * t147)) + a2)) = ji28 := (i64_w _).trans hji28
          by_cases c29 : 0 ≤ (ji28)
          ·
           rw [if_pos c29] at H
           have c29b0 : decide (0 ≤ (ji28)) = true := decide_eq_true c29
           (try simp only [hl9_7] at c29b0)
           (try simp only [hl9_2] at c29b0)
           clear c29
           by_cases c30 : (ji28) < (x9_2.length : Int)
           ·
            rw [if_pos c30] at H
            have c30b0 : decide ((ji28) < (x9_2.length : Int)) = true := decide_eq_true c30
            (try simp only [hl9_7] at c30b0)
            (try simp only [hl9_2] at c30b0)
            clear c30
            replace H := Option.bind_eq_some_iff.mp H
            obtain ⟨t153, A310, H⟩ := H
            replace H : ((some (x9_2.set ((ji28) : Int).toNat (mn (rd x9_2 (ji28)) t153) : List Int)).bind fun y154 => (if 0 ≤ (wrap64 ((wrap64 ((Go.bits .xor .i64 a2 1) * t147)) + (Go.bits .xor .i64 a1 1))) then (if (wrap64 ((wrap64 ((Go.bits .xor .i64 a2 1) * t147)) + (Go.bits .xor .i64 a1 1))) < (x9_2.length : Int) then ((dbm_taken.f a3).bind fun t156 => (some (y154.set ((wrap64 ((wrap64 ((Go.bits .xor .i64 a2 1) * t147)) + (Go.bits .xor .i64 a1 1))) : Int).toNat (mn (rd y154 (wrap64 ((wrap64 ((Go.bits .xor .i64 a2 1) * t147)) + (Go.bits .xor .i64 a1 1)))) t156)))) else (none)) else (none))) = some r := H
            have A31 := Aside0.mk A310
            clear A310
            obtain ⟨ji32, hji32⟩ : ∃ j_ : Int, (mn (rd x9_2 (ji28)) t153) = j_ := ⟨_, rfl⟩
            replace H : ((some (x9_2.set ((ji28) : Int).toNat (ji32) : List Int)).bind fun y154 => (if 0 ≤ (wrap64 ((wrap64 ((Go.bits .xor .i64 a2 1) * t147)) + (Go.bits .xor .i64 a1 1))) then (if (wrap64 ((wrap64 ((Go.bits .xor .i64 a2 1) * t147)) + (Go.bits .xor .i64 a1 1))) < (x9_2.length : Int) then ((dbm_taken.f a3).bind fun t156 => (some (y154.set ((wrap64 ((wrap64 ((Go.bits .xor .i64 a2 1) * t147)) + (Go.bits .xor .i64 a1 1))) : Int).toNat (mn (rd y154 (wrap64 ((wrap64 ((Go.bits .xor .i64 a2 1) * t147)) + (Go.bits .xor .i64 a1 1)))) t156)))) else (none)) else (none))) = some r := by first | (rw [hji32] at H; exact H) | (simp only [hji32] at H ⊢; exact H)
            (try rw [hji32] at A31)
            have hji32_ : (if t153 < (rd x9_2 (ji28)) then t153 else (rd x9_2 (ji28))) = ji32 := hji32
            obtain ⟨y154, hy154⟩ : ∃ y_ : List Int, y_ = (x9_2.set ((ji28) : Int).toNat (ji32)) := ⟨_, rfl⟩
            replace H : (if 0 ≤ (wrap64 ((wrap64 ((Go.bits .xor .i64 a2 1) * t147)) + (Go.bits .xor .i64 a1 1))) then (if (wrap64 ((wrap64 ((Go.bits .xor .i64 a2 1) * t147)) + (Go.bits .xor .i64 a1 1))) < (x9_2.length : Int) then ((dbm_taken.f a3).bind fun t156 => (some (y154.set ((wrap64 ((wrap64 ((Go.bits .xor .i64 a2 1) * t147)) + (Go.bits .xor .i64 a1 1))) : Int).toNat (mn (rd y154 (wrap64 ((wrap64 ((Go.bits .xor .i64 a2 1) * t147)) + (Go.bits .xor .i64 a1 1)))) t156)))) else (none)) else (none)) = some r := by first | (rw [hy154]; with_reducible exact H) | (have H2_ := (Option.bind_some _ _).symm.trans H; rw [hy154]; with_reducible exact H2_) | (have H2_ := (Option.bind_some _ _).symm.trans H; with_reducible exact H2_) | with_reducible exact H | (rw [hy154]; exact H) | exact H
            have Ny154 := Aside0.mk hy154
            clear hy154
            have HC34 := Aside0.mk H
            clear H
            try go_wp2
            have n0_ := Aside0.mk (Kd.R_drew HO_9.out)
            have n1_ := Aside0.mk (below_drew1 HB.out)
            clear HO_9
            clear HB
            have HO_9 := n0_
            have HB := n1_
            clear n0_ n1_
            have p152 : 0 ≤ ((ji28) : Int) := of_decide_eq_true (by first | (with_reducible assumption) | assumption)
            have q152 : (ji28) < (x9_2.length : Int) := of_decide_eq_true (by first | (with_reducible assumption) | assumption)
            obtain ⟨ad152, e152, hx152_0⟩ := Kd.at_int (Kd.R_reads' HO_9.out).2.2 (ji28) p152 q152
            cases e152
            replace p152 := eq_true p152
            replace q152 := eq_true q152
            refine start_ (n := 11) (S := fun w' => w'.cell? (ad152.add ((ji28)).toNat) = some (.int .i64 (rd x9_2 (ji28)))) (ds := [10]) #[false, false, false, false, false, false, false, false, false, false, false] (by kernel_rfl) rfl rfl (hx152_0) (fun hHeld => ?_); refine with_tabW dbm_Set.tab14 dbm_Set.bits14 (fun HT_ HW_ => ?_)
            generalize wr.drew = w35 at HO_9 HB hx152_0 hHeld ⊢
            refine pure_ (i := 0) (N := some 77) (v := ?_) (a' := ?_) #[true, false, false, false, false, false, false, false, false, false, false] rfl rfl (any_of HT_.out (by kernel_rfl)) (fun _ _ _ h => h) (Or.inl ⟨by rfl, ?_⟩) ?_ ?_
            rotate_left
            ·
             intro w'
             go_simp
             with_reducible rfl
            rotate_left
            ·
             simp only [Act.put, List.setIfInBounds_toArray, List.set_cons_zero, List.set_cons_succ, i64_w, i32_w]
             rfl
            refine pure_ (i := 1) (N := some 78) (v := ?_) (a' := ?_) #[true, true, false, false, false, false, false, false, false, false, false] rfl rfl (any_of HT_.out (by kernel_rfl)) (fun _ _ _ h => h) (Or.inl ⟨by rfl, ?_⟩) ?_ ?_
            rotate_left
            ·
             intro w'
             go_simp
             with_reducible rfl
            rotate_left
            ·
             simp only [Act.put, List.setIfInBounds_toArray, List.set_cons_zero, List.set_cons_succ, i64_w, i32_w]
             rfl
            refine pure_ (i := 2) (N := some 79) (v := ?_) (a' := ?_) #[true, true, true, false, false, false, false, false, false, false, false] rfl rfl (any_of HT_.out (by kernel_rfl)) (fun _ _ _ h => h) (Or.inl ⟨by rfl, ?_⟩) ?_ ?_
            rotate_left
            ·
             intro w'
             go_simp
             with_reducible rfl
            rotate_left
            ·
             simp only [Act.put, List.setIfInBounds_toArray, List.set_cons_zero, List.set_cons_succ, i64_w, i32_w]
             rfl
            refine pure_ (i := 3) (N := some 80) (v := ?_) (a' := ?_) #[true, true, true, true, false, false, false, false, false, false, false] rfl rfl (any_of HT_.out (by kernel_rfl)) (fun _ _ _ h => h) (Or.inl ⟨by rfl, ?_⟩) ?_ ?_
            rotate_left
            ·
             intro w'
             go_simp
             with_reducible rfl
            rotate_left
            ·
             simp only [Act.put, List.setIfInBounds_toArray, List.set_cons_zero, List.set_cons_succ, i64_w, i32_w]
             rfl
            refine pure_ (i := 4) (N := some 81) (v := ?_) (a' := ?_) #[true, true, true, true, true, false, false, false, false, false, false] rfl rfl (any_of HT_.out (by kernel_rfl)) (fun _ _ _ h => h) (Or.inl ⟨by rfl, ?_⟩) ?_ ?_
            rotate_left
            ·
             intro w'
             go_simp
             with_reducible rfl
            rotate_left
            ·
             simp only [Act.put, List.setIfInBounds_toArray, List.set_cons_zero, List.set_cons_succ, i64_w, i32_w]
             rfl
            refine pure_ (i := 6) (N := some 83) (v := ?_) (a' := ?_) #[true, true, true, true, true, false, true, false, false, false, false] rfl rfl (any_of HT_.out (by kernel_rfl)) (fun _ _ _ h => h) (Or.inl ⟨by rfl, ?_⟩) ?_ ?_
            rotate_left
            ·
             intro w'
             go_simp
             with_reducible rfl
            rotate_left
            ·
             simp only [Act.put, List.setIfInBounds_toArray, List.set_cons_zero, List.set_cons_succ, i64_w, i32_w]
             rfl
            refine take_ (i := 5) (N := some 82) (v := ?_) (a' := ?_) #[true, true, true, true, true, true, true, false, false, false, false] rfl rfl (take_ofW HT_.out HW_.out (by kernel_rfl)) (fun _ _ _ h => h) (Or.inl ⟨by rfl, ?_⟩) hHeld ?_ ?_
            rotate_left
            ·
             intro w' s0
             go_simp
             with_reducible rfl
            rotate_left
            ·
             simp only [Act.put, List.setIfInBounds_toArray, List.set_cons_zero, List.set_cons_succ, i64_w, i32_w]
             rfl
            refine one_ (i := 7) (N := some 84) #[true, true, true, true, true, true, true, true, false, false, false] rfl rfl (one_of HT_.out (by kernel_rfl)) (by decide) (fun K hK => ?_)
            refine goes_ Try.func36 (by kernel_rfl) rfl #[.int .i64 a3] (by rfl) rfl rfl (by (try simp only [List.map_toArray, List.map_cons, List.map_nil]); first | done | rfl | (simp only [List.length_drop, List.length_take]; rfl)) ?_
            with_reducible refine (dbm_taken.calls a3 t153 _ A31.out).mono ?_
            rintro e w36 ⟨rfl, hb⟩
            have HS0_ := (hb.cell (World.block_lt_of_cell? _ _ (hHeld))).trans (hHeld)
            refine ⟨_, rfl, ?_⟩
            have n0_ := Aside0.mk (Kd.R_below (by (with_reducible repeat (first | apply Kd.R_alloc | apply Kd.R_drewN | apply Kd.R_drew)); exact HO_9.out) hb)
            have n1_ := Aside0.mk (below_step (by repeat (first | (with_reducible first | exact HB.out | apply below_alloc | apply pw_below_drewN | apply below_drew1) | exact HB.out)) hb)
            clear HO_9
            clear HB
            have HO_9 := n0_
            have HB := n1_
            clear n0_ n1_
            (try clear hb)
            (try clear hb2)
            (try clear hk)
            (try clear hi)
            have p33 : 0 ≤ ((ji28) : Int) := of_decide_eq_true (by first | (with_reducible assumption) | assumption)
            have q33 : ((ji28) : Int) < ((x9_2.length : Int) : Int) := of_decide_eq_true (by first | (with_reducible assumption) | assumption)
            obtain ⟨go33, co33, eo33, gb33, gl33, cl33, HG33⟩ := Kd.R_form HO_9.out (by omega)
            (first | cases eo33 | (injection eo33 with ea_ en_ ec_; (first | subst ea_ | (injection ea_ with ea_; subst ea_)); subst ec_; clear en_))
            have GB33 := Aside0.mk gb33
            have GG33 := Aside0.mk HG33
            clear gb33 gl33 HG33
            (first | simp only [add_plain] at hx152_0 | skip)
            obtain ⟨hx33_0, hf33_0⟩ := Kd.R_celln 0 HO_9.out ((ji28) : Int) p33 q33
            replace p33 := eq_true p33
            replace q33 := eq_true q33
            have HP37 := Kd.R_putn HO_9.out ((ji28) : Int) ji32
            rw [← Ny154.out] at HP37
            have HQ37 := Aside0.mk HP37
            clear HP37
            refine hK.out _ _ (HS0_) (fun hHeld => ?_)
            clear hK K
            refine norm_ (a' := ?_) ?_ ?_
            rotate_left
            ·
             show Act.put _ (some 84) _ = _
             simp only [Act.put, List.setIfInBounds_toArray, List.set_cons_zero, List.set_cons_succ, i64_w, i32_w]
             rfl
            refine pure_ (i := 8) (N := some 85) (v := ?_) (a' := ?_) #[true, true, true, true, true, true, true, true, true, false, false] rfl rfl (any_of HT_.out (by kernel_rfl)) (fun _ _ _ h => h) (Or.inl ⟨by rfl, ?_⟩) ?_ ?_
            rotate_left
            ·
             intro w'
             go_simp
             with_reducible rfl
            rotate_left
            ·
             simp only [Act.put, List.setIfInBounds_toArray, List.set_cons_zero, List.set_cons_succ, i64_w, i32_w]
             rfl
            refine pure_ (i := 9) (N := some 86) (v := ?_) (a' := ?_) #[true, true, true, true, true, true, true, true, true, true, false] rfl rfl (any_of HT_.out (by kernel_rfl)) (fun _ _ _ h => h) (Or.inl ⟨by rfl, ?_⟩) ?_ ?_
            rotate_left
            ·
             intro w'
             go_simp
             with_reducible rfl
            rotate_left
            ·
             simp only [Act.put, List.setIfInBounds_toArray, List.set_cons_zero, List.set_cons_succ, i64_w, i32_w]
             rfl
            refine last_ (i := 10) (N := none) #[true, true, true, true, true, true, true, true, true, true, true] rfl rfl (one_of HT_.out (by kernel_rfl)) (by decide) (fun K hK => ?_)
            refine skip_ (w1 := ?_) (by rfl) rfl ?_ ?_
            rotate_left
            ·
             go_simp
             rfl
            refine hK.out _ _ ?_
            clear hK K
            refine done_ (done_of HT_.out (by kernel_rfl)) ?_
            try go_wp2
            refine looped_round (fun K_ hK_ => ?_)
            have H := HC34.out
            clear HC34
            try clear c1
            try clear p1
            try clear q1
            try clear hx1
            try clear c2
            try clear p2
            try clear q2
            try clear hx2
            try clear c3
            try clear p3
            try clear q3
            try clear hx3
            try clear c5
            try clear c5b0
            try clear c5b1
            try clear c6
            try clear c6b0
            try clear c6b1
            try clear p6
            try clear c13
            try clear c14
            try clear c14b0
            try clear p14
            try clear q14
            try clear hx14
            try clear c15
            try clear c15b0
            try clear p15
            try clear q15
            try clear hx15
            try clear c16
            try clear c16b0
            try clear c17
            try clear c18
            try clear c18b0
            try clear c19
            try clear c19b0
            try clear c20
            try clear c20b0
            try clear p22
            try clear q22
            try clear hx22
            try clear hf22
            try clear p23
            try clear q23
            try clear c29
            try clear c29b0
            try clear c30
            try clear c30b0
            try clear p33
            try clear q33
            try clear hx33
            try clear hf33
            try clear c34
            try clear c36
            try clear hx149_0
            try clear hx152_0
            try clear hx22_0
            try clear hx33_0
            try clear p1
            try clear p14
            try clear p149
            try clear p152
            try clear p2
            try clear p22
            try clear p23
            try clear p33
            try clear p6
            try clear q1
            try clear q14
            try clear q149
            try clear q152
            try clear q2
            try clear q22
            try clear q23
            try clear q33
            obtain ⟨ji38, hji38⟩ : ∃ j_ : Int, (wrap64 ((wrap64 ((Go.bits .xor .i64 a2 1) * t147)) + (Go.bits .xor .i64 a1 1))) = j_ := ⟨_, rfl⟩
            replace H : (if 0 ≤ (ji38) then (if (ji38) < (x9_2.length : Int) then ((dbm_taken.f a3).bind fun t156 => (some (y154.set ((ji38) : Int).toNat (mn (rd y154 (ji38)) t156)))) else (none)) else (none)) = some r := by first | (rw [hji38] at H; exact H) | (simp only [hji38] at H ⊢; exact H)
            have hji38w : (IntKind.i64.wrap ((wrap64 ((Go.bits .xor .i64 a2 1) * t147)) + (Go.bits .xor .i64 a1 1))) = ji38 := (i64_w _).trans hji38
            by_cases c39 : 0 ≤ (ji38)
            ·
             rw [if_pos c39] at H
             have c39b0 : decide (0 ≤ (ji38)) = true := decide_eq_true c39
             (try simp only [hl9_7] at c39b0)
             (try simp only [hl9_2] at c39b0)
             clear c39
             by_cases c40 : (ji38) < (x9_2.length : Int)
             ·
              rw [if_pos c40] at H
              have c40b0 : decide ((ji38) < (x9_2.length : Int)) = true := decide_eq_true c40
              (try simp only [hl9_7] at c40b0)
              (try simp only [hl9_2] at c40b0)
              clear c40
              replace H := Option.bind_eq_some_iff.mp H
              obtain ⟨t156, A410, H⟩ := H
              replace H : (some (y154.set ((ji38) : Int).toNat (mn (rd y154 (ji38)) t156))) = some r := H
              have A41 := Aside0.mk A410
              clear A410
              obtain ⟨ji42, hji42⟩ : ∃ j_ : Int, (mn (rd y154 (ji38)) t156) = j_ := ⟨_, rfl⟩
              replace H : (some (y154.set ((ji38) : Int).toNat (ji42))) = some r := by first | (rw [hji42] at H; exact H) | (simp only [hji42] at H ⊢; exact H)
              (try rw [hji42] at A41)
              have hji42_ : (if t156 < (rd y154 (ji38)) then t156 else (rd y154 (ji38))) = ji42 := hji42
              obtain ⟨y157, hy157⟩ : ∃ y_ : List Int, y_ = (y154.set ((ji38) : Int).toNat (ji42)) := ⟨_, rfl⟩
              replace H : (some y157) = some r := by first | (rw [hy157]; with_reducible exact H) | (have H2_ := (Option.bind_some _ _).symm.trans H; rw [hy157]; with_reducible exact H2_) | (have H2_ := (Option.bind_some _ _).symm.trans H; with_reducible exact H2_) | with_reducible exact H | (rw [hy157]; exact H) | exact H
              have Ny157 := Aside0.mk hy157
              clear hy157
              have HC44 := Aside0.mk H
              clear H
              try go_wp2
              have n0_ : Aside0 (Kd.R (Kd.int .i64) 2 (w36.setCell ⟨go33, ((ji28) : Int).toNat, none⟩ (.int .i64 ji32)) w.heap.size (fun _ => True) (.slice (some ⟨go33, 0, none⟩) x9_2.length co12) y154) := ⟨by (with_reducible repeat (first | apply Kd.R_alloc | apply Kd.R_drewN | apply Kd.R_drew)); exact HQ37.out⟩
              have n1_ : Aside0 (Below w.heap.size w (w36.setCell ⟨go33, ((ji28) : Int).toNat, none⟩ (.int .i64 ji32))) := ⟨by repeat (first | (with_reducible first | exact HB.out | apply below_alloc | apply pw_below_drewN | apply below_drew1 | refine below_set ?_ GB33.out) | exact HB.out)⟩
              (try clear HO_9)
              (try clear HB)
              generalize (w36.setCell ⟨go33, ((ji28) : Int).toNat, none⟩ (.int .i64 ji32)) = w45 at n0_ n1_ ⊢
              have HO_9 := n0_
              have HB := n1_
              clear n0_ n1_
              have n0_ := Aside0.mk (Kd.R_drew HO_9.out)
              have n1_ := Aside0.mk (below_drew1 HB.out)
              clear HO_9
              clear HB
              have HO_9 := n0_
              have HB := n1_
              clear n0_ n1_
              have p155 : 0 ≤ ((ji38) : Int) := of_decide_eq_true (by first | (with_reducible assumption) | assumption)
              have q155 : (ji38) < (y154.length : Int) := (by have h_ : ((ji38) : Int) < ((x9_2.length : Int) : Int) := of_decide_eq_true (by first | (with_reducible assumption) | assumption); first | (have e_ := (Kd.R_reads' HO_9.out).1; omega) | simpa only [Ny154.out, List.length_set, cpy_length] using h_)
              have ql155 : (((ji38) : Int) < ((x9_2.length : Int) : Int)) = True := eq_true (of_decide_eq_true (by first | (with_reducible assumption) | assumption))
              obtain ⟨ad155, e155, hx155_0⟩ := Kd.at_int (Kd.R_reads' HO_9.out).2.2 (ji38) p155 q155
              obtain rfl : (⟨go33, 0, none⟩ : Addr) = ad155 := (by injection e155)
              (first | simp only [add_plain] at hx155_0 | simp only [add_at] at hx155_0 | simp only [Addr.add, Nat.zero_add] at hx155_0 | skip)
              replace p155 := eq_true p155
              replace q155 := eq_true q155
              refine start_ (n := 11) (S := fun w' => w'.cell? ⟨go33, ((ji38)).toNat, none⟩ = some (.int .i64 (rd y154 (ji38)))) (ds := [10]) #[false, false, false, false, false, false, false, false, false, false, false] (by kernel_rfl) rfl rfl (hx155_0) (fun hHeld => ?_); refine with_tabW dbm_Set.tab14 dbm_Set.bits14 (fun HT_ HW_ => ?_)
              generalize w45.drew = w46 at HO_9 HB HQ37 hx155_0 hHeld ⊢
              refine pure_ (i := 0) (N := some 77) (v := ?_) (a' := ?_) #[true, false, false, false, false, false, false, false, false, false, false] rfl rfl (any_of HT_.out (by kernel_rfl)) (fun _ _ _ h => h) (Or.inl ⟨by rfl, ?_⟩) ?_ ?_
              rotate_left
              ·
               intro w'
               go_simp
               with_reducible rfl
              rotate_left
              ·
               simp only [Act.put, List.setIfInBounds_toArray, List.set_cons_zero, List.set_cons_succ, i64_w, i32_w]
               rfl
              refine pure_ (i := 1) (N := some 78) (v := ?_) (a' := ?_) #[true, true, false, false, false, false, false, false, false, false, false] rfl rfl (any_of HT_.out (by kernel_rfl)) (fun _ _ _ h => h) (Or.inl ⟨by rfl, ?_⟩) ?_ ?_
              rotate_left
              ·
               intro w'
               go_simp
               with_reducible rfl
              rotate_left
              ·
               simp only [Act.put, List.setIfInBounds_toArray, List.set_cons_zero, List.set_cons_succ, i64_w, i32_w]
               rfl
              refine pure_ (i := 2) (N := some 79) (v := ?_) (a' := ?_) #[true, true, true, false, false, false, false, false, false, false, false] rfl rfl (any_of HT_.out (by kernel_rfl)) (fun _ _ _ h => h) (Or.inl ⟨by rfl, ?_⟩) ?_ ?_
              rotate_left
              ·
               intro w'
               go_simp
               with_reducible rfl
              rotate_left
              ·
               simp only [Act.put, List.setIfInBounds_toArray, List.set_cons_zero, List.set_cons_succ, i64_w, i32_w]
               rfl
              refine pure_ (i := 3) (N := some 80) (v := ?_) (a' := ?_) #[true, true, true, true, false, false, false, false, false, false, false] rfl rfl (any_of HT_.out (by kernel_rfl)) (fun _ _ _ h => h) (Or.inl ⟨by rfl, ?_⟩) ?_ ?_
              rotate_left
              ·
               intro w'
               go_simp
               with_reducible rfl
              rotate_left
              ·
               simp only [Act.put, List.setIfInBounds_toArray, List.set_cons_zero, List.set_cons_succ, i64_w, i32_w]
               rfl
              refine pure_ (i := 4) (N := some 81) (v := ?_) (a' := ?_) #[true, true, true, true, true, false, false, false, false, false, false] rfl rfl (any_of HT_.out (by kernel_rfl)) (fun _ _ _ h => h) (Or.inl ⟨by rfl, ?_⟩) ?_ ?_
              rotate_left
              ·
               intro w'
               go_simp
               with_reducible rfl
              rotate_left
              ·
               simp only [Act.put, List.setIfInBounds_toArray, List.set_cons_zero, List.set_cons_succ, i64_w, i32_w]
               rfl
              refine pure_ (i := 6) (N := some 83) (v := ?_) (a' := ?_) #[true, true, true, true, true, false, true, false, false, false, false] rfl rfl (any_of HT_.out (by kernel_rfl)) (fun _ _ _ h => h) (Or.inl ⟨by rfl, ?_⟩) ?_ ?_
              rotate_left
              ·
               intro w'
               go_simp
               with_reducible rfl
              rotate_left
              ·
               simp only [Act.put, List.setIfInBounds_toArray, List.set_cons_zero, List.set_cons_succ, i64_w, i32_w]
               rfl
              refine take_ (i := 5) (N := some 82) (v := ?_) (a' := ?_) #[true, true, true, true, true, true, true, false, false, false, false] rfl rfl (take_ofW HT_.out HW_.out (by kernel_rfl)) (fun _ _ _ h => h) (Or.inl ⟨by rfl, ?_⟩) hHeld ?_ ?_
              rotate_left
              ·
               intro w' s0
               go_simp
               with_reducible rfl
              rotate_left
              ·
               simp only [Act.put, List.setIfInBounds_toArray, List.set_cons_zero, List.set_cons_succ, i64_w, i32_w]
               rfl
              refine one_ (i := 7) (N := some 84) #[true, true, true, true, true, true, true, true, false, false, false] rfl rfl (one_of HT_.out (by kernel_rfl)) (by decide) (fun K hK => ?_)
              refine goes_ Try.func36 (by kernel_rfl) rfl #[.int .i64 a3] (by rfl) rfl rfl (by (try simp only [List.map_toArray, List.map_cons, List.map_nil]); first | done | rfl | (simp only [List.length_drop, List.length_take]; rfl)) ?_
              with_reducible refine (dbm_taken.calls a3 t156 _ A41.out).mono ?_
              rintro e w47 ⟨rfl, hb⟩
              have HS0_ := (hb.cell (World.block_lt_of_cell? _ _ (hHeld))).trans (hHeld)
              refine ⟨_, rfl, ?_⟩
              have n0_ := Aside0.mk (Kd.R_below (by (with_reducible repeat (first | apply Kd.R_alloc | apply Kd.R_drewN | apply Kd.R_drew)); exact HO_9.out) hb)
              have n1_ := Aside0.mk (below_step (by repeat (first | (with_reducible first | exact HB.out | apply below_alloc | apply pw_below_drewN | apply below_drew1) | exact HB.out)) hb)
              clear HO_9
              clear HB
              have HO_9 := n0_
              have HB := n1_
              clear n0_ n1_
              (try clear hb)
              (try clear hb2)
              (try clear hk)
              (try clear hi)
              have p43 : 0 ≤ ((ji38) : Int) := of_decide_eq_true (by first | (with_reducible assumption) | assumption)
              have q43 : ((ji38) : Int) < ((x9_2.length : Int) : Int) := of_decide_eq_true (by first | (with_reducible assumption) | assumption)
              obtain ⟨hx43_0, hf43_0⟩ := Kd.R_celln 0 HO_9.out ((ji38) : Int) p43 q43
              replace p43 := eq_true p43
              replace q43 := eq_true q43
              have HP48 := Kd.R_putn HO_9.out ((ji38) : Int) ji42
              rw [← Ny157.out] at HP48
              have HQ48 := Aside0.mk HP48
              clear HP48
              refine hK.out _ _ (HS0_) (fun hHeld => ?_)
              clear hK K
              refine norm_ (a' := ?_) ?_ ?_
              rotate_left
              ·
               show Act.put _ (some 84) _ = _
               simp only [Act.put, List.setIfInBounds_toArray, List.set_cons_zero, List.set_cons_succ, i64_w, i32_w]
               rfl
              refine pure_ (i := 8) (N := some 85) (v := ?_) (a' := ?_) #[true, true, true, true, true, true, true, true, true, false, false] rfl rfl (any_of HT_.out (by kernel_rfl)) (fun _ _ _ h => h) (Or.inl ⟨by rfl, ?_⟩) ?_ ?_
              rotate_left
              ·
               intro w'
               go_simp
               with_reducible rfl
              rotate_left
              ·
               simp only [Act.put, List.setIfInBounds_toArray, List.set_cons_zero, List.set_cons_succ, i64_w, i32_w]
               rfl
              refine pure_ (i := 9) (N := some 86) (v := ?_) (a' := ?_) #[true, true, true, true, true, true, true, true, true, true, false] rfl rfl (any_of HT_.out (by kernel_rfl)) (fun _ _ _ h => h) (Or.inl ⟨by rfl, ?_⟩) ?_ ?_
              rotate_left
              ·
               intro w'
               go_simp
               with_reducible rfl
              rotate_left
              ·
               simp only [Act.put, List.setIfInBounds_toArray, List.set_cons_zero, List.set_cons_succ, i64_w, i32_w]
               rfl
              refine last_ (i := 10) (N := none) #[true, true, true, true, true, true, true, true, true, true, true] rfl rfl (one_of HT_.out (by kernel_rfl)) (by decide) (fun K hK => ?_)
              refine skip_ (w1 := ?_) (by rfl) rfl ?_ ?_
              rotate_left
              ·
               go_simp
               rfl
              refine hK.out _ _ ?_
              clear hK K
              refine done_ (done_of HT_.out (by kernel_rfl)) ?_
              try go_wp2
              refine looped_round (fun K_ hK_ => ?_)
              have H := HC44.out
              clear HC44
              try clear c1
              try clear p1
              try clear q1
              try clear hx1
              try clear c2
              try clear p2
              try clear q2
              try clear hx2
              try clear c3
              try clear p3
              try clear q3
              try clear hx3
              try clear c4
              try clear p4
              try clear q4
              try clear hx4
              try clear hf4
              try clear c5
              try clear c5b0
              try clear c5b1
              try clear c6
              try clear c6b0
              try clear c6b1
              try clear p6
              try clear c13
              try clear c14
              try clear c14b0
              try clear p14
              try clear q14
              try clear hx14
              try clear c15
              try clear c15b0
              try clear p15
              try clear q15
              try clear hx15
              try clear c16
              try clear c16b0
              try clear c17
              try clear c18
              try clear c18b0
              try clear c19
              try clear c19b0
              try clear c20
              try clear c20b0
              try clear p22
              try clear q22
              try clear hx22
              try clear hf22
              try clear p23
              try clear q23
              try clear c29
              try clear c29b0
              try clear c30
              try clear c30b0
              try clear p33
              try clear q33
              try clear hx33
              try clear hf33
              try clear c34
              try clear c36
              try clear c39
              try clear c39b0
              try clear c40
              try clear c40b0
              try clear p43
              try clear q43
              try clear hx43
              try clear hf43
              try clear hx149_0
              try clear hx152_0
              try clear hx155_0
              try clear hx22_0
              try clear hx33_0
              try clear hx43_0
              try clear p1
              try clear p14
              try clear p149
              try clear p15
              try clear p152
              try clear p155
              try clear p2
              try clear p22
              try clear p23
              try clear p3
              try clear p33
              try clear p43
              try clear p6
              try clear q1
              try clear q14
              try clear q149
              try clear q15
              try clear q152
              try clear q155
              try clear q2
              try clear q22
              try clear q23
              try clear q3
              try clear q33
              try clear q43
              obtain rfl := Option.some.inj H
              go_wp2
              go_ret
              exact ⟨_, by first | rfl | (simp [errW_none, errW_some] <;> rfl) | (simp only [← hji28, ← hji32, ← hji38, ← hji42]; first | rfl | (simp [errW_none, errW_some] <;> rfl)) | (simp [*, errW_none, errW_some] <;> rfl) | kernel_rfl, by (with_reducible repeat (first | apply Kd.R_alloc | apply Kd.R_drewN | apply Kd.R_drew)); exact HQ48.out, by repeat (first | (with_reducible first | exact HB.out | apply below_alloc | apply pw_below_drewN | apply below_drew1 | refine below_set ?_ GB33.out) | exact HB.out)⟩
             ·
              rw [if_neg c40] at H
              exact absurd H (by simp)
            ·
             rw [if_neg c39] at H
             exact absurd H (by simp)
           ·
            rw [if_neg c30] at H
            exact absurd H (by simp)
          ·
           rw [if_neg c29] at H
           exact absurd H (by simp)
   ·
    rw [if_neg c6] at H
    exact absurd H (by simp)
  ·
   rw [if_neg c5] at H
   exact absurd H (by simp)

end Go.Proofs.Ytklignhpkojmhaa.P
