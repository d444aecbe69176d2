-- PRINTED by print.py (a twelfth state) out of the translation. Not trusted: Lean checks it.
import Derived.Test.YtklignhpkojmhaaPx0
import Derived.Test.YtklignhpkojmhaaPx16
import Derived.Test.YtklignhpkojmhaaPx17
import Derived.Test.YtklignhpkojmhaaPx24
import Derived.Test.YtklignhpkojmhaaPx27
import Derived.Test.YtklignhpkojmhaaPx31
import Derived.Test.YtklignhpkojmhaaPx32
import Derived.Test.YtklignhpkojmhaaPx33
namespace Go.Proofs.Ytklignhpkojmhaa.P
open Go.RowKit Go.Proofs.YtklignhpkojmhaaW.PrintWords Go.Proofs.YtklignhpkojmhaaW.PrintLast Go.Proofs.YtklignhpkojmhaaW.PrintMore Go.Proofs.YtklignhpkojmhaaO
attribute [local go_sem] max2_int min2_int max_two min_two max_three min_three max_four min_four   -- for this text's walks alone
set_option linter.unusedVariables false
set_option linter.unusedSimpArgs false

/-! ### gimballaw10_DbmTells: function 11 -/
def gimballaw10_DbmTells.f (k : Nat) (l0 : List Int) (l1 : List Int) : Option (Bool) := (dbm_Closed.f k l0).bind fun t439 => ((gimbalref10_Closed.f k l0).bind fun t440 => (if (t439 == t440) = true then ((dbm_Coherent.f k l0).bind fun t441 => ((gimbalref10_Coherent.f k l0).bind fun t442 => (if (t441 == t442) = true then ((dbm_Holds.f k l0 l1).bind fun t443 => ((gimbalref10_Holds.f k l0 l1).bind fun t444 => (if (t443 == t444) = true then ((gimballaw10_awake.f k).bind fun t445 => (some t445)) else (some false)))) else (some false)))) else (some false)))
theorem gimballaw10_DbmTells.mono : ∀ a0 a1 k, LeO (gimballaw10_DbmTells.f k a0 a1) (gimballaw10_DbmTells.f (k + 1) a0 a1) := by
  intro a0 a1 k
  unfold gimballaw10_DbmTells.f
  repeat' first
      | (with_reducible exact dbm_Closed.mono _ _)
      | (with_reducible exact dbm_Coherent.mono _ _)
      | (with_reducible exact dbm_Holds.mono _ _ _)
      | (with_reducible exact gimballaw10_awake.mono _)
      | (with_reducible exact gimbalref10_Closed.mono _ _)
      | (with_reducible exact gimbalref10_Coherent.mono _ _)
      | (with_reducible exact gimbalref10_Holds.mono _ _ _)
      | (with_reducible exact LeO.refl _)
      | (with_reducible exact LeO.none _)
      | (with_reducible refine LeO.ite ?_ ?_)
      | (with_reducible refine LeO.bind ?_ (fun _ => ?_))
      | exact dbm_Closed.mono _ _
      | exact dbm_Coherent.mono _ _
      | exact dbm_Holds.mono _ _ _
      | exact gimballaw10_awake.mono _
      | exact gimbalref10_Closed.mono _ _
      | exact gimbalref10_Coherent.mono _ _
      | exact gimbalref10_Holds.mono _ _ _
      | exact LeO.none _
      | refine LeO.ite ?_ ?_
      | refine LeO.bind ?_ (fun _ => ?_)
set_option maxHeartbeats 8000000 in
set_option maxRecDepth 100000 in
theorem gimballaw10_DbmTells.calls (k : Nat) (A0 : Option Addr) (c0 : Nat) (l0 : List Int) (A1 : Option Addr) (c1 : Nat) (l1 : List Int) (w : World) (hr0 : Kd.C (Kd.int .i64) w A0 l0.length l0) (hc0 : l0.length ≤ c0) (hr1 : Kd.C (Kd.int .i64) w A1 l1.length l1) (hc1 : l1.length ≤ c1) (h : gimballaw10_DbmTells.f k l0 l1 = some true) :
    Calls Try.prog 11 #[.slice A0 l0.length c0, .slice A1 l1.length c1] w fun e w' => e = .returned (.bool true) ∧ Below w.heap.size w w' := by
  have HR0 := Aside0.mk hr0
  have HC0 := Aside0.mk hc0
  clear hr0 hc0
  have HR1 := Aside0.mk hr1
  have HC1 := Aside0.mk hc1
  clear hr1 hc1
  have HB := Aside0.mk (Below.refl w.heap.size w)
  have H : ((dbm_Closed.f k l0).bind fun t439 => ((gimbalref10_Closed.f k l0).bind fun t440 => (if (t439 == t440) = true then ((dbm_Coherent.f k l0).bind fun t441 => ((gimbalref10_Coherent.f k l0).bind fun t442 => (if (t441 == t442) = true then ((dbm_Holds.f k l0 l1).bind fun t443 => ((gimbalref10_Holds.f k l0 l1).bind fun t444 => (if (t443 == t444) = true then ((gimballaw10_awake.f k).bind fun t445 => (some t445)) else (some false)))) else (some false)))) else (some false)))) = some true := h
  clear h
  replace H := Option.bind_eq_some_iff.mp H
  obtain ⟨t439, A30, H⟩ := H
  replace H : ((gimbalref10_Closed.f k l0).bind fun t440 => (if (t439 == t440) = true then ((dbm_Coherent.f k l0).bind fun t441 => ((gimbalref10_Coherent.f k l0).bind fun t442 => (if (t441 == t442) = true then ((dbm_Holds.f k l0 l1).bind fun t443 => ((gimbalref10_Holds.f k l0 l1).bind fun t444 => (if (t443 == t444) = true then ((gimballaw10_awake.f k).bind fun t445 => (some t445)) else (some false)))) else (some false)))) else (some false))) = some true := H
  have A3 := Aside0.mk A30
  clear A30
  replace H := Option.bind_eq_some_iff.mp H
  obtain ⟨t440, A40, H⟩ := H
  replace H : (if (t439 == t440) = true then ((dbm_Coherent.f k l0).bind fun t441 => ((gimbalref10_Coherent.f k l0).bind fun t442 => (if (t441 == t442) = true then ((dbm_Holds.f k l0 l1).bind fun t443 => ((gimbalref10_Holds.f k l0 l1).bind fun t444 => (if (t443 == t444) = true then ((gimballaw10_awake.f k).bind fun t445 => (some t445)) else (some false)))) else (some false)))) else (some false)) = some true := H
  have A4 := Aside0.mk A40
  clear A40
  by_cases c5 : (t439 == t440) = true
  ·
   rw [if_pos c5] at H
   have c5b0 : (t439 == t440) = true := c5
   (try (have c5b1 : decide (t439 = t440) = true := by simpa using c5))
   (try (have c5b2 : (t439 == t440) = true := by simpa using c5))
   clear c5
   replace H := Option.bind_eq_some_iff.mp H
   obtain ⟨t441, A60, H⟩ := H
   replace H : ((gimbalref10_Coherent.f k l0).bind fun t442 => (if (t441 == t442) = true then ((dbm_Holds.f k l0 l1).bind fun t443 => ((gimbalref10_Holds.f k l0 l1).bind fun t444 => (if (t443 == t444) = true then ((gimballaw10_awake.f k).bind fun t445 => (some t445)) else (some false)))) else (some false))) = some true := H
   have A6 := Aside0.mk A60
   clear A60
   replace H := Option.bind_eq_some_iff.mp H
   obtain ⟨t442, A70, H⟩ := H
   replace H : (if (t441 == t442) = true then ((dbm_Holds.f k l0 l1).bind fun t443 => ((gimbalref10_Holds.f k l0 l1).bind fun t444 => (if (t443 == t444) = true then ((gimballaw10_awake.f k).bind fun t445 => (some t445)) else (some false)))) else (some false)) = some true := H
   have A7 := Aside0.mk A70
   clear A70
   by_cases c8 : (t441 == t442) = true
   ·
    rw [if_pos c8] at H
    have c8b0 : (t441 == t442) = true := c8
    (try (have c8b1 : decide (t441 = t442) = true := by simpa using c8))
    (try (have c8b2 : (t441 == t442) = true := by simpa using c8))
    clear c8
    replace H := Option.bind_eq_some_iff.mp H
    obtain ⟨t443, A90, H⟩ := H
    replace H : ((gimbalref10_Holds.f k l0 l1).bind fun t444 => (if (t443 == t444) = true then ((gimballaw10_awake.f k).bind fun t445 => (some t445)) else (some false))) = some true := H
    have A9 := Aside0.mk A90
    clear A90
    replace H := Option.bind_eq_some_iff.mp H
    obtain ⟨t444, A100, H⟩ := H
    replace H : (if (t443 == t444) = true then ((gimballaw10_awake.f k).bind fun t445 => (some t445)) else (some false)) = some true := H
    have A10 := Aside0.mk A100
    clear A100
    by_cases c11 : (t443 == t444) = true
    ·
     rw [if_pos c11] at H
     have c11b0 : (t443 == t444) = true := c11
     (try (have c11b1 : decide (t443 = t444) = true := by simpa using c11))
     (try (have c11b2 : (t443 == t444) = true := by simpa using c11))
     clear c11
     replace H := Option.bind_eq_some_iff.mp H
     obtain ⟨t445, A120, H⟩ := H
     replace H : (some t445) = some true := H
     have A12 := Aside0.mk A120
     clear A120
     have hret_ := Option.some.inj H
     clear H
     go_enter Try.func11, Try.ntmps11
     go_wp2_with (first | ((with_reducible refine gate_callee (f := 28) rfl ?_); refine goesL_ (some 6) rfl rfl Try.func28 (by kernel_rfl) rfl #[.slice A0 l0.length c0] rfl (by (try simp only [List.map_toArray, List.map_cons, List.map_nil]); first | done | rfl | (simp only [List.length_drop, List.length_take]; rfl)) ?_; (with_reducible refine (dbm_Closed.calls k _ _ l0 t439 _ ?side1 ?side2 A3.out).mono ?_); (case side1 => repeat (first | exact HR0.out | (with_reducible refine Kd.C_alloc ?_ _) | (with_reducible refine Kd.C_drewN ?_ _) | (with_reducible refine Kd.C_drew ?_))); (case side2 => exact HC0.out); rintro e w13 ⟨rfl, hb⟩; refine ⟨_, rfl, ?_⟩; have n0_ := Aside0.mk (below_step (by repeat (first | (with_reducible first | exact HB.out | apply below_alloc | apply pw_below_drewN | apply below_drew1) | exact HB.out)) hb); clear HB; have HB := n0_; clear n0_; (try clear hb); (try clear hb2); (try clear hk); (try clear hi)) | ((with_reducible refine gate_callee (f := 31) rfl ?_); refine goesL_ (some 8) rfl rfl Try.func31 (by kernel_rfl) rfl #[.slice A0 l0.length c0] rfl (by (try simp only [List.map_toArray, List.map_cons, List.map_nil]); first | done | rfl | (simp only [List.length_drop, List.length_take]; rfl)) ?_; (with_reducible refine (gimbalref10_Closed.calls k _ _ l0 t440 _ ?side1 ?side2 A4.out).mono ?_); (case side1 => repeat (first | exact (Kd.C_below HR0.out HB.out) | (with_reducible refine Kd.C_alloc ?_ _) | (with_reducible refine Kd.C_drewN ?_ _) | (with_reducible refine Kd.C_drew ?_))); (case side2 => exact HC0.out); rintro e w14 ⟨rfl, hb⟩; refine ⟨_, rfl, ?_⟩; have n0_ := Aside0.mk (below_step (by repeat (first | (with_reducible first | exact HB.out | apply below_alloc | apply pw_below_drewN | apply below_drew1) | exact HB.out)) hb); clear HB; have HB := n0_; clear n0_; (try clear hb); (try clear hb2); (try clear hk); (try clear hi)) | (go_at_call 29; (with_reducible refine (dbm_Coherent.calls k _ _ l0 t441 _ ?side1 ?side2 A6.out).mono ?_); (case side1 => repeat (first | exact (Kd.C_below HR0.out HB.out) | (with_reducible refine Kd.C_alloc ?_ _) | (with_reducible refine Kd.C_drewN ?_ _) | (with_reducible refine Kd.C_drew ?_))); (case side2 => exact HC0.out); rintro e w15 ⟨rfl, hb⟩; have n0_ := Aside0.mk (below_step (by repeat (first | (with_reducible first | exact HB.out | apply below_alloc | apply pw_below_drewN | apply below_drew1) | exact HB.out)) hb); clear HB; have HB := n0_; clear n0_; (try clear hb); (try clear hb2); (try clear hk); (try clear hi)) | (go_at_call 32; (with_reducible refine (gimbalref10_Coherent.calls k _ _ l0 t442 _ ?side1 ?side2 A7.out).mono ?_); (case side1 => repeat (first | exact (Kd.C_below HR0.out HB.out) | (with_reducible refine Kd.C_alloc ?_ _) | (with_reducible refine Kd.C_drewN ?_ _) | (with_reducible refine Kd.C_drew ?_))); (case side2 => exact HC0.out); rintro e w' ⟨rfl, ⟨nd, rfl⟩⟩) | (go_at_call 25; (with_reducible refine (dbm_Holds.calls k _ _ l0 _ _ l1 t443 _ ?side1 ?side2 ?side3 ?side4 A9.out).mono ?_); (case side1 => repeat (first | exact (Kd.C_below HR0.out (by repeat (first | (with_reducible first | exact HB.out | apply below_alloc | apply pw_below_drewN | apply below_drew1) | exact HB.out))) | (with_reducible refine Kd.C_alloc ?_ _) | (with_reducible refine Kd.C_drewN ?_ _) | (with_reducible refine Kd.C_drew ?_))); (case side2 => exact HC0.out); (case side3 => repeat (first | exact (Kd.C_below HR1.out (by repeat (first | (with_reducible first | exact HB.out | apply below_alloc | apply pw_below_drewN | apply below_drew1) | exact HB.out))) | (with_reducible refine Kd.C_alloc ?_ _) | (with_reducible refine Kd.C_drewN ?_ _) | (with_reducible refine Kd.C_drew ?_))); (case side4 => exact HC1.out); rintro e w16 ⟨rfl, hb⟩; have n0_ := Aside0.mk (below_step (by repeat (first | (with_reducible first | exact HB.out | apply below_alloc | apply pw_below_drewN | apply below_drew1) | exact HB.out)) hb); clear HB; have HB := n0_; clear n0_; (try clear hb); (try clear hb2); (try clear hk); (try clear hi)) | (go_at_call 33; (with_reducible refine (gimbalref10_Holds.calls k _ _ l0 _ _ l1 t444 _ ?side1 ?side2 ?side3 ?side4 A10.out).mono ?_); (case side1 => repeat (first | exact (Kd.C_below HR0.out HB.out) | (with_reducible refine Kd.C_alloc ?_ _) | (with_reducible refine Kd.C_drewN ?_ _) | (with_reducible refine Kd.C_drew ?_))); (case side2 => exact HC0.out); (case side3 => repeat (first | exact (Kd.C_below HR1.out HB.out) | (with_reducible refine Kd.C_alloc ?_ _) | (with_reducible refine Kd.C_drewN ?_ _) | (with_reducible refine Kd.C_drew ?_))); (case side4 => exact HC1.out); rintro e w17 ⟨rfl, hb⟩; have n0_ := Aside0.mk (below_step (by repeat (first | (with_reducible first | exact HB.out | apply below_alloc | apply pw_below_drewN | apply below_drew1) | exact HB.out)) hb); clear HB; have HB := n0_; clear n0_; (try clear hb); (try clear hb2); (try clear hk); (try clear hi)) | (go_at_call 22; (with_reducible refine (gimballaw10_awake.calls k  t445 _ A12.out).mono ?_); rintro e w18 ⟨rfl, hb⟩; have n0_ := Aside0.mk (below_step (by repeat (first | (with_reducible first | exact HB.out | apply below_alloc | apply pw_below_drewN | apply below_drew1) | exact HB.out)) hb); clear HB; have HB := n0_; clear n0_; (try clear hb); (try clear hb2); (try clear hk); (try clear hi)))
     go_ret
     exact ⟨by first | rfl | (simp [errW_none, errW_some] <;> rfl) | (simp [*, errW_none, errW_some] <;> rfl), by repeat (first | (with_reducible first | exact HB.out | apply below_alloc | apply pw_below_drewN | apply below_drew1) | exact HB.out)⟩
    ·
     rw [if_neg c11] at H
     have c11b0 : (t443 == t444) = false := by simpa using c11
     (try (have c11b1 : decide (t443 = t444) = false := by simpa using c11))
     (try (have c11b2 : (t443 == t444) = false := by simpa using c11))
     (try (have c11b3 : ¬ (t443 = t444) := by simpa using c11))
     clear c11
     exact absurd H (by simp)
   ·
    rw [if_neg c8] at H
    have c8b0 : (t441 == t442) = false := by simpa using c8
    (try (have c8b1 : decide (t441 = t442) = false := by simpa using c8))
    (try (have c8b2 : (t441 == t442) = false := by simpa using c8))
    (try (have c8b3 : ¬ (t441 = t442) := by simpa using c8))
    clear c8
    exact absurd H (by simp)
  ·
   rw [if_neg c5] at H
   have c5b0 : (t439 == t440) = false := by simpa using c5
   (try (have c5b1 : decide (t439 = t440) = false := by simpa using c5))
   (try (have c5b2 : (t439 == t440) = false := by simpa using c5))
   (try (have c5b3 : ¬ (t439 = t440) := by simpa using c5))
   clear c5
   exact absurd H (by simp)

/-- THE ONE PURE STATEMENT of gimballaw10_DbmTells: yours. -/
def gimballaw10_DbmTells.Pure : Prop := ∀ (l0 : List Int) (l1 : List Int), l0.length ≤ maxLen → l0.length * 8 ≤ 140737488351232 → (∀ x ∈ l0, (Lit.int .i64 x).wf = true) → l1.length ≤ maxLen → l1.length * 8 ≤ 140737488351232 → (∀ x ∈ l1, (Lit.int .i64 x).wf = true) → ∃ k, gimballaw10_DbmTells.f k l0 l1 = some true
theorem gimballaw10_DbmTells.walk (P : gimballaw10_DbmTells.Pure) (a0 : Option Addr) (len0 cap0 : Nat) (z0 : List Int) (a1 : Option Addr) (len1 cap1 : Nat) (z1 : List Int) (w : World) (w0 : (a0 = none ∧ len0 = 0 ∧ cap0 = 0 ∧ z0 = []) ∨ ∃ x, a0 = some x ∧ len0 ≤ cap0 ∧ cap0 ≤ maxLen ∧ z0.length = cap0 ∧ (∀ i, i < z0.length → w.cell? (x.add i) = some (.int .i64 (z0.getD i 0))) ∧ ∀ n ∈ z0, (Lit.int .i64 n).wf = true) (y0 : len0 * 8 ≤ 140737488351232) (w1 : (a1 = none ∧ len1 = 0 ∧ cap1 = 0 ∧ z1 = []) ∨ ∃ x, a1 = some x ∧ len1 ≤ cap1 ∧ cap1 ≤ maxLen ∧ z1.length = cap1 ∧ (∀ i, i < z1.length → w.cell? (x.add i) = some (.int .i64 (z1.getD i 0))) ∧ ∀ n ∈ z1, (Lit.int .i64 n).wf = true) (y1 : len1 * 8 ≤ 140737488351232) :
    Calls Try.prog 11 #[.slice a0 len0 cap0, .slice a1 len1 cap1] w fun e w' => e = .returned (.bool true) ∧ Below w.heap.size w w' := by
  obtain ⟨l0, rfl, hr0, hm0, hw0, hc0⟩ := ReadsInt.ofRowC w0
  obtain ⟨l1, rfl, hr1, hm1, hw1, hc1⟩ := ReadsInt.ofRowC w1
  obtain ⟨k, h⟩ := P l0 l1 hm0 y0 hw0 hm1 y1 hw1
  refine (gimballaw10_DbmTells.calls k _ _ l0 _ _ l1  w (Kd.C_of_reads (d := (0 : Int)) (h1 := fun _ => rfl) hr0) hc0 (Kd.C_of_reads (d := (0 : Int)) (h1 := fun _ => rfl) hr1) hc1 h).mono ?_
  rintro e w' ⟨rfl, hd⟩
  exact ⟨rfl, hd⟩

end Go.Proofs.Ytklignhpkojmhaa.P
