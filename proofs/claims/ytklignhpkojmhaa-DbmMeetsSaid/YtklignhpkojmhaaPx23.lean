-- PRINTED by print.py (a twelfth state) out of the translation. Not trusted: Lean checks it.
import Derived.Test.YtklignhpkojmhaaPx0
import Derived.Test.YtklignhpkojmhaaPx16
import Derived.Test.YtklignhpkojmhaaPx17
import Derived.Test.YtklignhpkojmhaaPx22
namespace Go.Proofs.Ytklignhpkojmhaa.P
open Go.RowKit Go.Proofs.YtklignhpkojmhaaW.PrintWords Go.Proofs.YtklignhpkojmhaaW.PrintLast Go.Proofs.YtklignhpkojmhaaW.PrintMore Go.Proofs.YtklignhpkojmhaaO
attribute [local go_sem] max2_int min2_int max_two min_two max_three min_three max_four min_four   -- for this text's walks alone
set_option linter.unusedVariables false
set_option linter.unusedSimpArgs false

/-! ### gimballaw10_DbmMeets: function 7 -/
mutual
def gimballaw10_DbmMeets.l0 : Nat → List Int → List Int → Int → Bool → Int → Option (Bool)
  | 0, _, _, _, _, _ => none
  | k + 1, x0, x1, x5, x6, x7 => if x7 < (x1.length : Int) then (if x6 = true then (if 0 ≤ x7 then (if (rd x1 x7) ≥ (-1099511627776) then (gimballaw10_DbmMeets.l0 k x0 x1 x5 (decide ((rd x1 x7) ≤ 1099511627776)) (wrap64 (x7 + 1))) else (gimballaw10_DbmMeets.l0 k x0 x1 x5 false (wrap64 (x7 + 1)))) else (none)) else (gimballaw10_DbmMeets.l0 k x0 x1 x5 false (wrap64 (x7 + 1)))) else (gimballaw10_DbmMeets.l1 k x0 x1 x5 x6 0)
def gimballaw10_DbmMeets.l1 : Nat → List Int → List Int → Int → Bool → Int → Option (Bool)
  | 0, _, _, _, _, _ => none
  | k + 1, x0, x1, x5, x6, x8 => if x6 = true then (gimballaw10_DbmMeets.j2 k x0 x1 x5 x6 x8 (decide (x8 < x5))) else (gimballaw10_DbmMeets.j2 k x0 x1 x5 x6 x8 false)
def gimballaw10_DbmMeets.j2 : Nat → List Int → List Int → Int → Bool → Int → Bool → Option (Bool)
  | 0, _, _, _, _, _, _ => none
  | k + 1, x0, x1, x5, x6, x8, x45 => if x45 = true then (gimballaw10_DbmMeets.l2 k x0 x1 x5 x6 x8 0) else ((dbm_Holds.f k x0 x1).bind fun t308 => (if (t308 == x6) = true then ((gimballaw10_awake.f k).bind fun t309 => (some t309)) else (some false)))
def gimballaw10_DbmMeets.l2 : Nat → List Int → List Int → Int → Bool → Int → Int → Option (Bool)
  | 0, _, _, _, _, _, _ => none
  | k + 1, x0, x1, x5, x6, x8, x9 => if x9 < x5 then (gimballaw10_DbmMeets.j4 k x0 x1 x5 x6 x8 x9 x6) else (gimballaw10_DbmMeets.j4 k x0 x1 x5 x6 x8 x9 false)
def gimballaw10_DbmMeets.j4 : Nat → List Int → List Int → Int → Bool → Int → Int → Bool → Option (Bool)
  | 0, _, _, _, _, _, _, _ => none
  | k + 1, x0, x1, x5, x6, x8, x9, x53 => if x53 = true then (if 0 ≤ (wrap64 (Int.tdiv x8 2)) then (if (wrap64 (Int.tdiv x8 2)) < (x1.length : Int) then (if 0 ≤ (wrap64 (Int.tdiv x9 2)) then (if (wrap64 (Int.tdiv x9 2)) < (x1.length : Int) then (if (Int.tmod x8 2) = 1 then (if (Int.tmod x9 2) = 1 then (if 0 ≤ (wrap64 ((wrap64 (x8 * x5)) + x9)) then (if (wrap64 ((wrap64 (x8 * x5)) + x9)) < (x0.length : Int) then ((gimballaw10_taken.f (rd x0 (wrap64 ((wrap64 (x8 * x5)) + x9)))).bind fun t313 => (gimballaw10_DbmMeets.l2 k x0 x1 x5 (decide ((wrap64 ((wrap64 (-(rd x1 (wrap64 (Int.tdiv x9 2))))) - (wrap64 (-(rd x1 (wrap64 (Int.tdiv x8 2))))))) ≤ t313)) x8 (wrap64 (x9 + 1)))) else (none)) else (none)) else (if 0 ≤ (wrap64 ((wrap64 (x8 * x5)) + x9)) then (if (wrap64 ((wrap64 (x8 * x5)) + x9)) < (x0.length : Int) then ((gimballaw10_taken.f (rd x0 (wrap64 ((wrap64 (x8 * x5)) + x9)))).bind fun t315 => (gimballaw10_DbmMeets.l2 k x0 x1 x5 (decide ((wrap64 ((rd x1 (wrap64 (Int.tdiv x9 2))) - (wrap64 (-(rd x1 (wrap64 (Int.tdiv x8 2))))))) ≤ t315)) x8 (wrap64 (x9 + 1)))) else (none)) else (none))) else (if (Int.tmod x9 2) = 1 then (if 0 ≤ (wrap64 ((wrap64 (x8 * x5)) + x9)) then (if (wrap64 ((wrap64 (x8 * x5)) + x9)) < (x0.length : Int) then ((gimballaw10_taken.f (rd x0 (wrap64 ((wrap64 (x8 * x5)) + x9)))).bind fun t317 => (gimballaw10_DbmMeets.l2 k x0 x1 x5 (decide ((wrap64 ((wrap64 (-(rd x1 (wrap64 (Int.tdiv x9 2))))) - (rd x1 (wrap64 (Int.tdiv x8 2))))) ≤ t317)) x8 (wrap64 (x9 + 1)))) else (none)) else (none)) else (if 0 ≤ (wrap64 ((wrap64 (x8 * x5)) + x9)) then (if (wrap64 ((wrap64 (x8 * x5)) + x9)) < (x0.length : Int) then ((gimballaw10_taken.f (rd x0 (wrap64 ((wrap64 (x8 * x5)) + x9)))).bind fun t319 => (gimballaw10_DbmMeets.l2 k x0 x1 x5 (decide ((wrap64 ((rd x1 (wrap64 (Int.tdiv x9 2))) - (rd x1 (wrap64 (Int.tdiv x8 2))))) ≤ t319)) x8 (wrap64 (x9 + 1)))) else (none)) else (none)))) else (none)) else (none)) else (none)) else (none)) else (gimballaw10_DbmMeets.l1 k x0 x1 x5 x6 (wrap64 (x8 + 1)))
end
def gimballaw10_DbmMeets.f (k : Nat) (l0 : List Int) (l1 : List Int) : Option (Bool) := (gimballaw10_nodes.f k l0).bind fun t305 => (gimballaw10_DbmMeets.l0 k l0 l1 t305 (t305 == (wrap64 (2 * (l1.length : Int)))) 0)
theorem gimballaw10_DbmMeets.mono_l : ∀ k, (∀ y0 y1 y2 y3 y4, LeO (gimballaw10_DbmMeets.l0 k y0 y1 y2 y3 y4) (gimballaw10_DbmMeets.l0 (k + 1) y0 y1 y2 y3 y4)) ∧ (∀ y0 y1 y2 y3 y4, LeO (gimballaw10_DbmMeets.l1 k y0 y1 y2 y3 y4) (gimballaw10_DbmMeets.l1 (k + 1) y0 y1 y2 y3 y4)) ∧ (∀ y0 y1 y2 y3 y4 y5, LeO (gimballaw10_DbmMeets.j2 k y0 y1 y2 y3 y4 y5) (gimballaw10_DbmMeets.j2 (k + 1) y0 y1 y2 y3 y4 y5)) ∧ (∀ y0 y1 y2 y3 y4 y5, LeO (gimballaw10_DbmMeets.l2 k y0 y1 y2 y3 y4 y5) (gimballaw10_DbmMeets.l2 (k + 1) y0 y1 y2 y3 y4 y5)) ∧ (∀ y0 y1 y2 y3 y4 y5 y6, LeO (gimballaw10_DbmMeets.j4 k y0 y1 y2 y3 y4 y5 y6) (gimballaw10_DbmMeets.j4 (k + 1) y0 y1 y2 y3 y4 y5 y6))
  | 0 => ⟨fun _ _ _ _ _ r h => by simp [gimballaw10_DbmMeets.l0] at h, fun _ _ _ _ _ r h => by simp [gimballaw10_DbmMeets.l1] at h, fun _ _ _ _ _ _ r h => by simp [gimballaw10_DbmMeets.j2] at h, fun _ _ _ _ _ _ r h => by simp [gimballaw10_DbmMeets.l2] at h, fun _ _ _ _ _ _ _ r h => by simp [gimballaw10_DbmMeets.j4] at h⟩
  | k + 1 => by
    obtain ⟨ih0, ih1, ih2, ih3, ih4⟩ := gimballaw10_DbmMeets.mono_l k
    refine ⟨?_, ?_, ?_, ?_, ?_⟩
    · intro y0 y1 y2 y3 y4
      unfold gimballaw10_DbmMeets.l0
      repeat' first
      | (with_reducible exact ih0 _ _ _ _ _)
      | (with_reducible exact ih1 _ _ _ _ _)
      | (with_reducible exact ih2 _ _ _ _ _ _)
      | (with_reducible exact ih3 _ _ _ _ _ _)
      | (with_reducible exact ih4 _ _ _ _ _ _ _)
      | (with_reducible exact dbm_Holds.mono _ _ _)
      | (with_reducible exact gimballaw10_awake.mono _)
      | (with_reducible exact gimballaw10_nodes.mono _ _)
      | (with_reducible exact LeO.refl _)
      | (with_reducible exact LeO.none _)
      | (with_reducible refine LeO.ite ?_ ?_)
      | (with_reducible refine LeO.bind ?_ (fun _ => ?_))
      | exact ih0 _ _ _ _ _
      | exact ih1 _ _ _ _ _
      | exact ih2 _ _ _ _ _ _
      | exact ih3 _ _ _ _ _ _
      | exact ih4 _ _ _ _ _ _ _
      | exact dbm_Holds.mono _ _ _
      | exact gimballaw10_awake.mono _
      | exact gimballaw10_nodes.mono _ _
      | exact LeO.none _
      | refine LeO.ite ?_ ?_
      | refine LeO.bind ?_ (fun _ => ?_)
    · intro y0 y1 y2 y3 y4
      unfold gimballaw10_DbmMeets.l1
      repeat' first
      | (with_reducible exact ih0 _ _ _ _ _)
      | (with_reducible exact ih1 _ _ _ _ _)
      | (with_reducible exact ih2 _ _ _ _ _ _)
      | (with_reducible exact ih3 _ _ _ _ _ _)
      | (with_reducible exact ih4 _ _ _ _ _ _ _)
      | (with_reducible exact dbm_Holds.mono _ _ _)
      | (with_reducible exact gimballaw10_awake.mono _)
      | (with_reducible exact gimballaw10_nodes.mono _ _)
      | (with_reducible exact LeO.refl _)
      | (with_reducible exact LeO.none _)
      | (with_reducible refine LeO.ite ?_ ?_)
      | (with_reducible refine LeO.bind ?_ (fun _ => ?_))
      | exact ih0 _ _ _ _ _
      | exact ih1 _ _ _ _ _
      | exact ih2 _ _ _ _ _ _
      | exact ih3 _ _ _ _ _ _
      | exact ih4 _ _ _ _ _ _ _
      | exact dbm_Holds.mono _ _ _
      | exact gimballaw10_awake.mono _
      | exact gimballaw10_nodes.mono _ _
      | exact LeO.none _
      | refine LeO.ite ?_ ?_
      | refine LeO.bind ?_ (fun _ => ?_)
    · intro y0 y1 y2 y3 y4 y5
      unfold gimballaw10_DbmMeets.j2
      repeat' first
      | (with_reducible exact ih0 _ _ _ _ _)
      | (with_reducible exact ih1 _ _ _ _ _)
      | (with_reducible exact ih2 _ _ _ _ _ _)
      | (with_reducible exact ih3 _ _ _ _ _ _)
      | (with_reducible exact ih4 _ _ _ _ _ _ _)
      | (with_reducible exact dbm_Holds.mono _ _ _)
      | (with_reducible exact gimballaw10_awake.mono _)
      | (with_reducible exact gimballaw10_nodes.mono _ _)
      | (with_reducible exact LeO.refl _)
      | (with_reducible exact LeO.none _)
      | (with_reducible refine LeO.ite ?_ ?_)
      | (with_reducible refine LeO.bind ?_ (fun _ => ?_))
      | exact ih0 _ _ _ _ _
      | exact ih1 _ _ _ _ _
      | exact ih2 _ _ _ _ _ _
      | exact ih3 _ _ _ _ _ _
      | exact ih4 _ _ _ _ _ _ _
      | exact dbm_Holds.mono _ _ _
      | exact gimballaw10_awake.mono _
      | exact gimballaw10_nodes.mono _ _
      | exact LeO.none _
      | refine LeO.ite ?_ ?_
      | refine LeO.bind ?_ (fun _ => ?_)
    · intro y0 y1 y2 y3 y4 y5
      unfold gimballaw10_DbmMeets.l2
      repeat' first
      | (with_reducible exact ih0 _ _ _ _ _)
      | (with_reducible exact ih1 _ _ _ _ _)
      | (with_reducible exact ih2 _ _ _ _ _ _)
      | (with_reducible exact ih3 _ _ _ _ _ _)
      | (with_reducible exact ih4 _ _ _ _ _ _ _)
      | (with_reducible exact dbm_Holds.mono _ _ _)
      | (with_reducible exact gimballaw10_awake.mono _)
      | (with_reducible exact gimballaw10_nodes.mono _ _)
      | (with_reducible exact LeO.refl _)
      | (with_reducible exact LeO.none _)
      | (with_reducible refine LeO.ite ?_ ?_)
      | (with_reducible refine LeO.bind ?_ (fun _ => ?_))
      | exact ih0 _ _ _ _ _
      | exact ih1 _ _ _ _ _
      | exact ih2 _ _ _ _ _ _
      | exact ih3 _ _ _ _ _ _
      | exact ih4 _ _ _ _ _ _ _
      | exact dbm_Holds.mono _ _ _
      | exact gimballaw10_awake.mono _
      | exact gimballaw10_nodes.mono _ _
      | exact LeO.none _
      | refine LeO.ite ?_ ?_
      | refine LeO.bind ?_ (fun _ => ?_)
    · intro y0 y1 y2 y3 y4 y5 y6
      unfold gimballaw10_DbmMeets.j4
      repeat' first
      | (with_reducible exact ih0 _ _ _ _ _)
      | (with_reducible exact ih1 _ _ _ _ _)
      | (with_reducible exact ih2 _ _ _ _ _ _)
      | (with_reducible exact ih3 _ _ _ _ _ _)
      | (with_reducible exact ih4 _ _ _ _ _ _ _)
      | (with_reducible exact dbm_Holds.mono _ _ _)
      | (with_reducible exact gimballaw10_awake.mono _)
      | (with_reducible exact gimballaw10_nodes.mono _ _)
      | (with_reducible exact LeO.refl _)
      | (with_reducible exact LeO.none _)
      | (with_reducible refine LeO.ite ?_ ?_)
      | (with_reducible refine LeO.bind ?_ (fun _ => ?_))
      | exact ih0 _ _ _ _ _
      | exact ih1 _ _ _ _ _
      | exact ih2 _ _ _ _ _ _
      | exact ih3 _ _ _ _ _ _
      | exact ih4 _ _ _ _ _ _ _
      | exact dbm_Holds.mono _ _ _
      | exact gimballaw10_awake.mono _
      | exact gimballaw10_nodes.mono _ _
      | exact LeO.none _
      | refine LeO.ite ?_ ?_
      | refine LeO.bind ?_ (fun _ => ?_)
theorem gimballaw10_DbmMeets.mono : ∀ a0 a1 k, LeO (gimballaw10_DbmMeets.f k a0 a1) (gimballaw10_DbmMeets.f (k + 1) a0 a1) := by
  intro a0 a1 k
  obtain ⟨ih0, ih1, ih2, ih3, ih4⟩ := gimballaw10_DbmMeets.mono_l k
  unfold gimballaw10_DbmMeets.f
  repeat' first
      | (with_reducible exact ih0 _ _ _ _ _)
      | (with_reducible exact ih1 _ _ _ _ _)
      | (with_reducible exact ih2 _ _ _ _ _ _)
      | (with_reducible exact ih3 _ _ _ _ _ _)
      | (with_reducible exact ih4 _ _ _ _ _ _ _)
      | (with_reducible exact dbm_Holds.mono _ _ _)
      | (with_reducible exact gimballaw10_awake.mono _)
      | (with_reducible exact gimballaw10_nodes.mono _ _)
      | (with_reducible exact LeO.refl _)
      | (with_reducible exact LeO.none _)
      | (with_reducible refine LeO.ite ?_ ?_)
      | (with_reducible refine LeO.bind ?_ (fun _ => ?_))
      | exact ih0 _ _ _ _ _
      | exact ih1 _ _ _ _ _
      | exact ih2 _ _ _ _ _ _
      | exact ih3 _ _ _ _ _ _
      | exact ih4 _ _ _ _ _ _ _
      | exact dbm_Holds.mono _ _ _
      | exact gimballaw10_awake.mono _
      | exact gimballaw10_nodes.mono _ _
      | exact LeO.none _
      | refine LeO.ite ?_ ?_
      | refine LeO.bind ?_ (fun _ => ?_)
set_option maxHeartbeats 8000000 in
set_option maxRecDepth 100000 in
theorem gimballaw10_DbmMeets.calls (k : Nat) (A0 : Option Addr) (c0 : Nat) (l0 : List Int) (A1 : Option Addr) (c1 : Nat) (l1 : List Int) (w : World) (hr0 : Kd.C (Kd.int .i64) w A0 l0.length l0) (hc0 : l0.length ≤ c0) (hr1 : Kd.C (Kd.int .i64) w A1 l1.length l1) (hc1 : l1.length ≤ c1) (h : gimballaw10_DbmMeets.f k l0 l1 = some true) :
    Calls Try.prog 7 #[.slice A0 l0.length c0, .slice A1 l1.length c1] w fun e w' => e = .returned (.bool true) ∧ Below w.heap.size w w' := by
  have HR0 := Aside0.mk hr0
  have HC0 := Aside0.mk hc0
  clear hr0 hc0
  have HR1 := Aside0.mk hr1
  have HC1 := Aside0.mk hc1
  clear hr1 hc1
  have HB := Aside0.mk (Below.refl w.heap.size w)
  have H : ((gimballaw10_nodes.f k l0).bind fun t305 => (gimballaw10_DbmMeets.l0 k l0 l1 t305 (t305 == (wrap64 (2 * (l1.length : Int)))) 0)) = some true := h
  clear h
  replace H := Option.bind_eq_some_iff.mp H
  obtain ⟨t305, A30, H⟩ := H
  replace H : (gimballaw10_DbmMeets.l0 k l0 l1 t305 (t305 == (wrap64 (2 * (l1.length : Int)))) 0) = some true := H
  have A3 := Aside0.mk A30
  clear A30
  have H' := Aside0.mk H
  clear H
  go_enter Try.func7, Try.ntmps7
  go_wp2_with (first | ((with_reducible refine gate_callee (f := 26) rfl ?_); refine goesL_ (some 13) rfl rfl Try.func26 (by kernel_rfl) rfl #[.slice A0 l0.length c0] rfl (by (try simp only [List.map_toArray, List.map_cons, List.map_nil]); first | done | rfl | (simp only [List.length_drop, List.length_take]; rfl)) ?_; (with_reducible refine (gimballaw10_nodes.calls k _ _ l0 t305 _ ?side1 ?side2 A3.out).mono ?_); (case side1 => repeat (first | exact HR0.out | (with_reducible refine Kd.C_alloc ?_ _) | (with_reducible refine Kd.C_drewN ?_ _) | (with_reducible refine Kd.C_drew ?_))); (case side2 => exact HC0.out); rintro e w' ⟨rfl, ⟨nd, rfl⟩⟩; refine ⟨_, rfl, ?_⟩))
  go_loopg [6, 7] k (fun kq v6 v7 w' => ∃ (x6_1 : Bool) (x7_1 : Int), v6 = .bool x6_1 ∧ v7 = .int .i64 x7_1 ∧ Aside0 (gimballaw10_DbmMeets.l0 kq l0 l1 t305 x6_1 x7_1 = some true) ∧ Aside0 (kq ≤ k) ∧ Aside0 (Below w.heap.size w w'))
  case atStart => exact ⟨((t305 == (wrap64 (2 * (l1.length : Int))))), (0), (by first | rfl | (simp; done) | (simp [*]; done)), (by first | rfl | (simp; done) | (simp [*]; done)), H', ⟨Nat.le_refl _⟩, ⟨by repeat (first | (with_reducible first | exact HB.out | apply below_alloc | apply pw_below_drewN | apply below_drew1) | exact HB.out)⟩⟩
  case round =>
   clear H'
   try clear c1
   try clear c2
   try clear p2
   obtain ⟨x6_1, x7_1, rfl, rfl, HA, HK1, HB⟩ := hrel
   cases gk with
   | zero => exact absurd HA.out (by simp [gimballaw10_DbmMeets.l0])
   | succ k1 =>
    have H := HA.out
    clear HA
    simp only [gimballaw10_DbmMeets.l0] at H
    by_cases c4 : x7_1 < (l1.length : Int)
    ·
     rw [if_pos c4] at H
     have c4b0 : decide (x7_1 < (l1.length : Int)) = true := decide_eq_true c4
     clear c4
     by_cases c5 : x6_1 = true
     ·
      subst c5
      have H1 : (if 0 ≤ x7_1 then (if (rd l1 x7_1) ≥ (-1099511627776) then (gimballaw10_DbmMeets.l0 k1 l0 l1 t305 (decide ((rd l1 x7_1) ≤ 1099511627776)) (wrap64 (x7_1 + 1))) else (gimballaw10_DbmMeets.l0 k1 l0 l1 t305 false (wrap64 (x7_1 + 1)))) else (none)) = some true := by rw [if_pos rfl] at H; exact H
      clear H
      have H := H1
      clear H1
      by_cases c6 : 0 ≤ x7_1
      ·
       rw [if_pos c6] at H
       have c6b0 : decide (0 ≤ x7_1) = true := decide_eq_true c6
       clear c6
       by_cases c7 : (rd l1 x7_1) ≥ (-1099511627776)
       ·
        rw [if_pos c7] at H
        have c7b0 : decide ((-1099511627776) ≤ (rd l1 x7_1)) = true := decide_eq_true c7
        clear c7
        have H' := Aside0.mk H
        clear H
        have p306 : 0 ≤ (x7_1 : Int) := of_decide_eq_true (by first | (with_reducible assumption) | assumption)
        have q306 : x7_1 < (l1.length : Int) := of_decide_eq_true (by first | (with_reducible assumption) | assumption)
        obtain ⟨ad306, e306, hx306_0⟩ := Kd.at_int HR1.out x7_1 p306 q306
        cases e306
        replace hx306_0 := (HB.out.cell (World.block_lt_of_cell? w _ hx306_0)).trans hx306_0
        replace p306 := eq_true p306
        replace q306 := eq_true q306
        have p307 : 0 ≤ (x7_1 : Int) := of_decide_eq_true (by first | (with_reducible assumption) | assumption)
        have q307 : x7_1 < (l1.length : Int) := of_decide_eq_true (by first | (with_reducible assumption) | assumption)
        obtain ⟨ad307, e307, hx307_0⟩ := Kd.at_int HR1.out x7_1 p307 q307
        obtain rfl : ad306 = ad307 := (by injection e307)
        replace hx307_0 := (HB.out.cell (World.block_lt_of_cell? w _ hx307_0)).trans hx307_0
        replace p307 := eq_true p307
        replace q307 := eq_true q307
        go_wp2
        go_roundg k1
        case measure => have := HK1.out; omega
        case rel => exact ⟨(decide ((rd l1 x7_1) ≤ 1099511627776)), (wrap64 (x7_1 + 1)), (by first | rfl | (simp; done) | (simp [*]; done)), (by first | rfl | (simp; done) | (simp [*]; done)), H', ⟨by have := HK1.out; omega⟩, ⟨by repeat (first | (with_reducible first | exact HB.out | apply below_alloc | apply pw_below_drewN | apply below_drew1) | exact HB.out)⟩⟩
       ·
        rw [if_neg c7] at H
        have c7b0 : decide ((-1099511627776) ≤ (rd l1 x7_1)) = false := decide_eq_false c7
        clear c7
        have H' := Aside0.mk H
        clear H
        have p306 : 0 ≤ (x7_1 : Int) := of_decide_eq_true (by first | (with_reducible assumption) | assumption)
        have q306 : x7_1 < (l1.length : Int) := of_decide_eq_true (by first | (with_reducible assumption) | assumption)
        obtain ⟨ad306, e306, hx306_0⟩ := Kd.at_int HR1.out x7_1 p306 q306
        cases e306
        replace hx306_0 := (HB.out.cell (World.block_lt_of_cell? w _ hx306_0)).trans hx306_0
        replace p306 := eq_true p306
        replace q306 := eq_true q306
        go_wp2
        go_roundg k1
        case measure => have := HK1.out; omega
        case rel => exact ⟨(false), (wrap64 (x7_1 + 1)), (by first | rfl | (simp; done) | (simp [*]; done)), (by first | rfl | (simp; done) | (simp [*]; done)), H', ⟨by have := HK1.out; omega⟩, ⟨by repeat (first | (with_reducible first | exact HB.out | apply below_alloc | apply pw_below_drewN | apply below_drew1) | exact HB.out)⟩⟩
      ·
       rw [if_neg c6] at H
       exact absurd H (by simp)
     ·
      replace c5 := Bool.eq_false_iff.mpr c5
      subst c5
      have H1 : (gimballaw10_DbmMeets.l0 k1 l0 l1 t305 false (wrap64 (x7_1 + 1))) = some true := by rw [if_neg (show ¬ (false = true) by decide)] at H; exact H
      clear H
      have H := H1
      clear H1
      have H' := Aside0.mk H
      clear H
      go_wp2
      go_roundg k1
      case measure => have := HK1.out; omega
      case rel => exact ⟨(false), (wrap64 (x7_1 + 1)), (by first | rfl | (simp; done) | (simp [*]; done)), (by first | rfl | (simp; done) | (simp [*]; done)), H', ⟨by have := HK1.out; omega⟩, ⟨by repeat (first | (with_reducible first | exact HB.out | apply below_alloc | apply pw_below_drewN | apply below_drew1) | exact HB.out)⟩⟩
    ·
     rw [if_neg c4] at H
     have c4b0 : decide (x7_1 < (l1.length : Int)) = false := decide_eq_false c4
     clear c4
     have H' := Aside0.mk H
     clear H
     go_wp2
     go_loopg [6, 8] k1 (fun kq v6 v8 w' => ∃ (x6_2 : Bool) (x8_2 : Int), v6 = .bool x6_2 ∧ v8 = .int .i64 x8_2 ∧ Aside0 (gimballaw10_DbmMeets.l1 kq l0 l1 t305 x6_2 x8_2 = some true) ∧ Aside0 (kq ≤ k1) ∧ Aside0 (Below w.heap.size w w'))
     case atStart => exact ⟨(x6_1), (0), (by first | rfl | (simp; done) | (simp [*]; done)), (by first | rfl | (simp; done) | (simp [*]; done)), H', ⟨Nat.le_refl _⟩, ⟨by repeat (first | (with_reducible first | exact HB.out | apply below_alloc | apply pw_below_drewN | apply below_drew1) | exact HB.out)⟩⟩
     case round =>
      clear H'
      try clear c1
      try clear c2
      try clear p2
      try clear p3
      try clear q3
      try clear hx3
      try clear c4
      try clear c4b0
      try clear c5
      try clear c6
      try clear c6b0
      try clear p6
      try clear c7
      try clear c7b0
      try clear hx306_0
      try clear hx307_0
      try clear p2
      try clear p306
      try clear p307
      try clear q306
      try clear q307
      obtain ⟨x6_2, x8_2, rfl, rfl, HA, HK2, HB⟩ := hrel
      cases gk with
      | zero => exact absurd HA.out (by simp [gimballaw10_DbmMeets.l1])
      | succ k2 =>
       have H := HA.out
       clear HA
       simp only [gimballaw10_DbmMeets.l1] at H
       have HC8 := Aside0.mk H
       clear H
       go_upto_region 8 with (fail)
       go_cut [45] (fun v45 wc => ∃ (kq : Nat) (x45_7 : Bool), v45 = .bool x45_7 ∧ Aside0 (gimballaw10_DbmMeets.j2 kq l0 l1 t305 x6_2 x8_2 x45_7 = some true) ∧ Aside0 (kq ≤ k2) ∧ Aside0 (Below w.heap.size w wc))
       case first =>
        have H := HC8.out
        clear HC8
        by_cases c9 : x6_2 = true
        ·
         subst c9
         have H1 : (gimballaw10_DbmMeets.j2 k2 l0 l1 t305 true x8_2 (decide (x8_2 < t305))) = some true := by rw [if_pos rfl] at H; exact H
         clear H
         have H := H1
         clear H1
         have H' := Aside0.mk H
         clear H
         go_wp2
         go_meet
         case rel => exact ⟨_, (decide (x8_2 < t305)), (by first | rfl | (simp; done) | (simp [*]; done)), H', ⟨by have := HK1.out; have := HK2.out; first | omega | exact Nat.le_refl _⟩, ⟨by repeat (first | (with_reducible first | exact HB.out | apply below_alloc | apply pw_below_drewN | apply below_drew1) | exact HB.out)⟩⟩
        ·
         replace c9 := Bool.eq_false_iff.mpr c9
         subst c9
         have H1 : (gimballaw10_DbmMeets.j2 k2 l0 l1 t305 false x8_2 false) = some true := by rw [if_neg (show ¬ (false = true) by decide)] at H; exact H
         clear H
         have H := H1
         clear H1
         have H' := Aside0.mk H
         clear H
         go_wp2
         go_meet
         case rel => exact ⟨_, (false), (by first | rfl | (simp; done) | (simp [*]; done)), H', ⟨by have := HK1.out; have := HK2.out; first | omega | exact Nat.le_refl _⟩, ⟨by repeat (first | (with_reducible first | exact HB.out | apply below_alloc | apply pw_below_drewN | apply below_drew1) | exact HB.out)⟩⟩
       case rest =>
        clear HC8
        try clear c1
        try clear c2
        try clear p2
        try clear p3
        try clear q3
        try clear hx3
        try clear c4
        try clear c4b0
        try clear c5
        try clear c6
        try clear c6b0
        try clear p6
        try clear c7
        try clear c7b0
        try clear c9
        try clear hx306_0
        try clear hx307_0
        try clear p2
        try clear p3
        try clear p306
        try clear p307
        try clear p6
        try clear q3
        try clear q306
        try clear q307
        obtain ⟨kq, x45_7, rfl, HA, HJ7, HB⟩ := hcut
        cases kq with
        | zero => exact absurd HA.out (by simp [gimballaw10_DbmMeets.j2])
        | succ kj7 =>
         have H := HA.out
         clear HA
         simp only [gimballaw10_DbmMeets.j2] at H
         by_cases c10 : x45_7 = true
         ·
          subst c10
          have H1 : (gimballaw10_DbmMeets.l2 kj7 l0 l1 t305 x6_2 x8_2 0) = some true := by rw [if_pos rfl] at H; exact H
          clear H
          have H := H1
          clear H1
          have H' := Aside0.mk H
          clear H
          go_wp2
          go_loopg [6, 9] kj7 (fun kq v6 v9 w' => ∃ (x6_4 : Bool) (x9_4 : Int), v6 = .bool x6_4 ∧ v9 = .int .i64 x9_4 ∧ Aside0 (gimballaw10_DbmMeets.l2 kq l0 l1 t305 x6_4 x8_2 x9_4 = some true) ∧ Aside0 (kq ≤ kj7) ∧ Aside0 (Below w.heap.size w w'))
          case atStart => exact ⟨(x6_2), (0), (by first | rfl | (simp; done) | (simp [*]; done)), (by first | rfl | (simp; done) | (simp [*]; done)), H', ⟨Nat.le_refl _⟩, ⟨by repeat (first | (with_reducible first | exact HB.out | apply below_alloc | apply pw_below_drewN | apply below_drew1) | exact HB.out)⟩⟩
          case round =>
           clear H'
           try clear c1
           try clear c2
           try clear p2
           try clear p3
           try clear q3
           try clear hx3
           try clear c4
           try clear c4b0
           try clear c5
           try clear c6
           try clear c6b0
           try clear p6
           try clear c7
           try clear c7b0
           try clear c9
           try clear c10
           try clear hx306_0
           try clear hx307_0
           try clear p2
           try clear p3
           try clear p306
           try clear p307
           try clear p6
           try clear q3
           try clear q306
           try clear q307
           obtain ⟨x6_4, x9_4, rfl, rfl, HA, HK4, HB⟩ := hrel
           cases gk with
           | zero => exact absurd HA.out (by simp [gimballaw10_DbmMeets.l2])
           | succ k4 =>
            have H := HA.out
            clear HA
            simp only [gimballaw10_DbmMeets.l2] at H
            have HC11 := Aside0.mk H
            clear H
            go_upto_region 11 with (fail)
            go_cut [53] (fun v53 wc => ∃ (kq : Nat) (x53_10 : Bool), v53 = .bool x53_10 ∧ Aside0 (gimballaw10_DbmMeets.j4 kq l0 l1 t305 x6_4 x8_2 x9_4 x53_10 = some true) ∧ Aside0 (kq ≤ k4) ∧ Aside0 (Below w.heap.size w wc))
            case first =>
             have H := HC11.out
             clear HC11
             by_cases c12 : x9_4 < t305
             ·
              rw [if_pos c12] at H
              have c12b0 : decide (x9_4 < t305) = true := decide_eq_true c12
              clear c12
              (first | rw [c12b0] | (simp only [i64_w, i32_w]; rw [c12b0]) | skip)
              have H' := Aside0.mk H
              clear H
              go_wp2
              go_meet
              case rel => exact ⟨_, (x6_4), (by first | rfl | (simp; done) | (simp [*]; done)), H', ⟨by have := HK1.out; have := HK2.out; have := HJ7.out; have := HK4.out; first | omega | exact Nat.le_refl _⟩, ⟨by repeat (first | (with_reducible first | exact HB.out | apply below_alloc | apply pw_below_drewN | apply below_drew1) | exact HB.out)⟩⟩
             ·
              rw [if_neg c12] at H
              have c12b0 : decide (x9_4 < t305) = false := decide_eq_false c12
              clear c12
              (first | rw [c12b0] | (simp only [i64_w, i32_w]; rw [c12b0]) | skip)
              have H' := Aside0.mk H
              clear H
              go_wp2
              go_meet
              case rel => exact ⟨_, (false), (by first | rfl | (simp; done) | (simp [*]; done)), H', ⟨by have := HK1.out; have := HK2.out; have := HJ7.out; have := HK4.out; first | omega | exact Nat.le_refl _⟩, ⟨by repeat (first | (with_reducible first | exact HB.out | apply below_alloc | apply pw_below_drewN | apply below_drew1) | exact HB.out)⟩⟩
            case rest =>
             clear HC11
             try clear c1
             try clear c2
             try clear p2
             try clear p3
             try clear q3
             try clear hx3
             try clear c4
             try clear c4b0
             try clear c5
             try clear c6
             try clear c6b0
             try clear p6
             try clear c7
             try clear c7b0
             try clear c9
             try clear c10
             try clear c12
             try clear c12b0
             try clear hx306_0
             try clear hx307_0
             try clear p2
             try clear p3
             try clear p306
             try clear p307
             try clear p6
             try clear q3
             try clear q306
             try clear q307
             obtain ⟨kq, x53_10, rfl, HA, HJ10, HB⟩ := hcut
             cases kq with
             | zero => exact absurd HA.out (by simp [gimballaw10_DbmMeets.j4])
             | succ kj10 =>
              have H := HA.out
              clear HA
              simp only [gimballaw10_DbmMeets.j4] at H
              by_cases c13 : x53_10 = true
              ·
               subst c13
               have H1 : (if 0 ≤ (wrap64 (Int.tdiv x8_2 2)) then (if (wrap64 (Int.tdiv x8_2 2)) < (l1.length : Int) then (if 0 ≤ (wrap64 (Int.tdiv x9_4 2)) then (if (wrap64 (Int.tdiv x9_4 2)) < (l1.length : Int) then (if (Int.tmod x8_2 2) = 1 then (if (Int.tmod x9_4 2) = 1 then (if 0 ≤ (wrap64 ((wrap64 (x8_2 * t305)) + x9_4)) then (if (wrap64 ((wrap64 (x8_2 * t305)) + x9_4)) < (l0.length : Int) then ((gimballaw10_taken.f (rd l0 (wrap64 ((wrap64 (x8_2 * t305)) + x9_4)))).bind fun t313 => (gimballaw10_DbmMeets.l2 kj10 l0 l1 t305 (decide ((wrap64 ((wrap64 (-(rd l1 (wrap64 (Int.tdiv x9_4 2))))) - (wrap64 (-(rd l1 (wrap64 (Int.tdiv x8_2 2))))))) ≤ t313)) x8_2 (wrap64 (x9_4 + 1)))) else (none)) else (none)) else (if 0 ≤ (wrap64 ((wrap64 (x8_2 * t305)) + x9_4)) then (if (wrap64 ((wrap64 (x8_2 * t305)) + x9_4)) < (l0.length : Int) then ((gimballaw10_taken.f (rd l0 (wrap64 ((wrap64 (x8_2 * t305)) + x9_4)))).bind fun t315 => (gimballaw10_DbmMeets.l2 kj10 l0 l1 t305 (decide ((wrap64 ((rd l1 (wrap64 (Int.tdiv x9_4 2))) - (wrap64 (-(rd l1 (wrap64 (Int.tdiv x8_2 2))))))) ≤ t315)) x8_2 (wrap64 (x9_4 + 1)))) else (none)) else (none))) else (if (Int.tmod x9_4 2) = 1 then (if 0 ≤ (wrap64 ((wrap64 (x8_2 * t305)) + x9_4)) then (if (wrap64 ((wrap64 (x8_2 * t305)) + x9_4)) < (l0.length : Int) then ((gimballaw10_taken.f (rd l0 (wrap64 ((wrap64 (x8_2 * t305)) + x9_4)))).bind fun t317 => (gimballaw10_DbmMeets.l2 kj10 l0 l1 t305 (decide ((wrap64 ((wrap64 (-(rd l1 (wrap64 (Int.tdiv x9_4 2))))) - (rd l1 (wrap64 (Int.tdiv x8_2 2))))) ≤ t317)) x8_2 (wrap64 (x9_4 + 1)))) else (none)) else (none)) else (if 0 ≤ (wrap64 ((wrap64 (x8_2 * t305)) + x9_4)) then (if (wrap64 ((wrap64 (x8_2 * t305)) + x9_4)) < (l0.length : Int) then ((gimballaw10_taken.f (rd l0 (wrap64 ((wrap64 (x8_2 * t305)) + x9_4)))).bind fun t319 => (gimballaw10_DbmMeets.l2 kj10 l0 l1 t305 (decide ((wrap64 ((rd l1 (wrap64 (Int.tdiv x9_4 2))) - (rd l1 (wrap64 (Int.tdiv x8_2 2))))) ≤ t319)) x8_2 (wrap64 (x9_4 + 1)))) else (none)) else (none)))) else (none)) else (none)) else (none)) else (none)) = some true := by rw [if_pos rfl] at H; exact H
               clear H
               have H := H1
               clear H1
               obtain ⟨ji14, hji14⟩ : ∃ j_ : Int, (wrap64 (Int.tdiv x8_2 2)) = j_ := ⟨_, rfl⟩
               replace H : (if 0 ≤ (ji14) then (if (ji14) < (l1.length : Int) then (if 0 ≤ (wrap64 (Int.tdiv x9_4 2)) then (if (wrap64 (Int.tdiv x9_4 2)) < (l1.length : Int) then (if (Int.tmod x8_2 2) = 1 then (if (Int.tmod x9_4 2) = 1 then (if 0 ≤ (wrap64 ((wrap64 (x8_2 * t305)) + x9_4)) then (if (wrap64 ((wrap64 (x8_2 * t305)) + x9_4)) < (l0.length : Int) then ((gimballaw10_taken.f (rd l0 (wrap64 ((wrap64 (x8_2 * t305)) + x9_4)))).bind fun t313 => (gimballaw10_DbmMeets.l2 kj10 l0 l1 t305 (decide ((wrap64 ((wrap64 (-(rd l1 (wrap64 (Int.tdiv x9_4 2))))) - (wrap64 (-(rd l1 (ji14)))))) ≤ t313)) x8_2 (wrap64 (x9_4 + 1)))) else (none)) else (none)) else (if 0 ≤ (wrap64 ((wrap64 (x8_2 * t305)) + x9_4)) then (if (wrap64 ((wrap64 (x8_2 * t305)) + x9_4)) < (l0.length : Int) then ((gimballaw10_taken.f (rd l0 (wrap64 ((wrap64 (x8_2 * t305)) + x9_4)))).bind fun t315 => (gimballaw10_DbmMeets.l2 kj10 l0 l1 t305 (decide ((wrap64 ((rd l1 (wrap64 (Int.tdiv x9_4 2))) - (wrap64 (-(rd l1 (ji14)))))) ≤ t315)) x8_2 (wrap64 (x9_4 + 1)))) else (none)) else (none))) else (if (Int.tmod x9_4 2) = 1 then (if 0 ≤ (wrap64 ((wrap64 (x8_2 * t305)) + x9_4)) then (if (wrap64 ((wrap64 (x8_2 * t305)) + x9_4)) < (l0.length : Int) then ((gimballaw10_taken.f (rd l0 (wrap64 ((wrap64 (x8_2 * t305)) + x9_4)))).bind fun t317 => (gimballaw10_DbmMeets.l2 kj10 l0 l1 t305 (decide ((wrap64 ((wrap64 (-(rd l1 (wrap64 (Int.tdiv x9_4 2))))) - (rd l1 (ji14)))) ≤ t317)) x8_2 (wrap64 (x9_4 + 1)))) else (none)) else (none)) else (if 0 ≤ (wrap64 ((wrap64 (x8_2 * t305)) + x9_4)) then (if (wrap64 ((wrap64 (x8_2 * t305)) + x9_4)) < (l0.length : Int) then ((gimballaw10_taken.f (rd l0 (wrap64 ((wrap64 (x8_2 * t305)) + x9_4)))).bind fun t319 => (gimballaw10_DbmMeets.l2 kj10 l0 l1 t305 (decide ((wrap64 ((rd l1 (wrap64 (Int.tdiv x9_4 2))) - (rd l1 (ji14)))) ≤ t319)) x8_2 (wrap64 (x9_4 + 1)))) else (none)) else (none)))) else (none)) else (none)) else (none)) else (none)) = some true := by first | (rw [hji14] at H; exact H) | (simp only [hji14] at H ⊢; exact H)
               have hji14w : (IntKind.i64.wrap (Int.tdiv x8_2 2)) = ji14 := (i64_w _).trans hji14
               by_cases c15 : 0 ≤ (ji14)
               ·
                rw [if_pos c15] at H
                have c15b0 : decide (0 ≤ (ji14)) = true := decide_eq_true c15
                clear c15
                by_cases c16 : (ji14) < (l1.length : Int)
                ·
                 rw [if_pos c16] at H
                 have c16b0 : decide ((ji14) < (l1.length : Int)) = true := decide_eq_true c16
                 clear c16
                 obtain ⟨ji17, hji17⟩ : ∃ j_ : Int, (wrap64 (Int.tdiv x9_4 2)) = j_ := ⟨_, rfl⟩
                 replace H : (if 0 ≤ (ji17) then (if (ji17) < (l1.length : Int) then (if (Int.tmod x8_2 2) = 1 then (if (Int.tmod x9_4 2) = 1 then (if 0 ≤ (wrap64 ((wrap64 (x8_2 * t305)) + x9_4)) then (if (wrap64 ((wrap64 (x8_2 * t305)) + x9_4)) < (l0.length : Int) then ((gimballaw10_taken.f (rd l0 (wrap64 ((wrap64 (x8_2 * t305)) + x9_4)))).bind fun t313 => (gimballaw10_DbmMeets.l2 kj10 l0 l1 t305 (decide ((wrap64 ((wrap64 (-(rd l1 (ji17)))) - (wrap64 (-(rd l1 (ji14)))))) ≤ t313)) x8_2 (wrap64 (x9_4 + 1)))) else (none)) else (none)) else (if 0 ≤ (wrap64 ((wrap64 (x8_2 * t305)) + x9_4)) then (if (wrap64 ((wrap64 (x8_2 * t305)) + x9_4)) < (l0.length : Int) then ((gimballaw10_taken.f (rd l0 (wrap64 ((wrap64 (x8_2 * t305)) + x9_4)))).bind fun t315 => (gimballaw10_DbmMeets.l2 kj10 l0 l1 t305 (decide ((wrap64 ((rd l1 (ji17)) - (wrap64 (-(rd l1 (ji14)))))) ≤ t315)) x8_2 (wrap64 (x9_4 + 1)))) else (none)) else (none))) else (if (Int.tmod x9_4 2) = 1 then (if 0 ≤ (wrap64 ((wrap64 (x8_2 * t305)) + x9_4)) then (if (wrap64 ((wrap64 (x8_2 * t305)) + x9_4)) < (l0.length : Int) then ((gimballaw10_taken.f (rd l0 (wrap64 ((wrap64 (x8_2 * t305)) + x9_4)))).bind fun t317 => (gimballaw10_DbmMeets.l2 kj10 l0 l1 t305 (decide ((wrap64 ((wrap64 (-(rd l1 (ji17)))) - (rd l1 (ji14)))) ≤ t317)) x8_2 (wrap64 (x9_4 + 1)))) else (none)) else (none)) else (if 0 ≤ (wrap64 ((wrap64 (x8_2 * t305)) + x9_4)) then (if (wrap64 ((wrap64 (x8_2 * t305)) + x9_4)) < (l0.length : Int) then ((gimballaw10_taken.f (rd l0 (wrap64 ((wrap64 (x8_2 * t305)) + x9_4)))).bind fun t319 => (gimballaw10_DbmMeets.l2 kj10 l0 l1 t305 (decide ((wrap64 ((rd l1 (ji17)) - (rd l1 (ji14)))) ≤ t319)) x8_2 (wrap64 (x9_4 + 1)))) else (none)) else (none)))) else (none)) else (none)) = some true := by first | (rw [hji17] at H; exact H) | (simp only [hji17] at H ⊢; exact H)
                 have hji17w : (IntKind.i64.wrap (Int.tdiv x9_4 2)) = ji17 := (i64_w _).trans hji17
                 by_cases c18 : 0 ≤ (ji17)
                 ·
                  rw [if_pos c18] at H
                  have c18b0 : decide (0 ≤ (ji17)) = true := decide_eq_true c18
                  clear c18
                  by_cases c19 : (ji17) < (l1.length : Int)
                  ·
                   rw [if_pos c19] at H
                   have c19b0 : decide ((ji17) < (l1.length : Int)) = true := decide_eq_true c19
                   clear c19
                   by_cases c20 : (Int.tmod x8_2 2) = 1
                   ·
                    rw [if_pos c20] at H
                    have c20b0 : ((Int.tmod x8_2 2) == 1) = true := beq_iff_eq.mpr c20
                    have c20b1 : ((Int.tmod x8_2 2) != 1) = false := bne_eq_false_iff_eq.mpr c20
                    clear c20
                    by_cases c21 : (Int.tmod x9_4 2) = 1
                    ·
                     rw [if_pos c21] at H
                     have c21b0 : ((Int.tmod x9_4 2) == 1) = true := beq_iff_eq.mpr c21
                     have c21b1 : ((Int.tmod x9_4 2) != 1) = false := bne_eq_false_iff_eq.mpr c21
                     clear c21
                     obtain ⟨ji22, hji22⟩ : ∃ j_ : Int, (wrap64 ((wrap64 (x8_2 * t305)) + x9_4)) = j_ := ⟨_, rfl⟩
                     replace H : (if 0 ≤ (ji22) then (if (ji22) < (l0.length : Int) then ((gimballaw10_taken.f (rd l0 (ji22))).bind fun t313 => (gimballaw10_DbmMeets.l2 kj10 l0 l1 t305 (decide ((wrap64 ((wrap64 (-(rd l1 (ji17)))) - (wrap64 (-(rd l1 (ji14)))))) ≤ t313)) x8_2 (wrap64 (x9_4 + 1)))) else (none)) else (none)) = some true := by first | (rw [hji22] at H; exact H) | (simp only [hji22] at H ⊢; exact H)
                     have hji22w : (IntKind.i64.wrap ((wrap64 (x8_2 * t305)) + x9_4)) = ji22 := (i64_w _).trans hji22
                     by_cases c23 : 0 ≤ (ji22)
                     ·
                      rw [if_pos c23] at H
                      have c23b0 : decide (0 ≤ (ji22)) = true := decide_eq_true c23
                      clear c23
                      by_cases c24 : (ji22) < (l0.length : Int)
                      ·
                       rw [if_pos c24] at H
                       have c24b0 : decide ((ji22) < (l0.length : Int)) = true := decide_eq_true c24
                       clear c24
                       replace H := Option.bind_eq_some_iff.mp H
                       obtain ⟨t313, A250, H⟩ := H
                       replace H : (gimballaw10_DbmMeets.l2 kj10 l0 l1 t305 (decide ((wrap64 ((wrap64 (-(rd l1 (ji17)))) - (wrap64 (-(rd l1 (ji14)))))) ≤ t313)) x8_2 (wrap64 (x9_4 + 1))) = some true := H
                       have A25 := Aside0.mk A250
                       clear A250
                       have H' := Aside0.mk H
                       clear H
                       have p310 : 0 ≤ ((ji14) : Int) := of_decide_eq_true (by first | (with_reducible assumption) | assumption)
                       have q310 : (ji14) < (l1.length : Int) := of_decide_eq_true (by first | (with_reducible assumption) | assumption)
                       obtain ⟨ad310, e310, hx310_0⟩ := Kd.at_int HR1.out (ji14) p310 q310
                       cases e310
                       replace hx310_0 := (HB.out.cell (World.block_lt_of_cell? w _ hx310_0)).trans hx310_0
                       replace p310 := eq_true p310
                       replace q310 := eq_true q310
                       have p311 : 0 ≤ ((ji17) : Int) := of_decide_eq_true (by first | (with_reducible assumption) | assumption)
                       have q311 : (ji17) < (l1.length : Int) := of_decide_eq_true (by first | (with_reducible assumption) | assumption)
                       obtain ⟨ad311, e311, hx311_0⟩ := Kd.at_int HR1.out (ji17) p311 q311
                       obtain rfl : ad310 = ad311 := (by injection e311)
                       replace hx311_0 := (HB.out.cell (World.block_lt_of_cell? w _ hx311_0)).trans hx311_0
                       replace p311 := eq_true p311
                       replace q311 := eq_true q311
                       have p312 : 0 ≤ ((ji22) : Int) := of_decide_eq_true (by first | (with_reducible assumption) | assumption)
                       have q312 : (ji22) < (l0.length : Int) := of_decide_eq_true (by first | (with_reducible assumption) | assumption)
                       obtain ⟨ad312, e312, hx312_0⟩ := Kd.at_int HR0.out (ji22) p312 q312
                       cases e312
                       replace hx312_0 := (HB.out.cell (World.block_lt_of_cell? w _ hx312_0)).trans hx312_0
                       replace p312 := eq_true p312
                       replace q312 := eq_true q312
                       go_wp2_with (first | ((with_reducible refine gate_callee (f := 27) rfl ?_); refine goesL_ (some 87) rfl rfl Try.func27 (by kernel_rfl) rfl #[.int .i64 (rd l0 (ji22))] rfl (by (try simp only [List.map_toArray, List.map_cons, List.map_nil]); first | done | (simp only [hji22]; rfl) | rfl | (simp only [List.length_drop, List.length_take]; rfl)) ?_; (with_reducible refine (gimballaw10_taken.calls (rd l0 (ji22)) t313 _ A25.out).mono ?_); rintro e w' ⟨rfl, ⟨nd, rfl⟩⟩; refine ⟨_, rfl, ?_⟩))
                       go_roundg kj10
                       case measure => have := HK1.out; have := HK2.out; have := HJ7.out; have := HK4.out; have := HJ10.out; omega
                       case rel => exact ⟨(decide ((wrap64 ((wrap64 (-(rd l1 (ji17)))) - (wrap64 (-(rd l1 (ji14)))))) ≤ t313)), (wrap64 (x9_4 + 1)), (by first | rfl | (simp; done) | (simp only [← hji14, ← hji17] <;> (first | rfl | simp)) | (simp [*]; done)), (by first | rfl | (simp; done) | (simp [*]; done)), H', ⟨by have := HK1.out; have := HK2.out; have := HJ7.out; have := HK4.out; have := HJ10.out; omega⟩, ⟨by repeat (first | (with_reducible first | exact HB.out | apply below_alloc | apply pw_below_drewN | apply below_drew1) | exact HB.out)⟩⟩
                      ·
                       rw [if_neg c24] at H
                       exact absurd H (by simp)
                     ·
                      rw [if_neg c23] at H
                      exact absurd H (by simp)
                    ·
                     rw [if_neg c21] at H
                     have c21b0 : ((Int.tmod x9_4 2) == 1) = false := beq_eq_false_iff_ne.mpr c21
                     have c21b1 : ((Int.tmod x9_4 2) != 1) = true := bne_iff_ne.mpr c21
                     obtain ⟨ji26, hji26⟩ : ∃ j_ : Int, (wrap64 ((wrap64 (x8_2 * t305)) + x9_4)) = j_ := ⟨_, rfl⟩
                     replace H : (if 0 ≤ (ji26) then (if (ji26) < (l0.length : Int) then ((gimballaw10_taken.f (rd l0 (ji26))).bind fun t315 => (gimballaw10_DbmMeets.l2 kj10 l0 l1 t305 (decide ((wrap64 ((rd l1 (ji17)) - (wrap64 (-(rd l1 (ji14)))))) ≤ t315)) x8_2 (wrap64 (x9_4 + 1)))) else (none)) else (none)) = some true := by first | (rw [hji26] at H; exact H) | (simp only [hji26] at H ⊢; exact H)
                     have hji26w : (IntKind.i64.wrap ((wrap64 (x8_2 * t305)) + x9_4)) = ji26 := (i64_w _).trans hji26
                     by_cases c27 : 0 ≤ (ji26)
                     ·
                      rw [if_pos c27] at H
                      have c27b0 : decide (0 ≤ (ji26)) = true := decide_eq_true c27
                      clear c27
                      by_cases c28 : (ji26) < (l0.length : Int)
                      ·
                       rw [if_pos c28] at H
                       have c28b0 : decide ((ji26) < (l0.length : Int)) = true := decide_eq_true c28
                       clear c28
                       replace H := Option.bind_eq_some_iff.mp H
                       obtain ⟨t315, A290, H⟩ := H
                       replace H : (gimballaw10_DbmMeets.l2 kj10 l0 l1 t305 (decide ((wrap64 ((rd l1 (ji17)) - (wrap64 (-(rd l1 (ji14)))))) ≤ t315)) x8_2 (wrap64 (x9_4 + 1))) = some true := H
                       have A29 := Aside0.mk A290
                       clear A290
                       have H' := Aside0.mk H
                       clear H
                       have p310 : 0 ≤ ((ji14) : Int) := of_decide_eq_true (by first | (with_reducible assumption) | assumption)
                       have q310 : (ji14) < (l1.length : Int) := of_decide_eq_true (by first | (with_reducible assumption) | assumption)
                       obtain ⟨ad310, e310, hx310_0⟩ := Kd.at_int HR1.out (ji14) p310 q310
                       cases e310
                       replace hx310_0 := (HB.out.cell (World.block_lt_of_cell? w _ hx310_0)).trans hx310_0
                       replace p310 := eq_true p310
                       replace q310 := eq_true q310
                       have p311 : 0 ≤ ((ji17) : Int) := of_decide_eq_true (by first | (with_reducible assumption) | assumption)
                       have q311 : (ji17) < (l1.length : Int) := of_decide_eq_true (by first | (with_reducible assumption) | assumption)
                       obtain ⟨ad311, e311, hx311_0⟩ := Kd.at_int HR1.out (ji17) p311 q311
                       obtain rfl : ad310 = ad311 := (by injection e311)
                       replace hx311_0 := (HB.out.cell (World.block_lt_of_cell? w _ hx311_0)).trans hx311_0
                       replace p311 := eq_true p311
                       replace q311 := eq_true q311
                       have p314 : 0 ≤ ((ji26) : Int) := of_decide_eq_true (by first | (with_reducible assumption) | assumption)
                       have q314 : (ji26) < (l0.length : Int) := of_decide_eq_true (by first | (with_reducible assumption) | assumption)
                       obtain ⟨ad314, e314, hx314_0⟩ := Kd.at_int HR0.out (ji26) p314 q314
                       cases e314
                       replace hx314_0 := (HB.out.cell (World.block_lt_of_cell? w _ hx314_0)).trans hx314_0
                       replace p314 := eq_true p314
                       replace q314 := eq_true q314
                       go_wp2_with (first | ((with_reducible refine gate_callee (f := 27) rfl ?_); refine goesL_ (some 87) rfl rfl Try.func27 (by kernel_rfl) rfl #[.int .i64 (rd l0 (ji26))] rfl (by (try simp only [List.map_toArray, List.map_cons, List.map_nil]); first | done | (simp only [hji26]; rfl) | rfl | (simp only [List.length_drop, List.length_take]; rfl)) ?_; (with_reducible refine (gimballaw10_taken.calls (rd l0 (ji26)) t315 _ A29.out).mono ?_); rintro e w' ⟨rfl, ⟨nd, rfl⟩⟩; refine ⟨_, rfl, ?_⟩))
                       go_roundg kj10
                       case measure => have := HK1.out; have := HK2.out; have := HJ7.out; have := HK4.out; have := HJ10.out; omega
                       case rel => exact ⟨(decide ((wrap64 ((rd l1 (ji17)) - (wrap64 (-(rd l1 (ji14)))))) ≤ t315)), (wrap64 (x9_4 + 1)), (by first | rfl | (simp; done) | (simp only [← hji14, ← hji17] <;> (first | rfl | simp)) | (simp [*]; done)), (by first | rfl | (simp; done) | (simp [*]; done)), H', ⟨by have := HK1.out; have := HK2.out; have := HJ7.out; have := HK4.out; have := HJ10.out; omega⟩, ⟨by repeat (first | (with_reducible first | exact HB.out | apply below_alloc | apply pw_below_drewN | apply below_drew1) | exact HB.out)⟩⟩
                      ·
                       rw [if_neg c28] at H
                       exact absurd H (by simp)
                     ·
                      rw [if_neg c27] at H
                      exact absurd H (by simp)
                   ·
                    rw [if_neg c20] at H
                    have c20b0 : ((Int.tmod x8_2 2) == 1) = false := beq_eq_false_iff_ne.mpr c20
                    have c20b1 : ((Int.tmod x8_2 2) != 1) = true := bne_iff_ne.mpr c20
                    by_cases c30 : (Int.tmod x9_4 2) = 1
                    ·
                     rw [if_pos c30] at H
                     have c30b0 : ((Int.tmod x9_4 2) == 1) = true := beq_iff_eq.mpr c30
                     have c30b1 : ((Int.tmod x9_4 2) != 1) = false := bne_eq_false_iff_eq.mpr c30
                     clear c30
                     obtain ⟨ji31, hji31⟩ : ∃ j_ : Int, (wrap64 ((wrap64 (x8_2 * t305)) + x9_4)) = j_ := ⟨_, rfl⟩
                     replace H : (if 0 ≤ (ji31) then (if (ji31) < (l0.length : Int) then ((gimballaw10_taken.f (rd l0 (ji31))).bind fun t317 => (gimballaw10_DbmMeets.l2 kj10 l0 l1 t305 (decide ((wrap64 ((wrap64 (-(rd l1 (ji17)))) - (rd l1 (ji14)))) ≤ t317)) x8_2 (wrap64 (x9_4 + 1)))) else (none)) else (none)) = some true := by first | (rw [hji31] at H; exact H) | (simp only [hji31] at H ⊢; exact H)
                     have hji31w : (IntKind.i64.wrap ((wrap64 (x8_2 * t305)) + x9_4)) = ji31 := (i64_w _).trans hji31
                     by_cases c32 : 0 ≤ (ji31)
                     ·
                      rw [if_pos c32] at H
                      have c32b0 : decide (0 ≤ (ji31)) = true := decide_eq_true c32
                      clear c32
                      by_cases c33 : (ji31) < (l0.length : Int)
                      ·
                       rw [if_pos c33] at H
                       have c33b0 : decide ((ji31) < (l0.length : Int)) = true := decide_eq_true c33
                       clear c33
                       replace H := Option.bind_eq_some_iff.mp H
                       obtain ⟨t317, A340, H⟩ := H
                       replace H : (gimballaw10_DbmMeets.l2 kj10 l0 l1 t305 (decide ((wrap64 ((wrap64 (-(rd l1 (ji17)))) - (rd l1 (ji14)))) ≤ t317)) x8_2 (wrap64 (x9_4 + 1))) = some true := H
                       have A34 := Aside0.mk A340
                       clear A340
                       have H' := Aside0.mk H
                       clear H
                       have p310 : 0 ≤ ((ji14) : Int) := of_decide_eq_true (by first | (with_reducible assumption) | assumption)
                       have q310 : (ji14) < (l1.length : Int) := of_decide_eq_true (by first | (with_reducible assumption) | assumption)
                       obtain ⟨ad310, e310, hx310_0⟩ := Kd.at_int HR1.out (ji14) p310 q310
                       cases e310
                       replace hx310_0 := (HB.out.cell (World.block_lt_of_cell? w _ hx310_0)).trans hx310_0
                       replace p310 := eq_true p310
                       replace q310 := eq_true q310
                       have p311 : 0 ≤ ((ji17) : Int) := of_decide_eq_true (by first | (with_reducible assumption) | assumption)
                       have q311 : (ji17) < (l1.length : Int) := of_decide_eq_true (by first | (with_reducible assumption) | assumption)
                       obtain ⟨ad311, e311, hx311_0⟩ := Kd.at_int HR1.out (ji17) p311 q311
                       obtain rfl : ad310 = ad311 := (by injection e311)
                       replace hx311_0 := (HB.out.cell (World.block_lt_of_cell? w _ hx311_0)).trans hx311_0
                       replace p311 := eq_true p311
                       replace q311 := eq_true q311
                       have p316 : 0 ≤ ((ji31) : Int) := of_decide_eq_true (by first | (with_reducible assumption) | assumption)
                       have q316 : (ji31) < (l0.length : Int) := of_decide_eq_true (by first | (with_reducible assumption) | assumption)
                       obtain ⟨ad316, e316, hx316_0⟩ := Kd.at_int HR0.out (ji31) p316 q316
                       cases e316
                       replace hx316_0 := (HB.out.cell (World.block_lt_of_cell? w _ hx316_0)).trans hx316_0
                       replace p316 := eq_true p316
                       replace q316 := eq_true q316
                       go_wp2_with (first | ((with_reducible refine gate_callee (f := 27) rfl ?_); refine goesL_ (some 87) rfl rfl Try.func27 (by kernel_rfl) rfl #[.int .i64 (rd l0 (ji31))] rfl (by (try simp only [List.map_toArray, List.map_cons, List.map_nil]); first | done | (simp only [hji31]; rfl) | rfl | (simp only [List.length_drop, List.length_take]; rfl)) ?_; (with_reducible refine (gimballaw10_taken.calls (rd l0 (ji31)) t317 _ A34.out).mono ?_); rintro e w' ⟨rfl, ⟨nd, rfl⟩⟩; refine ⟨_, rfl, ?_⟩))
                       go_roundg kj10
                       case measure => have := HK1.out; have := HK2.out; have := HJ7.out; have := HK4.out; have := HJ10.out; omega
                       case rel => exact ⟨(decide ((wrap64 ((wrap64 (-(rd l1 (ji17)))) - (rd l1 (ji14)))) ≤ t317)), (wrap64 (x9_4 + 1)), (by first | rfl | (simp; done) | (simp only [← hji14, ← hji17] <;> (first | rfl | simp)) | (simp [*]; done)), (by first | rfl | (simp; done) | (simp [*]; done)), H', ⟨by have := HK1.out; have := HK2.out; have := HJ7.out; have := HK4.out; have := HJ10.out; omega⟩, ⟨by repeat (first | (with_reducible first | exact HB.out | apply below_alloc | apply pw_below_drewN | apply below_drew1) | exact HB.out)⟩⟩
                      ·
                       rw [if_neg c33] at H
                       exact absurd H (by simp)
                     ·
                      rw [if_neg c32] at H
                      exact absurd H (by simp)
                    ·
                     rw [if_neg c30] at H
                     have c30b0 : ((Int.tmod x9_4 2) == 1) = false := beq_eq_false_iff_ne.mpr c30
                     have c30b1 : ((Int.tmod x9_4 2) != 1) = true := bne_iff_ne.mpr c30
                     obtain ⟨ji35, hji35⟩ : ∃ j_ : Int, (wrap64 ((wrap64 (x8_2 * t305)) + x9_4)) = j_ := ⟨_, rfl⟩
                     replace H : (if 0 ≤ (ji35) then (if (ji35) < (l0.length : Int) then ((gimballaw10_taken.f (rd l0 (ji35))).bind fun t319 => (gimballaw10_DbmMeets.l2 kj10 l0 l1 t305 (decide ((wrap64 ((rd l1 (ji17)) - (rd l1 (ji14)))) ≤ t319)) x8_2 (wrap64 (x9_4 + 1)))) else (none)) else (none)) = some true := by first | (rw [hji35] at H; exact H) | (simp only [hji35] at H ⊢; exact H)
                     have hji35w : (IntKind.i64.wrap ((wrap64 (x8_2 * t305)) + x9_4)) = ji35 := (i64_w _).trans hji35
                     by_cases c36 : 0 ≤ (ji35)
                     ·
                      rw [if_pos c36] at H
                      have c36b0 : decide (0 ≤ (ji35)) = true := decide_eq_true c36
                      clear c36
                      by_cases c37 : (ji35) < (l0.length : Int)
                      ·
                       rw [if_pos c37] at H
                       have c37b0 : decide ((ji35) < (l0.length : Int)) = true := decide_eq_true c37
                       clear c37
                       replace H := Option.bind_eq_some_iff.mp H
                       obtain ⟨t319, A380, H⟩ := H
                       replace H : (gimballaw10_DbmMeets.l2 kj10 l0 l1 t305 (decide ((wrap64 ((rd l1 (ji17)) - (rd l1 (ji14)))) ≤ t319)) x8_2 (wrap64 (x9_4 + 1))) = some true := H
                       have A38 := Aside0.mk A380
                       clear A380
                       have H' := Aside0.mk H
                       clear H
                       have p310 : 0 ≤ ((ji14) : Int) := of_decide_eq_true (by first | (with_reducible assumption) | assumption)
                       have q310 : (ji14) < (l1.length : Int) := of_decide_eq_true (by first | (with_reducible assumption) | assumption)
                       obtain ⟨ad310, e310, hx310_0⟩ := Kd.at_int HR1.out (ji14) p310 q310
                       cases e310
                       replace hx310_0 := (HB.out.cell (World.block_lt_of_cell? w _ hx310_0)).trans hx310_0
                       replace p310 := eq_true p310
                       replace q310 := eq_true q310
                       have p311 : 0 ≤ ((ji17) : Int) := of_decide_eq_true (by first | (with_reducible assumption) | assumption)
                       have q311 : (ji17) < (l1.length : Int) := of_decide_eq_true (by first | (with_reducible assumption) | assumption)
                       obtain ⟨ad311, e311, hx311_0⟩ := Kd.at_int HR1.out (ji17) p311 q311
                       obtain rfl : ad310 = ad311 := (by injection e311)
                       replace hx311_0 := (HB.out.cell (World.block_lt_of_cell? w _ hx311_0)).trans hx311_0
                       replace p311 := eq_true p311
                       replace q311 := eq_true q311
                       have p318 : 0 ≤ ((ji35) : Int) := of_decide_eq_true (by first | (with_reducible assumption) | assumption)
                       have q318 : (ji35) < (l0.length : Int) := of_decide_eq_true (by first | (with_reducible assumption) | assumption)
                       obtain ⟨ad318, e318, hx318_0⟩ := Kd.at_int HR0.out (ji35) p318 q318
                       cases e318
                       replace hx318_0 := (HB.out.cell (World.block_lt_of_cell? w _ hx318_0)).trans hx318_0
                       replace p318 := eq_true p318
                       replace q318 := eq_true q318
                       go_wp2_with (first | ((with_reducible refine gate_callee (f := 27) rfl ?_); refine goesL_ (some 87) rfl rfl Try.func27 (by kernel_rfl) rfl #[.int .i64 (rd l0 (ji35))] rfl (by (try simp only [List.map_toArray, List.map_cons, List.map_nil]); first | done | (simp only [hji35]; rfl) | rfl | (simp only [List.length_drop, List.length_take]; rfl)) ?_; (with_reducible refine (gimballaw10_taken.calls (rd l0 (ji35)) t319 _ A38.out).mono ?_); rintro e w' ⟨rfl, ⟨nd, rfl⟩⟩; refine ⟨_, rfl, ?_⟩))
                       go_roundg kj10
                       case measure => have := HK1.out; have := HK2.out; have := HJ7.out; have := HK4.out; have := HJ10.out; omega
                       case rel => exact ⟨(decide ((wrap64 ((rd l1 (ji17)) - (rd l1 (ji14)))) ≤ t319)), (wrap64 (x9_4 + 1)), (by first | rfl | (simp; done) | (simp only [← hji14, ← hji17] <;> (first | rfl | simp)) | (simp [*]; done)), (by first | rfl | (simp; done) | (simp [*]; done)), H', ⟨by have := HK1.out; have := HK2.out; have := HJ7.out; have := HK4.out; have := HJ10.out; omega⟩, ⟨by repeat (first | (with_reducible first | exact HB.out | apply below_alloc | apply pw_below_drewN | apply below_drew1) | exact HB.out)⟩⟩
                      ·
                       rw [if_neg c37] at H
                       exact absurd H (by simp)
                     ·
                      rw [if_neg c36] at H
                      exact absurd H (by simp)
                  ·
                   rw [if_neg c19] at H
                   exact absurd H (by simp)
                 ·
                  rw [if_neg c18] at H
                  exact absurd H (by simp)
                ·
                 rw [if_neg c16] at H
                 exact absurd H (by simp)
               ·
                rw [if_neg c15] at H
                exact absurd H (by simp)
              ·
               replace c13 := Bool.eq_false_iff.mpr c13
               subst c13
               have H1 : (gimballaw10_DbmMeets.l1 kj10 l0 l1 t305 x6_4 (wrap64 (x8_2 + 1))) = some true := by rw [if_neg (show ¬ (false = true) by decide)] at H; exact H
               clear H
               have H := H1
               clear H1
               have H' := Aside0.mk H
               clear H
               go_wp2
               go_roundg kj10
               case measure => have := HK1.out; have := HK2.out; have := HJ7.out; have := HK4.out; have := HJ10.out; omega
               case rel => exact ⟨(x6_4), (wrap64 (x8_2 + 1)), (by first | rfl | (simp; done) | (simp [*]; done)), (by first | rfl | (simp; done) | (simp [*]; done)), H', ⟨by have := HK1.out; have := HK2.out; have := HJ7.out; have := HK4.out; have := HJ10.out; omega⟩, ⟨by repeat (first | (with_reducible first | exact HB.out | apply below_alloc | apply pw_below_drewN | apply below_drew1) | exact HB.out)⟩⟩
         ·
          replace c10 := Bool.eq_false_iff.mpr c10
          subst c10
          have H1 : ((dbm_Holds.f kj7 l0 l1).bind fun t308 => (if (t308 == x6_2) = true then ((gimballaw10_awake.f kj7).bind fun t309 => (some t309)) else (some false))) = some true := by rw [if_neg (show ¬ (false = true) by decide)] at H; exact H
          clear H
          have H := H1
          clear H1
          replace H := Option.bind_eq_some_iff.mp H
          obtain ⟨t308, A390, H⟩ := H
          replace H : (if (t308 == x6_2) = true then ((gimballaw10_awake.f kj7).bind fun t309 => (some t309)) else (some false)) = some true := H
          have A39 := Aside0.mk A390
          clear A390
          by_cases c40 : (t308 == x6_2) = true
          ·
           rw [if_pos c40] at H
           have c40b0 : (t308 == x6_2) = true := c40
           (try (have c40b1 : decide (t308 = x6_2) = true := by simpa using c40))
           (try (have c40b2 : (t308 == x6_2) = true := by simpa using c40))
           clear c40
           replace H := Option.bind_eq_some_iff.mp H
           obtain ⟨t309, A410, H⟩ := H
           replace H : (some t309) = some true := H
           have A41 := Aside0.mk A410
           clear A410
           have hret_ := Option.some.inj H
           clear H
           go_wp2_with (first | ((with_reducible refine gate_callee (f := 25) rfl ?_); refine goesL_ (some 91) rfl rfl Try.func25 (by kernel_rfl) rfl #[.slice A0 l0.length c0, .slice A1 l1.length c1] rfl (by (try simp only [List.map_toArray, List.map_cons, List.map_nil]); first | done | rfl | (simp only [List.length_drop, List.length_take]; rfl)) ?_; (with_reducible refine (dbm_Holds.calls kj7 _ _ l0 _ _ l1 t308 _ ?side1 ?side2 ?side3 ?side4 A39.out).mono ?_); (case side1 => repeat (first | exact (Kd.C_below HR0.out HB.out) | (with_reducible refine Kd.C_alloc ?_ _) | (with_reducible refine Kd.C_drewN ?_ _) | (with_reducible refine Kd.C_drew ?_))); (case side2 => exact HC0.out); (case side3 => repeat (first | exact (Kd.C_below HR1.out HB.out) | (with_reducible refine Kd.C_alloc ?_ _) | (with_reducible refine Kd.C_drewN ?_ _) | (with_reducible refine Kd.C_drew ?_))); (case side4 => exact HC1.out); rintro e w42 ⟨rfl, hb⟩; refine ⟨_, rfl, ?_⟩; have n0_ := Aside0.mk (below_step (by repeat (first | (with_reducible first | exact HB.out | apply below_alloc | apply pw_below_drewN | apply below_drew1) | exact HB.out)) hb); clear HB; have HB := n0_; clear n0_; (try clear hb); (try clear hb2); (try clear hk); (try clear hi)) | (go_at_call 22; (with_reducible refine (gimballaw10_awake.calls kj7  t309 _ A41.out).mono ?_); rintro e w43 ⟨rfl, hb⟩; have n0_ := Aside0.mk (below_step (by repeat (first | (with_reducible first | exact HB.out | apply below_alloc | apply pw_below_drewN | apply below_drew1) | exact HB.out)) hb); clear HB; have HB := n0_; clear n0_; (try clear hb); (try clear hb2); (try clear hk); (try clear hi)))
           go_ret
           exact ⟨by first | rfl | (simp [errW_none, errW_some] <;> rfl) | (simp [*, errW_none, errW_some] <;> rfl), by repeat (first | (with_reducible first | exact HB.out | apply below_alloc | apply pw_below_drewN | apply below_drew1) | exact HB.out)⟩
          ·
           rw [if_neg c40] at H
           have c40b0 : (t308 == x6_2) = false := by simpa using c40
           (try (have c40b1 : decide (t308 = x6_2) = false := by simpa using c40))
           (try (have c40b2 : (t308 == x6_2) = false := by simpa using c40))
           (try (have c40b3 : ¬ (t308 = x6_2) := by simpa using c40))
           clear c40
           exact absurd H (by simp)

/-- THE ONE PURE STATEMENT of gimballaw10_DbmMeets: yours. -/
def gimballaw10_DbmMeets.Pure : Prop := ∀ (l0 : List Int) (l1 : List Int), l0.length ≤ maxLen → l0.length * 8 ≤ 140737488351232 → (∀ x ∈ l0, (Lit.int .i64 x).wf = true) → l1.length ≤ maxLen → l1.length * 8 ≤ 140737488351232 → (∀ x ∈ l1, (Lit.int .i64 x).wf = true) → ∃ k, gimballaw10_DbmMeets.f k l0 l1 = some true
theorem gimballaw10_DbmMeets.walk (P : gimballaw10_DbmMeets.Pure) (a0 : Option Addr) (len0 cap0 : Nat) (z0 : List Int) (a1 : Option Addr) (len1 cap1 : Nat) (z1 : List Int) (w : World) (w0 : (a0 = none ∧ len0 = 0 ∧ cap0 = 0 ∧ z0 = []) ∨ ∃ x, a0 = some x ∧ len0 ≤ cap0 ∧ cap0 ≤ maxLen ∧ z0.length = cap0 ∧ (∀ i, i < z0.length → w.cell? (x.add i) = some (.int .i64 (z0.getD i 0))) ∧ ∀ n ∈ z0, (Lit.int .i64 n).wf = true) (y0 : len0 * 8 ≤ 140737488351232) (w1 : (a1 = none ∧ len1 = 0 ∧ cap1 = 0 ∧ z1 = []) ∨ ∃ x, a1 = some x ∧ len1 ≤ cap1 ∧ cap1 ≤ maxLen ∧ z1.length = cap1 ∧ (∀ i, i < z1.length → w.cell? (x.add i) = some (.int .i64 (z1.getD i 0))) ∧ ∀ n ∈ z1, (Lit.int .i64 n).wf = true) (y1 : len1 * 8 ≤ 140737488351232) :
    Calls Try.prog 7 #[.slice a0 len0 cap0, .slice a1 len1 cap1] w fun e w' => e = .returned (.bool true) ∧ Below w.heap.size w w' := by
  obtain ⟨l0, rfl, hr0, hm0, hw0, hc0⟩ := ReadsInt.ofRowC w0
  obtain ⟨l1, rfl, hr1, hm1, hw1, hc1⟩ := ReadsInt.ofRowC w1
  obtain ⟨k, h⟩ := P l0 l1 hm0 y0 hw0 hm1 y1 hw1
  refine (gimballaw10_DbmMeets.calls k _ _ l0 _ _ l1  w (Kd.C_of_reads (d := (0 : Int)) (h1 := fun _ => rfl) hr0) hc0 (Kd.C_of_reads (d := (0 : Int)) (h1 := fun _ => rfl) hr1) hc1 h).mono ?_
  rintro e w' ⟨rfl, hd⟩
  exact ⟨rfl, hd⟩

end Go.Proofs.Ytklignhpkojmhaa.P
