/- What the law's proof needs of Px60. -/
import Derived.Test.YtiemdfdebdmchaaTrVU4
import Derived.Test.YtiemdfdebdmchaaTrVU
import Derived.Test.YtiemdfdebdmchaaTrVPx0
import Derived.Test.YtiemdfdebdmchaaTrVPx5
-- PRINTED by print.py (a twelfth state) out of the translation. Not trusted: Lean checks it.
namespace Go.Proofs.Ytiemdfdebdmchaa.P
open Go.RowKit Go.Proofs.YtiemdfdebdmchaaW.PrintWords Go.Proofs.YtiemdfdebdmchaaW.PrintLast Go.Proofs.YtiemdfdebdmchaaW.PrintMore Go.Proofs.YtiemdfdebdmchaaO
attribute [local go_sem] max2_int min2_int max_two min_two max_three min_three max_four min_four   -- for this text's walks alone
set_option linter.unusedVariables false
set_option linter.unusedSimpArgs false
def gimballaw33_awake.f (k : Nat)  : Option (Bool) := (trace_Encode.f k 0 ([] : List Int) 3 0 0 0 0 ([] : List Int) ([] : List (List Int)) ([] : List (List Int))).bind fun bt307 => (if bt307.2 = 0 then (if (bt307.1.length : Int) > 9 then (if 5 ≤ (bt307.1.length : Int) then (some ((strOfNums (bt307.1.take 5)).toList == ([71, 84, 82, 67, 1] : List UInt8))) else (none)) else (some false)) else (some false))
theorem gimballaw33_awake.mono : ∀ k, LeO (gimballaw33_awake.f k ) (gimballaw33_awake.f (k + 1) ) := by
  intro  k
  unfold gimballaw33_awake.f
  repeat' first
      | (with_reducible exact trace_Encode.mono _ _ _ _ _ _ _ _ _ _ _)
      | (with_reducible exact LeO.refl _)
      | (with_reducible exact LeO.none _)
      | (with_reducible refine LeO.ite ?_ ?_)
      | (with_reducible refine LeO.bind ?_ (fun _ => ?_))
      | exact trace_Encode.mono _ _ _ _ _ _ _ _ _ _ _
      | exact LeO.none _
      | refine LeO.ite ?_ ?_
      | refine LeO.bind ?_ (fun _ => ?_)
set_option maxHeartbeats 8000000 in
set_option maxRecDepth 100000 in
theorem gimballaw33_awake.calls (k : Nat)  (r : Bool) (w : World) (h : gimballaw33_awake.f k  = some r) :
    Calls Try.prog 10 #[] w fun e w' => e = .returned (.bool r) ∧ Below w.heap.size w w' := by
  have hu25 := Try.underlying25
  have hu27 := Try.underlying27
  have HB := Aside0.mk (Below.refl w.heap.size w)
  have H : ((trace_Encode.f k 0 ([] : List Int) 3 0 0 0 0 ([] : List Int) ([] : List (List Int)) ([] : List (List Int))).bind fun bt307 => (if bt307.2 = 0 then (if (bt307.1.length : Int) > 9 then (if 5 ≤ (bt307.1.length : Int) then (some ((strOfNums (bt307.1.take 5)).toList == ([71, 84, 82, 67, 1] : List UInt8))) else (none)) else (some false)) else (some false))) = some r := h
  clear h; replace H := bnH H; obtain ⟨⟨t307, t310⟩, A10, H⟩ := H
  try dsimp only at H
  have A1 := Aside0.mk A10; clear A10
  by_cases c2 : t310 = 0
  ·
   rw [if_pos c2] at H
   have c2b0 : (t310 == 0) = true := beq_iff_eq.mpr c2
   have c2b1 : (t310 != 0) = false := bne_eq_false_iff_eq.mpr c2
   clear c2
   by_cases c3 : (t307.length : Int) > 9
   ·
    rw [if_pos c3] at H
    have c3b0 : decide (9 < (t307.length : Int)) = true := decide_eq_true c3
    have c3b1 : decide (9 < t307.length) = true := decide_eq_true (by omega)
    clear c3
    by_cases c4 : 5 ≤ (t307.length : Int)
    case neg => rw [if_neg c4] at H; exact absurd H (by simp)
    rw [if_pos c4] at H
    have c4b0 := eq_true c4
    have c4b1 : decide (5 ≤ (t307.length : Int)) = true := decide_eq_true c4
    clear c4
    obtain ⟨y311, hy311⟩ : ∃ y_ : List Int, y_ = (t307.take 5) := ⟨_, rfl⟩
    replace H : (some ((strOfNums y311).toList == ([71, 84, 82, 67, 1] : List UInt8))) = some r := by first | (rw [hy311]; with_reducible exact H) | (have H2_ := (Option.bind_some _ _).symm.trans H; rw [hy311]; with_reducible exact H2_) | (have H2_ := (Option.bind_some _ _).symm.trans H; with_reducible exact H2_) | with_reducible exact H | (rw [hy311]; exact H) | exact H
    have Ny311 := Aside0.mk hy311; clear hy311
    obtain rfl := Option.some.inj H
    go_enter Try.func10, Try.ntmps10
    go_wp2_with (first | ((with_reducible refine gate_callee (f := 8) rfl ?_); refine goesL_ (some 6) rfl rfl Try.func8 (by kernel_rfl) rfl #[.agg #[.int .i64 0, .slice none 0 0, .int .i64 3, .int .i64 0, .int .i64 0, .int .i64 0, .int .i64 0, .slice none 0 0, .slice none 0 0, .slice none 0 0]] rfl (by (try simp only [List.map_toArray, List.map_cons, List.map_nil]); first | done | rfl | (simp only [List.length_drop, List.length_take]; rfl)) ?_; (refine (trace_Encode.calls k 0 _ _ ([] : List Int) 3 0 0 0 0 _ _ ([] : List Int) _ _ ([] : List (List Int)) (fun k_ => False) _ _ ([] : List (List Int)) t307 t310 _ ?side1 ?side2 ?side3 ?side4 ?side5 ?side6 ?side7 A1.out).mono ?_); (case side1 => exact Kd.C_nil _ _); (case side2 => exact Nat.le_refl _); (case side3 => exact Kd.C_nil _ _); (case side4 => exact Nat.le_refl _); (case side5 => exact Kd.C_nil _ _); (case side6 => exact Nat.le_refl _); (case side7 => exact Kd.V_nil _ _ _ _ _); rintro e w5 ⟨v308, rfl, ho0, hb⟩; refine ⟨_, rfl, ?_⟩; have n0_ := Aside0.mk (Kd.R_lower (Kd.R_mono (ok' := fun k_ => True) ho0 (fun _ hk_ => trivial)) (below_size (by repeat (first | (with_reducible first | exact HB.out | apply below_alloc | apply pw_below_drewN | apply below_drew1) | exact HB.out)))); have n1_ := bst HB hb; clear HB; have HO309 := n0_; have HB := n1_; clear n0_ n1_; (try clear hb); (try clear ho0); obtain ⟨Ao6, co6, eo6⟩ := Kd.R_slice HO309.out; subst eo6; have q7 : (5 : Int) ≤ ((t307.length : Int) : Int) := of_decide_eq_true (by first | (with_reducible assumption) | assumption); obtain ⟨i07, hi07, _, hsz7, _⟩ := info_parts info5; have hroom7 : t307.length ≤ co6 := (Kd.R_reads' HO309.out).2.1; have hC7 : Kd.C (Kd.int .u8) _ Ao6 t307.length t307 := (Kd.R_reads' HO309.out).2.2; have hcut7 := cut_to (P := Try.prog) 28 5 .i64 Try.underlying28 hi07 Ao6 t307.length co6 5 (by omega) q7 hroom7; have hr7 := Kd.C_take (m := 5) hC7 (by omega); have hy7 : y311.length = (5 : Int).toNat := (by rw [Ny311.out, List.length_take]; omega); rw [← Ny311.out] at hr7; rw [← hy7] at hcut7; have HR314 := Aside0.mk hr7; have HC314 := Aside0.mk (show y311.length ≤ co6 from by omega); clear hr7 hC7 hroom7 hi07 hsz7; have KY7 := Aside0.mk hy7; clear hy7; have KL7 := Aside0.mk (show 5 ≤ t307.length from by omega); replace q7 := eq_true q7; have hcv8 := Kd.C_string (P := Try.prog) (A := Ao6) (c := co6) Try.underlying28 Try.underlying5 Try.underlying9 (cup HR314)))
    go_ret
    exact ⟨by first | rfl | (simp [errW_none, errW_some] <;> rfl) | (simp [*, errW_none, errW_some] <;> rfl) | kernel_rfl, (bpk HB).out⟩
   ·
    rw [if_neg c3] at H
    have c3b0 : decide (9 < (t307.length : Int)) = false := decide_eq_false c3
    have c3b1 : decide (9 < t307.length) = false := decide_eq_false (by omega)
    clear c3
    obtain rfl := Option.some.inj H
    go_enter Try.func10, Try.ntmps10
    go_wp2_with (first | ((with_reducible refine gate_callee (f := 8) rfl ?_); refine goesL_ (some 6) rfl rfl Try.func8 (by kernel_rfl) rfl #[.agg #[.int .i64 0, .slice none 0 0, .int .i64 3, .int .i64 0, .int .i64 0, .int .i64 0, .int .i64 0, .slice none 0 0, .slice none 0 0, .slice none 0 0]] rfl (by (try simp only [List.map_toArray, List.map_cons, List.map_nil]); first | done | rfl | (simp only [List.length_drop, List.length_take]; rfl)) ?_; (refine (trace_Encode.calls k 0 _ _ ([] : List Int) 3 0 0 0 0 _ _ ([] : List Int) _ _ ([] : List (List Int)) (fun k_ => False) _ _ ([] : List (List Int)) t307 t310 _ ?side1 ?side2 ?side3 ?side4 ?side5 ?side6 ?side7 A1.out).mono ?_); (case side1 => exact Kd.C_nil _ _); (case side2 => exact Nat.le_refl _); (case side3 => exact Kd.C_nil _ _); (case side4 => exact Nat.le_refl _); (case side5 => exact Kd.C_nil _ _); (case side6 => exact Nat.le_refl _); (case side7 => exact Kd.V_nil _ _ _ _ _); rintro e w9 ⟨v308, rfl, ho0, hb⟩; refine ⟨_, rfl, ?_⟩; have n0_ := Aside0.mk (Kd.R_lower (Kd.R_mono (ok' := fun k_ => True) ho0 (fun _ hk_ => trivial)) (below_size (by repeat (first | (with_reducible first | exact HB.out | apply below_alloc | apply pw_below_drewN | apply below_drew1) | exact HB.out)))); have n1_ := bst HB hb; clear HB; have HO309 := n0_; have HB := n1_; clear n0_ n1_; (try clear hb); (try clear ho0); obtain ⟨Ao10, co10, eo10⟩ := Kd.R_slice HO309.out; subst eo10))
    go_ret
    exact ⟨by first | rfl | (simp [errW_none, errW_some] <;> rfl) | (simp [*, errW_none, errW_some] <;> rfl) | kernel_rfl, (bpk HB).out⟩
  ·
   rw [if_neg c2] at H
   have c2b0 : (t310 == 0) = false := beq_eq_false_iff_ne.mpr c2
   have c2b1 : (t310 != 0) = true := bne_iff_ne.mpr c2
   obtain rfl := Option.some.inj H
   go_enter Try.func10, Try.ntmps10
   go_wp2_with (first | ((with_reducible refine gate_callee (f := 8) rfl ?_); refine goesL_ (some 6) rfl rfl Try.func8 (by kernel_rfl) rfl #[.agg #[.int .i64 0, .slice none 0 0, .int .i64 3, .int .i64 0, .int .i64 0, .int .i64 0, .int .i64 0, .slice none 0 0, .slice none 0 0, .slice none 0 0]] rfl (by (try simp only [List.map_toArray, List.map_cons, List.map_nil]); first | done | rfl | (simp only [List.length_drop, List.length_take]; rfl)) ?_; (refine (trace_Encode.calls k 0 _ _ ([] : List Int) 3 0 0 0 0 _ _ ([] : List Int) _ _ ([] : List (List Int)) (fun k_ => False) _ _ ([] : List (List Int)) t307 t310 _ ?side1 ?side2 ?side3 ?side4 ?side5 ?side6 ?side7 A1.out).mono ?_); (case side1 => exact Kd.C_nil _ _); (case side2 => exact Nat.le_refl _); (case side3 => exact Kd.C_nil _ _); (case side4 => exact Nat.le_refl _); (case side5 => exact Kd.C_nil _ _); (case side6 => exact Nat.le_refl _); (case side7 => exact Kd.V_nil _ _ _ _ _); rintro e w11 ⟨v308, rfl, ho0, hb⟩; refine ⟨_, rfl, ?_⟩; have n0_ := Aside0.mk (Kd.R_lower (Kd.R_mono (ok' := fun k_ => True) ho0 (fun _ hk_ => trivial)) (below_size (by repeat (first | (with_reducible first | exact HB.out | apply below_alloc | apply pw_below_drewN | apply below_drew1) | exact HB.out)))); have n1_ := bst HB hb; clear HB; have HO309 := n0_; have HB := n1_; clear n0_ n1_; (try clear hb); (try clear ho0)))
   go_ret
   exact ⟨by first | rfl | (simp [errW_none, errW_some] <;> rfl) | (simp [*, errW_none, errW_some] <;> rfl) | kernel_rfl, (bpk HB).out⟩
end Go.Proofs.Ytiemdfdebdmchaa.P
