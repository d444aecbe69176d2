/- What the law's proof needs of Px6. -/
import Derived.Test.YtllfopbchdahoaaTrFU4
import Derived.Test.YtllfopbchdahoaaTrFPx0
import Derived.Test.YtllfopbchdahoaaTrFPx4
import Derived.Test.YtllfopbchdahoaaTrFPx5
-- PRINTED by print.py (a twelfth state) out of the translation. Not trusted: Lean checks it.
namespace Go.Proofs.Ytllfopbchdahoaa.P
open Go.RowKit Go.Proofs.YtllfopbchdahoaaW.PrintWords Go.Proofs.YtllfopbchdahoaaW.PrintLast Go.Proofs.YtllfopbchdahoaaW.PrintMore Go.Proofs.YtllfopbchdahoaaO
attribute [local go_sem] max2_int min2_int max_two min_two max_three min_three max_four min_four   -- for this text's walks alone
set_option linter.unusedVariables false
set_option linter.unusedSimpArgs false
mutual
def linear_Value.j0 : Nat → List Int → Bool → Int → Int → Int → Int → Int → Option (Int)
  | 0, _, _, _, _, _, _, _ => none
  | k + 1, x1, x34, x115000, x115001, x115002, x115003, x115004 => if x34 = true then (some 0) else ((linear_parts.f x115000 x115001 x115002 x115003 x115004).bind fun bt116 => (if bt116.2.1 = 0 then (linear_Value.j1 k x1 x115004 bt116.1 bt116.2.1 bt116.2.2.1 bt116.2.2.2) else (if 0 ≤ bt116.1 then (if bt116.1 < (x1.length : Int) then (linear_Value.j1 k x1 (wrap64 (x115004 + (wrap64 (bt116.2.1 * (mn (mx (rd x1 bt116.1) (-1099511627776)) 1099511627776))))) bt116.1 bt116.2.1 bt116.2.2.1 bt116.2.2.2) else (none)) else (none))))
def linear_Value.j1 : Nat → List Int → Int → Int → Int → Int → Int → Option (Int)
  | 0, _, _, _, _, _, _ => none
  | k + 1, x1, x5, x7039000, x7039001, x7039002, x7039003 => if x7039003 = 0 then (linear_Value.j2 k x5) else (if 0 ≤ x7039002 then (if x7039002 < (x1.length : Int) then (linear_Value.j2 k (wrap64 (x5 + (wrap64 (x7039003 * (mn (mx (rd x1 x7039002) (-1099511627776)) 1099511627776)))))) else (none)) else (none))
def linear_Value.j2 : Nat → Int → Option (Int)
  | 0, _ => none
  | k + 1, x5 => some x5
end
def linear_Value.f (k : Nat) (a0_0 : Int) (a0_1 : Int) (a0_2 : Int) (a0_3 : Int) (a0_4 : Int) (l1 : List Int) : Option (Int) := (linear_Fit.f k a0_0 a0_1 a0_2 a0_3 a0_4).bind fun t115 => (if t115 = true then (if a0_1 = 0 then (if a0_3 = 0 then (linear_Value.j0 k l1 false a0_0 a0_1 a0_2 a0_3 a0_4) else (linear_Value.j0 k l1 (decide (a0_2 ≥ (l1.length : Int))) a0_0 a0_1 a0_2 a0_3 a0_4)) else (if a0_0 ≥ (l1.length : Int) then (linear_Value.j0 k l1 true a0_0 a0_1 a0_2 a0_3 a0_4) else (if a0_3 = 0 then (linear_Value.j0 k l1 false a0_0 a0_1 a0_2 a0_3 a0_4) else (linear_Value.j0 k l1 (decide (a0_2 ≥ (l1.length : Int))) a0_0 a0_1 a0_2 a0_3 a0_4)))) else (linear_Value.j0 k l1 true a0_0 a0_1 a0_2 a0_3 a0_4))
set_option maxHeartbeats 8000000 in
set_option maxRecDepth 100000 in
theorem linear_Value.calls (k : Nat) (a0_0 : Int) (a0_1 : Int) (a0_2 : Int) (a0_3 : Int) (a0_4 : Int) (A1 : Option Addr) (c1 : Nat) (l1 : List Int) (r : Int) (w : World) (hr1 : Kd.C (Kd.int .i64) w A1 l1.length l1) (hc1 : l1.length ≤ c1) (h : linear_Value.f k a0_0 a0_1 a0_2 a0_3 a0_4 l1 = some r) :
    Calls Try.prog 8 #[.agg #[.int .i64 a0_0, .int .i64 a0_1, .int .i64 a0_2, .int .i64 a0_3, .int .i64 a0_4], .slice A1 l1.length c1] w fun e w' => e = .returned (.int .i64 r) ∧ Below w.heap.size w w' := by
  have hu23 := Try.underlying23
  have hu50 := Try.underlying50
  have hix51_0 : ∀ (y0_ : Int) (y1_ : Int) (y2_ : Int) (y3_ : Int) (W : World), (Instr.index 51 (.agg #[.int .i64 y0_, .int .i64 y1_, .int .i64 y2_, .int .i64 y3_]) (.int .i64 0)).run Try.prog W = .ok (.agg #[.int .i64 y0_, .int .i64 y1_]) W := fun _ _ _ _ _ => by kernel_rfl
  have hix51_1 : ∀ (y0_ : Int) (y1_ : Int) (y2_ : Int) (y3_ : Int) (W : World), (Instr.index 51 (.agg #[.int .i64 y0_, .int .i64 y1_, .int .i64 y2_, .int .i64 y3_]) (.int .i64 1)).run Try.prog W = .ok (.agg #[.int .i64 y2_, .int .i64 y3_]) W := fun _ _ _ _ _ => by kernel_rfl
  have HR1 := Aside0.mk hr1; have HC1 := Aside0.mk hc1; clear hr1 hc1
  have HB := Aside0.mk (Below.refl w.heap.size w)
  have H : ((linear_Fit.f k a0_0 a0_1 a0_2 a0_3 a0_4).bind fun t115 => (if t115 = true then (if a0_1 = 0 then (if a0_3 = 0 then (linear_Value.j0 k l1 false a0_0 a0_1 a0_2 a0_3 a0_4) else (linear_Value.j0 k l1 (decide (a0_2 ≥ (l1.length : Int))) a0_0 a0_1 a0_2 a0_3 a0_4)) else (if a0_0 ≥ (l1.length : Int) then (linear_Value.j0 k l1 true a0_0 a0_1 a0_2 a0_3 a0_4) else (if a0_3 = 0 then (linear_Value.j0 k l1 false a0_0 a0_1 a0_2 a0_3 a0_4) else (linear_Value.j0 k l1 (decide (a0_2 ≥ (l1.length : Int))) a0_0 a0_1 a0_2 a0_3 a0_4)))) else (linear_Value.j0 k l1 true a0_0 a0_1 a0_2 a0_3 a0_4))) = some r := h
  clear h; have HC3 := Aside0.mk H; clear H
  go_enter Try.func8, Try.ntmps8
  go_upto_region 1 with (first | ((with_reducible refine gate_dst (N := 2) rfl ?_); (try (refine gate_guard (by rfl) ?_; dsimp only)); refine box_event ?hg (N := 2) ?hd (cs := #[.int .i64 a0_0, .int .i64 a0_1, .int .i64 a0_2, .int .i64 a0_3, .int .i64 a0_4]) (t := 23) ?hr ?_; (case hd => rfl); (case hg => rfl); (case hr => first | (go_simp; done) | (go_simp; rfl)); intro gb114 hg w4 hbox hb; have n0_ := bst HB hb; have n1_ := Aside0.mk (hbox); have n2_ := bsz HB hg; have n3_ := bsz HB hg; clear HB; have HB := n0_; have BK114 := n1_; have GW114 := n2_; have GE114 := n3_; clear n0_ n1_ n2_ n3_; clear hb hbox hg))
  repeat (go_quiet (first | ((with_reducible refine gate_dst (N := 2) rfl ?_); (try (refine gate_guard (by rfl) ?_; dsimp only)); refine box_event ?hg (N := 2) ?hd (cs := #[.int .i64 a0_0, .int .i64 a0_1, .int .i64 a0_2, .int .i64 a0_3, .int .i64 a0_4]) (t := 23) ?hr ?_; (case hd => rfl); (case hg => rfl); (case hr => first | (go_simp; done) | (go_simp; rfl)); intro gb114 hg w4 hbox hb; have n0_ := bst HB hb; have n1_ := Aside0.mk (hbox); have n2_ := bsz HB hg; have n3_ := bsz HB hg; clear HB; have HB := n0_; have BK114 := n1_; have GW114 := n2_; have GE114 := n3_; clear n0_ n1_ n2_ n3_; clear hb hbox hg)); go_upto_region 1 with (first | ((with_reducible refine gate_dst (N := 2) rfl ?_); (try (refine gate_guard (by rfl) ?_; dsimp only)); refine box_event ?hg (N := 2) ?hd (cs := #[.int .i64 a0_0, .int .i64 a0_1, .int .i64 a0_2, .int .i64 a0_3, .int .i64 a0_4]) (t := 23) ?hr ?_; (case hd => rfl); (case hg => rfl); (case hr => first | (go_simp; done) | (go_simp; rfl)); intro gb114 hg w4 hbox hb; have n0_ := bst HB hb; have n1_ := Aside0.mk (hbox); have n2_ := bsz HB hg; have n3_ := bsz HB hg; clear HB; have HB := n0_; have BK114 := n1_; have GW114 := n2_; have GE114 := n3_; clear n0_ n1_ n2_ n3_; clear hb hbox hg)))
  (try simp only [Act.put, List.setIfInBounds_toArray, List.set_cons_zero, List.set_cons_succ])
  go_cut [34] (fun v34 wc => ∃ (kq : Nat) (x34_2 : Bool), v34 = .bool x34_2 ∧ Aside0 (linear_Value.j0 kq l1 x34_2 a0_0 a0_1 a0_2 a0_3 a0_4 = some r) ∧ Aside0 (kq ≤ k) ∧ Aside0 (wc.heap[gb114]? = some (.cells #[.int .i64 a0_0, .int .i64 a0_1, .int .i64 a0_2, .int .i64 a0_3, .int .i64 a0_4] 23 (0, 0))) ∧ Aside0 (Below w.heap.size w wc))
  case first =>
   have H := HC3.out
   clear HC3; replace H := bnH H; obtain ⟨t115, A50, H⟩ := H
   try dsimp only at H
   have A5 := Aside0.mk A50; clear A50
   by_cases c6 : t115 = true
   ·
    subst c6
    have H1 : (if a0_1 = 0 then (if a0_3 = 0 then (linear_Value.j0 k l1 false a0_0 a0_1 a0_2 a0_3 a0_4) else (linear_Value.j0 k l1 (decide (a0_2 ≥ (l1.length : Int))) a0_0 a0_1 a0_2 a0_3 a0_4)) else (if a0_0 ≥ (l1.length : Int) then (linear_Value.j0 k l1 true a0_0 a0_1 a0_2 a0_3 a0_4) else (if a0_3 = 0 then (linear_Value.j0 k l1 false a0_0 a0_1 a0_2 a0_3 a0_4) else (linear_Value.j0 k l1 (decide (a0_2 ≥ (l1.length : Int))) a0_0 a0_1 a0_2 a0_3 a0_4)))) = some r := by rw [if_pos rfl] at H; exact H
    clear H; have H := H1; clear H1
    by_cases c7 : a0_1 = 0
    ·
     rw [if_pos c7] at H
     have c7b0 : (a0_1 == 0) = true := beq_iff_eq.mpr c7
     have c7b1 : (a0_1 != 0) = false := bne_eq_false_iff_eq.mpr c7
     clear c7
     (first | rw [c7b0] | (simp only [i64_w, i32_w]; rw [c7b0]) | skip)
     by_cases c8 : a0_3 = 0
     ·
      rw [if_pos c8] at H
      have c8b0 : (a0_3 == 0) = true := beq_iff_eq.mpr c8
      have c8b1 : (a0_3 != 0) = false := bne_eq_false_iff_eq.mpr c8
      clear c8
      have H' := Aside0.mk H
      clear H
      obtain ⟨hcz9_0, hcz9_1, hcz9_2, hcz9_3, hcz9_4, hfz9_0, hfz9_1, hfz9_2, hfz9_3, hfz9_4⟩ := hcf5 BK114
      go_wp2_with (first | (go_at_call 17; (with_reducible refine (linear_Fit.calls k a0_0 a0_1 a0_2 a0_3 a0_4 true _ A5.out).mono ?_); rintro e w10 ⟨rfl, hb⟩; have n0_ := bst HB hb; replace BK114 := bbw BK114 hb; clear HB; have HB := n0_; clear n0_; (try clear hb); obtain ⟨hcz11_0, hcz11_1, hcz11_2, hcz11_3, hcz11_4, hfz11_0, hfz11_1, hfz11_2, hfz11_3, hfz11_4⟩ := hcf5 BK114))
      repeat (go_quiet (first | (go_at_call 17; (with_reducible refine (linear_Fit.calls k a0_0 a0_1 a0_2 a0_3 a0_4 true _ A5.out).mono ?_); rintro e w10 ⟨rfl, hb⟩; have n0_ := bst HB hb; replace BK114 := bbw BK114 hb; clear HB; have HB := n0_; clear n0_; (try clear hb); obtain ⟨hcz11_0, hcz11_1, hcz11_2, hcz11_3, hcz11_4, hfz11_0, hfz11_1, hfz11_2, hfz11_3, hfz11_4⟩ := hcf5 BK114)); try go_wp2_with (first | (go_at_call 17; (with_reducible refine (linear_Fit.calls k a0_0 a0_1 a0_2 a0_3 a0_4 true _ A5.out).mono ?_); rintro e w10 ⟨rfl, hb⟩; have n0_ := bst HB hb; replace BK114 := bbw BK114 hb; clear HB; have HB := n0_; clear n0_; (try clear hb); obtain ⟨hcz11_0, hcz11_1, hcz11_2, hcz11_3, hcz11_4, hfz11_0, hfz11_1, hfz11_2, hfz11_3, hfz11_4⟩ := hcf5 BK114)))
      go_meet
      case rel => exact ⟨_, (false), (by first | rfl | (simp; done) | (simp [*]; done)), H', ⟨by first | omega | exact Nat.le_refl _⟩, pkA BK114, bpk HB⟩
     ·
      rw [if_neg c8] at H
      have c8b0 : (a0_3 == 0) = false := beq_eq_false_iff_ne.mpr c8
      have c8b1 : (a0_3 != 0) = true := bne_iff_ne.mpr c8
      have H' := Aside0.mk H
      clear H
      obtain ⟨hcz12_0, hcz12_1, hcz12_2, hcz12_3, hcz12_4, hfz12_0, hfz12_1, hfz12_2, hfz12_3, hfz12_4⟩ := hcf5 BK114
      go_wp2_with (first | (go_at_call 17; (with_reducible refine (linear_Fit.calls k a0_0 a0_1 a0_2 a0_3 a0_4 true _ A5.out).mono ?_); rintro e w13 ⟨rfl, hb⟩; have n0_ := bst HB hb; replace BK114 := bbw BK114 hb; clear HB; have HB := n0_; clear n0_; (try clear hb); obtain ⟨hcz14_0, hcz14_1, hcz14_2, hcz14_3, hcz14_4, hfz14_0, hfz14_1, hfz14_2, hfz14_3, hfz14_4⟩ := hcf5 BK114))
      repeat (go_quiet (first | (go_at_call 17; (with_reducible refine (linear_Fit.calls k a0_0 a0_1 a0_2 a0_3 a0_4 true _ A5.out).mono ?_); rintro e w13 ⟨rfl, hb⟩; have n0_ := bst HB hb; replace BK114 := bbw BK114 hb; clear HB; have HB := n0_; clear n0_; (try clear hb); obtain ⟨hcz14_0, hcz14_1, hcz14_2, hcz14_3, hcz14_4, hfz14_0, hfz14_1, hfz14_2, hfz14_3, hfz14_4⟩ := hcf5 BK114)); try go_wp2_with (first | (go_at_call 17; (with_reducible refine (linear_Fit.calls k a0_0 a0_1 a0_2 a0_3 a0_4 true _ A5.out).mono ?_); rintro e w13 ⟨rfl, hb⟩; have n0_ := bst HB hb; replace BK114 := bbw BK114 hb; clear HB; have HB := n0_; clear n0_; (try clear hb); obtain ⟨hcz14_0, hcz14_1, hcz14_2, hcz14_3, hcz14_4, hfz14_0, hfz14_1, hfz14_2, hfz14_3, hfz14_4⟩ := hcf5 BK114)))
      go_meet
      case rel => exact ⟨_, (decide (a0_2 ≥ (l1.length : Int))), (by first | rfl | (simp; done) | (simp [*]; done)), H', ⟨by first | omega | exact Nat.le_refl _⟩, pkA BK114, bpk HB⟩
    ·
     rw [if_neg c7] at H
     have c7b0 : (a0_1 == 0) = false := beq_eq_false_iff_ne.mpr c7
     have c7b1 : (a0_1 != 0) = true := bne_iff_ne.mpr c7
     (first | rw [c7b0] | (simp only [i64_w, i32_w]; rw [c7b0]) | skip)
     by_cases c15 : a0_0 ≥ (l1.length : Int)
     ·
      rw [if_pos c15] at H
      have c15b0 : decide ((l1.length : Int) ≤ a0_0) = true := decide_eq_true c15
      clear c15
      have H' := Aside0.mk H
      clear H
      obtain ⟨hcz16_0, hcz16_1, hcz16_2, hcz16_3, hcz16_4, hfz16_0, hfz16_1, hfz16_2, hfz16_3, hfz16_4⟩ := hcf5 BK114
      go_wp2_with (first | (go_at_call 17; (with_reducible refine (linear_Fit.calls k a0_0 a0_1 a0_2 a0_3 a0_4 true _ A5.out).mono ?_); rintro e w17 ⟨rfl, hb⟩; have n0_ := bst HB hb; replace BK114 := bbw BK114 hb; clear HB; have HB := n0_; clear n0_; (try clear hb); obtain ⟨hcz18_0, hcz18_1, hcz18_2, hcz18_3, hcz18_4, hfz18_0, hfz18_1, hfz18_2, hfz18_3, hfz18_4⟩ := hcf5 BK114))
      repeat (go_quiet (first | (go_at_call 17; (with_reducible refine (linear_Fit.calls k a0_0 a0_1 a0_2 a0_3 a0_4 true _ A5.out).mono ?_); rintro e w17 ⟨rfl, hb⟩; have n0_ := bst HB hb; replace BK114 := bbw BK114 hb; clear HB; have HB := n0_; clear n0_; (try clear hb); obtain ⟨hcz18_0, hcz18_1, hcz18_2, hcz18_3, hcz18_4, hfz18_0, hfz18_1, hfz18_2, hfz18_3, hfz18_4⟩ := hcf5 BK114)); try go_wp2_with (first | (go_at_call 17; (with_reducible refine (linear_Fit.calls k a0_0 a0_1 a0_2 a0_3 a0_4 true _ A5.out).mono ?_); rintro e w17 ⟨rfl, hb⟩; have n0_ := bst HB hb; replace BK114 := bbw BK114 hb; clear HB; have HB := n0_; clear n0_; (try clear hb); obtain ⟨hcz18_0, hcz18_1, hcz18_2, hcz18_3, hcz18_4, hfz18_0, hfz18_1, hfz18_2, hfz18_3, hfz18_4⟩ := hcf5 BK114)))
      go_meet
      case rel => exact ⟨_, (true), (by first | rfl | (simp; done) | (simp [*]; done)), H', ⟨by first | omega | exact Nat.le_refl _⟩, pkA BK114, bpk HB⟩
     ·
      rw [if_neg c15] at H
      have c15b0 : decide ((l1.length : Int) ≤ a0_0) = false := decide_eq_false c15
      clear c15
      by_cases c19 : a0_3 = 0
      ·
       rw [if_pos c19] at H
       have c19b0 : (a0_3 == 0) = true := beq_iff_eq.mpr c19
       have c19b1 : (a0_3 != 0) = false := bne_eq_false_iff_eq.mpr c19
       clear c19
       have H' := Aside0.mk H
       clear H
       obtain ⟨hcz20_0, hcz20_1, hcz20_2, hcz20_3, hcz20_4, hfz20_0, hfz20_1, hfz20_2, hfz20_3, hfz20_4⟩ := hcf5 BK114
       go_wp2_with (first | (go_at_call 17; (with_reducible refine (linear_Fit.calls k a0_0 a0_1 a0_2 a0_3 a0_4 true _ A5.out).mono ?_); rintro e w21 ⟨rfl, hb⟩; have n0_ := bst HB hb; replace BK114 := bbw BK114 hb; clear HB; have HB := n0_; clear n0_; (try clear hb); obtain ⟨hcz22_0, hcz22_1, hcz22_2, hcz22_3, hcz22_4, hfz22_0, hfz22_1, hfz22_2, hfz22_3, hfz22_4⟩ := hcf5 BK114))
       repeat (go_quiet (first | (go_at_call 17; (with_reducible refine (linear_Fit.calls k a0_0 a0_1 a0_2 a0_3 a0_4 true _ A5.out).mono ?_); rintro e w21 ⟨rfl, hb⟩; have n0_ := bst HB hb; replace BK114 := bbw BK114 hb; clear HB; have HB := n0_; clear n0_; (try clear hb); obtain ⟨hcz22_0, hcz22_1, hcz22_2, hcz22_3, hcz22_4, hfz22_0, hfz22_1, hfz22_2, hfz22_3, hfz22_4⟩ := hcf5 BK114)); try go_wp2_with (first | (go_at_call 17; (with_reducible refine (linear_Fit.calls k a0_0 a0_1 a0_2 a0_3 a0_4 true _ A5.out).mono ?_); rintro e w21 ⟨rfl, hb⟩; have n0_ := bst HB hb; replace BK114 := bbw BK114 hb; clear HB; have HB := n0_; clear n0_; (try clear hb); obtain ⟨hcz22_0, hcz22_1, hcz22_2, hcz22_3, hcz22_4, hfz22_0, hfz22_1, hfz22_2, hfz22_3, hfz22_4⟩ := hcf5 BK114)))
       go_meet
       case rel => exact ⟨_, (false), (by first | rfl | (simp; done) | (simp [*]; done)), H', ⟨by first | omega | exact Nat.le_refl _⟩, pkA BK114, bpk HB⟩
      ·
       rw [if_neg c19] at H
       have c19b0 : (a0_3 == 0) = false := beq_eq_false_iff_ne.mpr c19
       have c19b1 : (a0_3 != 0) = true := bne_iff_ne.mpr c19
       have H' := Aside0.mk H
       clear H
       obtain ⟨hcz23_0, hcz23_1, hcz23_2, hcz23_3, hcz23_4, hfz23_0, hfz23_1, hfz23_2, hfz23_3, hfz23_4⟩ := hcf5 BK114
       go_wp2_with (first | (go_at_call 17; (with_reducible refine (linear_Fit.calls k a0_0 a0_1 a0_2 a0_3 a0_4 true _ A5.out).mono ?_); rintro e w24 ⟨rfl, hb⟩; have n0_ := bst HB hb; replace BK114 := bbw BK114 hb; clear HB; have HB := n0_; clear n0_; (try clear hb); obtain ⟨hcz25_0, hcz25_1, hcz25_2, hcz25_3, hcz25_4, hfz25_0, hfz25_1, hfz25_2, hfz25_3, hfz25_4⟩ := hcf5 BK114))
       repeat (go_quiet (first | (go_at_call 17; (with_reducible refine (linear_Fit.calls k a0_0 a0_1 a0_2 a0_3 a0_4 true _ A5.out).mono ?_); rintro e w24 ⟨rfl, hb⟩; have n0_ := bst HB hb; replace BK114 := bbw BK114 hb; clear HB; have HB := n0_; clear n0_; (try clear hb); obtain ⟨hcz25_0, hcz25_1, hcz25_2, hcz25_3, hcz25_4, hfz25_0, hfz25_1, hfz25_2, hfz25_3, hfz25_4⟩ := hcf5 BK114)); try go_wp2_with (first | (go_at_call 17; (with_reducible refine (linear_Fit.calls k a0_0 a0_1 a0_2 a0_3 a0_4 true _ A5.out).mono ?_); rintro e w24 ⟨rfl, hb⟩; have n0_ := bst HB hb; replace BK114 := bbw BK114 hb; clear HB; have HB := n0_; clear n0_; (try clear hb); obtain ⟨hcz25_0, hcz25_1, hcz25_2, hcz25_3, hcz25_4, hfz25_0, hfz25_1, hfz25_2, hfz25_3, hfz25_4⟩ := hcf5 BK114)))
       go_meet
       case rel => exact ⟨_, (decide (a0_2 ≥ (l1.length : Int))), (by first | rfl | (simp; done) | (simp [*]; done)), H', ⟨by first | omega | exact Nat.le_refl _⟩, pkA BK114, bpk HB⟩
   ·
    replace c6 := Bool.eq_false_iff.mpr c6
    subst c6
    have H1 : (linear_Value.j0 k l1 true a0_0 a0_1 a0_2 a0_3 a0_4) = some r := by rw [if_neg (show ¬ (false = true) by decide)] at H; exact H
    clear H; have H := H1; clear H1
    have H' := Aside0.mk H
    clear H
    obtain ⟨hcz26_0, hcz26_1, hcz26_2, hcz26_3, hcz26_4, hfz26_0, hfz26_1, hfz26_2, hfz26_3, hfz26_4⟩ := hcf5 BK114
    go_wp2_with (first | (go_at_call 17; (with_reducible refine (linear_Fit.calls k a0_0 a0_1 a0_2 a0_3 a0_4 false _ A5.out).mono ?_); rintro e w27 ⟨rfl, hb⟩; have n0_ := bst HB hb; replace BK114 := bbw BK114 hb; clear HB; have HB := n0_; clear n0_; (try clear hb)))
    repeat (go_quiet (first | (go_at_call 17; (with_reducible refine (linear_Fit.calls k a0_0 a0_1 a0_2 a0_3 a0_4 false _ A5.out).mono ?_); rintro e w27 ⟨rfl, hb⟩; have n0_ := bst HB hb; replace BK114 := bbw BK114 hb; clear HB; have HB := n0_; clear n0_; (try clear hb))); try go_wp2_with (first | (go_at_call 17; (with_reducible refine (linear_Fit.calls k a0_0 a0_1 a0_2 a0_3 a0_4 false _ A5.out).mono ?_); rintro e w27 ⟨rfl, hb⟩; have n0_ := bst HB hb; replace BK114 := bbw BK114 hb; clear HB; have HB := n0_; clear n0_; (try clear hb))))
    go_meet
    case rel => exact ⟨_, (true), (by first | rfl | (simp; done) | (simp [*]; done)), H', ⟨by first | omega | exact Nat.le_refl _⟩, pkA BK114, bpk HB⟩
  case rest =>
   clear HC3; (try clear c1); (try clear p2); (try clear c6); (try clear c7); (try clear c7b0); (try clear c7b1); (try clear c8); (try clear c8b0); (try clear c8b1); (try clear c15); (try clear c15b0); (try clear c19); (try clear c19b0); (try clear c19b1); (try clear hcz11_0 hcz11_1 hcz11_2 hcz11_3 hcz11_4); (try clear hcz12_0 hcz12_1 hcz12_2 hcz12_3 hcz12_4); (try clear hcz14_0 hcz14_1 hcz14_2 hcz14_3 hcz14_4); (try clear hcz16_0 hcz16_1 hcz16_2 hcz16_3 hcz16_4); (try clear hcz18_0 hcz18_1 hcz18_2 hcz18_3 hcz18_4); (try clear hcz20_0 hcz20_1 hcz20_2 hcz20_3 hcz20_4); (try clear hcz22_0 hcz22_1 hcz22_2 hcz22_3 hcz22_4); (try clear hcz23_0 hcz23_1 hcz23_2 hcz23_3 hcz23_4); (try clear hcz25_0 hcz25_1 hcz25_2 hcz25_3 hcz25_4); (try clear hcz26_0 hcz26_1 hcz26_2 hcz26_3 hcz26_4); (try clear hcz9_0 hcz9_1 hcz9_2 hcz9_3 hcz9_4); (try clear hfz11_0 hfz11_1 hfz11_2 hfz11_3 hfz11_4); (try clear hfz12_0 hfz12_1 hfz12_2 hfz12_3 hfz12_4); (try clear hfz14_0 hfz14_1 hfz14_2 hfz14_3 hfz14_4); (try clear hfz16_0 hfz16_1 hfz16_2 hfz16_3 hfz16_4); (try clear hfz18_0 hfz18_1 hfz18_2 hfz18_3 hfz18_4); (try clear hfz20_0 hfz20_1 hfz20_2 hfz20_3 hfz20_4); (try clear hfz22_0 hfz22_1 hfz22_2 hfz22_3 hfz22_4); (try clear hfz23_0 hfz23_1 hfz23_2 hfz23_3 hfz23_4); (try clear hfz25_0 hfz25_1 hfz25_2 hfz25_3 hfz25_4); (try clear hfz26_0 hfz26_1 hfz26_2 hfz26_3 hfz26_4); (try clear hfz9_0 hfz9_1 hfz9_2 hfz9_3 hfz9_4); obtain ⟨kq, x34_2, rfl, HA, HJ2, BK114, HB⟩ := hcut
   cases kq with
   | zero => exact absurd HA.out (by simp [linear_Value.j0])
   | succ kj2 =>
    have H := HA.out
    clear HA
    simp only [linear_Value.j0] at H
    by_cases c28 : x34_2 = true
    ·
     subst c28
     have H1 : (some 0) = some r := by rw [if_pos rfl] at H; exact H
     clear H; have H := H1; clear H1
     obtain rfl := Option.some.inj H
     go_wp2
     repeat (go_quiet (fail); try go_wp2)
     go_ret
     exact ⟨by first | rfl | (simp [errW_none, errW_some] <;> rfl) | (simp [*, errW_none, errW_some] <;> rfl) | kernel_rfl, (bpk HB).out⟩
    ·
     replace c28 := Bool.eq_false_iff.mpr c28
     subst c28
     have H1 : ((linear_parts.f a0_0 a0_1 a0_2 a0_3 a0_4).bind fun bt116 => (if bt116.2.1 = 0 then (linear_Value.j1 kj2 l1 a0_4 bt116.1 bt116.2.1 bt116.2.2.1 bt116.2.2.2) else (if 0 ≤ bt116.1 then (if bt116.1 < (l1.length : Int) then (linear_Value.j1 kj2 l1 (wrap64 (a0_4 + (wrap64 (bt116.2.1 * (mn (mx (rd l1 bt116.1) (-1099511627776)) 1099511627776))))) bt116.1 bt116.2.1 bt116.2.2.1 bt116.2.2.2) else (none)) else (none)))) = some r := by rw [if_neg (show ¬ (false = true) by decide)] at H; exact H
     clear H; have H := H1; clear H1; replace H := bnH H; obtain ⟨⟨t116, t117, t118, t119⟩, A290, H⟩ := H
     try dsimp only at H
     have A29 := Aside0.mk A290; clear A290; have HC30 := Aside0.mk H; clear H
     obtain ⟨hcz31_0, hcz31_1, hcz31_2, hcz31_3, hcz31_4, hfz31_0, hfz31_1, hfz31_2, hfz31_3, hfz31_4⟩ := hcf5 BK114
     go_wp2_with (first | (go_at_call 25; (with_reducible refine (linear_parts.calls a0_0 a0_1 a0_2 a0_3 a0_4 t116 t117 t118 t119 _ A29.out).mono ?_); rintro e w32 ⟨rfl, hb⟩; have n0_ := bst HB hb; replace BK114 := bbw BK114 hb; clear HB; have HB := n0_; clear n0_; (try clear hb)))
     repeat (go_quiet (first | (go_at_call 25; (with_reducible refine (linear_parts.calls a0_0 a0_1 a0_2 a0_3 a0_4 t116 t117 t118 t119 _ A29.out).mono ?_); rintro e w32 ⟨rfl, hb⟩; have n0_ := bst HB hb; replace BK114 := bbw BK114 hb; clear HB; have HB := n0_; clear n0_; (try clear hb))); try go_wp2_with (first | (go_at_call 25; (with_reducible refine (linear_parts.calls a0_0 a0_1 a0_2 a0_3 a0_4 t116 t117 t118 t119 _ A29.out).mono ?_); rintro e w32 ⟨rfl, hb⟩; have n0_ := bst HB hb; replace BK114 := bbw BK114 hb; clear HB; have HB := n0_; clear n0_; (try clear hb))))
     refine loop_looped ?_
     refine looped_round (fun K_ hK_ => ?_)
     have H := HC30.out
     clear HC30; (try clear c1); (try clear c2); (try clear p2); (try clear c6); (try clear p6); (try clear c7); (try clear c7b0); (try clear c7b1); (try clear c8); (try clear c8b0); (try clear c8b1); (try clear c15); (try clear c15b0); (try clear c19); (try clear c19b0); (try clear c19b1); (try clear c28); (try clear hcz11_0 hcz11_1 hcz11_2 hcz11_3 hcz11_4); (try clear hcz12_0 hcz12_1 hcz12_2 hcz12_3 hcz12_4); (try clear hcz14_0 hcz14_1 hcz14_2 hcz14_3 hcz14_4); (try clear hcz16_0 hcz16_1 hcz16_2 hcz16_3 hcz16_4); (try clear hcz18_0 hcz18_1 hcz18_2 hcz18_3 hcz18_4); (try clear hcz20_0 hcz20_1 hcz20_2 hcz20_3 hcz20_4); (try clear hcz22_0 hcz22_1 hcz22_2 hcz22_3 hcz22_4); (try clear hcz23_0 hcz23_1 hcz23_2 hcz23_3 hcz23_4); (try clear hcz25_0 hcz25_1 hcz25_2 hcz25_3 hcz25_4); (try clear hcz26_0 hcz26_1 hcz26_2 hcz26_3 hcz26_4); (try clear hcz31_0 hcz31_1 hcz31_2 hcz31_3 hcz31_4); (try clear hcz9_0 hcz9_1 hcz9_2 hcz9_3 hcz9_4); (try clear hfz11_0 hfz11_1 hfz11_2 hfz11_3 hfz11_4); (try clear hfz12_0 hfz12_1 hfz12_2 hfz12_3 hfz12_4); (try clear hfz14_0 hfz14_1 hfz14_2 hfz14_3 hfz14_4); (try clear hfz16_0 hfz16_1 hfz16_2 hfz16_3 hfz16_4); (try clear hfz18_0 hfz18_1 hfz18_2 hfz18_3 hfz18_4); (try clear hfz20_0 hfz20_1 hfz20_2 hfz20_3 hfz20_4); (try clear hfz22_0 hfz22_1 hfz22_2 hfz22_3 hfz22_4); (try clear hfz23_0 hfz23_1 hfz23_2 hfz23_3 hfz23_4); (try clear hfz25_0 hfz25_1 hfz25_2 hfz25_3 hfz25_4); (try clear hfz26_0 hfz26_1 hfz26_2 hfz26_3 hfz26_4); (try clear hfz31_0 hfz31_1 hfz31_2 hfz31_3 hfz31_4); (try clear hfz9_0 hfz9_1 hfz9_2 hfz9_3 hfz9_4); (try clear p2); have HC33 := Aside0.mk H; clear H
     go_upto_block 1 with (fail)
     repeat (go_quiet (fail); go_upto_block 1 with (fail))
     go_cut [5] (fun v5 wc => ∃ (kq : Nat) (x5_32 : Int), v5 = .int .i64 x5_32 ∧ Aside0 (linear_Value.j1 kq l1 x5_32 t116 t117 t118 t119 = some r) ∧ Aside0 (kq ≤ kj2) ∧ Aside0 (wc.heap[gb114]? = some (.cells #[.int .i64 a0_0, .int .i64 a0_1, .int .i64 a0_2, .int .i64 a0_3, .int .i64 a0_4] 23 (0, 0))) ∧ Aside0 (Below w.heap.size w wc))
     case first =>
      have H := HC33.out
      clear HC33
      by_cases c34 : t117 = 0
      ·
       rw [if_pos c34] at H
       have c34b0 : (t117 == 0) = true := beq_iff_eq.mpr c34
       have c34b1 : (t117 != 0) = false := bne_eq_false_iff_eq.mpr c34
       clear c34
       (first | rw [c34b0] | (simp only [i64_w, i32_w]; rw [c34b0]) | skip)
       have H' := Aside0.mk H
       clear H
       go_wp2_with (first | ((with_reducible refine gate_dst (N := 7) rfl ?_); (try (refine gate_guard (by rfl) ?_; dsimp only)); refine box_event ?hg (N := 7) ?hd (cs := #[.int .i64 0, .int .i64 0]) (t := 50) ?hr ?_; (case hd => rfl); (case hg => rfl); (case hr => first | (go_simp; done) | (go_simp; rfl)); intro gb120 hg w35 hbox hb; have n0_ := bst HB hb; have n1_ := Aside0.mk (hbox); have n2_ := bsz HB hg; have n3_ := bsz HB hg; have n4_ := bn1 BK114 hg; have n5_ := bn2 BK114 hg; replace BK114 := bbw BK114 hb; clear HB; have HB := n0_; have BK120 := n1_; have GW120 := n2_; have GE120 := n3_; have NB114_120 := n4_; have NB120_114 := n5_; clear n0_ n1_ n2_ n3_ n4_ n5_; clear hb hbox hg; have hnb36 := nn NB120_114 NB114_120; obtain ⟨hcz37_0, hcz37_1, hfz37_0, hfz37_1⟩ := hcf2 BK120))
       repeat (go_quiet (first | ((with_reducible refine gate_dst (N := 7) rfl ?_); (try (refine gate_guard (by rfl) ?_; dsimp only)); refine box_event ?hg (N := 7) ?hd (cs := #[.int .i64 0, .int .i64 0]) (t := 50) ?hr ?_; (case hd => rfl); (case hg => rfl); (case hr => first | (go_simp; done) | (go_simp; rfl)); intro gb120 hg w35 hbox hb; have n0_ := bst HB hb; have n1_ := Aside0.mk (hbox); have n2_ := bsz HB hg; have n3_ := bsz HB hg; have n4_ := bn1 BK114 hg; have n5_ := bn2 BK114 hg; replace BK114 := bbw BK114 hb; clear HB; have HB := n0_; have BK120 := n1_; have GW120 := n2_; have GE120 := n3_; have NB114_120 := n4_; have NB120_114 := n5_; clear n0_ n1_ n2_ n3_ n4_ n5_; clear hb hbox hg; have hnb36 := nn NB120_114 NB114_120; obtain ⟨hcz37_0, hcz37_1, hfz37_0, hfz37_1⟩ := hcf2 BK120)); try go_wp2_with (first | ((with_reducible refine gate_dst (N := 7) rfl ?_); (try (refine gate_guard (by rfl) ?_; dsimp only)); refine box_event ?hg (N := 7) ?hd (cs := #[.int .i64 0, .int .i64 0]) (t := 50) ?hr ?_; (case hd => rfl); (case hg => rfl); (case hr => first | (go_simp; done) | (go_simp; rfl)); intro gb120 hg w35 hbox hb; have n0_ := bst HB hb; have n1_ := Aside0.mk (hbox); have n2_ := bsz HB hg; have n3_ := bsz HB hg; have n4_ := bn1 BK114 hg; have n5_ := bn2 BK114 hg; replace BK114 := bbw BK114 hb; clear HB; have HB := n0_; have BK120 := n1_; have GW120 := n2_; have GE120 := n3_; have NB114_120 := n4_; have NB120_114 := n5_; clear n0_ n1_ n2_ n3_ n4_ n5_; clear hb hbox hg; have hnb36 := nn NB120_114 NB114_120; obtain ⟨hcz37_0, hcz37_1, hfz37_0, hfz37_1⟩ := hcf2 BK120)))
       go_meet
       case rel => exact ⟨_, (a0_4), (by first | rfl | (simp; done) | (simp [*]; done)), H', ⟨by have := HJ2.out; first | omega | exact Nat.le_refl _⟩, far2 BK114 NB114_120, bpk HB⟩
      ·
       rw [if_neg c34] at H
       have c34b0 : (t117 == 0) = false := beq_eq_false_iff_ne.mpr c34
       have c34b1 : (t117 != 0) = true := bne_iff_ne.mpr c34
       (first | rw [c34b0] | (simp only [i64_w, i32_w]; rw [c34b0]) | skip)
       by_cases c38 : 0 ≤ t116
       case neg => rw [if_neg c38] at H; exact absurd H (by simp)
       rw [if_pos c38] at H
       have c38b0 : decide (0 ≤ t116) = true := decide_eq_true c38
       clear c38
       by_cases c39 : t116 < (l1.length : Int)
       case neg => rw [if_neg c39] at H; exact absurd H (by simp)
       rw [if_pos c39] at H
       have c39b0 : decide (t116 < (l1.length : Int)) = true := decide_eq_true c39
       clear c39
       obtain ⟨ji40, hji40⟩ : ∃ j_ : Int, (mx (rd l1 t116) (-1099511627776)) = j_ := ⟨_, rfl⟩
       replace H : (linear_Value.j1 kj2 l1 (wrap64 (a0_4 + (wrap64 (t117 * (mn (ji40) 1099511627776))))) t116 t117 t118 t119) = some r := by first | (rw [hji40] at H; exact H) | (simp only [hji40] at H ⊢; exact H)
       have hji40_ : (if (rd l1 t116) < (-1099511627776) then (-1099511627776) else (rd l1 t116)) = ji40 := hji40
       obtain ⟨ji41, hji41⟩ : ∃ j_ : Int, (mn (ji40) 1099511627776) = j_ := ⟨_, rfl⟩
       replace H : (linear_Value.j1 kj2 l1 (wrap64 (a0_4 + (wrap64 (t117 * (ji41))))) t116 t117 t118 t119) = some r := by first | (rw [hji41] at H; exact H) | (simp only [hji41] at H ⊢; exact H)
       have hji41_ : (if 1099511627776 < (ji40) then 1099511627776 else (ji40)) = ji41 := hji41
       have H' := Aside0.mk H
       clear H
       go_wp2_with (first | ((with_reducible refine gate_dst (N := 7) rfl ?_); (try (refine gate_guard (by rfl) ?_; dsimp only)); refine box_event ?hg (N := 7) ?hd (cs := #[.int .i64 0, .int .i64 0]) (t := 50) ?hr ?_; (case hd => rfl); (case hg => rfl); (case hr => first | (go_simp; done) | (go_simp; rfl)); intro gb120 hg w42 hbox hb; have n0_ := bst HB hb; have n1_ := Aside0.mk (hbox); have n2_ := bsz HB hg; have n3_ := bsz HB hg; have n4_ := bn1 BK114 hg; have n5_ := bn2 BK114 hg; replace BK114 := bbw BK114 hb; clear HB; have HB := n0_; have BK120 := n1_; have GW120 := n2_; have GE120 := n3_; have NB114_120 := n4_; have NB120_114 := n5_; clear n0_ n1_ n2_ n3_ n4_ n5_; clear hb hbox hg; have hnb43 := nn NB120_114 NB114_120; obtain ⟨hcz44_0, hcz44_1, hfz44_0, hfz44_1⟩ := hcf2 BK120; have p121 : 0 ≤ (t116 : Int) := of_decide_eq_true (by first | (with_reducible assumption) | assumption); have q121 : t116 < (l1.length : Int) := of_decide_eq_true (by first | (with_reducible assumption) | assumption); obtain ⟨ad121, e121, hx121_0⟩ := Kd.at_int HR1.out t116 p121 q121; cases e121; have hn121_0 : ad121.block ≠ gb120 := Nat.ne_of_lt (Nat.lt_of_lt_of_le (by have := World.block_lt_of_cell? _ _ hx121_0; first | rwa [add_block] at this | exact this) GW120.out); have hn121_1 : ad121.block ≠ gb120 := Nat.ne_of_lt (Nat.lt_of_lt_of_le (by have := World.block_lt_of_cell? _ _ hx121_0; first | rwa [add_block] at this | exact this) GW120.out); replace hx121_0 := (HB.out.cell (World.block_lt_of_cell? w _ hx121_0)).trans hx121_0; replace hx121_0 := (cell_far (p := ⟨gb120, 0, none⟩) (by first | (rw [add_block]; exact hn121_0) | (show (Addr.add _ _).block ≠ _; rw [add_block]; exact hn121_0) | exact hn121_0) (.int .i64 t116)).trans hx121_0; replace hx121_0 := (cell_far (p := ⟨gb120, 1, none⟩) (by first | (rw [add_block]; exact hn121_1) | (show (Addr.add _ _).block ≠ _; rw [add_block]; exact hn121_1) | exact hn121_1) (.int .i64 t117)).trans hx121_0; (try have hy121_0 := fun (n_ : Nat) => (show ((((w42.drewN n_).setCell ⟨gb120, 0, none⟩ (.int .i64 t116)).setCell ⟨gb120, 1, none⟩ (.int .i64 t117))).cell? _ = some _ from hx121_0)); clear hn121_0; clear hn121_1; replace p121 := eq_true p121; replace q121 := eq_true q121))
       repeat (go_quiet (first | ((with_reducible refine gate_dst (N := 7) rfl ?_); (try (refine gate_guard (by rfl) ?_; dsimp only)); refine box_event ?hg (N := 7) ?hd (cs := #[.int .i64 0, .int .i64 0]) (t := 50) ?hr ?_; (case hd => rfl); (case hg => rfl); (case hr => first | (go_simp; done) | (go_simp; rfl)); intro gb120 hg w42 hbox hb; have n0_ := bst HB hb; have n1_ := Aside0.mk (hbox); have n2_ := bsz HB hg; have n3_ := bsz HB hg; have n4_ := bn1 BK114 hg; have n5_ := bn2 BK114 hg; replace BK114 := bbw BK114 hb; clear HB; have HB := n0_; have BK120 := n1_; have GW120 := n2_; have GE120 := n3_; have NB114_120 := n4_; have NB120_114 := n5_; clear n0_ n1_ n2_ n3_ n4_ n5_; clear hb hbox hg; have hnb43 := nn NB120_114 NB114_120; obtain ⟨hcz44_0, hcz44_1, hfz44_0, hfz44_1⟩ := hcf2 BK120; have p121 : 0 ≤ (t116 : Int) := of_decide_eq_true (by first | (with_reducible assumption) | assumption); have q121 : t116 < (l1.length : Int) := of_decide_eq_true (by first | (with_reducible assumption) | assumption); obtain ⟨ad121, e121, hx121_0⟩ := Kd.at_int HR1.out t116 p121 q121; cases e121; have hn121_0 : ad121.block ≠ gb120 := Nat.ne_of_lt (Nat.lt_of_lt_of_le (by have := World.block_lt_of_cell? _ _ hx121_0; first | rwa [add_block] at this | exact this) GW120.out); have hn121_1 : ad121.block ≠ gb120 := Nat.ne_of_lt (Nat.lt_of_lt_of_le (by have := World.block_lt_of_cell? _ _ hx121_0; first | rwa [add_block] at this | exact this) GW120.out); replace hx121_0 := (HB.out.cell (World.block_lt_of_cell? w _ hx121_0)).trans hx121_0; replace hx121_0 := (cell_far (p := ⟨gb120, 0, none⟩) (by first | (rw [add_block]; exact hn121_0) | (show (Addr.add _ _).block ≠ _; rw [add_block]; exact hn121_0) | exact hn121_0) (.int .i64 t116)).trans hx121_0; replace hx121_0 := (cell_far (p := ⟨gb120, 1, none⟩) (by first | (rw [add_block]; exact hn121_1) | (show (Addr.add _ _).block ≠ _; rw [add_block]; exact hn121_1) | exact hn121_1) (.int .i64 t117)).trans hx121_0; (try have hy121_0 := fun (n_ : Nat) => (show ((((w42.drewN n_).setCell ⟨gb120, 0, none⟩ (.int .i64 t116)).setCell ⟨gb120, 1, none⟩ (.int .i64 t117))).cell? _ = some _ from hx121_0)); clear hn121_0; clear hn121_1; replace p121 := eq_true p121; replace q121 := eq_true q121)); try go_wp2_with (first | ((with_reducible refine gate_dst (N := 7) rfl ?_); (try (refine gate_guard (by rfl) ?_; dsimp only)); refine box_event ?hg (N := 7) ?hd (cs := #[.int .i64 0, .int .i64 0]) (t := 50) ?hr ?_; (case hd => rfl); (case hg => rfl); (case hr => first | (go_simp; done) | (go_simp; rfl)); intro gb120 hg w42 hbox hb; have n0_ := bst HB hb; have n1_ := Aside0.mk (hbox); have n2_ := bsz HB hg; have n3_ := bsz HB hg; have n4_ := bn1 BK114 hg; have n5_ := bn2 BK114 hg; replace BK114 := bbw BK114 hb; clear HB; have HB := n0_; have BK120 := n1_; have GW120 := n2_; have GE120 := n3_; have NB114_120 := n4_; have NB120_114 := n5_; clear n0_ n1_ n2_ n3_ n4_ n5_; clear hb hbox hg; have hnb43 := nn NB120_114 NB114_120; obtain ⟨hcz44_0, hcz44_1, hfz44_0, hfz44_1⟩ := hcf2 BK120; have p121 : 0 ≤ (t116 : Int) := of_decide_eq_true (by first | (with_reducible assumption) | assumption); have q121 : t116 < (l1.length : Int) := of_decide_eq_true (by first | (with_reducible assumption) | assumption); obtain ⟨ad121, e121, hx121_0⟩ := Kd.at_int HR1.out t116 p121 q121; cases e121; have hn121_0 : ad121.block ≠ gb120 := Nat.ne_of_lt (Nat.lt_of_lt_of_le (by have := World.block_lt_of_cell? _ _ hx121_0; first | rwa [add_block] at this | exact this) GW120.out); have hn121_1 : ad121.block ≠ gb120 := Nat.ne_of_lt (Nat.lt_of_lt_of_le (by have := World.block_lt_of_cell? _ _ hx121_0; first | rwa [add_block] at this | exact this) GW120.out); replace hx121_0 := (HB.out.cell (World.block_lt_of_cell? w _ hx121_0)).trans hx121_0; replace hx121_0 := (cell_far (p := ⟨gb120, 0, none⟩) (by first | (rw [add_block]; exact hn121_0) | (show (Addr.add _ _).block ≠ _; rw [add_block]; exact hn121_0) | exact hn121_0) (.int .i64 t116)).trans hx121_0; replace hx121_0 := (cell_far (p := ⟨gb120, 1, none⟩) (by first | (rw [add_block]; exact hn121_1) | (show (Addr.add _ _).block ≠ _; rw [add_block]; exact hn121_1) | exact hn121_1) (.int .i64 t117)).trans hx121_0; (try have hy121_0 := fun (n_ : Nat) => (show ((((w42.drewN n_).setCell ⟨gb120, 0, none⟩ (.int .i64 t116)).setCell ⟨gb120, 1, none⟩ (.int .i64 t117))).cell? _ = some _ from hx121_0)); clear hn121_0; clear hn121_1; replace p121 := eq_true p121; replace q121 := eq_true q121)))
       go_meet
       case rel => exact ⟨_, (wrap64 (a0_4 + (wrap64 (t117 * (ji41))))), (by first | rfl | (simp; done) | (simp only [← hji41] <;> (first | rfl | simp)) | (simp [*]; done)), H', ⟨by have := HJ2.out; first | omega | exact Nat.le_refl _⟩, far2 BK114 NB114_120, bpk HB⟩
     case rest =>
      clear HC33; (try clear c1); (try clear p1); (try clear q1); (try clear hx1); (try clear c2); (try clear p2); (try clear c3); (try clear c4); (try clear c6); (try clear p6); (try clear c7); (try clear c7b0); (try clear c7b1); (try clear c8); (try clear c8b0); (try clear c8b1); (try clear p12); (try clear q12); (try clear hx12); (try clear c15); (try clear c15b0); (try clear c19); (try clear c19b0); (try clear c19b1); (try clear c28); (try clear c34); (try clear c34b0); (try clear c34b1); (try clear c36); (try clear c38); (try clear c38b0); (try clear c39); (try clear c39b0); (try clear c43); (try clear hcz11_0 hcz11_1 hcz11_2 hcz11_3 hcz11_4); (try clear hcz12_0 hcz12_1 hcz12_2 hcz12_3 hcz12_4); (try clear hcz14_0 hcz14_1 hcz14_2 hcz14_3 hcz14_4); (try clear hcz16_0 hcz16_1 hcz16_2 hcz16_3 hcz16_4); (try clear hcz18_0 hcz18_1 hcz18_2 hcz18_3 hcz18_4); (try clear hcz20_0 hcz20_1 hcz20_2 hcz20_3 hcz20_4); (try clear hcz22_0 hcz22_1 hcz22_2 hcz22_3 hcz22_4); (try clear hcz23_0 hcz23_1 hcz23_2 hcz23_3 hcz23_4); (try clear hcz25_0 hcz25_1 hcz25_2 hcz25_3 hcz25_4); (try clear hcz26_0 hcz26_1 hcz26_2 hcz26_3 hcz26_4); (try clear hcz31_0 hcz31_1 hcz31_2 hcz31_3 hcz31_4); (try clear hcz37_0 hcz37_1); (try clear hcz44_0 hcz44_1); (try clear hcz9_0 hcz9_1 hcz9_2 hcz9_3 hcz9_4); (try clear hfz11_0 hfz11_1 hfz11_2 hfz11_3 hfz11_4); (try clear hfz12_0 hfz12_1 hfz12_2 hfz12_3 hfz12_4); (try clear hfz14_0 hfz14_1 hfz14_2 hfz14_3 hfz14_4); (try clear hfz16_0 hfz16_1 hfz16_2 hfz16_3 hfz16_4); (try clear hfz18_0 hfz18_1 hfz18_2 hfz18_3 hfz18_4); (try clear hfz20_0 hfz20_1 hfz20_2 hfz20_3 hfz20_4); (try clear hfz22_0 hfz22_1 hfz22_2 hfz22_3 hfz22_4); (try clear hfz23_0 hfz23_1 hfz23_2 hfz23_3 hfz23_4); (try clear hfz25_0 hfz25_1 hfz25_2 hfz25_3 hfz25_4); (try clear hfz26_0 hfz26_1 hfz26_2 hfz26_3 hfz26_4); (try clear hfz31_0 hfz31_1 hfz31_2 hfz31_3 hfz31_4); (try clear hfz37_0 hfz37_1); (try clear hfz44_0 hfz44_1); (try clear hfz9_0 hfz9_1 hfz9_2 hfz9_3 hfz9_4); (try clear hx121_0); (try clear p121); (try clear p2); (try clear p6); (try clear q121); obtain ⟨kq, x5_32, rfl, HA, HJ32, BK114, HB⟩ := hcut
      cases kq with
      | zero => exact absurd HA.out (by simp [linear_Value.j1])
      | succ kj32 =>
       have H := HA.out
       clear HA
       simp only [linear_Value.j1] at H
       have HC45 := Aside0.mk H; clear H
       go_wp2
       repeat (go_quiet (fail); try go_wp2)
       refine looped_round (fun K_ hK_ => ?_)
       have H := HC45.out
       clear HC45; (try clear c1); (try clear p1); (try clear q1); (try clear hx1); (try clear c2); (try clear p2); (try clear c3); (try clear c4); (try clear c6); (try clear p6); (try clear c7); (try clear c7b0); (try clear c7b1); (try clear c8); (try clear c8b0); (try clear c8b1); (try clear p12); (try clear q12); (try clear hx12); (try clear c15); (try clear c15b0); (try clear c19); (try clear c19b0); (try clear c19b1); (try clear c28); (try clear c34); (try clear c34b0); (try clear c34b1); (try clear c36); (try clear c38); (try clear c38b0); (try clear c39); (try clear c39b0); (try clear c43); (try clear hcz11_0 hcz11_1 hcz11_2 hcz11_3 hcz11_4); (try clear hcz12_0 hcz12_1 hcz12_2 hcz12_3 hcz12_4); (try clear hcz14_0 hcz14_1 hcz14_2 hcz14_3 hcz14_4); (try clear hcz16_0 hcz16_1 hcz16_2 hcz16_3 hcz16_4); (try clear hcz18_0 hcz18_1 hcz18_2 hcz18_3 hcz18_4); (try clear hcz20_0 hcz20_1 hcz20_2 hcz20_3 hcz20_4); (try clear hcz22_0 hcz22_1 hcz22_2 hcz22_3 hcz22_4); (try clear hcz23_0 hcz23_1 hcz23_2 hcz23_3 hcz23_4); (try clear hcz25_0 hcz25_1 hcz25_2 hcz25_3 hcz25_4); (try clear hcz26_0 hcz26_1 hcz26_2 hcz26_3 hcz26_4); (try clear hcz31_0 hcz31_1 hcz31_2 hcz31_3 hcz31_4); (try clear hcz37_0 hcz37_1); (try clear hcz44_0 hcz44_1); (try clear hcz9_0 hcz9_1 hcz9_2 hcz9_3 hcz9_4); (try clear hfz11_0 hfz11_1 hfz11_2 hfz11_3 hfz11_4); (try clear hfz12_0 hfz12_1 hfz12_2 hfz12_3 hfz12_4); (try clear hfz14_0 hfz14_1 hfz14_2 hfz14_3 hfz14_4); (try clear hfz16_0 hfz16_1 hfz16_2 hfz16_3 hfz16_4); (try clear hfz18_0 hfz18_1 hfz18_2 hfz18_3 hfz18_4); (try clear hfz20_0 hfz20_1 hfz20_2 hfz20_3 hfz20_4); (try clear hfz22_0 hfz22_1 hfz22_2 hfz22_3 hfz22_4); (try clear hfz23_0 hfz23_1 hfz23_2 hfz23_3 hfz23_4); (try clear hfz25_0 hfz25_1 hfz25_2 hfz25_3 hfz25_4); (try clear hfz26_0 hfz26_1 hfz26_2 hfz26_3 hfz26_4); (try clear hfz31_0 hfz31_1 hfz31_2 hfz31_3 hfz31_4); (try clear hfz37_0 hfz37_1); (try clear hfz44_0 hfz44_1); (try clear hfz9_0 hfz9_1 hfz9_2 hfz9_3 hfz9_4); (try clear hx121_0); (try clear p1); (try clear p12); (try clear p121); (try clear p2); (try clear p6); (try clear q1); (try clear q12); (try clear q121); have HC46 := Aside0.mk H; clear H
       go_upto_block 1 with (fail)
       repeat (go_quiet (fail); go_upto_block 1 with (fail))
       go_cut [5] (fun v5 wc => ∃ (kq : Nat) (x5_45 : Int), v5 = .int .i64 x5_45 ∧ Aside0 (linear_Value.j2 kq x5_45 = some r) ∧ Aside0 (kq ≤ kj32) ∧ Aside0 (wc.heap[gb114]? = some (.cells #[.int .i64 a0_0, .int .i64 a0_1, .int .i64 a0_2, .int .i64 a0_3, .int .i64 a0_4] 23 (0, 0))) ∧ Aside0 (Below w.heap.size w wc))
       case first =>
        have H := HC46.out
        clear HC46
        by_cases c47 : t119 = 0
        ·
         rw [if_pos c47] at H
         have c47b0 : (t119 == 0) = true := beq_iff_eq.mpr c47
         have c47b1 : (t119 != 0) = false := bne_eq_false_iff_eq.mpr c47
         clear c47
         (first | rw [c47b0] | (simp only [i64_w, i32_w]; rw [c47b0]) | skip)
         have H' := Aside0.mk H
         clear H
         go_wp2_with (first | ((with_reducible refine gate_dst (N := 7) rfl ?_); (try (refine gate_guard (by rfl) ?_; dsimp only)); refine box_event ?hg (N := 7) ?hd (cs := #[.int .i64 0, .int .i64 0]) (t := 50) ?hr ?_; (case hd => rfl); (case hg => rfl); (case hr => first | (go_simp; done) | (go_simp; rfl)); intro gb122 hg w48 hbox hb; have n0_ := bst HB hb; have n1_ := Aside0.mk (hbox); have n2_ := bsz HB hg; have n3_ := bsz HB hg; have n4_ := bn1 BK114 hg; have n5_ := bn2 BK114 hg; replace BK114 := bbw BK114 hb; clear HB; have HB := n0_; have BK122 := n1_; have GW122 := n2_; have GE122 := n3_; have NB114_122 := n4_; have NB122_114 := n5_; clear n0_ n1_ n2_ n3_ n4_ n5_; clear hb hbox hg; have hnb49 := nn NB122_114 NB114_122; obtain ⟨hcz50_0, hcz50_1, hfz50_0, hfz50_1⟩ := hcf2 BK122))
         repeat (go_quiet (first | ((with_reducible refine gate_dst (N := 7) rfl ?_); (try (refine gate_guard (by rfl) ?_; dsimp only)); refine box_event ?hg (N := 7) ?hd (cs := #[.int .i64 0, .int .i64 0]) (t := 50) ?hr ?_; (case hd => rfl); (case hg => rfl); (case hr => first | (go_simp; done) | (go_simp; rfl)); intro gb122 hg w48 hbox hb; have n0_ := bst HB hb; have n1_ := Aside0.mk (hbox); have n2_ := bsz HB hg; have n3_ := bsz HB hg; have n4_ := bn1 BK114 hg; have n5_ := bn2 BK114 hg; replace BK114 := bbw BK114 hb; clear HB; have HB := n0_; have BK122 := n1_; have GW122 := n2_; have GE122 := n3_; have NB114_122 := n4_; have NB122_114 := n5_; clear n0_ n1_ n2_ n3_ n4_ n5_; clear hb hbox hg; have hnb49 := nn NB122_114 NB114_122; obtain ⟨hcz50_0, hcz50_1, hfz50_0, hfz50_1⟩ := hcf2 BK122)); try go_wp2_with (first | ((with_reducible refine gate_dst (N := 7) rfl ?_); (try (refine gate_guard (by rfl) ?_; dsimp only)); refine box_event ?hg (N := 7) ?hd (cs := #[.int .i64 0, .int .i64 0]) (t := 50) ?hr ?_; (case hd => rfl); (case hg => rfl); (case hr => first | (go_simp; done) | (go_simp; rfl)); intro gb122 hg w48 hbox hb; have n0_ := bst HB hb; have n1_ := Aside0.mk (hbox); have n2_ := bsz HB hg; have n3_ := bsz HB hg; have n4_ := bn1 BK114 hg; have n5_ := bn2 BK114 hg; replace BK114 := bbw BK114 hb; clear HB; have HB := n0_; have BK122 := n1_; have GW122 := n2_; have GE122 := n3_; have NB114_122 := n4_; have NB122_114 := n5_; clear n0_ n1_ n2_ n3_ n4_ n5_; clear hb hbox hg; have hnb49 := nn NB122_114 NB114_122; obtain ⟨hcz50_0, hcz50_1, hfz50_0, hfz50_1⟩ := hcf2 BK122)))
         go_meet
         case rel => exact ⟨_, (x5_32), (by first | rfl | (simp; done) | (simp [*]; done)), H', ⟨by have := HJ2.out; have := HJ32.out; first | omega | exact Nat.le_refl _⟩, far2 BK114 NB114_122, bpk HB⟩
        ·
         rw [if_neg c47] at H
         have c47b0 : (t119 == 0) = false := beq_eq_false_iff_ne.mpr c47
         have c47b1 : (t119 != 0) = true := bne_iff_ne.mpr c47
         (first | rw [c47b0] | (simp only [i64_w, i32_w]; rw [c47b0]) | skip)
         by_cases c51 : 0 ≤ t118
         case neg => rw [if_neg c51] at H; exact absurd H (by simp)
         rw [if_pos c51] at H
         have c51b0 : decide (0 ≤ t118) = true := decide_eq_true c51
         clear c51
         by_cases c52 : t118 < (l1.length : Int)
         case neg => rw [if_neg c52] at H; exact absurd H (by simp)
         rw [if_pos c52] at H
         have c52b0 : decide (t118 < (l1.length : Int)) = true := decide_eq_true c52
         clear c52
         obtain ⟨ji53, hji53⟩ : ∃ j_ : Int, (mx (rd l1 t118) (-1099511627776)) = j_ := ⟨_, rfl⟩
         replace H : (linear_Value.j2 kj32 (wrap64 (x5_32 + (wrap64 (t119 * (mn (ji53) 1099511627776)))))) = some r := by first | (rw [hji53] at H; exact H) | (simp only [hji53] at H ⊢; exact H)
         have hji53_ : (if (rd l1 t118) < (-1099511627776) then (-1099511627776) else (rd l1 t118)) = ji53 := hji53
         obtain ⟨ji54, hji54⟩ : ∃ j_ : Int, (mn (ji53) 1099511627776) = j_ := ⟨_, rfl⟩
         replace H : (linear_Value.j2 kj32 (wrap64 (x5_32 + (wrap64 (t119 * (ji54)))))) = some r := by first | (rw [hji54] at H; exact H) | (simp only [hji54] at H ⊢; exact H)
         have hji54_ : (if 1099511627776 < (ji53) then 1099511627776 else (ji53)) = ji54 := hji54
         have H' := Aside0.mk H
         clear H
         go_wp2_with (first | ((with_reducible refine gate_dst (N := 7) rfl ?_); (try (refine gate_guard (by rfl) ?_; dsimp only)); refine box_event ?hg (N := 7) ?hd (cs := #[.int .i64 0, .int .i64 0]) (t := 50) ?hr ?_; (case hd => rfl); (case hg => rfl); (case hr => first | (go_simp; done) | (go_simp; rfl)); intro gb122 hg w55 hbox hb; have n0_ := bst HB hb; have n1_ := Aside0.mk (hbox); have n2_ := bsz HB hg; have n3_ := bsz HB hg; have n4_ := bn1 BK114 hg; have n5_ := bn2 BK114 hg; replace BK114 := bbw BK114 hb; clear HB; have HB := n0_; have BK122 := n1_; have GW122 := n2_; have GE122 := n3_; have NB114_122 := n4_; have NB122_114 := n5_; clear n0_ n1_ n2_ n3_ n4_ n5_; clear hb hbox hg; have hnb56 := nn NB122_114 NB114_122; obtain ⟨hcz57_0, hcz57_1, hfz57_0, hfz57_1⟩ := hcf2 BK122; have p123 : 0 ≤ (t118 : Int) := of_decide_eq_true (by first | (with_reducible assumption) | assumption); have q123 : t118 < (l1.length : Int) := of_decide_eq_true (by first | (with_reducible assumption) | assumption); obtain ⟨ad123, e123, hx123_0⟩ := Kd.at_int HR1.out t118 p123 q123; cases e123; have hn123_0 : ad123.block ≠ gb122 := Nat.ne_of_lt (Nat.lt_of_lt_of_le (by have := World.block_lt_of_cell? _ _ hx123_0; first | rwa [add_block] at this | exact this) GW122.out); have hn123_1 : ad123.block ≠ gb122 := Nat.ne_of_lt (Nat.lt_of_lt_of_le (by have := World.block_lt_of_cell? _ _ hx123_0; first | rwa [add_block] at this | exact this) GW122.out); replace hx123_0 := (HB.out.cell (World.block_lt_of_cell? w _ hx123_0)).trans hx123_0; replace hx123_0 := (cell_far (p := ⟨gb122, 0, none⟩) (by first | (rw [add_block]; exact hn123_0) | (show (Addr.add _ _).block ≠ _; rw [add_block]; exact hn123_0) | exact hn123_0) (.int .i64 t118)).trans hx123_0; replace hx123_0 := (cell_far (p := ⟨gb122, 1, none⟩) (by first | (rw [add_block]; exact hn123_1) | (show (Addr.add _ _).block ≠ _; rw [add_block]; exact hn123_1) | exact hn123_1) (.int .i64 t119)).trans hx123_0; (try have hy123_0 := fun (n_ : Nat) => (show ((((w55.drewN n_).setCell ⟨gb122, 0, none⟩ (.int .i64 t118)).setCell ⟨gb122, 1, none⟩ (.int .i64 t119))).cell? _ = some _ from hx123_0)); clear hn123_0; clear hn123_1; replace p123 := eq_true p123; replace q123 := eq_true q123))
         repeat (go_quiet (first | ((with_reducible refine gate_dst (N := 7) rfl ?_); (try (refine gate_guard (by rfl) ?_; dsimp only)); refine box_event ?hg (N := 7) ?hd (cs := #[.int .i64 0, .int .i64 0]) (t := 50) ?hr ?_; (case hd => rfl); (case hg => rfl); (case hr => first | (go_simp; done) | (go_simp; rfl)); intro gb122 hg w55 hbox hb; have n0_ := bst HB hb; have n1_ := Aside0.mk (hbox); have n2_ := bsz HB hg; have n3_ := bsz HB hg; have n4_ := bn1 BK114 hg; have n5_ := bn2 BK114 hg; replace BK114 := bbw BK114 hb; clear HB; have HB := n0_; have BK122 := n1_; have GW122 := n2_; have GE122 := n3_; have NB114_122 := n4_; have NB122_114 := n5_; clear n0_ n1_ n2_ n3_ n4_ n5_; clear hb hbox hg; have hnb56 := nn NB122_114 NB114_122; obtain ⟨hcz57_0, hcz57_1, hfz57_0, hfz57_1⟩ := hcf2 BK122; have p123 : 0 ≤ (t118 : Int) := of_decide_eq_true (by first | (with_reducible assumption) | assumption); have q123 : t118 < (l1.length : Int) := of_decide_eq_true (by first | (with_reducible assumption) | assumption); obtain ⟨ad123, e123, hx123_0⟩ := Kd.at_int HR1.out t118 p123 q123; cases e123; have hn123_0 : ad123.block ≠ gb122 := Nat.ne_of_lt (Nat.lt_of_lt_of_le (by have := World.block_lt_of_cell? _ _ hx123_0; first | rwa [add_block] at this | exact this) GW122.out); have hn123_1 : ad123.block ≠ gb122 := Nat.ne_of_lt (Nat.lt_of_lt_of_le (by have := World.block_lt_of_cell? _ _ hx123_0; first | rwa [add_block] at this | exact this) GW122.out); replace hx123_0 := (HB.out.cell (World.block_lt_of_cell? w _ hx123_0)).trans hx123_0; replace hx123_0 := (cell_far (p := ⟨gb122, 0, none⟩) (by first | (rw [add_block]; exact hn123_0) | (show (Addr.add _ _).block ≠ _; rw [add_block]; exact hn123_0) | exact hn123_0) (.int .i64 t118)).trans hx123_0; replace hx123_0 := (cell_far (p := ⟨gb122, 1, none⟩) (by first | (rw [add_block]; exact hn123_1) | (show (Addr.add _ _).block ≠ _; rw [add_block]; exact hn123_1) | exact hn123_1) (.int .i64 t119)).trans hx123_0; (try have hy123_0 := fun (n_ : Nat) => (show ((((w55.drewN n_).setCell ⟨gb122, 0, none⟩ (.int .i64 t118)).setCell ⟨gb122, 1, none⟩ (.int .i64 t119))).cell? _ = some _ from hx123_0)); clear hn123_0; clear hn123_1; replace p123 := eq_true p123; replace q123 := eq_true q123)); try go_wp2_with (first | ((with_reducible refine gate_dst (N := 7) rfl ?_); (try (refine gate_guard (by rfl) ?_; dsimp only)); refine box_event ?hg (N := 7) ?hd (cs := #[.int .i64 0, .int .i64 0]) (t := 50) ?hr ?_; (case hd => rfl); (case hg => rfl); (case hr => first | (go_simp; done) | (go_simp; rfl)); intro gb122 hg w55 hbox hb; have n0_ := bst HB hb; have n1_ := Aside0.mk (hbox); have n2_ := bsz HB hg; have n3_ := bsz HB hg; have n4_ := bn1 BK114 hg; have n5_ := bn2 BK114 hg; replace BK114 := bbw BK114 hb; clear HB; have HB := n0_; have BK122 := n1_; have GW122 := n2_; have GE122 := n3_; have NB114_122 := n4_; have NB122_114 := n5_; clear n0_ n1_ n2_ n3_ n4_ n5_; clear hb hbox hg; have hnb56 := nn NB122_114 NB114_122; obtain ⟨hcz57_0, hcz57_1, hfz57_0, hfz57_1⟩ := hcf2 BK122; have p123 : 0 ≤ (t118 : Int) := of_decide_eq_true (by first | (with_reducible assumption) | assumption); have q123 : t118 < (l1.length : Int) := of_decide_eq_true (by first | (with_reducible assumption) | assumption); obtain ⟨ad123, e123, hx123_0⟩ := Kd.at_int HR1.out t118 p123 q123; cases e123; have hn123_0 : ad123.block ≠ gb122 := Nat.ne_of_lt (Nat.lt_of_lt_of_le (by have := World.block_lt_of_cell? _ _ hx123_0; first | rwa [add_block] at this | exact this) GW122.out); have hn123_1 : ad123.block ≠ gb122 := Nat.ne_of_lt (Nat.lt_of_lt_of_le (by have := World.block_lt_of_cell? _ _ hx123_0; first | rwa [add_block] at this | exact this) GW122.out); replace hx123_0 := (HB.out.cell (World.block_lt_of_cell? w _ hx123_0)).trans hx123_0; replace hx123_0 := (cell_far (p := ⟨gb122, 0, none⟩) (by first | (rw [add_block]; exact hn123_0) | (show (Addr.add _ _).block ≠ _; rw [add_block]; exact hn123_0) | exact hn123_0) (.int .i64 t118)).trans hx123_0; replace hx123_0 := (cell_far (p := ⟨gb122, 1, none⟩) (by first | (rw [add_block]; exact hn123_1) | (show (Addr.add _ _).block ≠ _; rw [add_block]; exact hn123_1) | exact hn123_1) (.int .i64 t119)).trans hx123_0; (try have hy123_0 := fun (n_ : Nat) => (show ((((w55.drewN n_).setCell ⟨gb122, 0, none⟩ (.int .i64 t118)).setCell ⟨gb122, 1, none⟩ (.int .i64 t119))).cell? _ = some _ from hx123_0)); clear hn123_0; clear hn123_1; replace p123 := eq_true p123; replace q123 := eq_true q123)))
         go_meet
         case rel => exact ⟨_, (wrap64 (x5_32 + (wrap64 (t119 * (ji54))))), (by first | rfl | (simp; done) | (simp only [← hji54] <;> (first | rfl | simp)) | (simp [*]; done)), H', ⟨by have := HJ2.out; have := HJ32.out; first | omega | exact Nat.le_refl _⟩, far2 BK114 NB114_122, bpk HB⟩
       case rest =>
        clear HC46; (try clear c1); (try clear p1); (try clear q1); (try clear hx1); (try clear c2); (try clear p2); (try clear c3); (try clear c4); (try clear c5); (try clear c6); (try clear p6); (try clear c7); (try clear c7b0); (try clear c7b1); (try clear c8); (try clear c8b0); (try clear c8b1); (try clear p12); (try clear q12); (try clear hx12); (try clear c15); (try clear c15b0); (try clear c19); (try clear c19b0); (try clear c19b1); (try clear c28); (try clear c34); (try clear c34b0); (try clear c34b1); (try clear c36); (try clear c38); (try clear c38b0); (try clear c39); (try clear c39b0); (try clear c43); (try clear c47); (try clear c47b0); (try clear c47b1); (try clear c49); (try clear c51); (try clear c51b0); (try clear c52); (try clear c52b0); (try clear c56); (try clear hcz11_0 hcz11_1 hcz11_2 hcz11_3 hcz11_4); (try clear hcz12_0 hcz12_1 hcz12_2 hcz12_3 hcz12_4); (try clear hcz14_0 hcz14_1 hcz14_2 hcz14_3 hcz14_4); (try clear hcz16_0 hcz16_1 hcz16_2 hcz16_3 hcz16_4); (try clear hcz18_0 hcz18_1 hcz18_2 hcz18_3 hcz18_4); (try clear hcz20_0 hcz20_1 hcz20_2 hcz20_3 hcz20_4); (try clear hcz22_0 hcz22_1 hcz22_2 hcz22_3 hcz22_4); (try clear hcz23_0 hcz23_1 hcz23_2 hcz23_3 hcz23_4); (try clear hcz25_0 hcz25_1 hcz25_2 hcz25_3 hcz25_4); (try clear hcz26_0 hcz26_1 hcz26_2 hcz26_3 hcz26_4); (try clear hcz31_0 hcz31_1 hcz31_2 hcz31_3 hcz31_4); (try clear hcz37_0 hcz37_1); (try clear hcz44_0 hcz44_1); (try clear hcz50_0 hcz50_1); (try clear hcz57_0 hcz57_1); (try clear hcz9_0 hcz9_1 hcz9_2 hcz9_3 hcz9_4); (try clear hfz11_0 hfz11_1 hfz11_2 hfz11_3 hfz11_4); (try clear hfz12_0 hfz12_1 hfz12_2 hfz12_3 hfz12_4); (try clear hfz14_0 hfz14_1 hfz14_2 hfz14_3 hfz14_4); (try clear hfz16_0 hfz16_1 hfz16_2 hfz16_3 hfz16_4); (try clear hfz18_0 hfz18_1 hfz18_2 hfz18_3 hfz18_4); (try clear hfz20_0 hfz20_1 hfz20_2 hfz20_3 hfz20_4); (try clear hfz22_0 hfz22_1 hfz22_2 hfz22_3 hfz22_4); (try clear hfz23_0 hfz23_1 hfz23_2 hfz23_3 hfz23_4); (try clear hfz25_0 hfz25_1 hfz25_2 hfz25_3 hfz25_4); (try clear hfz26_0 hfz26_1 hfz26_2 hfz26_3 hfz26_4); (try clear hfz31_0 hfz31_1 hfz31_2 hfz31_3 hfz31_4); (try clear hfz37_0 hfz37_1); (try clear hfz44_0 hfz44_1); (try clear hfz50_0 hfz50_1); (try clear hfz57_0 hfz57_1); (try clear hfz9_0 hfz9_1 hfz9_2 hfz9_3 hfz9_4); (try clear hx121_0); (try clear hx123_0); (try clear p1); (try clear p12); (try clear p121); (try clear p123); (try clear p2); (try clear p6); (try clear q1); (try clear q12); (try clear q121); (try clear q123); obtain ⟨kq, x5_45, rfl, HA, HJ45, BK114, HB⟩ := hcut
        cases kq with
        | zero => exact absurd HA.out (by simp [linear_Value.j2])
        | succ kj45 =>
         have H := HA.out
         clear HA
         simp only [linear_Value.j2] at H
         have HC58 := Aside0.mk H; clear H
         go_wp2
         repeat (go_quiet (fail); try go_wp2)
         refine looped_round (fun K_ hK_ => ?_)
         have H := HC58.out
         clear HC58; (try clear c1); (try clear p1); (try clear q1); (try clear hx1); (try clear c2); (try clear p2); (try clear c3); (try clear c4); (try clear c5); (try clear c6); (try clear p6); (try clear c7); (try clear c7b0); (try clear c7b1); (try clear c8); (try clear c8b0); (try clear c8b1); (try clear p12); (try clear q12); (try clear hx12); (try clear c15); (try clear c15b0); (try clear c19); (try clear c19b0); (try clear c19b1); (try clear c28); (try clear c34); (try clear c34b0); (try clear c34b1); (try clear c36); (try clear c38); (try clear c38b0); (try clear c39); (try clear c39b0); (try clear c43); (try clear c47); (try clear c47b0); (try clear c47b1); (try clear c49); (try clear c51); (try clear c51b0); (try clear c52); (try clear c52b0); (try clear c56); (try clear hcz11_0 hcz11_1 hcz11_2 hcz11_3 hcz11_4); (try clear hcz12_0 hcz12_1 hcz12_2 hcz12_3 hcz12_4); (try clear hcz14_0 hcz14_1 hcz14_2 hcz14_3 hcz14_4); (try clear hcz16_0 hcz16_1 hcz16_2 hcz16_3 hcz16_4); (try clear hcz18_0 hcz18_1 hcz18_2 hcz18_3 hcz18_4); (try clear hcz20_0 hcz20_1 hcz20_2 hcz20_3 hcz20_4); (try clear hcz22_0 hcz22_1 hcz22_2 hcz22_3 hcz22_4); (try clear hcz23_0 hcz23_1 hcz23_2 hcz23_3 hcz23_4); (try clear hcz25_0 hcz25_1 hcz25_2 hcz25_3 hcz25_4); (try clear hcz26_0 hcz26_1 hcz26_2 hcz26_3 hcz26_4); (try clear hcz31_0 hcz31_1 hcz31_2 hcz31_3 hcz31_4); (try clear hcz37_0 hcz37_1); (try clear hcz44_0 hcz44_1); (try clear hcz50_0 hcz50_1); (try clear hcz57_0 hcz57_1); (try clear hcz9_0 hcz9_1 hcz9_2 hcz9_3 hcz9_4); (try clear hfz11_0 hfz11_1 hfz11_2 hfz11_3 hfz11_4); (try clear hfz12_0 hfz12_1 hfz12_2 hfz12_3 hfz12_4); (try clear hfz14_0 hfz14_1 hfz14_2 hfz14_3 hfz14_4); (try clear hfz16_0 hfz16_1 hfz16_2 hfz16_3 hfz16_4); (try clear hfz18_0 hfz18_1 hfz18_2 hfz18_3 hfz18_4); (try clear hfz20_0 hfz20_1 hfz20_2 hfz20_3 hfz20_4); (try clear hfz22_0 hfz22_1 hfz22_2 hfz22_3 hfz22_4); (try clear hfz23_0 hfz23_1 hfz23_2 hfz23_3 hfz23_4); (try clear hfz25_0 hfz25_1 hfz25_2 hfz25_3 hfz25_4); (try clear hfz26_0 hfz26_1 hfz26_2 hfz26_3 hfz26_4); (try clear hfz31_0 hfz31_1 hfz31_2 hfz31_3 hfz31_4); (try clear hfz37_0 hfz37_1); (try clear hfz44_0 hfz44_1); (try clear hfz50_0 hfz50_1); (try clear hfz57_0 hfz57_1); (try clear hfz9_0 hfz9_1 hfz9_2 hfz9_3 hfz9_4); (try clear hx121_0); (try clear hx123_0); (try clear p1); (try clear p12); (try clear p121); (try clear p123); (try clear p2); (try clear p6); (try clear q1); (try clear q12); (try clear q121); (try clear q123)
         obtain rfl := Option.some.inj H
         go_wp2
         repeat (go_quiet (fail); try go_wp2)
         go_ret
         exact ⟨by first | rfl | (simp [errW_none, errW_some] <;> rfl) | (simp [*, errW_none, errW_some] <;> rfl) | kernel_rfl, (bpk HB).out⟩
end Go.Proofs.Ytllfopbchdahoaa.P
