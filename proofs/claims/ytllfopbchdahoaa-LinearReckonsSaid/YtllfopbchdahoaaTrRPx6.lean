/- What the law's proof needs of Px6. -/
import Derived.Test.YtllfopbchdahoaaTrRU2
import Derived.Test.YtllfopbchdahoaaTrRU
import Derived.Test.YtllfopbchdahoaaTrRPx0
-- PRINTED by print.py (a twelfth state) out of the translation. Not trusted: Lean checks it.
namespace Go.Proofs.Ytllfopbchdahoaa.P
open Go.RowKit Go.Proofs.YtllfopbchdahoaaW.PrintWords Go.Proofs.YtllfopbchdahoaaW.PrintLast Go.Proofs.YtllfopbchdahoaaW.PrintMore Go.Proofs.YtllfopbchdahoaaO
attribute [local go_sem] max2_int min2_int max_two min_two max_three min_three max_four min_four   -- for this text's walks alone
set_option linter.unusedVariables false
set_option linter.unusedSimpArgs false
mutual
def gimbalref14_Fit.j0 : Nat → Bool → Int → Int → Int → Int → Int → Option (Bool)
  | 0, _, _, _, _, _, _ => none
  | k + 1, x10, x125000, x125001, x125002, x125003, x125004 => if x10 = true then (some false) else (if x125001 = 0 then (if x125000 = 0 then (if x125002 = 0 then (some (x125003 == 0)) else (some false)) else (some false)) else (if x125001 = 1 then (gimbalref14_Fit.j1 k (decide (x125000 < 0)) x125000 x125001 x125002 x125003 x125004) else (if x125001 = (-1) then (gimbalref14_Fit.j1 k (decide (x125000 < 0)) x125000 x125001 x125002 x125003 x125004) else (gimbalref14_Fit.j1 k true x125000 x125001 x125002 x125003 x125004))))
def gimbalref14_Fit.j1 : Nat → Bool → Int → Int → Int → Int → Int → Option (Bool)
  | 0, _, _, _, _, _, _ => none
  | k + 1, x39, x125000, x125001, x125002, x125003, x125004 => if x39 = true then (some false) else (if x125003 = 0 then (some (x125002 == 0)) else (if x125003 = 1 then (some (decide (x125000 < x125002))) else (if x125003 = (-1) then (some (decide (x125000 < x125002))) else (some false))))
end
def gimbalref14_Fit.f (k : Nat) (a0_0 : Int) (a0_1 : Int) (a0_2 : Int) (a0_3 : Int) (a0_4 : Int) : Option (Bool) := if a0_4 < (-1099511627776) then (gimbalref14_Fit.j0 k true a0_0 a0_1 a0_2 a0_3 a0_4) else (gimbalref14_Fit.j0 k (decide (a0_4 > 1099511627776)) a0_0 a0_1 a0_2 a0_3 a0_4)
set_option maxHeartbeats 8000000 in
set_option maxRecDepth 100000 in
theorem gimbalref14_Fit.calls (k : Nat) (a0_0 : Int) (a0_1 : Int) (a0_2 : Int) (a0_3 : Int) (a0_4 : Int) (r : Bool) (w : World) (h : gimbalref14_Fit.f k a0_0 a0_1 a0_2 a0_3 a0_4 = some r) :
    Calls Try.prog 18 #[.agg #[.int .i64 a0_0, .int .i64 a0_1, .int .i64 a0_2, .int .i64 a0_3, .int .i64 a0_4]] w fun e w' => e = .returned (.bool r) ∧ Below w.heap.size w w' := by
  have hu23 := Try.underlying23
  have HB := Aside0.mk (Below.refl w.heap.size w)
  have H : (if a0_4 < (-1099511627776) then (gimbalref14_Fit.j0 k true a0_0 a0_1 a0_2 a0_3 a0_4) else (gimbalref14_Fit.j0 k (decide (a0_4 > 1099511627776)) a0_0 a0_1 a0_2 a0_3 a0_4)) = some r := h
  clear h
  have HC2 := Aside0.mk H
  clear H
  go_enter Try.func18, Try.ntmps18
  go_upto_region 1 with (first | ((with_reducible refine gate_dst (N := 1) rfl ?_); refine box_event ?hg (N := 1) ?hd (cs := #[.int .i64 a0_0, .int .i64 a0_1, .int .i64 a0_2, .int .i64 a0_3, .int .i64 a0_4]) (t := 23) ?hr ?_; (case hd => rfl); (case hg => rfl); (case hr => first | (go_simp; done) | (go_simp; rfl)); intro gb124 hg w3 hbox hb; have n0_ := bst HB hb; have n1_ := Aside0.mk (hbox); have n2_ := bsz HB hg; have n3_ := bsz HB hg; clear HB; have HB := n0_; have BK124 := n1_; have GW124 := n2_; have GE124 := n3_; clear n0_ n1_ n2_ n3_; clear hb hbox hg))
  (try simp only [Act.put, List.setIfInBounds_toArray, List.set_cons_zero, List.set_cons_succ])
  go_cut [10] (fun v10 wc => ∃ (kq : Nat) (x10_1 : Bool), v10 = .bool x10_1 ∧ Aside0 (gimbalref14_Fit.j0 kq x10_1 a0_0 a0_1 a0_2 a0_3 a0_4 = some r) ∧ Aside0 (kq ≤ k) ∧ Aside0 (wc.heap[gb124]? = some (.cells #[.int .i64 a0_0, .int .i64 a0_1, .int .i64 a0_2, .int .i64 a0_3, .int .i64 a0_4] 23 (0, 0))) ∧ Aside0 (Below w.heap.size w wc))
  case first =>
   have H := HC2.out
   clear HC2
   by_cases c4 : a0_4 < (-1099511627776)
   ·
    rw [if_pos c4] at H
    have c4b0 : decide (a0_4 < (-1099511627776)) = true := decide_eq_true c4
    clear c4
    (first | rw [c4b0] | (simp only [i64_w, i32_w]; rw [c4b0]) | skip)
    have H' := Aside0.mk H
    clear H
    have hcz5_0 := hcz BK124 0
    have hcz5_1 := hcz BK124 1
    have hcz5_2 := hcz BK124 2
    have hcz5_3 := hcz BK124 3
    have hcz5_4 := hcz BK124 4
    have hfz5_0 := blk_frozen BK124.out 0
    have hfz5_1 := blk_frozen BK124.out 1
    have hfz5_2 := blk_frozen BK124.out 2
    have hfz5_3 := blk_frozen BK124.out 3
    have hfz5_4 := blk_frozen BK124.out 4
    go_wp2
    go_meet
    case rel => exact ⟨_, (true), (by first | rfl | (simp; done) | (simp [*]; done)), H', ⟨by first | omega | exact Nat.le_refl _⟩, pkA BK124, bpk HB⟩
   ·
    rw [if_neg c4] at H
    have c4b0 : decide (a0_4 < (-1099511627776)) = false := decide_eq_false c4
    clear c4
    (first | rw [c4b0] | (simp only [i64_w, i32_w]; rw [c4b0]) | skip)
    have H' := Aside0.mk H
    clear H
    have hcz6_0 := hcz BK124 0
    have hcz6_1 := hcz BK124 1
    have hcz6_2 := hcz BK124 2
    have hcz6_3 := hcz BK124 3
    have hcz6_4 := hcz BK124 4
    have hfz6_0 := blk_frozen BK124.out 0
    have hfz6_1 := blk_frozen BK124.out 1
    have hfz6_2 := blk_frozen BK124.out 2
    have hfz6_3 := blk_frozen BK124.out 3
    have hfz6_4 := blk_frozen BK124.out 4
    go_wp2
    go_meet
    case rel => exact ⟨_, (decide (a0_4 > 1099511627776)), (by first | rfl | (simp; done) | (simp [*]; done)), H', ⟨by first | omega | exact Nat.le_refl _⟩, pkA BK124, bpk HB⟩
  case rest =>
   clear HC2
   try clear c1
   try clear p2
   try clear c4
   try clear c4b0
   try clear hcz5_0
   try clear hcz5_1
   try clear hcz5_2
   try clear hcz5_3
   try clear hcz5_4
   try clear hcz6_0
   try clear hcz6_1
   try clear hcz6_2
   try clear hcz6_3
   try clear hcz6_4
   try clear hfz5_0
   try clear hfz5_1
   try clear hfz5_2
   try clear hfz5_3
   try clear hfz5_4
   try clear hfz6_0
   try clear hfz6_1
   try clear hfz6_2
   try clear hfz6_3
   try clear hfz6_4
   obtain ⟨kq, x10_1, rfl, HA, HJ1, BK124, HB⟩ := hcut
   cases kq with
   | zero => exact absurd HA.out (by simp [gimbalref14_Fit.j0])
   | succ kj1 =>
    have H := HA.out
    clear HA
    simp only [gimbalref14_Fit.j0] at H
    by_cases c7 : x10_1 = true
    ·
     subst c7
     have H1 : (some false) = some r := by rw [if_pos rfl] at H; exact H
     clear H
     have H := H1
     clear H1
     obtain rfl := Option.some.inj H
     go_wp2
     go_ret
     exact ⟨by first | rfl | (simp [errW_none, errW_some] <;> rfl) | (simp [*, errW_none, errW_some] <;> rfl) | kernel_rfl, by repeat (first | (with_reducible first | exact HB.out | apply below_alloc | apply pw_below_drewN | apply below_drew1 | refine below_set ?_ GE124.out) | exact HB.out)⟩
    ·
     replace c7 := Bool.eq_false_iff.mpr c7
     subst c7
     have H1 : (if a0_1 = 0 then (if a0_0 = 0 then (if a0_2 = 0 then (some (a0_3 == 0)) else (some false)) else (some false)) else (if a0_1 = 1 then (gimbalref14_Fit.j1 kj1 (decide (a0_0 < 0)) a0_0 a0_1 a0_2 a0_3 a0_4) else (if a0_1 = (-1) then (gimbalref14_Fit.j1 kj1 (decide (a0_0 < 0)) a0_0 a0_1 a0_2 a0_3 a0_4) else (gimbalref14_Fit.j1 kj1 true a0_0 a0_1 a0_2 a0_3 a0_4)))) = some r := by rw [if_neg (show ¬ (false = true) by decide)] at H; exact H
     clear H
     have H := H1
     clear H1
     by_cases c8 : a0_1 = 0
     ·
      rw [if_pos c8] at H
      have c8b0 : (a0_1 == 0) = true := beq_iff_eq.mpr c8
      have c8b1 : (a0_1 != 0) = false := bne_eq_false_iff_eq.mpr c8
      clear c8
      by_cases c9 : a0_0 = 0
      ·
       rw [if_pos c9] at H
       have c9b0 : (a0_0 == 0) = true := beq_iff_eq.mpr c9
       have c9b1 : (a0_0 != 0) = false := bne_eq_false_iff_eq.mpr c9
       clear c9
       by_cases c10 : a0_2 = 0
       ·
        rw [if_pos c10] at H
        have c10b0 : (a0_2 == 0) = true := beq_iff_eq.mpr c10
        have c10b1 : (a0_2 != 0) = false := bne_eq_false_iff_eq.mpr c10
        clear c10
        obtain rfl := Option.some.inj H
        have hcz11_0 := hcz BK124 0
        have hcz11_1 := hcz BK124 1
        have hcz11_2 := hcz BK124 2
        have hcz11_3 := hcz BK124 3
        have hcz11_4 := hcz BK124 4
        have hfz11_0 := blk_frozen BK124.out 0
        have hfz11_1 := blk_frozen BK124.out 1
        have hfz11_2 := blk_frozen BK124.out 2
        have hfz11_3 := blk_frozen BK124.out 3
        have hfz11_4 := blk_frozen BK124.out 4
        go_wp2
        go_ret
        exact ⟨by first | rfl | (simp [errW_none, errW_some] <;> rfl) | (simp [*, errW_none, errW_some] <;> rfl) | kernel_rfl, by repeat (first | (with_reducible first | exact HB.out | apply below_alloc | apply pw_below_drewN | apply below_drew1 | refine below_set ?_ GE124.out) | exact HB.out)⟩
       ·
        rw [if_neg c10] at H
        have c10b0 : (a0_2 == 0) = false := beq_eq_false_iff_ne.mpr c10
        have c10b1 : (a0_2 != 0) = true := bne_iff_ne.mpr c10
        obtain rfl := Option.some.inj H
        have hcz12_0 := hcz BK124 0
        have hcz12_1 := hcz BK124 1
        have hcz12_2 := hcz BK124 2
        have hcz12_3 := hcz BK124 3
        have hcz12_4 := hcz BK124 4
        have hfz12_0 := blk_frozen BK124.out 0
        have hfz12_1 := blk_frozen BK124.out 1
        have hfz12_2 := blk_frozen BK124.out 2
        have hfz12_3 := blk_frozen BK124.out 3
        have hfz12_4 := blk_frozen BK124.out 4
        go_wp2
        go_ret
        exact ⟨by first | rfl | (simp [errW_none, errW_some] <;> rfl) | (simp [*, errW_none, errW_some] <;> rfl) | kernel_rfl, by repeat (first | (with_reducible first | exact HB.out | apply below_alloc | apply pw_below_drewN | apply below_drew1 | refine below_set ?_ GE124.out) | exact HB.out)⟩
      ·
       rw [if_neg c9] at H
       have c9b0 : (a0_0 == 0) = false := beq_eq_false_iff_ne.mpr c9
       have c9b1 : (a0_0 != 0) = true := bne_iff_ne.mpr c9
       obtain rfl := Option.some.inj H
       have hcz13_0 := hcz BK124 0
       have hcz13_1 := hcz BK124 1
       have hcz13_2 := hcz BK124 2
       have hcz13_3 := hcz BK124 3
       have hcz13_4 := hcz BK124 4
       have hfz13_0 := blk_frozen BK124.out 0
       have hfz13_1 := blk_frozen BK124.out 1
       have hfz13_2 := blk_frozen BK124.out 2
       have hfz13_3 := blk_frozen BK124.out 3
       have hfz13_4 := blk_frozen BK124.out 4
       go_wp2
       go_ret
       exact ⟨by first | rfl | (simp [errW_none, errW_some] <;> rfl) | (simp [*, errW_none, errW_some] <;> rfl) | kernel_rfl, by repeat (first | (with_reducible first | exact HB.out | apply below_alloc | apply pw_below_drewN | apply below_drew1 | refine below_set ?_ GE124.out) | exact HB.out)⟩
     ·
      rw [if_neg c8] at H
      have c8b0 : (a0_1 == 0) = false := beq_eq_false_iff_ne.mpr c8
      have c8b1 : (a0_1 != 0) = true := bne_iff_ne.mpr c8
      have HC14 := Aside0.mk H
      clear H
      have hcz15_0 := hcz BK124 0
      have hcz15_1 := hcz BK124 1
      have hcz15_2 := hcz BK124 2
      have hcz15_3 := hcz BK124 3
      have hcz15_4 := hcz BK124 4
      have hfz15_0 := blk_frozen BK124.out 0
      have hfz15_1 := blk_frozen BK124.out 1
      have hfz15_2 := blk_frozen BK124.out 2
      have hfz15_3 := blk_frozen BK124.out 3
      have hfz15_4 := blk_frozen BK124.out 4
      go_upto_region 5 with (fail)
      go_cut [39] (fun v39 wc => ∃ (kq : Nat) (x39_13 : Bool), v39 = .bool x39_13 ∧ Aside0 (gimbalref14_Fit.j1 kq x39_13 a0_0 a0_1 a0_2 a0_3 a0_4 = some r) ∧ Aside0 (kq ≤ kj1) ∧ Aside0 (wc.heap[gb124]? = some (.cells #[.int .i64 a0_0, .int .i64 a0_1, .int .i64 a0_2, .int .i64 a0_3, .int .i64 a0_4] 23 (0, 0))) ∧ Aside0 (Below w.heap.size w wc))
      case first =>
       have H := HC14.out
       clear HC14
       by_cases c16 : a0_1 = 1
       ·
        rw [if_pos c16] at H
        have c16b0 : (a0_1 == 1) = true := beq_iff_eq.mpr c16
        have c16b1 : (a0_1 != 1) = false := bne_eq_false_iff_eq.mpr c16
        clear c16
        (first | rw [c16b0] | (simp only [i64_w, i32_w]; rw [c16b0]) | skip)
        have H' := Aside0.mk H
        clear H
        have hcz17_0 := hcz BK124 0
        have hcz17_1 := hcz BK124 1
        have hcz17_2 := hcz BK124 2
        have hcz17_3 := hcz BK124 3
        have hcz17_4 := hcz BK124 4
        have hfz17_0 := blk_frozen BK124.out 0
        have hfz17_1 := blk_frozen BK124.out 1
        have hfz17_2 := blk_frozen BK124.out 2
        have hfz17_3 := blk_frozen BK124.out 3
        have hfz17_4 := blk_frozen BK124.out 4
        go_wp2
        go_meet
        case rel => exact ⟨_, (decide (a0_0 < 0)), (by first | rfl | (simp; done) | (simp [*]; done)), H', ⟨by have := HJ1.out; first | omega | exact Nat.le_refl _⟩, pkA BK124, bpk HB⟩
       ·
        rw [if_neg c16] at H
        have c16b0 : (a0_1 == 1) = false := beq_eq_false_iff_ne.mpr c16
        have c16b1 : (a0_1 != 1) = true := bne_iff_ne.mpr c16
        (first | rw [c16b0] | (simp only [i64_w, i32_w]; rw [c16b0]) | skip)
        by_cases c18 : a0_1 = (-1)
        ·
         rw [if_pos c18] at H
         have c18b0 : (a0_1 == (-1)) = true := beq_iff_eq.mpr c18
         have c18b1 : (a0_1 != (-1)) = false := bne_eq_false_iff_eq.mpr c18
         clear c18
         have H' := Aside0.mk H
         clear H
         have hcz19_0 := hcz BK124 0
         have hcz19_1 := hcz BK124 1
         have hcz19_2 := hcz BK124 2
         have hcz19_3 := hcz BK124 3
         have hcz19_4 := hcz BK124 4
         have hfz19_0 := blk_frozen BK124.out 0
         have hfz19_1 := blk_frozen BK124.out 1
         have hfz19_2 := blk_frozen BK124.out 2
         have hfz19_3 := blk_frozen BK124.out 3
         have hfz19_4 := blk_frozen BK124.out 4
         go_wp2
         go_meet
         case rel => exact ⟨_, (decide (a0_0 < 0)), (by first | rfl | (simp; done) | (simp [*]; done)), H', ⟨by have := HJ1.out; first | omega | exact Nat.le_refl _⟩, pkA BK124, bpk HB⟩
        ·
         rw [if_neg c18] at H
         have c18b0 : (a0_1 == (-1)) = false := beq_eq_false_iff_ne.mpr c18
         have c18b1 : (a0_1 != (-1)) = true := bne_iff_ne.mpr c18
         have H' := Aside0.mk H
         clear H
         have hcz20_0 := hcz BK124 0
         have hcz20_1 := hcz BK124 1
         have hcz20_2 := hcz BK124 2
         have hcz20_3 := hcz BK124 3
         have hcz20_4 := hcz BK124 4
         have hfz20_0 := blk_frozen BK124.out 0
         have hfz20_1 := blk_frozen BK124.out 1
         have hfz20_2 := blk_frozen BK124.out 2
         have hfz20_3 := blk_frozen BK124.out 3
         have hfz20_4 := blk_frozen BK124.out 4
         go_wp2
         go_meet
         case rel => exact ⟨_, (true), (by first | rfl | (simp; done) | (simp [*]; done)), H', ⟨by have := HJ1.out; first | omega | exact Nat.le_refl _⟩, pkA BK124, bpk HB⟩
      case rest =>
       clear HC14
       try clear c1
       try clear p2
       try clear c4
       try clear c4b0
       try clear c7
       try clear c8
       try clear c8b0
       try clear c8b1
       try clear c9
       try clear c9b0
       try clear c9b1
       try clear c10
       try clear c10b0
       try clear c10b1
       try clear c16
       try clear c16b0
       try clear c16b1
       try clear c18
       try clear c18b0
       try clear c18b1
       try clear hcz11_0
       try clear hcz11_1
       try clear hcz11_2
       try clear hcz11_3
       try clear hcz11_4
       try clear hcz12_0
       try clear hcz12_1
       try clear hcz12_2
       try clear hcz12_3
       try clear hcz12_4
       try clear hcz13_0
       try clear hcz13_1
       try clear hcz13_2
       try clear hcz13_3
       try clear hcz13_4
       try clear hcz15_0
       try clear hcz15_1
       try clear hcz15_2
       try clear hcz15_3
       try clear hcz15_4
       try clear hcz17_0
       try clear hcz17_1
       try clear hcz17_2
       try clear hcz17_3
       try clear hcz17_4
       try clear hcz19_0
       try clear hcz19_1
       try clear hcz19_2
       try clear hcz19_3
       try clear hcz19_4
       try clear hcz20_0
       try clear hcz20_1
       try clear hcz20_2
       try clear hcz20_3
       try clear hcz20_4
       try clear hcz5_0
       try clear hcz5_1
       try clear hcz5_2
       try clear hcz5_3
       try clear hcz5_4
       try clear hcz6_0
       try clear hcz6_1
       try clear hcz6_2
       try clear hcz6_3
       try clear hcz6_4
       try clear hfz11_0
       try clear hfz11_1
       try clear hfz11_2
       try clear hfz11_3
       try clear hfz11_4
       try clear hfz12_0
       try clear hfz12_1
       try clear hfz12_2
       try clear hfz12_3
       try clear hfz12_4
       try clear hfz13_0
       try clear hfz13_1
       try clear hfz13_2
       try clear hfz13_3
       try clear hfz13_4
       try clear hfz15_0
       try clear hfz15_1
       try clear hfz15_2
       try clear hfz15_3
       try clear hfz15_4
       try clear hfz17_0
       try clear hfz17_1
       try clear hfz17_2
       try clear hfz17_3
       try clear hfz17_4
       try clear hfz19_0
       try clear hfz19_1
       try clear hfz19_2
       try clear hfz19_3
       try clear hfz19_4
       try clear hfz20_0
       try clear hfz20_1
       try clear hfz20_2
       try clear hfz20_3
       try clear hfz20_4
       try clear hfz5_0
       try clear hfz5_1
       try clear hfz5_2
       try clear hfz5_3
       try clear hfz5_4
       try clear hfz6_0
       try clear hfz6_1
       try clear hfz6_2
       try clear hfz6_3
       try clear hfz6_4
       try clear p2
       obtain ⟨kq, x39_13, rfl, HA, HJ13, BK124, HB⟩ := hcut
       cases kq with
       | zero => exact absurd HA.out (by simp [gimbalref14_Fit.j1])
       | succ kj13 =>
        have H := HA.out
        clear HA
        simp only [gimbalref14_Fit.j1] at H
        by_cases c21 : x39_13 = true
        ·
         subst c21
         have H1 : (some false) = some r := by rw [if_pos rfl] at H; exact H
         clear H
         have H := H1
         clear H1
         obtain rfl := Option.some.inj H
         go_wp2
         go_ret
         exact ⟨by first | rfl | (simp [errW_none, errW_some] <;> rfl) | (simp [*, errW_none, errW_some] <;> rfl) | kernel_rfl, by repeat (first | (with_reducible first | exact HB.out | apply below_alloc | apply pw_below_drewN | apply below_drew1 | refine below_set ?_ GE124.out) | exact HB.out)⟩
        ·
         replace c21 := Bool.eq_false_iff.mpr c21
         subst c21
         have H1 : (if a0_3 = 0 then (some (a0_2 == 0)) else (if a0_3 = 1 then (some (decide (a0_0 < a0_2))) else (if a0_3 = (-1) then (some (decide (a0_0 < a0_2))) else (some false)))) = some r := by rw [if_neg (show ¬ (false = true) by decide)] at H; exact H
         clear H
         have H := H1
         clear H1
         by_cases c22 : a0_3 = 0
         ·
          rw [if_pos c22] at H
          have c22b0 : (a0_3 == 0) = true := beq_iff_eq.mpr c22
          have c22b1 : (a0_3 != 0) = false := bne_eq_false_iff_eq.mpr c22
          clear c22
          obtain rfl := Option.some.inj H
          have hcz23_0 := hcz BK124 0
          have hcz23_1 := hcz BK124 1
          have hcz23_2 := hcz BK124 2
          have hcz23_3 := hcz BK124 3
          have hcz23_4 := hcz BK124 4
          have hfz23_0 := blk_frozen BK124.out 0
          have hfz23_1 := blk_frozen BK124.out 1
          have hfz23_2 := blk_frozen BK124.out 2
          have hfz23_3 := blk_frozen BK124.out 3
          have hfz23_4 := blk_frozen BK124.out 4
          go_wp2
          go_ret
          exact ⟨by first | rfl | (simp [errW_none, errW_some] <;> rfl) | (simp [*, errW_none, errW_some] <;> rfl) | kernel_rfl, by repeat (first | (with_reducible first | exact HB.out | apply below_alloc | apply pw_below_drewN | apply below_drew1 | refine below_set ?_ GE124.out) | exact HB.out)⟩
         ·
          rw [if_neg c22] at H
          have c22b0 : (a0_3 == 0) = false := beq_eq_false_iff_ne.mpr c22
          have c22b1 : (a0_3 != 0) = true := bne_iff_ne.mpr c22
          by_cases c24 : a0_3 = 1
          ·
           rw [if_pos c24] at H
           have c24b0 : (a0_3 == 1) = true := beq_iff_eq.mpr c24
           have c24b1 : (a0_3 != 1) = false := bne_eq_false_iff_eq.mpr c24
           clear c24
           obtain rfl := Option.some.inj H
           have hcz25_0 := hcz BK124 0
           have hcz25_1 := hcz BK124 1
           have hcz25_2 := hcz BK124 2
           have hcz25_3 := hcz BK124 3
           have hcz25_4 := hcz BK124 4
           have hfz25_0 := blk_frozen BK124.out 0
           have hfz25_1 := blk_frozen BK124.out 1
           have hfz25_2 := blk_frozen BK124.out 2
           have hfz25_3 := blk_frozen BK124.out 3
           have hfz25_4 := blk_frozen BK124.out 4
           go_wp2
           go_ret
           exact ⟨by first | rfl | (simp [errW_none, errW_some] <;> rfl) | (simp [*, errW_none, errW_some] <;> rfl) | kernel_rfl, by repeat (first | (with_reducible first | exact HB.out | apply below_alloc | apply pw_below_drewN | apply below_drew1 | refine below_set ?_ GE124.out) | exact HB.out)⟩
          ·
           rw [if_neg c24] at H
           have c24b0 : (a0_3 == 1) = false := beq_eq_false_iff_ne.mpr c24
           have c24b1 : (a0_3 != 1) = true := bne_iff_ne.mpr c24
           by_cases c26 : a0_3 = (-1)
           ·
            rw [if_pos c26] at H
            have c26b0 : (a0_3 == (-1)) = true := beq_iff_eq.mpr c26
            have c26b1 : (a0_3 != (-1)) = false := bne_eq_false_iff_eq.mpr c26
            clear c26
            obtain rfl := Option.some.inj H
            have hcz27_0 := hcz BK124 0
            have hcz27_1 := hcz BK124 1
            have hcz27_2 := hcz BK124 2
            have hcz27_3 := hcz BK124 3
            have hcz27_4 := hcz BK124 4
            have hfz27_0 := blk_frozen BK124.out 0
            have hfz27_1 := blk_frozen BK124.out 1
            have hfz27_2 := blk_frozen BK124.out 2
            have hfz27_3 := blk_frozen BK124.out 3
            have hfz27_4 := blk_frozen BK124.out 4
            go_wp2
            go_ret
            exact ⟨by first | rfl | (simp [errW_none, errW_some] <;> rfl) | (simp [*, errW_none, errW_some] <;> rfl) | kernel_rfl, by repeat (first | (with_reducible first | exact HB.out | apply below_alloc | apply pw_below_drewN | apply below_drew1 | refine below_set ?_ GE124.out) | exact HB.out)⟩
           ·
            rw [if_neg c26] at H
            have c26b0 : (a0_3 == (-1)) = false := beq_eq_false_iff_ne.mpr c26
            have c26b1 : (a0_3 != (-1)) = true := bne_iff_ne.mpr c26
            obtain rfl := Option.some.inj H
            have hcz28_0 := hcz BK124 0
            have hcz28_1 := hcz BK124 1
            have hcz28_2 := hcz BK124 2
            have hcz28_3 := hcz BK124 3
            have hcz28_4 := hcz BK124 4
            have hfz28_0 := blk_frozen BK124.out 0
            have hfz28_1 := blk_frozen BK124.out 1
            have hfz28_2 := blk_frozen BK124.out 2
            have hfz28_3 := blk_frozen BK124.out 3
            have hfz28_4 := blk_frozen BK124.out 4
            go_wp2
            go_ret
            exact ⟨by first | rfl | (simp [errW_none, errW_some] <;> rfl) | (simp [*, errW_none, errW_some] <;> rfl) | kernel_rfl, by repeat (first | (with_reducible first | exact HB.out | apply below_alloc | apply pw_below_drewN | apply below_drew1 | refine below_set ?_ GE124.out) | exact HB.out)⟩
end Go.Proofs.Ytllfopbchdahoaa.P
