/- What the law's proof needs of Px7. -/
import Derived.Test.YtllfopbchdahoaaTrFU4
import Derived.Test.YtllfopbchdahoaaTrFPx0
-- PRINTED by print.py (a twelfth state) out of the translation. Not trusted: Lean checks it.
namespace Go.Proofs.Ytllfopbchdahoaa.P
open Go.RowKit Go.Proofs.YtllfopbchdahoaaW.PrintWords Go.Proofs.YtllfopbchdahoaaW.PrintLast Go.Proofs.YtllfopbchdahoaaW.PrintMore Go.Proofs.YtllfopbchdahoaaO
attribute [local go_sem] max2_int min2_int max_two min_two max_three min_three max_four min_four   -- for this text's walks alone
set_option linter.unusedVariables false
set_option linter.unusedSimpArgs false
mutual
def gimbalref14_Fit.j0 : Nat → Bool → Int → Int → Int → Int → Int → Option (Bool)
  | 0, _, _, _, _, _, _ => none
  | k + 1, x10, x125000, x125001, x125002, x125003, x125004 => if x10 = true then (some false) else (if x125001 = 0 then (if x125000 = 0 then (if x125002 = 0 then (some (x125003 == 0)) else (some false)) else (some false)) else (if x125001 = 1 then (gimbalref14_Fit.j1 k (decide (x125000 < 0)) x125000 x125001 x125002 x125003 x125004) else (if x125001 = (-1) then (gimbalref14_Fit.j1 k (decide (x125000 < 0)) x125000 x125001 x125002 x125003 x125004) else (gimbalref14_Fit.j1 k true x125000 x125001 x125002 x125003 x125004))))
def gimbalref14_Fit.j1 : Nat → Bool → Int → Int → Int → Int → Int → Option (Bool)
  | 0, _, _, _, _, _, _ => none
  | k + 1, x39, x125000, x125001, x125002, x125003, x125004 => if x39 = true then (some false) else (if x125003 = 0 then (some (x125002 == 0)) else (if x125003 = 1 then (some (decide (x125000 < x125002))) else (if x125003 = (-1) then (some (decide (x125000 < x125002))) else (some false))))
end
def gimbalref14_Fit.f (k : Nat) (a0_0 : Int) (a0_1 : Int) (a0_2 : Int) (a0_3 : Int) (a0_4 : Int) : Option (Bool) := if a0_4 < (-1099511627776) then (gimbalref14_Fit.j0 k true a0_0 a0_1 a0_2 a0_3 a0_4) else (gimbalref14_Fit.j0 k (decide (a0_4 > 1099511627776)) a0_0 a0_1 a0_2 a0_3 a0_4)
set_option maxHeartbeats 8000000 in
set_option maxRecDepth 100000 in
theorem gimbalref14_Fit.calls (k : Nat) (a0_0 : Int) (a0_1 : Int) (a0_2 : Int) (a0_3 : Int) (a0_4 : Int) (r : Bool) (w : World) (h : gimbalref14_Fit.f k a0_0 a0_1 a0_2 a0_3 a0_4 = some r) :
    Calls Try.prog 18 #[.agg #[.int .i64 a0_0, .int .i64 a0_1, .int .i64 a0_2, .int .i64 a0_3, .int .i64 a0_4]] w fun e w' => e = .returned (.bool r) ∧ Below w.heap.size w w' := by
  have hu23 := Try.underlying23
  have HB := Aside0.mk (Below.refl w.heap.size w)
  have H : (if a0_4 < (-1099511627776) then (gimbalref14_Fit.j0 k true a0_0 a0_1 a0_2 a0_3 a0_4) else (gimbalref14_Fit.j0 k (decide (a0_4 > 1099511627776)) a0_0 a0_1 a0_2 a0_3 a0_4)) = some r := h
  clear h; have HC2 := Aside0.mk H; clear H
  go_enter Try.func18, Try.ntmps18
  go_upto_region 1 with (first | ((with_reducible refine gate_dst (N := 1) rfl ?_); refine box_event ?hg (N := 1) ?hd (cs := #[.int .i64 a0_0, .int .i64 a0_1, .int .i64 a0_2, .int .i64 a0_3, .int .i64 a0_4]) (t := 23) ?hr ?_; (case hd => rfl); (case hg => rfl); (case hr => first | (go_simp; done) | (go_simp; rfl)); intro gb124 hg w3 hbox hb; have n0_ := bst HB hb; have n1_ := Aside0.mk (hbox); have n2_ := bsz HB hg; have n3_ := bsz HB hg; clear HB; have HB := n0_; have BK124 := n1_; have GW124 := n2_; have GE124 := n3_; clear n0_ n1_ n2_ n3_; clear hb hbox hg))
  (try simp only [Act.put, List.setIfInBounds_toArray, List.set_cons_zero, List.set_cons_succ])
  go_cut [10] (fun v10 wc => ∃ (kq : Nat) (x10_1 : Bool), v10 = .bool x10_1 ∧ Aside0 (gimbalref14_Fit.j0 kq x10_1 a0_0 a0_1 a0_2 a0_3 a0_4 = some r) ∧ Aside0 (kq ≤ k) ∧ Aside0 (wc.heap[gb124]? = some (.cells #[.int .i64 a0_0, .int .i64 a0_1, .int .i64 a0_2, .int .i64 a0_3, .int .i64 a0_4] 23 (0, 0))) ∧ Aside0 (Below w.heap.size w wc))
  case first =>
   have H := HC2.out
   clear HC2
   by_cases c4 : a0_4 < (-1099511627776)
   ·
    rw [if_pos c4] at H
    have c4b0 : decide (a0_4 < (-1099511627776)) = true := decide_eq_true c4
    clear c4
    (first | rw [c4b0] | (simp only [i64_w, i32_w]; rw [c4b0]) | skip)
    have H' := Aside0.mk H
    clear H
    obtain ⟨hcz5_0, hcz5_1, hcz5_2, hcz5_3, hcz5_4, hfz5_0, hfz5_1, hfz5_2, hfz5_3, hfz5_4⟩ := hcf5 BK124
    go_wp2
    go_meet
    case rel => exact ⟨_, (true), (by first | rfl | (simp; done) | (simp [*]; done)), H', ⟨by first | omega | exact Nat.le_refl _⟩, pkA BK124, bpk HB⟩
   ·
    rw [if_neg c4] at H
    have c4b0 : decide (a0_4 < (-1099511627776)) = false := decide_eq_false c4
    clear c4
    (first | rw [c4b0] | (simp only [i64_w, i32_w]; rw [c4b0]) | skip)
    have H' := Aside0.mk H
    clear H
    obtain ⟨hcz6_0, hcz6_1, hcz6_2, hcz6_3, hcz6_4, hfz6_0, hfz6_1, hfz6_2, hfz6_3, hfz6_4⟩ := hcf5 BK124
    go_wp2
    go_meet
    case rel => exact ⟨_, (decide (a0_4 > 1099511627776)), (by first | rfl | (simp; done) | (simp [*]; done)), H', ⟨by first | omega | exact Nat.le_refl _⟩, pkA BK124, bpk HB⟩
  case rest =>
   clear HC2; (try clear c1); (try clear p2); (try clear c4); (try clear c4b0); (try clear hcz5_0 hcz5_1 hcz5_2 hcz5_3 hcz5_4); (try clear hcz6_0 hcz6_1 hcz6_2 hcz6_3 hcz6_4); (try clear hfz5_0 hfz5_1 hfz5_2 hfz5_3 hfz5_4); (try clear hfz6_0 hfz6_1 hfz6_2 hfz6_3 hfz6_4); obtain ⟨kq, x10_1, rfl, HA, HJ1, BK124, HB⟩ := hcut
   cases kq with
   | zero => exact absurd HA.out (by simp [gimbalref14_Fit.j0])
   | succ kj1 =>
    have H := HA.out
    clear HA
    simp only [gimbalref14_Fit.j0] at H
    by_cases c7 : x10_1 = true
    ·
     subst c7
     have H1 : (some false) = some r := by rw [if_pos rfl] at H; exact H
     clear H; have H := H1; clear H1
     obtain rfl := Option.some.inj H
     go_wp2
     go_ret
     exact ⟨by first | rfl | (simp [errW_none, errW_some] <;> rfl) | (simp [*, errW_none, errW_some] <;> rfl) | kernel_rfl, (bpk HB).out⟩
    ·
     replace c7 := Bool.eq_false_iff.mpr c7
     subst c7
     have H1 : (if a0_1 = 0 then (if a0_0 = 0 then (if a0_2 = 0 then (some (a0_3 == 0)) else (some false)) else (some false)) else (if a0_1 = 1 then (gimbalref14_Fit.j1 kj1 (decide (a0_0 < 0)) a0_0 a0_1 a0_2 a0_3 a0_4) else (if a0_1 = (-1) then (gimbalref14_Fit.j1 kj1 (decide (a0_0 < 0)) a0_0 a0_1 a0_2 a0_3 a0_4) else (gimbalref14_Fit.j1 kj1 true a0_0 a0_1 a0_2 a0_3 a0_4)))) = some r := by rw [if_neg (show ¬ (false = true) by decide)] at H; exact H
     clear H; have H := H1; clear H1
     by_cases c8 : a0_1 = 0
     ·
      rw [if_pos c8] at H
      have c8b0 : (a0_1 == 0) = true := beq_iff_eq.mpr c8
      have c8b1 : (a0_1 != 0) = false := bne_eq_false_iff_eq.mpr c8
      clear c8
      by_cases c9 : a0_0 = 0
      ·
       rw [if_pos c9] at H
       have c9b0 : (a0_0 == 0) = true := beq_iff_eq.mpr c9
       have c9b1 : (a0_0 != 0) = false := bne_eq_false_iff_eq.mpr c9
       clear c9
       by_cases c10 : a0_2 = 0
       ·
        rw [if_pos c10] at H
        have c10b0 : (a0_2 == 0) = true := beq_iff_eq.mpr c10
        have c10b1 : (a0_2 != 0) = false := bne_eq_false_iff_eq.mpr c10
        clear c10
        obtain rfl := Option.some.inj H
        obtain ⟨hcz11_0, hcz11_1, hcz11_2, hcz11_3, hcz11_4, hfz11_0, hfz11_1, hfz11_2, hfz11_3, hfz11_4⟩ := hcf5 BK124
        go_wp2
        go_ret
        exact ⟨by first | rfl | (simp [errW_none, errW_some] <;> rfl) | (simp [*, errW_none, errW_some] <;> rfl) | kernel_rfl, (bpk HB).out⟩
       ·
        rw [if_neg c10] at H
        have c10b0 : (a0_2 == 0) = false := beq_eq_false_iff_ne.mpr c10
        have c10b1 : (a0_2 != 0) = true := bne_iff_ne.mpr c10
        obtain rfl := Option.some.inj H
        obtain ⟨hcz12_0, hcz12_1, hcz12_2, hcz12_3, hcz12_4, hfz12_0, hfz12_1, hfz12_2, hfz12_3, hfz12_4⟩ := hcf5 BK124
        go_wp2
        go_ret
        exact ⟨by first | rfl | (simp [errW_none, errW_some] <;> rfl) | (simp [*, errW_none, errW_some] <;> rfl) | kernel_rfl, (bpk HB).out⟩
      ·
       rw [if_neg c9] at H
       have c9b0 : (a0_0 == 0) = false := beq_eq_false_iff_ne.mpr c9
       have c9b1 : (a0_0 != 0) = true := bne_iff_ne.mpr c9
       obtain rfl := Option.some.inj H
       obtain ⟨hcz13_0, hcz13_1, hcz13_2, hcz13_3, hcz13_4, hfz13_0, hfz13_1, hfz13_2, hfz13_3, hfz13_4⟩ := hcf5 BK124
       go_wp2
       go_ret
       exact ⟨by first | rfl | (simp [errW_none, errW_some] <;> rfl) | (simp [*, errW_none, errW_some] <;> rfl) | kernel_rfl, (bpk HB).out⟩
     ·
      rw [if_neg c8] at H
      have c8b0 : (a0_1 == 0) = false := beq_eq_false_iff_ne.mpr c8
      have c8b1 : (a0_1 != 0) = true := bne_iff_ne.mpr c8
      have HC14 := Aside0.mk H; clear H
      obtain ⟨hcz15_0, hcz15_1, hcz15_2, hcz15_3, hcz15_4, hfz15_0, hfz15_1, hfz15_2, hfz15_3, hfz15_4⟩ := hcf5 BK124
      go_upto_region 5 with (fail)
      go_cut [39] (fun v39 wc => ∃ (kq : Nat) (x39_13 : Bool), v39 = .bool x39_13 ∧ Aside0 (gimbalref14_Fit.j1 kq x39_13 a0_0 a0_1 a0_2 a0_3 a0_4 = some r) ∧ Aside0 (kq ≤ kj1) ∧ Aside0 (wc.heap[gb124]? = some (.cells #[.int .i64 a0_0, .int .i64 a0_1, .int .i64 a0_2, .int .i64 a0_3, .int .i64 a0_4] 23 (0, 0))) ∧ Aside0 (Below w.heap.size w wc))
      case first =>
       have H := HC14.out
       clear HC14
       by_cases c16 : a0_1 = 1
       ·
        rw [if_pos c16] at H
        have c16b0 : (a0_1 == 1) = true := beq_iff_eq.mpr c16
        have c16b1 : (a0_1 != 1) = false := bne_eq_false_iff_eq.mpr c16
        clear c16
        (first | rw [c16b0] | (simp only [i64_w, i32_w]; rw [c16b0]) | skip)
        have H' := Aside0.mk H
        clear H
        obtain ⟨hcz17_0, hcz17_1, hcz17_2, hcz17_3, hcz17_4, hfz17_0, hfz17_1, hfz17_2, hfz17_3, hfz17_4⟩ := hcf5 BK124
        go_wp2
        go_meet
        case rel => exact ⟨_, (decide (a0_0 < 0)), (by first | rfl | (simp; done) | (simp [*]; done)), H', ⟨by have := HJ1.out; first | omega | exact Nat.le_refl _⟩, pkA BK124, bpk HB⟩
       ·
        rw [if_neg c16] at H
        have c16b0 : (a0_1 == 1) = false := beq_eq_false_iff_ne.mpr c16
        have c16b1 : (a0_1 != 1) = true := bne_iff_ne.mpr c16
        (first | rw [c16b0] | (simp only [i64_w, i32_w]; rw [c16b0]) | skip)
        by_cases c18 : a0_1 = (-1)
        ·
         rw [if_pos c18] at H
         have c18b0 : (a0_1 == (-1)) = true := beq_iff_eq.mpr c18
         have c18b1 : (a0_1 != (-1)) = false := bne_eq_false_iff_eq.mpr c18
         clear c18
         have H' := Aside0.mk H
         clear H
         obtain ⟨hcz19_0, hcz19_1, hcz19_2, hcz19_3, hcz19_4, hfz19_0, hfz19_1, hfz19_2, hfz19_3, hfz19_4⟩ := hcf5 BK124
         go_wp2
         go_meet
         case rel => exact ⟨_, (decide (a0_0 < 0)), (by first | rfl | (simp; done) | (simp [*]; done)), H', ⟨by have := HJ1.out; first | omega | exact Nat.le_refl _⟩, pkA BK124, bpk HB⟩
        ·
         rw [if_neg c18] at H
         have c18b0 : (a0_1 == (-1)) = false := beq_eq_false_iff_ne.mpr c18
         have c18b1 : (a0_1 != (-1)) = true := bne_iff_ne.mpr c18
         have H' := Aside0.mk H
         clear H
         obtain ⟨hcz20_0, hcz20_1, hcz20_2, hcz20_3, hcz20_4, hfz20_0, hfz20_1, hfz20_2, hfz20_3, hfz20_4⟩ := hcf5 BK124
         go_wp2
         go_meet
         case rel => exact ⟨_, (true), (by first | rfl | (simp; done) | (simp [*]; done)), H', ⟨by have := HJ1.out; first | omega | exact Nat.le_refl _⟩, pkA BK124, bpk HB⟩
      case rest =>
       clear HC14; (try clear c1); (try clear p2); (try clear c4); (try clear c4b0); (try clear c7); (try clear c8); (try clear c8b0); (try clear c8b1); (try clear c9); (try clear c9b0); (try clear c9b1); (try clear c10); (try clear c10b0); (try clear c10b1); (try clear c16); (try clear c16b0); (try clear c16b1); (try clear c18); (try clear c18b0); (try clear c18b1); (try clear hcz11_0 hcz11_1 hcz11_2 hcz11_3 hcz11_4); (try clear hcz12_0 hcz12_1 hcz12_2 hcz12_3 hcz12_4); (try clear hcz13_0 hcz13_1 hcz13_2 hcz13_3 hcz13_4); (try clear hcz15_0 hcz15_1 hcz15_2 hcz15_3 hcz15_4); (try clear hcz17_0 hcz17_1 hcz17_2 hcz17_3 hcz17_4); (try clear hcz19_0 hcz19_1 hcz19_2 hcz19_3 hcz19_4); (try clear hcz20_0 hcz20_1 hcz20_2 hcz20_3 hcz20_4); (try clear hcz5_0 hcz5_1 hcz5_2 hcz5_3 hcz5_4); (try clear hcz6_0 hcz6_1 hcz6_2 hcz6_3 hcz6_4); (try clear hfz11_0 hfz11_1 hfz11_2 hfz11_3 hfz11_4); (try clear hfz12_0 hfz12_1 hfz12_2 hfz12_3 hfz12_4); (try clear hfz13_0 hfz13_1 hfz13_2 hfz13_3 hfz13_4); (try clear hfz15_0 hfz15_1 hfz15_2 hfz15_3 hfz15_4); (try clear hfz17_0 hfz17_1 hfz17_2 hfz17_3 hfz17_4); (try clear hfz19_0 hfz19_1 hfz19_2 hfz19_3 hfz19_4); (try clear hfz20_0 hfz20_1 hfz20_2 hfz20_3 hfz20_4); (try clear hfz5_0 hfz5_1 hfz5_2 hfz5_3 hfz5_4); (try clear hfz6_0 hfz6_1 hfz6_2 hfz6_3 hfz6_4); (try clear p2); obtain ⟨kq, x39_13, rfl, HA, HJ13, BK124, HB⟩ := hcut
       cases kq with
       | zero => exact absurd HA.out (by simp [gimbalref14_Fit.j1])
       | succ kj13 =>
        have H := HA.out
        clear HA
        simp only [gimbalref14_Fit.j1] at H
        by_cases c21 : x39_13 = true
        ·
         subst c21
         have H1 : (some false) = some r := by rw [if_pos rfl] at H; exact H
         clear H; have H := H1; clear H1
         obtain rfl := Option.some.inj H
         go_wp2
         go_ret
         exact ⟨by first | rfl | (simp [errW_none, errW_some] <;> rfl) | (simp [*, errW_none, errW_some] <;> rfl) | kernel_rfl, (bpk HB).out⟩
        ·
         replace c21 := Bool.eq_false_iff.mpr c21
         subst c21
         have H1 : (if a0_3 = 0 then (some (a0_2 == 0)) else (if a0_3 = 1 then (some (decide (a0_0 < a0_2))) else (if a0_3 = (-1) then (some (decide (a0_0 < a0_2))) else (some false)))) = some r := by rw [if_neg (show ¬ (false = true) by decide)] at H; exact H
         clear H; have H := H1; clear H1
         by_cases c22 : a0_3 = 0
         ·
          rw [if_pos c22] at H
          have c22b0 : (a0_3 == 0) = true := beq_iff_eq.mpr c22
          have c22b1 : (a0_3 != 0) = false := bne_eq_false_iff_eq.mpr c22
          clear c22
          obtain rfl := Option.some.inj H
          obtain ⟨hcz23_0, hcz23_1, hcz23_2, hcz23_3, hcz23_4, hfz23_0, hfz23_1, hfz23_2, hfz23_3, hfz23_4⟩ := hcf5 BK124
          go_wp2
          go_ret
          exact ⟨by first | rfl | (simp [errW_none, errW_some] <;> rfl) | (simp [*, errW_none, errW_some] <;> rfl) | kernel_rfl, (bpk HB).out⟩
         ·
          rw [if_neg c22] at H
          have c22b0 : (a0_3 == 0) = false := beq_eq_false_iff_ne.mpr c22
          have c22b1 : (a0_3 != 0) = true := bne_iff_ne.mpr c22
          by_cases c24 : a0_3 = 1
          ·
           rw [if_pos c24] at H
           have c24b0 : (a0_3 == 1) = true := beq_iff_eq.mpr c24
           have c24b1 : (a0_3 != 1) = false := bne_eq_false_iff_eq.mpr c24
           clear c24
           obtain rfl := Option.some.inj H
           obtain ⟨hcz25_0, hcz25_1, hcz25_2, hcz25_3, hcz25_4, hfz25_0, hfz25_1, hfz25_2, hfz25_3, hfz25_4⟩ := hcf5 BK124
           go_wp2
           go_ret
           exact ⟨by first | rfl | (simp [errW_none, errW_some] <;> rfl) | (simp [*, errW_none, errW_some] <;> rfl) | kernel_rfl, (bpk HB).out⟩
          ·
           rw [if_neg c24] at H
           have c24b0 : (a0_3 == 1) = false := beq_eq_false_iff_ne.mpr c24
           have c24b1 : (a0_3 != 1) = true := bne_iff_ne.mpr c24
           by_cases c26 : a0_3 = (-1)
           ·
            rw [if_pos c26] at H
            have c26b0 : (a0_3 == (-1)) = true := beq_iff_eq.mpr c26
            have c26b1 : (a0_3 != (-1)) = false := bne_eq_false_iff_eq.mpr c26
            clear c26
            obtain rfl := Option.some.inj H
            obtain ⟨hcz27_0, hcz27_1, hcz27_2, hcz27_3, hcz27_4, hfz27_0, hfz27_1, hfz27_2, hfz27_3, hfz27_4⟩ := hcf5 BK124
            go_wp2
            go_ret
            exact ⟨by first | rfl | (simp [errW_none, errW_some] <;> rfl) | (simp [*, errW_none, errW_some] <;> rfl) | kernel_rfl, (bpk HB).out⟩
           ·
            rw [if_neg c26] at H
            have c26b0 : (a0_3 == (-1)) = false := beq_eq_false_iff_ne.mpr c26
            have c26b1 : (a0_3 != (-1)) = true := bne_iff_ne.mpr c26
            obtain rfl := Option.some.inj H
            obtain ⟨hcz28_0, hcz28_1, hcz28_2, hcz28_3, hcz28_4, hfz28_0, hfz28_1, hfz28_2, hfz28_3, hfz28_4⟩ := hcf5 BK124
            go_wp2
            go_ret
            exact ⟨by first | rfl | (simp [errW_none, errW_some] <;> rfl) | (simp [*, errW_none, errW_some] <;> rfl) | kernel_rfl, (bpk HB).out⟩
end Go.Proofs.Ytllfopbchdahoaa.P
