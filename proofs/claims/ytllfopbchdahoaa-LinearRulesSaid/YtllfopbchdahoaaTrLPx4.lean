/- What the law's proof needs of Px4. -/
import Derived.Test.YtllfopbchdahoaaTrLU2
import Derived.Test.YtllfopbchdahoaaTrLU
import Derived.Test.YtllfopbchdahoaaTrLPx0
import Derived.Test.YtllfopbchdahoaaTrLPx2
import Derived.Test.YtllfopbchdahoaaTrLPx3
-- PRINTED by print.py (a twelfth state) out of the translation. Not trusted: Lean checks it.
namespace Go.Proofs.Ytllfopbchdahoaa.P
open Go.RowKit Go.Proofs.YtllfopbchdahoaaW.PrintWords Go.Proofs.YtllfopbchdahoaaW.PrintLast Go.Proofs.YtllfopbchdahoaaW.PrintMore Go.Proofs.YtllfopbchdahoaaO
attribute [local go_sem] max2_int min2_int max_two min_two max_three min_three max_four min_four   -- for this text's walks alone
set_option linter.unusedVariables false
set_option linter.unusedSimpArgs false
attribute [local go_sem high] eqA50
def linear_Fit.j0 : Nat → Bool → Int → Int → Int → Int → Int → Option (Bool)
  | 0, _, _, _, _, _, _ => none
  | k + 1, x13, x105000, x105001, x105002, x105003, x105004 => if x13 = true then (some false) else ((linear_parts.f x105000 x105001 x105002 x105003 x105004).bind fun bt105 => (if (bt105.1 == 0 && (bt105.2.1 == 0)) = true then (some (bt105.2.2.1 == 0 && (bt105.2.2.2 == 0))) else (if (bt105.2.2.1 == 0 && (bt105.2.2.2 == 0)) = true then ((linear_Fit_1.f bt105.1 bt105.2.1).bind fun t111 => (some t111)) else ((linear_Fit_1.f bt105.1 bt105.2.1).bind fun t112 => (if t112 = true then ((linear_Fit_1.f bt105.2.2.1 bt105.2.2.2).bind fun t113 => (if t113 = true then (some (decide (bt105.1 < bt105.2.2.1))) else (some false))) else (some false))))))
def linear_Fit.f (k : Nat) (a0_0 : Int) (a0_1 : Int) (a0_2 : Int) (a0_3 : Int) (a0_4 : Int) : Option (Bool) := if a0_4 < (-1099511627776) then (linear_Fit.j0 k true a0_0 a0_1 a0_2 a0_3 a0_4) else (linear_Fit.j0 k (decide (a0_4 > 1099511627776)) a0_0 a0_1 a0_2 a0_3 a0_4)
set_option maxHeartbeats 8000000 in
set_option maxRecDepth 100000 in
theorem linear_Fit.calls (k : Nat) (a0_0 : Int) (a0_1 : Int) (a0_2 : Int) (a0_3 : Int) (a0_4 : Int) (r : Bool) (w : World) (h : linear_Fit.f k a0_0 a0_1 a0_2 a0_3 a0_4 = some r) :
    Calls Try.prog 17 #[.agg #[.int .i64 a0_0, .int .i64 a0_1, .int .i64 a0_2, .int .i64 a0_3, .int .i64 a0_4]] w fun e w' => e = .returned (.bool r) ∧ Below w.heap.size w w' := by
  have hu23 := Try.underlying23
  have hu51 := Try.underlying51
  have hu50 := Try.underlying50
  have HB := Aside0.mk (Below.refl w.heap.size w)
  have H : (if a0_4 < (-1099511627776) then (linear_Fit.j0 k true a0_0 a0_1 a0_2 a0_3 a0_4) else (linear_Fit.j0 k (decide (a0_4 > 1099511627776)) a0_0 a0_1 a0_2 a0_3 a0_4)) = some r := h
  clear h
  have HC2 := Aside0.mk H
  clear H
  go_enter Try.func17, Try.ntmps17
  go_upto_region 1 with (first | ((with_reducible refine gate_dst (N := 1) rfl ?_); refine box_event ?hg (N := 1) ?hd (cs := #[.int .i64 a0_0, .int .i64 a0_1, .int .i64 a0_2, .int .i64 a0_3, .int .i64 a0_4]) (t := 23) ?hr ?_; (case hd => rfl); (case hg => rfl); (case hr => first | (go_simp; done) | (go_simp; rfl)); intro gb104 hg w3 hbox hb; have n0_ := bst HB hb; have n1_ := Aside0.mk (hbox); have n2_ := bsz HB hg; have n3_ := bsz HB hg; clear HB; have HB := n0_; have BK104 := n1_; have GW104 := n2_; have GE104 := n3_; clear n0_ n1_ n2_ n3_; clear hb hbox hg))
  (try simp only [Act.put, List.setIfInBounds_toArray, List.set_cons_zero, List.set_cons_succ])
  go_cut [13] (fun v13 wc => ∃ (kq : Nat) (x13_1 : Bool), v13 = .bool x13_1 ∧ Aside0 (linear_Fit.j0 kq x13_1 a0_0 a0_1 a0_2 a0_3 a0_4 = some r) ∧ Aside0 (kq ≤ k) ∧ Aside0 (wc.heap[gb104]? = some (.cells #[.int .i64 a0_0, .int .i64 a0_1, .int .i64 a0_2, .int .i64 a0_3, .int .i64 a0_4] 23 (0, 0))) ∧ Aside0 (Below w.heap.size w wc))
  case first =>
   have H := HC2.out
   clear HC2
   by_cases c4 : a0_4 < (-1099511627776)
   ·
    rw [if_pos c4] at H
    have c4b0 : decide (a0_4 < (-1099511627776)) = true := decide_eq_true c4
    clear c4
    (first | rw [c4b0] | (simp only [i64_w, i32_w]; rw [c4b0]) | skip)
    have H' := Aside0.mk H
    clear H
    have hcz5_0 := hcz BK104 0
    have hcz5_1 := hcz BK104 1
    have hcz5_2 := hcz BK104 2
    have hcz5_3 := hcz BK104 3
    have hcz5_4 := hcz BK104 4
    have hfz5_0 := blk_frozen BK104.out 0
    have hfz5_1 := blk_frozen BK104.out 1
    have hfz5_2 := blk_frozen BK104.out 2
    have hfz5_3 := blk_frozen BK104.out 3
    have hfz5_4 := blk_frozen BK104.out 4
    go_wp2
    go_meet
    case rel => exact ⟨_, (true), (by first | rfl | (simp; done) | (simp [*]; done)), H', ⟨by first | omega | exact Nat.le_refl _⟩, pkA BK104, bpk HB⟩
   ·
    rw [if_neg c4] at H
    have c4b0 : decide (a0_4 < (-1099511627776)) = false := decide_eq_false c4
    clear c4
    (first | rw [c4b0] | (simp only [i64_w, i32_w]; rw [c4b0]) | skip)
    have H' := Aside0.mk H
    clear H
    have hcz6_0 := hcz BK104 0
    have hcz6_1 := hcz BK104 1
    have hcz6_2 := hcz BK104 2
    have hcz6_3 := hcz BK104 3
    have hcz6_4 := hcz BK104 4
    have hfz6_0 := blk_frozen BK104.out 0
    have hfz6_1 := blk_frozen BK104.out 1
    have hfz6_2 := blk_frozen BK104.out 2
    have hfz6_3 := blk_frozen BK104.out 3
    have hfz6_4 := blk_frozen BK104.out 4
    go_wp2
    go_meet
    case rel => exact ⟨_, (decide (a0_4 > 1099511627776)), (by first | rfl | (simp; done) | (simp [*]; done)), H', ⟨by first | omega | exact Nat.le_refl _⟩, pkA BK104, bpk HB⟩
  case rest =>
   clear HC2
   try clear c1
   try clear p2
   try clear c4
   try clear c4b0
   try clear hcz5_0
   try clear hcz5_1
   try clear hcz5_2
   try clear hcz5_3
   try clear hcz5_4
   try clear hcz6_0
   try clear hcz6_1
   try clear hcz6_2
   try clear hcz6_3
   try clear hcz6_4
   try clear hfz5_0
   try clear hfz5_1
   try clear hfz5_2
   try clear hfz5_3
   try clear hfz5_4
   try clear hfz6_0
   try clear hfz6_1
   try clear hfz6_2
   try clear hfz6_3
   try clear hfz6_4
   obtain ⟨kq, x13_1, rfl, HA, HJ1, BK104, HB⟩ := hcut
   cases kq with
   | zero => exact absurd HA.out (by simp [linear_Fit.j0])
   | succ kj1 =>
    have H := HA.out
    clear HA
    simp only [linear_Fit.j0] at H
    by_cases c7 : x13_1 = true
    ·
     subst c7
     have H1 : (some false) = some r := by rw [if_pos rfl] at H; exact H
     clear H
     have H := H1
     clear H1
     obtain rfl := Option.some.inj H
     go_wp2
     go_ret
     exact ⟨by first | rfl | (simp [errW_none, errW_some] <;> rfl) | (simp [*, errW_none, errW_some] <;> rfl) | kernel_rfl, by repeat (first | (with_reducible first | exact HB.out | apply below_alloc | apply pw_below_drewN | apply below_drew1 | refine below_set ?_ GE104.out) | exact HB.out)⟩
    ·
     replace c7 := Bool.eq_false_iff.mpr c7
     subst c7
     have H1 : ((linear_parts.f a0_0 a0_1 a0_2 a0_3 a0_4).bind fun bt105 => (if (bt105.1 == 0 && (bt105.2.1 == 0)) = true then (some (bt105.2.2.1 == 0 && (bt105.2.2.2 == 0))) else (if (bt105.2.2.1 == 0 && (bt105.2.2.2 == 0)) = true then ((linear_Fit_1.f bt105.1 bt105.2.1).bind fun t111 => (some t111)) else ((linear_Fit_1.f bt105.1 bt105.2.1).bind fun t112 => (if t112 = true then ((linear_Fit_1.f bt105.2.2.1 bt105.2.2.2).bind fun t113 => (if t113 = true then (some (decide (bt105.1 < bt105.2.2.1))) else (some false))) else (some false)))))) = some r := by rw [if_neg (show ¬ (false = true) by decide)] at H; exact H
     clear H
     have H := H1
     clear H1
     replace H := Option.bind_eq_some_iff.mp H
     obtain ⟨⟨t105, t106, t107, t108⟩, A80, H⟩ := H
     replace H : (if (t105 == 0 && (t106 == 0)) = true then (some (t107 == 0 && (t108 == 0))) else (if (t107 == 0 && (t108 == 0)) = true then ((linear_Fit_1.f t105 t106).bind fun t111 => (some t111)) else ((linear_Fit_1.f t105 t106).bind fun t112 => (if t112 = true then ((linear_Fit_1.f t107 t108).bind fun t113 => (if t113 = true then (some (decide (t105 < t107))) else (some false))) else (some false))))) = some r := H
     have A8 := Aside0.mk A80
     clear A80
     by_cases c9 : (t105 == 0 && (t106 == 0)) = true
     ·
      rw [if_pos c9] at H
      have c9b0 : (t105 == 0 && (t106 == 0)) = true := c9
      (try (have c9b1 : decide (t105 = 0 && (t106 == 0)) = true := by simpa using c9))
      (try (have c9b2 : (t105 == 0 && (t106 == 0)) = true := by simpa using c9))
      clear c9
      obtain rfl := Option.some.inj H
      have hcz10_0 := hcz BK104 0
      have hcz10_1 := hcz BK104 1
      have hcz10_2 := hcz BK104 2
      have hcz10_3 := hcz BK104 3
      have hcz10_4 := hcz BK104 4
      have hfz10_0 := blk_frozen BK104.out 0
      have hfz10_1 := blk_frozen BK104.out 1
      have hfz10_2 := blk_frozen BK104.out 2
      have hfz10_3 := blk_frozen BK104.out 3
      have hfz10_4 := blk_frozen BK104.out 4
      go_wp2_with (first | ((with_reducible refine gate_callee (f := 25) rfl ?_); refine goesL_ (some 15) rfl rfl Try.func25 (by kernel_rfl) rfl #[.agg #[.int .i64 a0_0, .int .i64 a0_1, .int .i64 a0_2, .int .i64 a0_3, .int .i64 a0_4]] rfl (by (try simp only [List.map_toArray, List.map_cons, List.map_nil]); first | done | rfl | (simp only [List.length_drop, List.length_take]; rfl)) ?_; (with_reducible refine (linear_parts.calls a0_0 a0_1 a0_2 a0_3 a0_4 t105 t106 t107 t108 _ A8.out).mono ?_); rintro e w11 ⟨rfl, hb⟩; refine ⟨_, rfl, ?_⟩; have n0_ := bst HB hb; replace BK104 := bbw BK104 hb; clear HB; have HB := n0_; clear n0_; (try clear hb); (try clear hb2); (try clear hk); (try clear hi)) | ((with_reducible refine gate_dst (N := 3) rfl ?_); refine box_event ?hg (N := 3) ?hd (cs := #[.int .i64 0, .int .i64 0, .int .i64 0, .int .i64 0]) (t := 51) ?hr ?_; (case hd => rfl); (case hg => rfl); (case hr => first | (go_simp; done) | (go_simp; rfl)); intro gb109 hg w12 hbox hb; have n0_ := bst HB hb; have n1_ := Aside0.mk (hbox); have n2_ := bsz HB hg; have n3_ := bsz HB hg; have n4_ := bn1 BK104 hg; have n5_ := bn2 BK104 hg; replace BK104 := bbw BK104 hb; clear HB; have HB := n0_; have BK109 := n1_; have GW109 := n2_; have GE109 := n3_; have NB104_109 := n4_; have NB109_104 := n5_; clear n0_ n1_ n2_ n3_ n4_ n5_; clear hb hbox hg; have hnb13 := NB109_104.out; have hnc13 := NB104_109.out; have hcz14_0 := hcz BK109 0; have hcz14_1 := hcz BK109 1; have hcz14_2 := hcz BK109 2; have hcz14_3 := hcz BK109 3; have hfz14_0 := blk_frozen BK109.out 0; have hfz14_1 := blk_frozen BK109.out 1; have hfz14_2 := blk_frozen BK109.out 2; have hfz14_3 := blk_frozen BK109.out 3) | ((with_reducible refine gate_dst (N := 5) rfl ?_); refine box_event ?hg (N := 5) ?hd (cs := #[.int .i64 0, .int .i64 0]) (t := 50) ?hr ?_; (case hd => rfl); (case hg => rfl); (case hr => first | (go_simp; done) | (go_simp; rfl)); intro gb110 hg w15 hbox hb; have n0_ := Aside0.mk (blk_below (g := gb104) (o := .cells #[.int .i64 a0_0, .int .i64 a0_1, .int .i64 a0_2, .int .i64 a0_3, .int .i64 a0_4] 23 (0, 0)) (by refine pkB ?_; refine blk_far ?_ NB104_109.out _; refine pkB ?_; refine blk_far ?_ NB104_109.out _; refine pkB ?_; refine blk_far ?_ NB104_109.out _; refine pkB ?_; refine blk_far ?_ NB104_109.out _; refine pkB ?_; exact BK104.out) hb); have n1_ := Aside0.mk (blk_below (g := gb109) (o := .cells #[.int .i64 t105, .int .i64 t106, .int .i64 t107, .int .i64 t108] 51 (0, 0)) (by refine pkB ?_; refine blk_put (cs := #[.int .i64 t105, .int .i64 t106, .int .i64 t107, .int .i64 0]) ?_ 3 _ (by first | rfl | (subst_vars; rfl)); refine pkB ?_; refine blk_put (cs := #[.int .i64 t105, .int .i64 t106, .int .i64 0, .int .i64 0]) ?_ 2 _ (by first | rfl | (subst_vars; rfl)); refine pkB ?_; refine blk_put (cs := #[.int .i64 t105, .int .i64 0, .int .i64 0, .int .i64 0]) ?_ 1 _ (by first | rfl | (subst_vars; rfl)); refine pkB ?_; refine blk_put (cs := #[.int .i64 0, .int .i64 0, .int .i64 0, .int .i64 0]) ?_ 0 _ (by first | rfl | (subst_vars; rfl)); refine pkB ?_; exact BK109.out) hb); have n2_ := bst HB hb; have n3_ := Aside0.mk (hbox); have n4_ := bsz HB hg; have n5_ := bsz HB hg; have n6_ := Aside0.mk ((by rw [hg]; exact Nat.ne_of_lt (blk_lt (g := gb104) (o := .cells #[.int .i64 a0_0, .int .i64 a0_1, .int .i64 a0_2, .int .i64 a0_3, .int .i64 a0_4] 23 (0, 0)) (by refine pkB ?_; refine blk_far ?_ NB104_109.out _; refine pkB ?_; refine blk_far ?_ NB104_109.out _; refine pkB ?_; refine blk_far ?_ NB104_109.out _; refine pkB ?_; refine blk_far ?_ NB104_109.out _; refine pkB ?_; exact BK104.out)) : gb104 ≠ gb110)); have n7_ := Aside0.mk ((by rw [hg]; exact Nat.ne_of_gt (blk_lt (g := gb104) (o := .cells #[.int .i64 a0_0, .int .i64 a0_1, .int .i64 a0_2, .int .i64 a0_3, .int .i64 a0_4] 23 (0, 0)) (by refine pkB ?_; refine blk_far ?_ NB104_109.out _; refine pkB ?_; refine blk_far ?_ NB104_109.out _; refine pkB ?_; refine blk_far ?_ NB104_109.out _; refine pkB ?_; refine blk_far ?_ NB104_109.out _; refine pkB ?_; exact BK104.out)) : gb110 ≠ gb104)); have n8_ := Aside0.mk ((by rw [hg]; exact Nat.ne_of_lt (blk_lt (g := gb109) (o := .cells #[.int .i64 t105, .int .i64 t106, .int .i64 t107, .int .i64 t108] 51 (0, 0)) (by refine pkB ?_; refine blk_put (cs := #[.int .i64 t105, .int .i64 t106, .int .i64 t107, .int .i64 0]) ?_ 3 _ (by first | rfl | (subst_vars; rfl)); refine pkB ?_; refine blk_put (cs := #[.int .i64 t105, .int .i64 t106, .int .i64 0, .int .i64 0]) ?_ 2 _ (by first | rfl | (subst_vars; rfl)); refine pkB ?_; refine blk_put (cs := #[.int .i64 t105, .int .i64 0, .int .i64 0, .int .i64 0]) ?_ 1 _ (by first | rfl | (subst_vars; rfl)); refine pkB ?_; refine blk_put (cs := #[.int .i64 0, .int .i64 0, .int .i64 0, .int .i64 0]) ?_ 0 _ (by first | rfl | (subst_vars; rfl)); refine pkB ?_; exact BK109.out)) : gb109 ≠ gb110)); have n9_ := Aside0.mk ((by rw [hg]; exact Nat.ne_of_gt (blk_lt (g := gb109) (o := .cells #[.int .i64 t105, .int .i64 t106, .int .i64 t107, .int .i64 t108] 51 (0, 0)) (by refine pkB ?_; refine blk_put (cs := #[.int .i64 t105, .int .i64 t106, .int .i64 t107, .int .i64 0]) ?_ 3 _ (by first | rfl | (subst_vars; rfl)); refine pkB ?_; refine blk_put (cs := #[.int .i64 t105, .int .i64 t106, .int .i64 0, .int .i64 0]) ?_ 2 _ (by first | rfl | (subst_vars; rfl)); refine pkB ?_; refine blk_put (cs := #[.int .i64 t105, .int .i64 0, .int .i64 0, .int .i64 0]) ?_ 1 _ (by first | rfl | (subst_vars; rfl)); refine pkB ?_; refine blk_put (cs := #[.int .i64 0, .int .i64 0, .int .i64 0, .int .i64 0]) ?_ 0 _ (by first | rfl | (subst_vars; rfl)); refine pkB ?_; exact BK109.out)) : gb110 ≠ gb109)); clear BK104; clear BK109; clear HB; have BK104 := n0_; have BK109 := n1_; have HB := n2_; have BK110 := n3_; have GW110 := n4_; have GE110 := n5_; have NB104_110 := n6_; have NB110_104 := n7_; have NB109_110 := n8_; have NB110_109 := n9_; clear n0_ n1_ n2_ n3_ n4_ n5_ n6_ n7_ n8_ n9_; clear hb hbox hg; have hnb16 := NB110_104.out; have hnc16 := NB104_110.out; have hnb17 := NB110_109.out; have hnc17 := NB109_110.out; have hcz18_0 := hcz BK110 0; have hcz18_1 := hcz BK110 1; have hfz18_0 := blk_frozen BK110.out 0; have hfz18_1 := blk_frozen BK110.out 1; have hcz19_0 := hcz BK109 0; have hcz19_1 := hcz BK109 1; have hcz19_2 := hcz BK109 2; have hcz19_3 := hcz BK109 3; have hfz19_0 := blk_frozen BK109.out 0; have hfz19_1 := blk_frozen BK109.out 1; have hfz19_2 := blk_frozen BK109.out 2; have hfz19_3 := blk_frozen BK109.out 3))
      go_ret
      exact ⟨by first | rfl | (simp [errW_none, errW_some] <;> rfl) | (simp [*, errW_none, errW_some] <;> rfl) | kernel_rfl, by repeat (first | (with_reducible first | exact HB.out | apply below_alloc | apply pw_below_drewN | apply below_drew1 | refine below_set ?_ GE104.out | refine below_set ?_ GE109.out | refine below_set ?_ GE110.out) | exact HB.out)⟩
     ·
      rw [if_neg c9] at H
      have c9b0 : (t105 == 0 && (t106 == 0)) = false := by simpa using c9
      (try (have c9b1 : decide (t105 = 0 && (t106 == 0)) = false := by simpa using c9))
      (try (have c9b2 : (t105 == 0 && (t106 == 0)) = false := by simpa using c9))
      (try (have c9b3 : ¬ (t105 = 0 && (t106 == 0)) := by simpa using c9))
      clear c9
      by_cases c20 : (t107 == 0 && (t108 == 0)) = true
      ·
       rw [if_pos c20] at H
       have c20b0 : (t107 == 0 && (t108 == 0)) = true := c20
       (try (have c20b1 : decide (t107 = 0 && (t108 == 0)) = true := by simpa using c20))
       (try (have c20b2 : (t107 == 0 && (t108 == 0)) = true := by simpa using c20))
       clear c20
       replace H := Option.bind_eq_some_iff.mp H
       obtain ⟨t111, A210, H⟩ := H
       replace H : (some t111) = some r := H
       have A21 := Aside0.mk A210
       clear A210
       obtain rfl := Option.some.inj H
       have hcz22_0 := hcz BK104 0
       have hcz22_1 := hcz BK104 1
       have hcz22_2 := hcz BK104 2
       have hcz22_3 := hcz BK104 3
       have hcz22_4 := hcz BK104 4
       have hfz22_0 := blk_frozen BK104.out 0
       have hfz22_1 := blk_frozen BK104.out 1
       have hfz22_2 := blk_frozen BK104.out 2
       have hfz22_3 := blk_frozen BK104.out 3
       have hfz22_4 := blk_frozen BK104.out 4
       go_wp2_with (first | ((with_reducible refine gate_callee (f := 25) rfl ?_); refine goesL_ (some 15) rfl rfl Try.func25 (by kernel_rfl) rfl #[.agg #[.int .i64 a0_0, .int .i64 a0_1, .int .i64 a0_2, .int .i64 a0_3, .int .i64 a0_4]] rfl (by (try simp only [List.map_toArray, List.map_cons, List.map_nil]); first | done | rfl | (simp only [List.length_drop, List.length_take]; rfl)) ?_; (with_reducible refine (linear_parts.calls a0_0 a0_1 a0_2 a0_3 a0_4 t105 t106 t107 t108 _ A8.out).mono ?_); rintro e w23 ⟨rfl, hb⟩; refine ⟨_, rfl, ?_⟩; have n0_ := bst HB hb; replace BK104 := bbw BK104 hb; clear HB; have HB := n0_; clear n0_; (try clear hb); (try clear hb2); (try clear hk); (try clear hi)) | ((with_reducible refine gate_dst (N := 3) rfl ?_); refine box_event ?hg (N := 3) ?hd (cs := #[.int .i64 0, .int .i64 0, .int .i64 0, .int .i64 0]) (t := 51) ?hr ?_; (case hd => rfl); (case hg => rfl); (case hr => first | (go_simp; done) | (go_simp; rfl)); intro gb109 hg w24 hbox hb; have n0_ := bst HB hb; have n1_ := Aside0.mk (hbox); have n2_ := bsz HB hg; have n3_ := bsz HB hg; have n4_ := bn1 BK104 hg; have n5_ := bn2 BK104 hg; replace BK104 := bbw BK104 hb; clear HB; have HB := n0_; have BK109 := n1_; have GW109 := n2_; have GE109 := n3_; have NB104_109 := n4_; have NB109_104 := n5_; clear n0_ n1_ n2_ n3_ n4_ n5_; clear hb hbox hg; have hnb25 := NB109_104.out; have hnc25 := NB104_109.out; have hcz26_0 := hcz BK109 0; have hcz26_1 := hcz BK109 1; have hcz26_2 := hcz BK109 2; have hcz26_3 := hcz BK109 3; have hfz26_0 := blk_frozen BK109.out 0; have hfz26_1 := blk_frozen BK109.out 1; have hfz26_2 := blk_frozen BK109.out 2; have hfz26_3 := blk_frozen BK109.out 3) | ((with_reducible refine gate_dst (N := 5) rfl ?_); refine box_event ?hg (N := 5) ?hd (cs := #[.int .i64 0, .int .i64 0]) (t := 50) ?hr ?_; (case hd => rfl); (case hg => rfl); (case hr => first | (go_simp; done) | (go_simp; rfl)); intro gb110 hg w27 hbox hb; have n0_ := Aside0.mk (blk_below (g := gb104) (o := .cells #[.int .i64 a0_0, .int .i64 a0_1, .int .i64 a0_2, .int .i64 a0_3, .int .i64 a0_4] 23 (0, 0)) (by refine pkB ?_; refine blk_far ?_ NB104_109.out _; refine pkB ?_; refine blk_far ?_ NB104_109.out _; refine pkB ?_; refine blk_far ?_ NB104_109.out _; refine pkB ?_; refine blk_far ?_ NB104_109.out _; refine pkB ?_; exact BK104.out) hb); have n1_ := Aside0.mk (blk_below (g := gb109) (o := .cells #[.int .i64 t105, .int .i64 t106, .int .i64 t107, .int .i64 t108] 51 (0, 0)) (by refine pkB ?_; refine blk_put (cs := #[.int .i64 t105, .int .i64 t106, .int .i64 t107, .int .i64 0]) ?_ 3 _ (by first | rfl | (subst_vars; rfl)); refine pkB ?_; refine blk_put (cs := #[.int .i64 t105, .int .i64 t106, .int .i64 0, .int .i64 0]) ?_ 2 _ (by first | rfl | (subst_vars; rfl)); refine pkB ?_; refine blk_put (cs := #[.int .i64 t105, .int .i64 0, .int .i64 0, .int .i64 0]) ?_ 1 _ (by first | rfl | (subst_vars; rfl)); refine pkB ?_; refine blk_put (cs := #[.int .i64 0, .int .i64 0, .int .i64 0, .int .i64 0]) ?_ 0 _ (by first | rfl | (subst_vars; rfl)); refine pkB ?_; exact BK109.out) hb); have n2_ := bst HB hb; have n3_ := Aside0.mk (hbox); have n4_ := bsz HB hg; have n5_ := bsz HB hg; have n6_ := Aside0.mk ((by rw [hg]; exact Nat.ne_of_lt (blk_lt (g := gb104) (o := .cells #[.int .i64 a0_0, .int .i64 a0_1, .int .i64 a0_2, .int .i64 a0_3, .int .i64 a0_4] 23 (0, 0)) (by refine pkB ?_; refine blk_far ?_ NB104_109.out _; refine pkB ?_; refine blk_far ?_ NB104_109.out _; refine pkB ?_; refine blk_far ?_ NB104_109.out _; refine pkB ?_; refine blk_far ?_ NB104_109.out _; refine pkB ?_; exact BK104.out)) : gb104 ≠ gb110)); have n7_ := Aside0.mk ((by rw [hg]; exact Nat.ne_of_gt (blk_lt (g := gb104) (o := .cells #[.int .i64 a0_0, .int .i64 a0_1, .int .i64 a0_2, .int .i64 a0_3, .int .i64 a0_4] 23 (0, 0)) (by refine pkB ?_; refine blk_far ?_ NB104_109.out _; refine pkB ?_; refine blk_far ?_ NB104_109.out _; refine pkB ?_; refine blk_far ?_ NB104_109.out _; refine pkB ?_; refine blk_far ?_ NB104_109.out _; refine pkB ?_; exact BK104.out)) : gb110 ≠ gb104)); have n8_ := Aside0.mk ((by rw [hg]; exact Nat.ne_of_lt (blk_lt (g := gb109) (o := .cells #[.int .i64 t105, .int .i64 t106, .int .i64 t107, .int .i64 t108] 51 (0, 0)) (by refine pkB ?_; refine blk_put (cs := #[.int .i64 t105, .int .i64 t106, .int .i64 t107, .int .i64 0]) ?_ 3 _ (by first | rfl | (subst_vars; rfl)); refine pkB ?_; refine blk_put (cs := #[.int .i64 t105, .int .i64 t106, .int .i64 0, .int .i64 0]) ?_ 2 _ (by first | rfl | (subst_vars; rfl)); refine pkB ?_; refine blk_put (cs := #[.int .i64 t105, .int .i64 0, .int .i64 0, .int .i64 0]) ?_ 1 _ (by first | rfl | (subst_vars; rfl)); refine pkB ?_; refine blk_put (cs := #[.int .i64 0, .int .i64 0, .int .i64 0, .int .i64 0]) ?_ 0 _ (by first | rfl | (subst_vars; rfl)); refine pkB ?_; exact BK109.out)) : gb109 ≠ gb110)); have n9_ := Aside0.mk ((by rw [hg]; exact Nat.ne_of_gt (blk_lt (g := gb109) (o := .cells #[.int .i64 t105, .int .i64 t106, .int .i64 t107, .int .i64 t108] 51 (0, 0)) (by refine pkB ?_; refine blk_put (cs := #[.int .i64 t105, .int .i64 t106, .int .i64 t107, .int .i64 0]) ?_ 3 _ (by first | rfl | (subst_vars; rfl)); refine pkB ?_; refine blk_put (cs := #[.int .i64 t105, .int .i64 t106, .int .i64 0, .int .i64 0]) ?_ 2 _ (by first | rfl | (subst_vars; rfl)); refine pkB ?_; refine blk_put (cs := #[.int .i64 t105, .int .i64 0, .int .i64 0, .int .i64 0]) ?_ 1 _ (by first | rfl | (subst_vars; rfl)); refine pkB ?_; refine blk_put (cs := #[.int .i64 0, .int .i64 0, .int .i64 0, .int .i64 0]) ?_ 0 _ (by first | rfl | (subst_vars; rfl)); refine pkB ?_; exact BK109.out)) : gb110 ≠ gb109)); clear BK104; clear BK109; clear HB; have BK104 := n0_; have BK109 := n1_; have HB := n2_; have BK110 := n3_; have GW110 := n4_; have GE110 := n5_; have NB104_110 := n6_; have NB110_104 := n7_; have NB109_110 := n8_; have NB110_109 := n9_; clear n0_ n1_ n2_ n3_ n4_ n5_ n6_ n7_ n8_ n9_; clear hb hbox hg; have hnb28 := NB110_104.out; have hnc28 := NB104_110.out; have hnb29 := NB110_109.out; have hnc29 := NB109_110.out; have hcz30_0 := hcz BK110 0; have hcz30_1 := hcz BK110 1; have hfz30_0 := blk_frozen BK110.out 0; have hfz30_1 := blk_frozen BK110.out 1; have hcz31_0 := hcz BK109 0; have hcz31_1 := hcz BK109 1; have hcz31_2 := hcz BK109 2; have hcz31_3 := hcz BK109 3; have hfz31_0 := blk_frozen BK109.out 0; have hfz31_1 := blk_frozen BK109.out 1; have hfz31_2 := blk_frozen BK109.out 2; have hfz31_3 := blk_frozen BK109.out 3) | (go_at_call 30; (with_reducible refine (linear_Fit_1.calls t105 t106 t111 _ A21.out).mono ?_); rintro e w32 ⟨rfl, hb⟩; have n0_ := Aside0.mk (blk_below (g := gb104) (o := .cells #[.int .i64 a0_0, .int .i64 a0_1, .int .i64 a0_2, .int .i64 a0_3, .int .i64 a0_4] 23 (0, 0)) (by refine pkB ?_; refine blk_far ?_ NB104_110.out _; refine pkB ?_; refine blk_far ?_ NB104_110.out _; refine pkB ?_; exact BK104.out) hb); have n1_ := Aside0.mk (blk_below (g := gb109) (o := .cells #[.int .i64 t105, .int .i64 t106, .int .i64 t107, .int .i64 t108] 51 (0, 0)) (by refine pkB ?_; refine blk_far ?_ NB109_110.out _; refine pkB ?_; refine blk_far ?_ NB109_110.out _; refine pkB ?_; exact BK109.out) hb); have n2_ := Aside0.mk (blk_below (g := gb110) (o := .cells #[.int .i64 0, .int .i64 0] 50 (0, 0)) (by refine pkB ?_; refine blk_put (cs := #[.int .i64 0, .int .i64 0]) ?_ 1 _ (by first | rfl | (subst_vars; rfl)); refine pkB ?_; refine blk_put (cs := #[.int .i64 0, .int .i64 0]) ?_ 0 _ (by first | rfl | (subst_vars; rfl)); refine pkB ?_; exact BK110.out) hb); have n3_ := bst HB hb; clear BK104; clear BK109; clear BK110; clear HB; have BK104 := n0_; have BK109 := n1_; have BK110 := n2_; have HB := n3_; clear n0_ n1_ n2_ n3_; (try clear hb); (try clear hb2); (try clear hk); (try clear hi)))
       go_ret
       exact ⟨by first | rfl | (simp [errW_none, errW_some] <;> rfl) | (simp [*, errW_none, errW_some] <;> rfl) | kernel_rfl, by repeat (first | (with_reducible first | exact HB.out | apply below_alloc | apply pw_below_drewN | apply below_drew1 | refine below_set ?_ GE104.out | refine below_set ?_ GE109.out | refine below_set ?_ GE110.out) | exact HB.out)⟩
      ·
       rw [if_neg c20] at H
       have c20b0 : (t107 == 0 && (t108 == 0)) = false := by simpa using c20
       (try (have c20b1 : decide (t107 = 0 && (t108 == 0)) = false := by simpa using c20))
       (try (have c20b2 : (t107 == 0 && (t108 == 0)) = false := by simpa using c20))
       (try (have c20b3 : ¬ (t107 = 0 && (t108 == 0)) := by simpa using c20))
       clear c20
       replace H := Option.bind_eq_some_iff.mp H
       obtain ⟨t112, A330, H⟩ := H
       replace H : (if t112 = true then ((linear_Fit_1.f t107 t108).bind fun t113 => (if t113 = true then (some (decide (t105 < t107))) else (some false))) else (some false)) = some r := H
       have A33 := Aside0.mk A330
       clear A330
       by_cases c34 : t112 = true
       ·
        subst c34
        have H1 : ((linear_Fit_1.f t107 t108).bind fun t113 => (if t113 = true then (some (decide (t105 < t107))) else (some false))) = some r := by rw [if_pos rfl] at H; exact H
        clear H
        have H := H1
        clear H1
        replace H := Option.bind_eq_some_iff.mp H
        obtain ⟨t113, A350, H⟩ := H
        replace H : (if t113 = true then (some (decide (t105 < t107))) else (some false)) = some r := H
        have A35 := Aside0.mk A350
        clear A350
        by_cases c36 : t113 = true
        ·
         subst c36
         have H1 : (some (decide (t105 < t107))) = some r := by rw [if_pos rfl] at H; exact H
         clear H
         have H := H1
         clear H1
         obtain rfl := Option.some.inj H
         have hcz37_0 := hcz BK104 0
         have hcz37_1 := hcz BK104 1
         have hcz37_2 := hcz BK104 2
         have hcz37_3 := hcz BK104 3
         have hcz37_4 := hcz BK104 4
         have hfz37_0 := blk_frozen BK104.out 0
         have hfz37_1 := blk_frozen BK104.out 1
         have hfz37_2 := blk_frozen BK104.out 2
         have hfz37_3 := blk_frozen BK104.out 3
         have hfz37_4 := blk_frozen BK104.out 4
         go_wp2_with (first | ((with_reducible refine gate_callee (f := 25) rfl ?_); refine goesL_ (some 15) rfl rfl Try.func25 (by kernel_rfl) rfl #[.agg #[.int .i64 a0_0, .int .i64 a0_1, .int .i64 a0_2, .int .i64 a0_3, .int .i64 a0_4]] rfl (by (try simp only [List.map_toArray, List.map_cons, List.map_nil]); first | done | rfl | (simp only [List.length_drop, List.length_take]; rfl)) ?_; (with_reducible refine (linear_parts.calls a0_0 a0_1 a0_2 a0_3 a0_4 t105 t106 t107 t108 _ A8.out).mono ?_); rintro e w38 ⟨rfl, hb⟩; refine ⟨_, rfl, ?_⟩; have n0_ := bst HB hb; replace BK104 := bbw BK104 hb; clear HB; have HB := n0_; clear n0_; (try clear hb); (try clear hb2); (try clear hk); (try clear hi)) | ((with_reducible refine gate_dst (N := 3) rfl ?_); refine box_event ?hg (N := 3) ?hd (cs := #[.int .i64 0, .int .i64 0, .int .i64 0, .int .i64 0]) (t := 51) ?hr ?_; (case hd => rfl); (case hg => rfl); (case hr => first | (go_simp; done) | (go_simp; rfl)); intro gb109 hg w39 hbox hb; have n0_ := bst HB hb; have n1_ := Aside0.mk (hbox); have n2_ := bsz HB hg; have n3_ := bsz HB hg; have n4_ := bn1 BK104 hg; have n5_ := bn2 BK104 hg; replace BK104 := bbw BK104 hb; clear HB; have HB := n0_; have BK109 := n1_; have GW109 := n2_; have GE109 := n3_; have NB104_109 := n4_; have NB109_104 := n5_; clear n0_ n1_ n2_ n3_ n4_ n5_; clear hb hbox hg; have hnb40 := NB109_104.out; have hnc40 := NB104_109.out; have hcz41_0 := hcz BK109 0; have hcz41_1 := hcz BK109 1; have hcz41_2 := hcz BK109 2; have hcz41_3 := hcz BK109 3; have hfz41_0 := blk_frozen BK109.out 0; have hfz41_1 := blk_frozen BK109.out 1; have hfz41_2 := blk_frozen BK109.out 2; have hfz41_3 := blk_frozen BK109.out 3) | ((with_reducible refine gate_dst (N := 5) rfl ?_); refine box_event ?hg (N := 5) ?hd (cs := #[.int .i64 0, .int .i64 0]) (t := 50) ?hr ?_; (case hd => rfl); (case hg => rfl); (case hr => first | (go_simp; done) | (go_simp; rfl)); intro gb110 hg w42 hbox hb; have n0_ := Aside0.mk (blk_below (g := gb104) (o := .cells #[.int .i64 a0_0, .int .i64 a0_1, .int .i64 a0_2, .int .i64 a0_3, .int .i64 a0_4] 23 (0, 0)) (by refine pkB ?_; refine blk_far ?_ NB104_109.out _; refine pkB ?_; refine blk_far ?_ NB104_109.out _; refine pkB ?_; refine blk_far ?_ NB104_109.out _; refine pkB ?_; refine blk_far ?_ NB104_109.out _; refine pkB ?_; exact BK104.out) hb); have n1_ := Aside0.mk (blk_below (g := gb109) (o := .cells #[.int .i64 t105, .int .i64 t106, .int .i64 t107, .int .i64 t108] 51 (0, 0)) (by refine pkB ?_; refine blk_put (cs := #[.int .i64 t105, .int .i64 t106, .int .i64 t107, .int .i64 0]) ?_ 3 _ (by first | rfl | (subst_vars; rfl)); refine pkB ?_; refine blk_put (cs := #[.int .i64 t105, .int .i64 t106, .int .i64 0, .int .i64 0]) ?_ 2 _ (by first | rfl | (subst_vars; rfl)); refine pkB ?_; refine blk_put (cs := #[.int .i64 t105, .int .i64 0, .int .i64 0, .int .i64 0]) ?_ 1 _ (by first | rfl | (subst_vars; rfl)); refine pkB ?_; refine blk_put (cs := #[.int .i64 0, .int .i64 0, .int .i64 0, .int .i64 0]) ?_ 0 _ (by first | rfl | (subst_vars; rfl)); refine pkB ?_; exact BK109.out) hb); have n2_ := bst HB hb; have n3_ := Aside0.mk (hbox); have n4_ := bsz HB hg; have n5_ := bsz HB hg; have n6_ := Aside0.mk ((by rw [hg]; exact Nat.ne_of_lt (blk_lt (g := gb104) (o := .cells #[.int .i64 a0_0, .int .i64 a0_1, .int .i64 a0_2, .int .i64 a0_3, .int .i64 a0_4] 23 (0, 0)) (by refine pkB ?_; refine blk_far ?_ NB104_109.out _; refine pkB ?_; refine blk_far ?_ NB104_109.out _; refine pkB ?_; refine blk_far ?_ NB104_109.out _; refine pkB ?_; refine blk_far ?_ NB104_109.out _; refine pkB ?_; exact BK104.out)) : gb104 ≠ gb110)); have n7_ := Aside0.mk ((by rw [hg]; exact Nat.ne_of_gt (blk_lt (g := gb104) (o := .cells #[.int .i64 a0_0, .int .i64 a0_1, .int .i64 a0_2, .int .i64 a0_3, .int .i64 a0_4] 23 (0, 0)) (by refine pkB ?_; refine blk_far ?_ NB104_109.out _; refine pkB ?_; refine blk_far ?_ NB104_109.out _; refine pkB ?_; refine blk_far ?_ NB104_109.out _; refine pkB ?_; refine blk_far ?_ NB104_109.out _; refine pkB ?_; exact BK104.out)) : gb110 ≠ gb104)); have n8_ := Aside0.mk ((by rw [hg]; exact Nat.ne_of_lt (blk_lt (g := gb109) (o := .cells #[.int .i64 t105, .int .i64 t106, .int .i64 t107, .int .i64 t108] 51 (0, 0)) (by refine pkB ?_; refine blk_put (cs := #[.int .i64 t105, .int .i64 t106, .int .i64 t107, .int .i64 0]) ?_ 3 _ (by first | rfl | (subst_vars; rfl)); refine pkB ?_; refine blk_put (cs := #[.int .i64 t105, .int .i64 t106, .int .i64 0, .int .i64 0]) ?_ 2 _ (by first | rfl | (subst_vars; rfl)); refine pkB ?_; refine blk_put (cs := #[.int .i64 t105, .int .i64 0, .int .i64 0, .int .i64 0]) ?_ 1 _ (by first | rfl | (subst_vars; rfl)); refine pkB ?_; refine blk_put (cs := #[.int .i64 0, .int .i64 0, .int .i64 0, .int .i64 0]) ?_ 0 _ (by first | rfl | (subst_vars; rfl)); refine pkB ?_; exact BK109.out)) : gb109 ≠ gb110)); have n9_ := Aside0.mk ((by rw [hg]; exact Nat.ne_of_gt (blk_lt (g := gb109) (o := .cells #[.int .i64 t105, .int .i64 t106, .int .i64 t107, .int .i64 t108] 51 (0, 0)) (by refine pkB ?_; refine blk_put (cs := #[.int .i64 t105, .int .i64 t106, .int .i64 t107, .int .i64 0]) ?_ 3 _ (by first | rfl | (subst_vars; rfl)); refine pkB ?_; refine blk_put (cs := #[.int .i64 t105, .int .i64 t106, .int .i64 0, .int .i64 0]) ?_ 2 _ (by first | rfl | (subst_vars; rfl)); refine pkB ?_; refine blk_put (cs := #[.int .i64 t105, .int .i64 0, .int .i64 0, .int .i64 0]) ?_ 1 _ (by first | rfl | (subst_vars; rfl)); refine pkB ?_; refine blk_put (cs := #[.int .i64 0, .int .i64 0, .int .i64 0, .int .i64 0]) ?_ 0 _ (by first | rfl | (subst_vars; rfl)); refine pkB ?_; exact BK109.out)) : gb110 ≠ gb109)); clear BK104; clear BK109; clear HB; have BK104 := n0_; have BK109 := n1_; have HB := n2_; have BK110 := n3_; have GW110 := n4_; have GE110 := n5_; have NB104_110 := n6_; have NB110_104 := n7_; have NB109_110 := n8_; have NB110_109 := n9_; clear n0_ n1_ n2_ n3_ n4_ n5_ n6_ n7_ n8_ n9_; clear hb hbox hg; have hnb43 := NB110_104.out; have hnc43 := NB104_110.out; have hnb44 := NB110_109.out; have hnc44 := NB109_110.out; have hcz45_0 := hcz BK110 0; have hcz45_1 := hcz BK110 1; have hfz45_0 := blk_frozen BK110.out 0; have hfz45_1 := blk_frozen BK110.out 1; have hcz46_0 := hcz BK109 0; have hcz46_1 := hcz BK109 1; have hcz46_2 := hcz BK109 2; have hcz46_3 := hcz BK109 3; have hfz46_0 := blk_frozen BK109.out 0; have hfz46_1 := blk_frozen BK109.out 1; have hfz46_2 := blk_frozen BK109.out 2; have hfz46_3 := blk_frozen BK109.out 3) | (go_at_call 30; (with_reducible refine (linear_Fit_1.calls t105 t106 true _ A33.out).mono ?_); rintro e w47 ⟨rfl, hb⟩; have n0_ := Aside0.mk (blk_below (g := gb104) (o := .cells #[.int .i64 a0_0, .int .i64 a0_1, .int .i64 a0_2, .int .i64 a0_3, .int .i64 a0_4] 23 (0, 0)) (by refine pkB ?_; refine blk_far ?_ NB104_110.out _; refine pkB ?_; refine blk_far ?_ NB104_110.out _; refine pkB ?_; exact BK104.out) hb); have n1_ := Aside0.mk (blk_below (g := gb109) (o := .cells #[.int .i64 t105, .int .i64 t106, .int .i64 t107, .int .i64 t108] 51 (0, 0)) (by refine pkB ?_; refine blk_far ?_ NB109_110.out _; refine pkB ?_; refine blk_far ?_ NB109_110.out _; refine pkB ?_; exact BK109.out) hb); have n2_ := Aside0.mk (blk_below (g := gb110) (o := .cells #[.int .i64 0, .int .i64 0] 50 (0, 0)) (by refine pkB ?_; refine blk_put (cs := #[.int .i64 0, .int .i64 0]) ?_ 1 _ (by first | rfl | (subst_vars; rfl)); refine pkB ?_; refine blk_put (cs := #[.int .i64 0, .int .i64 0]) ?_ 0 _ (by first | rfl | (subst_vars; rfl)); refine pkB ?_; exact BK110.out) hb); have n3_ := bst HB hb; clear BK104; clear BK109; clear BK110; clear HB; have BK104 := n0_; have BK109 := n1_; have BK110 := n2_; have HB := n3_; clear n0_ n1_ n2_ n3_; (try clear hb); (try clear hb2); (try clear hk); (try clear hi); have hcz48_0 := hcz BK109 0; have hcz48_1 := hcz BK109 1; have hcz48_2 := hcz BK109 2; have hcz48_3 := hcz BK109 3; have hfz48_0 := blk_frozen BK109.out 0; have hfz48_1 := blk_frozen BK109.out 1; have hfz48_2 := blk_frozen BK109.out 2; have hfz48_3 := blk_frozen BK109.out 3) | (go_at_call 30; (with_reducible refine (linear_Fit_1.calls t107 t108 true _ A35.out).mono ?_); rintro e w49 ⟨rfl, hb⟩; have n0_ := bst HB hb; replace BK104 := bbw BK104 hb; replace BK109 := bbw BK109 hb; replace BK110 := bbw BK110 hb; clear HB; have HB := n0_; clear n0_; (try clear hb); (try clear hb2); (try clear hk); (try clear hi); have hcz50_0 := hcz BK109 0; have hcz50_1 := hcz BK109 1; have hcz50_2 := hcz BK109 2; have hcz50_3 := hcz BK109 3; have hfz50_0 := blk_frozen BK109.out 0; have hfz50_1 := blk_frozen BK109.out 1; have hfz50_2 := blk_frozen BK109.out 2; have hfz50_3 := blk_frozen BK109.out 3))
         go_ret
         exact ⟨by first | rfl | (simp [errW_none, errW_some] <;> rfl) | (simp [*, errW_none, errW_some] <;> rfl) | kernel_rfl, by repeat (first | (with_reducible first | exact HB.out | apply below_alloc | apply pw_below_drewN | apply below_drew1 | refine below_set ?_ GE104.out | refine below_set ?_ GE109.out | refine below_set ?_ GE110.out) | exact HB.out)⟩
        ·
         replace c36 := Bool.eq_false_iff.mpr c36
         subst c36
         have H1 : (some false) = some r := by rw [if_neg (show ¬ (false = true) by decide)] at H; exact H
         clear H
         have H := H1
         clear H1
         obtain rfl := Option.some.inj H
         have hcz51_0 := hcz BK104 0
         have hcz51_1 := hcz BK104 1
         have hcz51_2 := hcz BK104 2
         have hcz51_3 := hcz BK104 3
         have hcz51_4 := hcz BK104 4
         have hfz51_0 := blk_frozen BK104.out 0
         have hfz51_1 := blk_frozen BK104.out 1
         have hfz51_2 := blk_frozen BK104.out 2
         have hfz51_3 := blk_frozen BK104.out 3
         have hfz51_4 := blk_frozen BK104.out 4
         go_wp2_with (first | ((with_reducible refine gate_callee (f := 25) rfl ?_); refine goesL_ (some 15) rfl rfl Try.func25 (by kernel_rfl) rfl #[.agg #[.int .i64 a0_0, .int .i64 a0_1, .int .i64 a0_2, .int .i64 a0_3, .int .i64 a0_4]] rfl (by (try simp only [List.map_toArray, List.map_cons, List.map_nil]); first | done | rfl | (simp only [List.length_drop, List.length_take]; rfl)) ?_; (with_reducible refine (linear_parts.calls a0_0 a0_1 a0_2 a0_3 a0_4 t105 t106 t107 t108 _ A8.out).mono ?_); rintro e w52 ⟨rfl, hb⟩; refine ⟨_, rfl, ?_⟩; have n0_ := bst HB hb; replace BK104 := bbw BK104 hb; clear HB; have HB := n0_; clear n0_; (try clear hb); (try clear hb2); (try clear hk); (try clear hi)) | ((with_reducible refine gate_dst (N := 3) rfl ?_); refine box_event ?hg (N := 3) ?hd (cs := #[.int .i64 0, .int .i64 0, .int .i64 0, .int .i64 0]) (t := 51) ?hr ?_; (case hd => rfl); (case hg => rfl); (case hr => first | (go_simp; done) | (go_simp; rfl)); intro gb109 hg w53 hbox hb; have n0_ := bst HB hb; have n1_ := Aside0.mk (hbox); have n2_ := bsz HB hg; have n3_ := bsz HB hg; have n4_ := bn1 BK104 hg; have n5_ := bn2 BK104 hg; replace BK104 := bbw BK104 hb; clear HB; have HB := n0_; have BK109 := n1_; have GW109 := n2_; have GE109 := n3_; have NB104_109 := n4_; have NB109_104 := n5_; clear n0_ n1_ n2_ n3_ n4_ n5_; clear hb hbox hg; have hnb54 := NB109_104.out; have hnc54 := NB104_109.out; have hcz55_0 := hcz BK109 0; have hcz55_1 := hcz BK109 1; have hcz55_2 := hcz BK109 2; have hcz55_3 := hcz BK109 3; have hfz55_0 := blk_frozen BK109.out 0; have hfz55_1 := blk_frozen BK109.out 1; have hfz55_2 := blk_frozen BK109.out 2; have hfz55_3 := blk_frozen BK109.out 3) | ((with_reducible refine gate_dst (N := 5) rfl ?_); refine box_event ?hg (N := 5) ?hd (cs := #[.int .i64 0, .int .i64 0]) (t := 50) ?hr ?_; (case hd => rfl); (case hg => rfl); (case hr => first | (go_simp; done) | (go_simp; rfl)); intro gb110 hg w56 hbox hb; have n0_ := Aside0.mk (blk_below (g := gb104) (o := .cells #[.int .i64 a0_0, .int .i64 a0_1, .int .i64 a0_2, .int .i64 a0_3, .int .i64 a0_4] 23 (0, 0)) (by refine pkB ?_; refine blk_far ?_ NB104_109.out _; refine pkB ?_; refine blk_far ?_ NB104_109.out _; refine pkB ?_; refine blk_far ?_ NB104_109.out _; refine pkB ?_; refine blk_far ?_ NB104_109.out _; refine pkB ?_; exact BK104.out) hb); have n1_ := Aside0.mk (blk_below (g := gb109) (o := .cells #[.int .i64 t105, .int .i64 t106, .int .i64 t107, .int .i64 t108] 51 (0, 0)) (by refine pkB ?_; refine blk_put (cs := #[.int .i64 t105, .int .i64 t106, .int .i64 t107, .int .i64 0]) ?_ 3 _ (by first | rfl | (subst_vars; rfl)); refine pkB ?_; refine blk_put (cs := #[.int .i64 t105, .int .i64 t106, .int .i64 0, .int .i64 0]) ?_ 2 _ (by first | rfl | (subst_vars; rfl)); refine pkB ?_; refine blk_put (cs := #[.int .i64 t105, .int .i64 0, .int .i64 0, .int .i64 0]) ?_ 1 _ (by first | rfl | (subst_vars; rfl)); refine pkB ?_; refine blk_put (cs := #[.int .i64 0, .int .i64 0, .int .i64 0, .int .i64 0]) ?_ 0 _ (by first | rfl | (subst_vars; rfl)); refine pkB ?_; exact BK109.out) hb); have n2_ := bst HB hb; have n3_ := Aside0.mk (hbox); have n4_ := bsz HB hg; have n5_ := bsz HB hg; have n6_ := Aside0.mk ((by rw [hg]; exact Nat.ne_of_lt (blk_lt (g := gb104) (o := .cells #[.int .i64 a0_0, .int .i64 a0_1, .int .i64 a0_2, .int .i64 a0_3, .int .i64 a0_4] 23 (0, 0)) (by refine pkB ?_; refine blk_far ?_ NB104_109.out _; refine pkB ?_; refine blk_far ?_ NB104_109.out _; refine pkB ?_; refine blk_far ?_ NB104_109.out _; refine pkB ?_; refine blk_far ?_ NB104_109.out _; refine pkB ?_; exact BK104.out)) : gb104 ≠ gb110)); have n7_ := Aside0.mk ((by rw [hg]; exact Nat.ne_of_gt (blk_lt (g := gb104) (o := .cells #[.int .i64 a0_0, .int .i64 a0_1, .int .i64 a0_2, .int .i64 a0_3, .int .i64 a0_4] 23 (0, 0)) (by refine pkB ?_; refine blk_far ?_ NB104_109.out _; refine pkB ?_; refine blk_far ?_ NB104_109.out _; refine pkB ?_; refine blk_far ?_ NB104_109.out _; refine pkB ?_; refine blk_far ?_ NB104_109.out _; refine pkB ?_; exact BK104.out)) : gb110 ≠ gb104)); have n8_ := Aside0.mk ((by rw [hg]; exact Nat.ne_of_lt (blk_lt (g := gb109) (o := .cells #[.int .i64 t105, .int .i64 t106, .int .i64 t107, .int .i64 t108] 51 (0, 0)) (by refine pkB ?_; refine blk_put (cs := #[.int .i64 t105, .int .i64 t106, .int .i64 t107, .int .i64 0]) ?_ 3 _ (by first | rfl | (subst_vars; rfl)); refine pkB ?_; refine blk_put (cs := #[.int .i64 t105, .int .i64 t106, .int .i64 0, .int .i64 0]) ?_ 2 _ (by first | rfl | (subst_vars; rfl)); refine pkB ?_; refine blk_put (cs := #[.int .i64 t105, .int .i64 0, .int .i64 0, .int .i64 0]) ?_ 1 _ (by first | rfl | (subst_vars; rfl)); refine pkB ?_; refine blk_put (cs := #[.int .i64 0, .int .i64 0, .int .i64 0, .int .i64 0]) ?_ 0 _ (by first | rfl | (subst_vars; rfl)); refine pkB ?_; exact BK109.out)) : gb109 ≠ gb110)); have n9_ := Aside0.mk ((by rw [hg]; exact Nat.ne_of_gt (blk_lt (g := gb109) (o := .cells #[.int .i64 t105, .int .i64 t106, .int .i64 t107, .int .i64 t108] 51 (0, 0)) (by refine pkB ?_; refine blk_put (cs := #[.int .i64 t105, .int .i64 t106, .int .i64 t107, .int .i64 0]) ?_ 3 _ (by first | rfl | (subst_vars; rfl)); refine pkB ?_; refine blk_put (cs := #[.int .i64 t105, .int .i64 t106, .int .i64 0, .int .i64 0]) ?_ 2 _ (by first | rfl | (subst_vars; rfl)); refine pkB ?_; refine blk_put (cs := #[.int .i64 t105, .int .i64 0, .int .i64 0, .int .i64 0]) ?_ 1 _ (by first | rfl | (subst_vars; rfl)); refine pkB ?_; refine blk_put (cs := #[.int .i64 0, .int .i64 0, .int .i64 0, .int .i64 0]) ?_ 0 _ (by first | rfl | (subst_vars; rfl)); refine pkB ?_; exact BK109.out)) : gb110 ≠ gb109)); clear BK104; clear BK109; clear HB; have BK104 := n0_; have BK109 := n1_; have HB := n2_; have BK110 := n3_; have GW110 := n4_; have GE110 := n5_; have NB104_110 := n6_; have NB110_104 := n7_; have NB109_110 := n8_; have NB110_109 := n9_; clear n0_ n1_ n2_ n3_ n4_ n5_ n6_ n7_ n8_ n9_; clear hb hbox hg; have hnb57 := NB110_104.out; have hnc57 := NB104_110.out; have hnb58 := NB110_109.out; have hnc58 := NB109_110.out; have hcz59_0 := hcz BK110 0; have hcz59_1 := hcz BK110 1; have hfz59_0 := blk_frozen BK110.out 0; have hfz59_1 := blk_frozen BK110.out 1; have hcz60_0 := hcz BK109 0; have hcz60_1 := hcz BK109 1; have hcz60_2 := hcz BK109 2; have hcz60_3 := hcz BK109 3; have hfz60_0 := blk_frozen BK109.out 0; have hfz60_1 := blk_frozen BK109.out 1; have hfz60_2 := blk_frozen BK109.out 2; have hfz60_3 := blk_frozen BK109.out 3) | (go_at_call 30; (with_reducible refine (linear_Fit_1.calls t105 t106 true _ A33.out).mono ?_); rintro e w61 ⟨rfl, hb⟩; have n0_ := Aside0.mk (blk_below (g := gb104) (o := .cells #[.int .i64 a0_0, .int .i64 a0_1, .int .i64 a0_2, .int .i64 a0_3, .int .i64 a0_4] 23 (0, 0)) (by refine pkB ?_; refine blk_far ?_ NB104_110.out _; refine pkB ?_; refine blk_far ?_ NB104_110.out _; refine pkB ?_; exact BK104.out) hb); have n1_ := Aside0.mk (blk_below (g := gb109) (o := .cells #[.int .i64 t105, .int .i64 t106, .int .i64 t107, .int .i64 t108] 51 (0, 0)) (by refine pkB ?_; refine blk_far ?_ NB109_110.out _; refine pkB ?_; refine blk_far ?_ NB109_110.out _; refine pkB ?_; exact BK109.out) hb); have n2_ := Aside0.mk (blk_below (g := gb110) (o := .cells #[.int .i64 0, .int .i64 0] 50 (0, 0)) (by refine pkB ?_; refine blk_put (cs := #[.int .i64 0, .int .i64 0]) ?_ 1 _ (by first | rfl | (subst_vars; rfl)); refine pkB ?_; refine blk_put (cs := #[.int .i64 0, .int .i64 0]) ?_ 0 _ (by first | rfl | (subst_vars; rfl)); refine pkB ?_; exact BK110.out) hb); have n3_ := bst HB hb; clear BK104; clear BK109; clear BK110; clear HB; have BK104 := n0_; have BK109 := n1_; have BK110 := n2_; have HB := n3_; clear n0_ n1_ n2_ n3_; (try clear hb); (try clear hb2); (try clear hk); (try clear hi); have hcz62_0 := hcz BK109 0; have hcz62_1 := hcz BK109 1; have hcz62_2 := hcz BK109 2; have hcz62_3 := hcz BK109 3; have hfz62_0 := blk_frozen BK109.out 0; have hfz62_1 := blk_frozen BK109.out 1; have hfz62_2 := blk_frozen BK109.out 2; have hfz62_3 := blk_frozen BK109.out 3) | (go_at_call 30; (with_reducible refine (linear_Fit_1.calls t107 t108 false _ A35.out).mono ?_); rintro e w63 ⟨rfl, hb⟩; have n0_ := bst HB hb; replace BK104 := bbw BK104 hb; replace BK109 := bbw BK109 hb; replace BK110 := bbw BK110 hb; clear HB; have HB := n0_; clear n0_; (try clear hb); (try clear hb2); (try clear hk); (try clear hi)))
         go_ret
         exact ⟨by first | rfl | (simp [errW_none, errW_some] <;> rfl) | (simp [*, errW_none, errW_some] <;> rfl) | kernel_rfl, by repeat (first | (with_reducible first | exact HB.out | apply below_alloc | apply pw_below_drewN | apply below_drew1 | refine below_set ?_ GE104.out | refine below_set ?_ GE109.out | refine below_set ?_ GE110.out) | exact HB.out)⟩
       ·
        replace c34 := Bool.eq_false_iff.mpr c34
        subst c34
        have H1 : (some false) = some r := by rw [if_neg (show ¬ (false = true) by decide)] at H; exact H
        clear H
        have H := H1
        clear H1
        obtain rfl := Option.some.inj H
        have hcz64_0 := hcz BK104 0
        have hcz64_1 := hcz BK104 1
        have hcz64_2 := hcz BK104 2
        have hcz64_3 := hcz BK104 3
        have hcz64_4 := hcz BK104 4
        have hfz64_0 := blk_frozen BK104.out 0
        have hfz64_1 := blk_frozen BK104.out 1
        have hfz64_2 := blk_frozen BK104.out 2
        have hfz64_3 := blk_frozen BK104.out 3
        have hfz64_4 := blk_frozen BK104.out 4
        go_wp2_with (first | ((with_reducible refine gate_callee (f := 25) rfl ?_); refine goesL_ (some 15) rfl rfl Try.func25 (by kernel_rfl) rfl #[.agg #[.int .i64 a0_0, .int .i64 a0_1, .int .i64 a0_2, .int .i64 a0_3, .int .i64 a0_4]] rfl (by (try simp only [List.map_toArray, List.map_cons, List.map_nil]); first | done | rfl | (simp only [List.length_drop, List.length_take]; rfl)) ?_; (with_reducible refine (linear_parts.calls a0_0 a0_1 a0_2 a0_3 a0_4 t105 t106 t107 t108 _ A8.out).mono ?_); rintro e w65 ⟨rfl, hb⟩; refine ⟨_, rfl, ?_⟩; have n0_ := bst HB hb; replace BK104 := bbw BK104 hb; clear HB; have HB := n0_; clear n0_; (try clear hb); (try clear hb2); (try clear hk); (try clear hi)) | ((with_reducible refine gate_dst (N := 3) rfl ?_); refine box_event ?hg (N := 3) ?hd (cs := #[.int .i64 0, .int .i64 0, .int .i64 0, .int .i64 0]) (t := 51) ?hr ?_; (case hd => rfl); (case hg => rfl); (case hr => first | (go_simp; done) | (go_simp; rfl)); intro gb109 hg w66 hbox hb; have n0_ := bst HB hb; have n1_ := Aside0.mk (hbox); have n2_ := bsz HB hg; have n3_ := bsz HB hg; have n4_ := bn1 BK104 hg; have n5_ := bn2 BK104 hg; replace BK104 := bbw BK104 hb; clear HB; have HB := n0_; have BK109 := n1_; have GW109 := n2_; have GE109 := n3_; have NB104_109 := n4_; have NB109_104 := n5_; clear n0_ n1_ n2_ n3_ n4_ n5_; clear hb hbox hg; have hnb67 := NB109_104.out; have hnc67 := NB104_109.out; have hcz68_0 := hcz BK109 0; have hcz68_1 := hcz BK109 1; have hcz68_2 := hcz BK109 2; have hcz68_3 := hcz BK109 3; have hfz68_0 := blk_frozen BK109.out 0; have hfz68_1 := blk_frozen BK109.out 1; have hfz68_2 := blk_frozen BK109.out 2; have hfz68_3 := blk_frozen BK109.out 3) | ((with_reducible refine gate_dst (N := 5) rfl ?_); refine box_event ?hg (N := 5) ?hd (cs := #[.int .i64 0, .int .i64 0]) (t := 50) ?hr ?_; (case hd => rfl); (case hg => rfl); (case hr => first | (go_simp; done) | (go_simp; rfl)); intro gb110 hg w69 hbox hb; have n0_ := Aside0.mk (blk_below (g := gb104) (o := .cells #[.int .i64 a0_0, .int .i64 a0_1, .int .i64 a0_2, .int .i64 a0_3, .int .i64 a0_4] 23 (0, 0)) (by refine pkB ?_; refine blk_far ?_ NB104_109.out _; refine pkB ?_; refine blk_far ?_ NB104_109.out _; refine pkB ?_; refine blk_far ?_ NB104_109.out _; refine pkB ?_; refine blk_far ?_ NB104_109.out _; refine pkB ?_; exact BK104.out) hb); have n1_ := Aside0.mk (blk_below (g := gb109) (o := .cells #[.int .i64 t105, .int .i64 t106, .int .i64 t107, .int .i64 t108] 51 (0, 0)) (by refine pkB ?_; refine blk_put (cs := #[.int .i64 t105, .int .i64 t106, .int .i64 t107, .int .i64 0]) ?_ 3 _ (by first | rfl | (subst_vars; rfl)); refine pkB ?_; refine blk_put (cs := #[.int .i64 t105, .int .i64 t106, .int .i64 0, .int .i64 0]) ?_ 2 _ (by first | rfl | (subst_vars; rfl)); refine pkB ?_; refine blk_put (cs := #[.int .i64 t105, .int .i64 0, .int .i64 0, .int .i64 0]) ?_ 1 _ (by first | rfl | (subst_vars; rfl)); refine pkB ?_; refine blk_put (cs := #[.int .i64 0, .int .i64 0, .int .i64 0, .int .i64 0]) ?_ 0 _ (by first | rfl | (subst_vars; rfl)); refine pkB ?_; exact BK109.out) hb); have n2_ := bst HB hb; have n3_ := Aside0.mk (hbox); have n4_ := bsz HB hg; have n5_ := bsz HB hg; have n6_ := Aside0.mk ((by rw [hg]; exact Nat.ne_of_lt (blk_lt (g := gb104) (o := .cells #[.int .i64 a0_0, .int .i64 a0_1, .int .i64 a0_2, .int .i64 a0_3, .int .i64 a0_4] 23 (0, 0)) (by refine pkB ?_; refine blk_far ?_ NB104_109.out _; refine pkB ?_; refine blk_far ?_ NB104_109.out _; refine pkB ?_; refine blk_far ?_ NB104_109.out _; refine pkB ?_; refine blk_far ?_ NB104_109.out _; refine pkB ?_; exact BK104.out)) : gb104 ≠ gb110)); have n7_ := Aside0.mk ((by rw [hg]; exact Nat.ne_of_gt (blk_lt (g := gb104) (o := .cells #[.int .i64 a0_0, .int .i64 a0_1, .int .i64 a0_2, .int .i64 a0_3, .int .i64 a0_4] 23 (0, 0)) (by refine pkB ?_; refine blk_far ?_ NB104_109.out _; refine pkB ?_; refine blk_far ?_ NB104_109.out _; refine pkB ?_; refine blk_far ?_ NB104_109.out _; refine pkB ?_; refine blk_far ?_ NB104_109.out _; refine pkB ?_; exact BK104.out)) : gb110 ≠ gb104)); have n8_ := Aside0.mk ((by rw [hg]; exact Nat.ne_of_lt (blk_lt (g := gb109) (o := .cells #[.int .i64 t105, .int .i64 t106, .int .i64 t107, .int .i64 t108] 51 (0, 0)) (by refine pkB ?_; refine blk_put (cs := #[.int .i64 t105, .int .i64 t106, .int .i64 t107, .int .i64 0]) ?_ 3 _ (by first | rfl | (subst_vars; rfl)); refine pkB ?_; refine blk_put (cs := #[.int .i64 t105, .int .i64 t106, .int .i64 0, .int .i64 0]) ?_ 2 _ (by first | rfl | (subst_vars; rfl)); refine pkB ?_; refine blk_put (cs := #[.int .i64 t105, .int .i64 0, .int .i64 0, .int .i64 0]) ?_ 1 _ (by first | rfl | (subst_vars; rfl)); refine pkB ?_; refine blk_put (cs := #[.int .i64 0, .int .i64 0, .int .i64 0, .int .i64 0]) ?_ 0 _ (by first | rfl | (subst_vars; rfl)); refine pkB ?_; exact BK109.out)) : gb109 ≠ gb110)); have n9_ := Aside0.mk ((by rw [hg]; exact Nat.ne_of_gt (blk_lt (g := gb109) (o := .cells #[.int .i64 t105, .int .i64 t106, .int .i64 t107, .int .i64 t108] 51 (0, 0)) (by refine pkB ?_; refine blk_put (cs := #[.int .i64 t105, .int .i64 t106, .int .i64 t107, .int .i64 0]) ?_ 3 _ (by first | rfl | (subst_vars; rfl)); refine pkB ?_; refine blk_put (cs := #[.int .i64 t105, .int .i64 t106, .int .i64 0, .int .i64 0]) ?_ 2 _ (by first | rfl | (subst_vars; rfl)); refine pkB ?_; refine blk_put (cs := #[.int .i64 t105, .int .i64 0, .int .i64 0, .int .i64 0]) ?_ 1 _ (by first | rfl | (subst_vars; rfl)); refine pkB ?_; refine blk_put (cs := #[.int .i64 0, .int .i64 0, .int .i64 0, .int .i64 0]) ?_ 0 _ (by first | rfl | (subst_vars; rfl)); refine pkB ?_; exact BK109.out)) : gb110 ≠ gb109)); clear BK104; clear BK109; clear HB; have BK104 := n0_; have BK109 := n1_; have HB := n2_; have BK110 := n3_; have GW110 := n4_; have GE110 := n5_; have NB104_110 := n6_; have NB110_104 := n7_; have NB109_110 := n8_; have NB110_109 := n9_; clear n0_ n1_ n2_ n3_ n4_ n5_ n6_ n7_ n8_ n9_; clear hb hbox hg; have hnb70 := NB110_104.out; have hnc70 := NB104_110.out; have hnb71 := NB110_109.out; have hnc71 := NB109_110.out; have hcz72_0 := hcz BK110 0; have hcz72_1 := hcz BK110 1; have hfz72_0 := blk_frozen BK110.out 0; have hfz72_1 := blk_frozen BK110.out 1; have hcz73_0 := hcz BK109 0; have hcz73_1 := hcz BK109 1; have hcz73_2 := hcz BK109 2; have hcz73_3 := hcz BK109 3; have hfz73_0 := blk_frozen BK109.out 0; have hfz73_1 := blk_frozen BK109.out 1; have hfz73_2 := blk_frozen BK109.out 2; have hfz73_3 := blk_frozen BK109.out 3) | (go_at_call 30; (with_reducible refine (linear_Fit_1.calls t105 t106 false _ A33.out).mono ?_); rintro e w74 ⟨rfl, hb⟩; have n0_ := Aside0.mk (blk_below (g := gb104) (o := .cells #[.int .i64 a0_0, .int .i64 a0_1, .int .i64 a0_2, .int .i64 a0_3, .int .i64 a0_4] 23 (0, 0)) (by refine pkB ?_; refine blk_far ?_ NB104_110.out _; refine pkB ?_; refine blk_far ?_ NB104_110.out _; refine pkB ?_; exact BK104.out) hb); have n1_ := Aside0.mk (blk_below (g := gb109) (o := .cells #[.int .i64 t105, .int .i64 t106, .int .i64 t107, .int .i64 t108] 51 (0, 0)) (by refine pkB ?_; refine blk_far ?_ NB109_110.out _; refine pkB ?_; refine blk_far ?_ NB109_110.out _; refine pkB ?_; exact BK109.out) hb); have n2_ := Aside0.mk (blk_below (g := gb110) (o := .cells #[.int .i64 0, .int .i64 0] 50 (0, 0)) (by refine pkB ?_; refine blk_put (cs := #[.int .i64 0, .int .i64 0]) ?_ 1 _ (by first | rfl | (subst_vars; rfl)); refine pkB ?_; refine blk_put (cs := #[.int .i64 0, .int .i64 0]) ?_ 0 _ (by first | rfl | (subst_vars; rfl)); refine pkB ?_; exact BK110.out) hb); have n3_ := bst HB hb; clear BK104; clear BK109; clear BK110; clear HB; have BK104 := n0_; have BK109 := n1_; have BK110 := n2_; have HB := n3_; clear n0_ n1_ n2_ n3_; (try clear hb); (try clear hb2); (try clear hk); (try clear hi)))
        go_ret
        exact ⟨by first | rfl | (simp [errW_none, errW_some] <;> rfl) | (simp [*, errW_none, errW_some] <;> rfl) | kernel_rfl, by repeat (first | (with_reducible first | exact HB.out | apply below_alloc | apply pw_below_drewN | apply below_drew1 | refine below_set ?_ GE104.out | refine below_set ?_ GE109.out | refine below_set ?_ GE110.out) | exact HB.out)⟩
end Go.Proofs.Ytllfopbchdahoaa.P
