/- What the law's proof needs of Px53. -/
import Derived.Test.YtbbnpipmjadpoaaTrKU2
import Derived.Test.YtbbnpipmjadpoaaTrKU
import Derived.Test.YtbbnpipmjadpoaaTrKPx0
import Derived.Test.YtbbnpipmjadpoaaTrKPx2
import Derived.Test.YtbbnpipmjadpoaaTrKPx3
-- PRINTED by print.py (a twelfth state) out of the translation. Not trusted: Lean checks it.
namespace Go.Proofs.Ytbbnpipmjadpoaa.P
open Go.RowKit Go.Proofs.YtbbnpipmjadpoaaW.PrintWords Go.Proofs.YtbbnpipmjadpoaaW.PrintLast Go.Proofs.YtbbnpipmjadpoaaW.PrintMore Go.Proofs.YtbbnpipmjadpoaaO
attribute [local go_sem] max2_int min2_int max_two min_two max_three min_three max_four min_four   -- for this text's walks alone
set_option linter.unusedVariables false
set_option linter.unusedSimpArgs false
mutual
def gimballaw02_near.j0 : Nat → Int → Int → Int → Int → Int → Option (Int × Bool)
  | 0, _, _, _, _, _ => none
  | k + 1, x1, x6, x7, x1162000, x1162001 => if x7 = 4611686018427387904 then (gimballaw02_near.j1 k x1 x6 2147483647 x1162000 x1162001) else (gimballaw02_near.j1 k x1 x6 x7 x1162000 x1162001)
def gimballaw02_near.j1 : Nat → Int → Int → Int → Int → Int → Option (Int × Bool)
  | 0, _, _, _, _, _ => none
  | k + 1, x1, x6, x7, x1162000, x1162001 => if x6 > x7 then (if x1162000 = (-4611686018427387904) then (some (x1162001, true)) else (some (x1162000, true))) else (if (IntKind.u64.wrap (wrap64 ((wrap64 (x7 - x6)) + 1))) = 0 then (none) else (some (wrap64 (x6 + (wrap64 (Int.tmod (IntKind.u64.wrap (x1)) (IntKind.u64.wrap (wrap64 ((wrap64 (x7 - x6)) + 1)))))), true)))
end
def gimballaw02_near.f (k : Nat) (a0_0 : Int) (a0_1 : Int) (a1 : Int) : Option (Int × Bool) := (itv_Of.f a0_0 a0_1).bind fun bt1162 => ((itv_None.f bt1162.1 bt1162.2).bind fun t1164 => (if t1164 = true then (some (0, false)) else (if bt1162.1 = (-4611686018427387904) then (gimballaw02_near.j0 k a1 (-2147483648) bt1162.2 bt1162.1 bt1162.2) else (gimballaw02_near.j0 k a1 bt1162.1 bt1162.2 bt1162.1 bt1162.2))))
set_option maxHeartbeats 8000000 in
set_option maxRecDepth 100000 in
theorem gimballaw02_near.calls (k : Nat) (a0_0 : Int) (a0_1 : Int) (a1 : Int) (r1 : Int) (r2 : Bool) (w : World) (h : gimballaw02_near.f k a0_0 a0_1 a1 = some (r1, r2)) :
    Calls Try.prog 58 #[.agg #[.int .i64 a0_0, .int .i64 a0_1], .int .i64 a1] w fun e w' => e = .returned (.tuple #[.int .i64 r1, .bool r2]) ∧ Below w.heap.size w w' := by
  have hu23 := Try.underlying23
  have HB := Aside0.mk (Below.refl w.heap.size w)
  have H : ((itv_Of.f a0_0 a0_1).bind fun bt1162 => ((itv_None.f bt1162.1 bt1162.2).bind fun t1164 => (if t1164 = true then (some (0, false)) else (if bt1162.1 = (-4611686018427387904) then (gimballaw02_near.j0 k a1 (-2147483648) bt1162.2 bt1162.1 bt1162.2) else (gimballaw02_near.j0 k a1 bt1162.1 bt1162.2 bt1162.1 bt1162.2))))) = some (r1, r2) := h
  clear h
  replace H := Option.bind_eq_some_iff.mp H
  obtain ⟨⟨t1162, t1163⟩, A30, H⟩ := H
  replace H : ((itv_None.f t1162 t1163).bind fun t1164 => (if t1164 = true then (some (0, false)) else (if t1162 = (-4611686018427387904) then (gimballaw02_near.j0 k a1 (-2147483648) t1163 t1162 t1163) else (gimballaw02_near.j0 k a1 t1162 t1163 t1162 t1163)))) = some (r1, r2) := H
  have A3 := Aside0.mk A30
  clear A30
  replace H := Option.bind_eq_some_iff.mp H
  obtain ⟨t1164, A40, H⟩ := H
  replace H : (if t1164 = true then (some (0, false)) else (if t1162 = (-4611686018427387904) then (gimballaw02_near.j0 k a1 (-2147483648) t1163 t1162 t1163) else (gimballaw02_near.j0 k a1 t1162 t1163 t1162 t1163))) = some (r1, r2) := H
  have A4 := Aside0.mk A40
  clear A40
  by_cases c5 : t1164 = true
  ·
   subst c5
   have H1 : (some (0, false)) = some (r1, r2) := by rw [if_pos rfl] at H; exact H
   clear H
   have H := H1
   clear H1
   simp only [Option.some.injEq, Prod.mk.injEq] at H
   obtain ⟨rfl, rfl⟩ := H
   go_enter Try.func58, Try.ntmps58
   go_wp2_with (first | ((with_reducible refine gate_dst (N := 2) rfl ?_); refine box_event ?hg (N := 2) ?hd (cs := #[.int .i64 a0_0, .int .i64 a0_1]) (t := 23) ?hr ?_; (case hd => rfl); (case hg => rfl); (case hr => first | (go_simp; done) | (go_simp; rfl)); intro gb1161 hg w6 hbox hb; have n0_ := bst HB hb; have n1_ := Aside0.mk (hbox); have n2_ := bsz HB hg; have n3_ := bsz HB hg; clear HB; have HB := n0_; have BK1161 := n1_; have GW1161 := n2_; have GE1161 := n3_; clear n0_ n1_ n2_ n3_; clear hb hbox hg; have hcz7_0 := hcz BK1161 0; have hcz7_1 := hcz BK1161 1; have hfz7_0 := blk_frozen BK1161.out 0; have hfz7_1 := blk_frozen BK1161.out 1) | ((with_reducible refine gate_callee (f := 13) rfl ?_); refine goesL_ (some 12) rfl rfl Try.func13 (by kernel_rfl) rfl #[.int .i64 a0_0, .int .i64 a0_1] rfl (by (try simp only [List.map_toArray, List.map_cons, List.map_nil]); first | done | rfl | (simp only [List.length_drop, List.length_take]; rfl)) ?_; (with_reducible refine (itv_Of.calls a0_0 a0_1 t1162 t1163 _ A3.out).mono ?_); rintro e w8 ⟨rfl, hb⟩; refine ⟨_, rfl, ?_⟩; have n0_ := bst HB hb; replace BK1161 := bbw BK1161 hb; clear HB; have HB := n0_; clear n0_; (try clear hb); (try clear hb2); (try clear hk); (try clear hi); have hcz9_0 := hcz BK1161 0; have hcz9_1 := hcz BK1161 1; have hfz9_0 := blk_frozen BK1161.out 0; have hfz9_1 := blk_frozen BK1161.out 1) | ((with_reducible refine gate_callee (f := 21) rfl ?_); refine goesL_ (some 14) rfl rfl Try.func21 (by kernel_rfl) rfl #[.agg #[.int .i64 t1162, .int .i64 t1163]] rfl (by (try simp only [List.map_toArray, List.map_cons, List.map_nil]); first | done | rfl | (simp only [List.length_drop, List.length_take]; rfl)) ?_; (with_reducible refine (itv_None.calls t1162 t1163 true _ A4.out).mono ?_); rintro e w10 ⟨rfl, hb⟩; refine ⟨_, rfl, ?_⟩; have n0_ := Aside0.mk (blk_below (g := gb1161) (o := .cells #[.int .i64 t1162, .int .i64 t1163] 23 (0, 0)) (by refine pkB ?_; refine blk_put (cs := #[.int .i64 t1162, .int .i64 a0_1]) ?_ 1 _ (by first | rfl | (subst_vars; rfl)); refine pkB ?_; refine blk_put (cs := #[.int .i64 a0_0, .int .i64 a0_1]) ?_ 0 _ (by first | rfl | (subst_vars; rfl)); refine pkB ?_; exact BK1161.out) hb); have n1_ := bst HB hb; clear BK1161; clear HB; have BK1161 := n0_; have HB := n1_; clear n0_ n1_; (try clear hb); (try clear hb2); (try clear hk); (try clear hi)))
   go_ret2
   exact ⟨by first | rfl | (simp [errW_none, errW_some] <;> rfl) | (simp [*, errW_none, errW_some] <;> rfl) | kernel_rfl, by repeat (first | (with_reducible first | exact HB.out | apply below_alloc | apply pw_below_drewN | apply below_drew1 | refine below_set ?_ GE1161.out) | exact HB.out)⟩
  ·
   replace c5 := Bool.eq_false_iff.mpr c5
   subst c5
   have H1 : (if t1162 = (-4611686018427387904) then (gimballaw02_near.j0 k a1 (-2147483648) t1163 t1162 t1163) else (gimballaw02_near.j0 k a1 t1162 t1163 t1162 t1163)) = some (r1, r2) := by rw [if_neg (show ¬ (false = true) by decide)] at H; exact H
   clear H
   have H := H1
   clear H1
   have HC11 := Aside0.mk H
   clear H
   go_enter Try.func58, Try.ntmps58
   go_upto_if 20 with (first | ((with_reducible refine gate_dst (N := 2) rfl ?_); refine box_event ?hg (N := 2) ?hd (cs := #[.int .i64 a0_0, .int .i64 a0_1]) (t := 23) ?hr ?_; (case hd => rfl); (case hg => rfl); (case hr => first | (go_simp; done) | (go_simp; rfl)); intro gb1161 hg w12 hbox hb; have n0_ := bst HB hb; have n1_ := Aside0.mk (hbox); have n2_ := bsz HB hg; have n3_ := bsz HB hg; clear HB; have HB := n0_; have BK1161 := n1_; have GW1161 := n2_; have GE1161 := n3_; clear n0_ n1_ n2_ n3_; clear hb hbox hg; have hcz13_0 := hcz BK1161 0; have hcz13_1 := hcz BK1161 1; have hfz13_0 := blk_frozen BK1161.out 0; have hfz13_1 := blk_frozen BK1161.out 1) | ((with_reducible refine gate_callee (f := 13) rfl ?_); refine goesL_ (some 12) rfl rfl Try.func13 (by kernel_rfl) rfl #[.int .i64 a0_0, .int .i64 a0_1] rfl (by (try simp only [List.map_toArray, List.map_cons, List.map_nil]); first | done | rfl | (simp only [List.length_drop, List.length_take]; rfl)) ?_; (with_reducible refine (itv_Of.calls a0_0 a0_1 t1162 t1163 _ A3.out).mono ?_); rintro e w14 ⟨rfl, hb⟩; refine ⟨_, rfl, ?_⟩; have n0_ := bst HB hb; replace BK1161 := bbw BK1161 hb; clear HB; have HB := n0_; clear n0_; (try clear hb); (try clear hb2); (try clear hk); (try clear hi); have hcz15_0 := hcz BK1161 0; have hcz15_1 := hcz BK1161 1; have hfz15_0 := blk_frozen BK1161.out 0; have hfz15_1 := blk_frozen BK1161.out 1) | ((with_reducible refine gate_callee (f := 21) rfl ?_); refine goesL_ (some 14) rfl rfl Try.func21 (by kernel_rfl) rfl #[.agg #[.int .i64 t1162, .int .i64 t1163]] rfl (by (try simp only [List.map_toArray, List.map_cons, List.map_nil]); first | done | rfl | (simp only [List.length_drop, List.length_take]; rfl)) ?_; (with_reducible refine (itv_None.calls t1162 t1163 false _ A4.out).mono ?_); rintro e w16 ⟨rfl, hb⟩; refine ⟨_, rfl, ?_⟩; have n0_ := Aside0.mk (blk_below (g := gb1161) (o := .cells #[.int .i64 t1162, .int .i64 t1163] 23 (0, 0)) (by refine pkB ?_; refine blk_put (cs := #[.int .i64 t1162, .int .i64 a0_1]) ?_ 1 _ (by first | rfl | (subst_vars; rfl)); refine pkB ?_; refine blk_put (cs := #[.int .i64 a0_0, .int .i64 a0_1]) ?_ 0 _ (by first | rfl | (subst_vars; rfl)); refine pkB ?_; exact BK1161.out) hb); have n1_ := bst HB hb; clear BK1161; clear HB; have BK1161 := n0_; have HB := n1_; clear n0_ n1_; (try clear hb); (try clear hb2); (try clear hk); (try clear hi); have hcz17_0 := hcz BK1161 0; have hcz17_1 := hcz BK1161 1; have hfz17_0 := blk_frozen BK1161.out 0; have hfz17_1 := blk_frozen BK1161.out 1))
   (try simp only [Act.put, List.setIfInBounds_toArray, List.set_cons_zero, List.set_cons_succ])
   go_cut [6] (fun v6 wc => ∃ (kq : Nat) (x6_10 : Int), v6 = .int .i64 x6_10 ∧ Aside0 (gimballaw02_near.j0 kq a1 x6_10 t1163 t1162 t1163 = some (r1, r2)) ∧ Aside0 (kq ≤ k) ∧ Aside0 (wc.heap[gb1161]? = some (.cells #[.int .i64 t1162, .int .i64 t1163] 23 (0, 0))) ∧ Aside0 (Below w.heap.size w wc))
   case first =>
    have H := HC11.out
    clear HC11
    by_cases c18 : t1162 = (-4611686018427387904)
    ·
     rw [if_pos c18] at H
     have c18b0 : (t1162 == (-4611686018427387904)) = true := beq_iff_eq.mpr c18
     have c18b1 : (t1162 != (-4611686018427387904)) = false := bne_eq_false_iff_eq.mpr c18
     clear c18
     (first | rw [c18b0] | (simp only [i64_w, i32_w]; rw [c18b0]) | skip)
     have H' := Aside0.mk H
     clear H
     go_wp2
     go_meet
     case rel => exact ⟨_, ((-2147483648)), (by first | rfl | (simp; done) | (simp [*]; done)), H', ⟨by first | omega | exact Nat.le_refl _⟩, pkA BK1161, bpk HB⟩
    ·
     rw [if_neg c18] at H
     have c18b0 : (t1162 == (-4611686018427387904)) = false := beq_eq_false_iff_ne.mpr c18
     have c18b1 : (t1162 != (-4611686018427387904)) = true := bne_iff_ne.mpr c18
     (first | rw [c18b0] | (simp only [i64_w, i32_w]; rw [c18b0]) | skip)
     have H' := Aside0.mk H
     clear H
     go_wp2
     go_meet
     case rel => exact ⟨_, (t1162), (by first | rfl | (simp; done) | (simp [*]; done)), H', ⟨by first | omega | exact Nat.le_refl _⟩, pkA BK1161, bpk HB⟩
   case rest =>
    clear HC11
    try clear c1
    try clear c2
    try clear p2
    try clear c5
    try clear c13
    try clear c18
    try clear c18b0
    try clear c18b1
    try clear hcz13_0
    try clear hcz13_1
    try clear hcz15_0
    try clear hcz15_1
    try clear hcz17_0
    try clear hcz17_1
    try clear hcz7_0
    try clear hcz7_1
    try clear hcz9_0
    try clear hcz9_1
    try clear hfz13_0
    try clear hfz13_1
    try clear hfz15_0
    try clear hfz15_1
    try clear hfz17_0
    try clear hfz17_1
    try clear hfz7_0
    try clear hfz7_1
    try clear hfz9_0
    try clear hfz9_1
    obtain ⟨kq, x6_10, rfl, HA, HJ10, BK1161, HB⟩ := hcut
    cases kq with
    | zero => exact absurd HA.out (by simp [gimballaw02_near.j0])
    | succ kj10 =>
     have H := HA.out
     clear HA
     simp only [gimballaw02_near.j0] at H
     have HC19 := Aside0.mk H
     clear H
     go_upto_if 22 with (fail)
     go_cut [7] (fun v7 wc => ∃ (kq : Nat) (x7_18 : Int), v7 = .int .i64 x7_18 ∧ Aside0 (gimballaw02_near.j1 kq a1 x6_10 x7_18 t1162 t1163 = some (r1, r2)) ∧ Aside0 (kq ≤ kj10) ∧ Aside0 (wc.heap[gb1161]? = some (.cells #[.int .i64 t1162, .int .i64 t1163] 23 (0, 0))) ∧ Aside0 (Below w.heap.size w wc))
     case first =>
      have H := HC19.out
      clear HC19
      by_cases c20 : t1163 = 4611686018427387904
      ·
       rw [if_pos c20] at H
       have c20b0 : (t1163 == 4611686018427387904) = true := beq_iff_eq.mpr c20
       have c20b1 : (t1163 != 4611686018427387904) = false := bne_eq_false_iff_eq.mpr c20
       clear c20
       (first | rw [c20b0] | (simp only [i64_w, i32_w]; rw [c20b0]) | skip)
       have H' := Aside0.mk H
       clear H
       go_wp2
       go_meet
       case rel => exact ⟨_, (2147483647), (by first | rfl | (simp; done) | (simp [*]; done)), H', ⟨by have := HJ10.out; first | omega | exact Nat.le_refl _⟩, pkA BK1161, bpk HB⟩
      ·
       rw [if_neg c20] at H
       have c20b0 : (t1163 == 4611686018427387904) = false := beq_eq_false_iff_ne.mpr c20
       have c20b1 : (t1163 != 4611686018427387904) = true := bne_iff_ne.mpr c20
       (first | rw [c20b0] | (simp only [i64_w, i32_w]; rw [c20b0]) | skip)
       have H' := Aside0.mk H
       clear H
       go_wp2
       go_meet
       case rel => exact ⟨_, (t1163), (by first | rfl | (simp; done) | (simp [*]; done)), H', ⟨by have := HJ10.out; first | omega | exact Nat.le_refl _⟩, pkA BK1161, bpk HB⟩
     case rest =>
      clear HC19
      try clear c1
      try clear c2
      try clear p2
      try clear c5
      try clear c13
      try clear c18
      try clear c18b0
      try clear c18b1
      try clear c20
      try clear c20b0
      try clear c20b1
      try clear hcz13_0
      try clear hcz13_1
      try clear hcz15_0
      try clear hcz15_1
      try clear hcz17_0
      try clear hcz17_1
      try clear hcz7_0
      try clear hcz7_1
      try clear hcz9_0
      try clear hcz9_1
      try clear hfz13_0
      try clear hfz13_1
      try clear hfz15_0
      try clear hfz15_1
      try clear hfz17_0
      try clear hfz17_1
      try clear hfz7_0
      try clear hfz7_1
      try clear hfz9_0
      try clear hfz9_1
      try clear p2
      obtain ⟨kq, x7_18, rfl, HA, HJ18, BK1161, HB⟩ := hcut
      cases kq with
      | zero => exact absurd HA.out (by simp [gimballaw02_near.j1])
      | succ kj18 =>
       have H := HA.out
       clear HA
       simp only [gimballaw02_near.j1] at H
       by_cases c21 : x6_10 > x7_18
       ·
        rw [if_pos c21] at H
        have c21b0 : decide (x7_18 < x6_10) = true := decide_eq_true c21
        clear c21
        by_cases c22 : t1162 = (-4611686018427387904)
        ·
         rw [if_pos c22] at H
         have c22b0 : (t1162 == (-4611686018427387904)) = true := beq_iff_eq.mpr c22
         have c22b1 : (t1162 != (-4611686018427387904)) = false := bne_eq_false_iff_eq.mpr c22
         clear c22
         simp only [Option.some.injEq, Prod.mk.injEq] at H
         obtain ⟨rfl, rfl⟩ := H
         have hcz23_0 := hcz BK1161 0
         have hcz23_1 := hcz BK1161 1
         have hfz23_0 := blk_frozen BK1161.out 0
         have hfz23_1 := blk_frozen BK1161.out 1
         go_wp2
         go_ret2
         exact ⟨by first | rfl | (simp [errW_none, errW_some] <;> rfl) | (simp [*, errW_none, errW_some] <;> rfl) | kernel_rfl, by repeat (first | (with_reducible first | exact HB.out | apply below_alloc | apply pw_below_drewN | apply below_drew1 | refine below_set ?_ GE1161.out) | exact HB.out)⟩
        ·
         rw [if_neg c22] at H
         have c22b0 : (t1162 == (-4611686018427387904)) = false := beq_eq_false_iff_ne.mpr c22
         have c22b1 : (t1162 != (-4611686018427387904)) = true := bne_iff_ne.mpr c22
         simp only [Option.some.injEq, Prod.mk.injEq] at H
         obtain ⟨rfl, rfl⟩ := H
         have hcz24_0 := hcz BK1161 0
         have hcz24_1 := hcz BK1161 1
         have hfz24_0 := blk_frozen BK1161.out 0
         have hfz24_1 := blk_frozen BK1161.out 1
         go_wp2
         go_ret2
         exact ⟨by first | rfl | (simp [errW_none, errW_some] <;> rfl) | (simp [*, errW_none, errW_some] <;> rfl) | kernel_rfl, by repeat (first | (with_reducible first | exact HB.out | apply below_alloc | apply pw_below_drewN | apply below_drew1 | refine below_set ?_ GE1161.out) | exact HB.out)⟩
       ·
        rw [if_neg c21] at H
        have c21b0 : decide (x7_18 < x6_10) = false := decide_eq_false c21
        clear c21
        by_cases c25 : (IntKind.u64.wrap (wrap64 ((wrap64 (x7_18 - x6_10)) + 1))) = 0
        ·
         rw [if_pos c25] at H
         exact absurd H (by simp)
        ·
         rw [if_neg c25] at H
         have c25b0 : ((IntKind.u64.wrap (wrap64 ((wrap64 (x7_18 - x6_10)) + 1))) == 0) = false := beq_eq_false_iff_ne.mpr c25
         have c25b1 : ((IntKind.u64.wrap (wrap64 ((wrap64 (x7_18 - x6_10)) + 1))) != 0) = true := bne_iff_ne.mpr c25
         simp only [Option.some.injEq, Prod.mk.injEq] at H
         obtain ⟨rfl, rfl⟩ := H
         go_wp2
         go_ret2
         exact ⟨by first | rfl | (simp [errW_none, errW_some] <;> rfl) | (simp [*, errW_none, errW_some] <;> rfl) | kernel_rfl, by repeat (first | (with_reducible first | exact HB.out | apply below_alloc | apply pw_below_drewN | apply below_drew1 | refine below_set ?_ GE1161.out) | exact HB.out)⟩
end Go.Proofs.Ytbbnpipmjadpoaa.P
