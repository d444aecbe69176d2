/- What the law's proof needs of Px25. -/
import Derived.Test.YtbbnpipmjadpoaaTrJU2
import Derived.Test.YtbbnpipmjadpoaaTrJU
import Derived.Test.YtbbnpipmjadpoaaTrJPx0
import Derived.Test.YtbbnpipmjadpoaaTrJPx1
import Derived.Test.YtbbnpipmjadpoaaTrJPx2
import Derived.Test.YtbbnpipmjadpoaaTrJPx3
import Derived.Test.YtbbnpipmjadpoaaTrJPx10
import Derived.Test.YtbbnpipmjadpoaaTrJPx17
import Derived.Test.YtbbnpipmjadpoaaTrJPx18
-- PRINTED by print.py (a twelfth state) out of the translation. Not trusted: Lean checks it.
namespace Go.Proofs.Ytbbnpipmjadpoaa.P
open Go.RowKit Go.Proofs.YtbbnpipmjadpoaaW.PrintWords Go.Proofs.YtbbnpipmjadpoaaW.PrintLast Go.Proofs.YtbbnpipmjadpoaaW.PrintMore Go.Proofs.YtbbnpipmjadpoaaO
attribute [local go_sem] max2_int min2_int max_two min_two max_three min_three max_four min_four   -- for this text's walks alone
set_option linter.unusedVariables false
set_option linter.unusedSimpArgs false
attribute [local go_sem high] eqA23
def gimballaw02_size.f (a0 : Int) : Option (Int) := if a0 < 0 then (some (wrap64 (-a0))) else (some a0)
set_option maxHeartbeats 8000000 in
set_option maxRecDepth 100000 in
theorem gimballaw02_size.calls (a0 : Int) (r : Int) (w : World) (h : gimballaw02_size.f a0 = some r) :
    Calls Try.prog 39 #[.int .i64 a0] w fun e w' => e = .returned (.int .i64 r) ∧ Drawn0 w w' := by
  have H : (if a0 < 0 then (some (wrap64 (-a0))) else (some a0)) = some r := h
  clear h
  by_cases c2 : a0 < 0
  ·
   rw [if_pos c2] at H
   have c2b0 : decide (a0 < 0) = true := decide_eq_true c2
   clear c2
   obtain rfl := Option.some.inj H
   go_enter Try.func39, Try.ntmps39
   go_wp2
   go_ret
   exact ⟨by first | rfl | (simp; done) | (simp [*]; done), by repeat (first | exact Drawn0.refl _ | apply Drawn0.step)⟩
  ·
   rw [if_neg c2] at H
   have c2b0 : decide (a0 < 0) = false := decide_eq_false c2
   clear c2
   obtain rfl := Option.some.inj H
   go_enter Try.func39, Try.ntmps39
   go_wp2
   go_ret
   exact ⟨by first | rfl | (simp; done) | (simp [*]; done), by repeat (first | exact Drawn0.refl _ | apply Drawn0.step)⟩
def bound_Neg.f (a0 : Int) : Option (Int) := (bound_Fit.f a0).bind fun t556 => (some (wrap64 (-t556)))
set_option maxHeartbeats 8000000 in
set_option maxRecDepth 100000 in
theorem bound_Neg.calls (a0 : Int) (r : Int) (w : World) (h : bound_Neg.f a0 = some r) :
    Calls Try.prog 85 #[.int .i64 a0] w fun e w' => e = .returned (.int .i64 r) ∧ Below w.heap.size w w' := by
  have HB := Aside0.mk (Below.refl w.heap.size w)
  have H : ((bound_Fit.f a0).bind fun t556 => (some (wrap64 (-t556)))) = some r := h
  clear h
  replace H := Option.bind_eq_some_iff.mp H
  obtain ⟨t556, A20, H⟩ := H
  replace H : (some (wrap64 (-t556))) = some r := H
  have A2 := Aside0.mk A20
  clear A20
  obtain rfl := Option.some.inj H
  go_enter Try.func85, Try.ntmps85
  go_wp2_with (first | ((with_reducible refine gate_callee (f := 94) rfl ?_); refine goesL_ (some 4) rfl rfl Try.func94 (by kernel_rfl) rfl #[.int .i64 a0] rfl (by (try simp only [List.map_toArray, List.map_cons, List.map_nil]); first | done | rfl | (simp only [List.length_drop, List.length_take]; rfl)) ?_; (with_reducible refine (bound_Fit.calls a0 t556 _ A2.out).mono ?_); rintro e w3 ⟨rfl, hb⟩; refine ⟨_, rfl, ?_⟩; have n0_ := bst HB hb; clear HB; have HB := n0_; clear n0_; (try clear hb); (try clear hb2); (try clear hk); (try clear hi)))
  go_ret
  exact ⟨by first | rfl | (simp [errW_none, errW_some] <;> rfl) | (simp [*, errW_none, errW_some] <;> rfl) | kernel_rfl, by repeat (first | (with_reducible first | exact HB.out | apply below_alloc | apply pw_below_drewN | apply below_drew1) | exact HB.out)⟩
def itv_Neg.f (a0_0 : Int) (a0_1 : Int) : Option (Int × Int) := (itv_sound.f a0_0 a0_1).bind fun bt559 => ((itv_None.f bt559.1 bt559.2).bind fun t561 => (if t561 = true then (some (bt559.1, bt559.2)) else ((bound_Neg.f bt559.2).bind fun t562 => ((bound_Neg.f bt559.1).bind fun t563 => ((itv_Of.f t562 t563).bind fun bt564 => (some (bt564.1, bt564.2)))))))
def itv_Neg.T4 : Bool × List (List Nat × List Nat) := (true, [([], []), ([0], [0]), ([1], [1]), ([], []), ([3], [3]), ([4, 2], [4]), ([2, 5, 5], [2, 5]), ([6, 6, 0, 1, 2, 3, 4, 5, 6], [6])])
def itv_Neg.B4 : List Nat := [0, 1, 3, 0, 8, 31, 63, 127]
theorem itv_Neg.tab4 : rtab .any (opsOf Try.f46 4) = itv_Neg.T4 := by kernel_rfl
theorem itv_Neg.bits4 : waitsOk itv_Neg.T4.2 itv_Neg.B4 = true := by kernel_rfl
set_option maxHeartbeats 8000000 in
set_option maxRecDepth 100000 in
theorem itv_Neg.calls (a0_0 : Int) (a0_1 : Int) (r1 : Int) (r2 : Int) (w : World) (h : itv_Neg.f a0_0 a0_1 = some (r1, r2)) :
    Calls Try.prog 46 #[.agg #[.int .i64 a0_0, .int .i64 a0_1]] w fun e w' => e = .returned (.agg #[.int .i64 r1, .int .i64 r2]) ∧ Below w.heap.size w w' := by
  have hu23 := Try.underlying23
  have HB := Aside0.mk (Below.refl w.heap.size w)
  have H : ((itv_sound.f a0_0 a0_1).bind fun bt559 => ((itv_None.f bt559.1 bt559.2).bind fun t561 => (if t561 = true then (some (bt559.1, bt559.2)) else ((bound_Neg.f bt559.2).bind fun t562 => ((bound_Neg.f bt559.1).bind fun t563 => ((itv_Of.f t562 t563).bind fun bt564 => (some (bt564.1, bt564.2)))))))) = some (r1, r2) := h
  clear h
  replace H := Option.bind_eq_some_iff.mp H
  obtain ⟨⟨t559, t560⟩, A20, H⟩ := H
  replace H : ((itv_None.f t559 t560).bind fun t561 => (if t561 = true then (some (t559, t560)) else ((bound_Neg.f t560).bind fun t562 => ((bound_Neg.f t559).bind fun t563 => ((itv_Of.f t562 t563).bind fun bt564 => (some (bt564.1, bt564.2))))))) = some (r1, r2) := H
  have A2 := Aside0.mk A20
  clear A20
  replace H := Option.bind_eq_some_iff.mp H
  obtain ⟨t561, A30, H⟩ := H
  replace H : (if t561 = true then (some (t559, t560)) else ((bound_Neg.f t560).bind fun t562 => ((bound_Neg.f t559).bind fun t563 => ((itv_Of.f t562 t563).bind fun bt564 => (some (bt564.1, bt564.2)))))) = some (r1, r2) := H
  have A3 := Aside0.mk A30
  clear A30
  by_cases c4 : t561 = true
  ·
   subst c4
   have H1 : (some (t559, t560)) = some (r1, r2) := by rw [if_pos rfl] at H; exact H
   clear H
   have H := H1
   clear H1
   simp only [Option.some.injEq, Prod.mk.injEq] at H
   obtain ⟨rfl, rfl⟩ := H
   go_enter Try.func46, Try.ntmps46
   go_wp2_with (first | ((with_reducible refine gate_dst (N := 1) rfl ?_); refine box_event ?hg (N := 1) ?hd (cs := #[.int .i64 a0_0, .int .i64 a0_1]) (t := 23) ?hr ?_; (case hd => rfl); (case hg => rfl); (case hr => first | (go_simp; done) | (go_simp; rfl)); intro gb557 hg w5 hbox hb; have n0_ := bst HB hb; have n1_ := Aside0.mk (hbox); have n2_ := bsz HB hg; have n3_ := bsz HB hg; clear HB; have HB := n0_; have BK557 := n1_; have GW557 := n2_; have GE557 := n3_; clear n0_ n1_ n2_ n3_; clear hb hbox hg) | ((with_reducible refine gate_dst (N := 2) rfl ?_); refine box_event ?hg (N := 2) ?hd (cs := #[.int .i64 0, .int .i64 0]) (t := 23) ?hr ?_; (case hd => rfl); (case hg => rfl); (case hr => first | (go_simp; done) | (go_simp; rfl)); intro gb558 hg w6 hbox hb; have n0_ := bst HB hb; have n1_ := Aside0.mk (hbox); have n2_ := bsz HB hg; have n3_ := bsz HB hg; have n4_ := bn1 BK557 hg; have n5_ := bn2 BK557 hg; replace BK557 := bbw BK557 hb; clear HB; have HB := n0_; have BK558 := n1_; have GW558 := n2_; have GE558 := n3_; have NB557_558 := n4_; have NB558_557 := n5_; clear n0_ n1_ n2_ n3_ n4_ n5_; clear hb hbox hg; have hnb7 := NB557_558.out; have hnc7 := NB558_557.out; have hcz8_0 := hcz BK557 0; have hcz8_1 := hcz BK557 1; have hfz8_0 := blk_frozen BK557.out 0; have hfz8_1 := blk_frozen BK557.out 1) | ((with_reducible refine gate_callee (f := 59) rfl ?_); refine goesL_ (some 4) rfl rfl Try.func59 (by kernel_rfl) rfl #[.agg #[.int .i64 a0_0, .int .i64 a0_1]] rfl (by (try simp only [List.map_toArray, List.map_cons, List.map_nil]); first | done | rfl | (simp only [List.length_drop, List.length_take]; rfl)) ?_; (with_reducible refine (itv_sound.calls a0_0 a0_1 t559 t560 _ A2.out).mono ?_); rintro e w9 ⟨rfl, hb⟩; refine ⟨_, rfl, ?_⟩; have n0_ := bst HB hb; replace BK557 := bbw BK557 hb; replace BK558 := bbw BK558 hb; clear HB; have HB := n0_; clear n0_; (try clear hb); (try clear hb2); (try clear hk); (try clear hi); have hcz10_0 := hcz BK557 0; have hcz10_1 := hcz BK557 1; have hfz10_0 := blk_frozen BK557.out 0; have hfz10_1 := blk_frozen BK557.out 1) | ((with_reducible refine gate_callee (f := 21) rfl ?_); refine goesL_ (some 6) rfl rfl Try.func21 (by kernel_rfl) rfl #[.agg #[.int .i64 t559, .int .i64 t560]] rfl (by (try simp only [List.map_toArray, List.map_cons, List.map_nil]); first | done | rfl | (simp only [List.length_drop, List.length_take]; rfl)) ?_; (with_reducible refine (itv_None.calls t559 t560 true _ A3.out).mono ?_); rintro e w11 ⟨rfl, hb⟩; refine ⟨_, rfl, ?_⟩; have n0_ := Aside0.mk (blk_below (g := gb557) (o := .cells #[.int .i64 t559, .int .i64 t560] 23 (0, 0)) (by refine pkB ?_; refine blk_put (cs := #[.int .i64 t559, .int .i64 a0_1]) ?_ 1 _ (by first | rfl | (subst_vars; rfl)); refine pkB ?_; refine blk_put (cs := #[.int .i64 a0_0, .int .i64 a0_1]) ?_ 0 _ (by first | rfl | (subst_vars; rfl)); refine pkB ?_; exact BK557.out) hb); have n1_ := Aside0.mk (blk_below (g := gb558) (o := .cells #[.int .i64 0, .int .i64 0] 23 (0, 0)) (by refine pkB ?_; refine blk_far ?_ NB558_557.out _; refine pkB ?_; refine blk_far ?_ NB558_557.out _; refine pkB ?_; exact BK558.out) hb); have n2_ := bst HB hb; clear BK557; clear BK558; clear HB; have BK557 := n0_; have BK558 := n1_; have HB := n2_; clear n0_ n1_ n2_; (try clear hb); (try clear hb2); (try clear hk); (try clear hi); have hcz12_0 := hcz BK557 0; have hcz12_1 := hcz BK557 1; have hfz12_0 := blk_frozen BK557.out 0; have hfz12_1 := blk_frozen BK557.out 1; have hcz13_0 := hcz BK558 0; have hcz13_1 := hcz BK558 1; have hfz13_0 := blk_frozen BK558.out 0; have hfz13_1 := blk_frozen BK558.out 1))
   refine bodyPost_ret (results_cell_row rfl _ _ gb558 23 #[.int .i64 t559, .int .i64 t560] (0, 0) _ rfl (by refine pkB ?_; refine blk_put (cs := #[.int .i64 t559, .int .i64 0]) ?_ 1 _ (by first | rfl | (subst_vars; rfl)); refine pkB ?_; refine blk_put (cs := #[.int .i64 0, .int .i64 0]) ?_ 0 _ (by first | rfl | (subst_vars; rfl)); refine pkB ?_; exact BK558.out) Try.underlying23 rfl (by kernel_rfl)) rfl ?_
   exact ⟨by first | rfl | (simp [errW_none, errW_some] <;> rfl) | (simp [*, errW_none, errW_some] <;> rfl) | kernel_rfl, by repeat (first | (with_reducible first | exact HB.out | apply below_alloc | apply pw_below_drewN | apply below_drew1 | refine below_set ?_ GE557.out | refine below_set ?_ GE558.out) | exact HB.out)⟩
  ·
   replace c4 := Bool.eq_false_iff.mpr c4
   subst c4
   have H1 : ((bound_Neg.f t560).bind fun t562 => ((bound_Neg.f t559).bind fun t563 => ((itv_Of.f t562 t563).bind fun bt564 => (some (bt564.1, bt564.2))))) = some (r1, r2) := by rw [if_neg (show ¬ (false = true) by decide)] at H; exact H
   clear H
   have H := H1
   clear H1
   replace H := Option.bind_eq_some_iff.mp H
   obtain ⟨t562, A140, H⟩ := H
   replace H : ((bound_Neg.f t559).bind fun t563 => ((itv_Of.f t562 t563).bind fun bt564 => (some (bt564.1, bt564.2)))) = some (r1, r2) := H
   have A14 := Aside0.mk A140
   clear A140
   replace H := Option.bind_eq_some_iff.mp H
   obtain ⟨t563, A150, H⟩ := H
   replace H : ((itv_Of.f t562 t563).bind fun bt564 => (some (bt564.1, bt564.2))) = some (r1, r2) := H
   have A15 := Aside0.mk A150
   clear A150
   replace H := Option.bind_eq_some_iff.mp H
   obtain ⟨⟨t564, t565⟩, A160, H⟩ := H
   replace H : (some (t564, t565)) = some (r1, r2) := H
   have A16 := Aside0.mk A160
   clear A160
   simp only [Option.some.injEq, Prod.mk.injEq] at H
   obtain ⟨rfl, rfl⟩ := H
   go_enter Try.func46, Try.ntmps46
   try go_wp2_with (first | ((with_reducible refine gate_dst (N := 1) rfl ?_); refine box_event ?hg (N := 1) ?hd (cs := #[.int .i64 a0_0, .int .i64 a0_1]) (t := 23) ?hr ?_; (case hd => rfl); (case hg => rfl); (case hr => first | (go_simp; done) | (go_simp; rfl)); intro gb557 hg w17 hbox hb; have n0_ := bst HB hb; have n1_ := Aside0.mk (hbox); have n2_ := bsz HB hg; have n3_ := bsz HB hg; clear HB; have HB := n0_; have BK557 := n1_; have GW557 := n2_; have GE557 := n3_; clear n0_ n1_ n2_ n3_; clear hb hbox hg) | ((with_reducible refine gate_dst (N := 2) rfl ?_); refine box_event ?hg (N := 2) ?hd (cs := #[.int .i64 0, .int .i64 0]) (t := 23) ?hr ?_; (case hd => rfl); (case hg => rfl); (case hr => first | (go_simp; done) | (go_simp; rfl)); intro gb558 hg w18 hbox hb; have n0_ := bst HB hb; have n1_ := Aside0.mk (hbox); have n2_ := bsz HB hg; have n3_ := bsz HB hg; have n4_ := bn1 BK557 hg; have n5_ := bn2 BK557 hg; replace BK557 := bbw BK557 hb; clear HB; have HB := n0_; have BK558 := n1_; have GW558 := n2_; have GE558 := n3_; have NB557_558 := n4_; have NB558_557 := n5_; clear n0_ n1_ n2_ n3_ n4_ n5_; clear hb hbox hg; have hnb19 := NB557_558.out; have hnc19 := NB558_557.out; have hcz20_0 := hcz BK557 0; have hcz20_1 := hcz BK557 1; have hfz20_0 := blk_frozen BK557.out 0; have hfz20_1 := blk_frozen BK557.out 1) | ((with_reducible refine gate_callee (f := 59) rfl ?_); refine goesL_ (some 4) rfl rfl Try.func59 (by kernel_rfl) rfl #[.agg #[.int .i64 a0_0, .int .i64 a0_1]] rfl (by (try simp only [List.map_toArray, List.map_cons, List.map_nil]); first | done | rfl | (simp only [List.length_drop, List.length_take]; rfl)) ?_; (with_reducible refine (itv_sound.calls a0_0 a0_1 t559 t560 _ A2.out).mono ?_); rintro e w21 ⟨rfl, hb⟩; refine ⟨_, rfl, ?_⟩; have n0_ := bst HB hb; replace BK557 := bbw BK557 hb; replace BK558 := bbw BK558 hb; clear HB; have HB := n0_; clear n0_; (try clear hb); (try clear hb2); (try clear hk); (try clear hi); have hcz22_0 := hcz BK557 0; have hcz22_1 := hcz BK557 1; have hfz22_0 := blk_frozen BK557.out 0; have hfz22_1 := blk_frozen BK557.out 1) | ((with_reducible refine gate_callee (f := 21) rfl ?_); refine goesL_ (some 6) rfl rfl Try.func21 (by kernel_rfl) rfl #[.agg #[.int .i64 t559, .int .i64 t560]] rfl (by (try simp only [List.map_toArray, List.map_cons, List.map_nil]); first | done | rfl | (simp only [List.length_drop, List.length_take]; rfl)) ?_; (with_reducible refine (itv_None.calls t559 t560 false _ A3.out).mono ?_); rintro e w23 ⟨rfl, hb⟩; refine ⟨_, rfl, ?_⟩; have n0_ := Aside0.mk (blk_below (g := gb557) (o := .cells #[.int .i64 t559, .int .i64 t560] 23 (0, 0)) (by refine pkB ?_; refine blk_put (cs := #[.int .i64 t559, .int .i64 a0_1]) ?_ 1 _ (by first | rfl | (subst_vars; rfl)); refine pkB ?_; refine blk_put (cs := #[.int .i64 a0_0, .int .i64 a0_1]) ?_ 0 _ (by first | rfl | (subst_vars; rfl)); refine pkB ?_; exact BK557.out) hb); have n1_ := Aside0.mk (blk_below (g := gb558) (o := .cells #[.int .i64 0, .int .i64 0] 23 (0, 0)) (by refine pkB ?_; refine blk_far ?_ NB558_557.out _; refine pkB ?_; refine blk_far ?_ NB558_557.out _; refine pkB ?_; exact BK558.out) hb); have n2_ := bst HB hb; clear BK557; clear BK558; clear HB; have BK557 := n0_; have BK558 := n1_; have HB := n2_; clear n0_ n1_ n2_; (try clear hb); (try clear hb2); (try clear hk); (try clear hi)))
   have n0_ := Aside0.mk (blk_drew BK557.out)
   have n1_ := Aside0.mk (blk_drew BK558.out)
   have n2_ := Aside0.mk (below_drew1 HB.out)
   clear BK557
   clear BK558
   clear HB
   have BK557 := n0_
   have BK558 := n1_
   have HB := n2_
   clear n0_ n1_ n2_
   refine start_ (n := 8) (S := fun w' => w'.cell? ⟨gb557, 0, none⟩ = some (.int .i64 t559) ∧ w'.cell? ⟨gb557, 1, none⟩ = some (.int .i64 t560)) (ds := []) #[false, false, false, false, false, false, false, false] (by kernel_rfl) rfl rfl ⟨hcz BK557 0, hcz BK557 1⟩ (fun hHeld => ?_); refine with_tabW itv_Neg.tab4 itv_Neg.bits4 (fun HT_ HW_ => ?_)
   generalize w23.drew = w24 at BK557 BK558 HB hHeld ⊢
   refine pureQ 0 8 HT_.out ?_
   refine pureQ 3 11 HT_.out ?_
   refine takeQ 1 9 HT_.out HW_.out hHeld ?_
   refine takeQ 4 12 HT_.out HW_.out hHeld ?_
   refine oneQ 2 10 HT_.out (fun K hK => ?_)
   refine goesQ Try.func85 #[.int .i64 t560] ?_
   with_reducible refine (bound_Neg.calls t560 t562 _ A14.out).mono ?_
   rintro e w25 ⟨rfl, hb⟩
   refine ⟨_, rfl, ?_⟩
   have n0_ := bst HB hb
   replace BK557 := bbw BK557 hb
   replace BK558 := bbw BK558 hb
   clear HB
   have HB := n0_
   clear n0_
   (try clear hb)
   (try clear hb2)
   (try clear hk)
   (try clear hi)
   refine hK.out _ _ ⟨hcz BK557 0, hcz BK557 1⟩ (fun hHeld => ?_)
   clear hK K
   refine normQ (N := 10) ?_
   refine oneQ 5 13 HT_.out (fun K hK => ?_)
   refine goesQ Try.func85 #[.int .i64 t559] ?_
   with_reducible refine (bound_Neg.calls t559 t563 _ A15.out).mono ?_
   rintro e w26 ⟨rfl, hb⟩
   refine ⟨_, rfl, ?_⟩
   have n0_ := bst HB hb
   replace BK557 := bbw BK557 hb
   replace BK558 := bbw BK558 hb
   clear HB
   have HB := n0_
   clear n0_
   (try clear hb)
   (try clear hb2)
   (try clear hk)
   (try clear hi)
   refine hK.out _ _ ⟨hcz BK557 0, hcz BK557 1⟩ (fun hHeld => ?_)
   clear hK K
   refine normQ (N := 13) ?_
   refine oneQ 6 14 HT_.out (fun K hK => ?_)
   refine goesQ Try.func13 #[.int .i64 t562, .int .i64 t563] ?_
   with_reducible refine (itv_Of.calls t562 t563 t564 t565 _ A16.out).mono ?_
   rintro e w27 ⟨rfl, hb⟩
   refine ⟨_, rfl, ?_⟩
   have n0_ := bst HB hb
   replace BK557 := bbw BK557 hb
   replace BK558 := bbw BK558 hb
   clear HB
   have HB := n0_
   clear n0_
   (try clear hb)
   (try clear hb2)
   (try clear hk)
   (try clear hi)
   refine hK.out _ _ ⟨hcz BK557 0, hcz BK557 1⟩ (fun hHeld => ?_)
   clear hK K
   refine normQ (N := 14) ?_
   refine one_ (i := 7) (N := none) #[true, true, true, true, true, true, true, true] rfl rfl (one_of HT_.out (by kernel_rfl)) (by decide) (fun K hK => ?_)
   have hs28 : w27.cell? ⟨gb558, 0, none⟩ = some (.int .i64 0) := hcz BK558 0
   have hfs28 := blk_frozen BK558.out 0
   have hns28_0 := NB557_558.out
   have hms28_0 := NB558_557.out
   have hs29 : w27.cell? ⟨gb558, 1, none⟩ = some (.int .i64 0) := hcz BK558 1
   have hfs29 := blk_frozen BK558.out 1
   have hns29_0 := NB557_558.out
   have hms29_0 := NB558_557.out
   refine skip_ (w1 := ?_) (by rfl) rfl ?_ ?_
   rotate_left
   ·
    go_simp
    rfl
   refine hK.out _ _ ⟨((cell_far (p := ⟨gb558, _, none⟩) NB557_558.out _).trans (((cell_far (p := ⟨gb558, _, none⟩) NB557_558.out _).trans (hHeld.1)))), ((cell_far (p := ⟨gb558, _, none⟩) NB557_558.out _).trans (((cell_far (p := ⟨gb558, _, none⟩) NB557_558.out _).trans (hHeld.2))))⟩ (fun hHeld => ?_)
   clear hK K
   refine done_ (done_of HT_.out (by kernel_rfl)) ?_
   try go_wp2
   refine bodyPost_ret (results_cell_row rfl _ _ gb558 23 #[.int .i64 t564, .int .i64 t565] (0, 0) _ rfl (by refine pkB ?_; refine blk_put (cs := #[.int .i64 t564, .int .i64 0]) ?_ 1 _ (by first | rfl | (subst_vars; rfl)); refine pkB ?_; refine blk_put (cs := #[.int .i64 0, .int .i64 0]) ?_ 0 _ (by first | rfl | (subst_vars; rfl)); refine pkB ?_; exact BK558.out) Try.underlying23 rfl (by kernel_rfl)) rfl ?_
   exact ⟨by first | rfl | (simp [errW_none, errW_some] <;> rfl) | (simp [*, errW_none, errW_some] <;> rfl) | kernel_rfl, by repeat (first | (with_reducible first | exact HB.out | apply below_alloc | apply pw_below_drewN | apply below_drew1 | refine below_set ?_ GE557.out | refine below_set ?_ GE558.out) | exact HB.out)⟩
end Go.Proofs.Ytbbnpipmjadpoaa.P
