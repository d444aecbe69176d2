/- What the law's proof needs of Px6. -/
import Derived.Test.YtbbnpipmjadpoaaTrGU3
import Derived.Test.YtbbnpipmjadpoaaTrGU
import Derived.Test.YtbbnpipmjadpoaaTrGPx0
import Derived.Test.YtbbnpipmjadpoaaTrGPx3
-- PRINTED by print.py (a twelfth state) out of the translation. Not trusted: Lean checks it.
namespace Go.Proofs.Ytbbnpipmjadpoaa.P
open Go.RowKit Go.Proofs.YtbbnpipmjadpoaaW.PrintWords Go.Proofs.YtbbnpipmjadpoaaW.PrintLast Go.Proofs.YtbbnpipmjadpoaaW.PrintMore Go.Proofs.YtbbnpipmjadpoaaO
attribute [local go_sem] max2_int min2_int max_two min_two max_three min_three max_four min_four   -- for this text's walks alone
set_option linter.unusedVariables false
set_option linter.unusedSimpArgs false
def itv_Leq.f (a0_0 : Int) (a0_1 : Int) (a1_0 : Int) (a1_1 : Int) : Option (Bool) := (itv_sound.f a0_0 a0_1).bind fun bt162 => ((itv_sound.f a1_0 a1_1).bind fun bt164 => ((itv_None.f bt162.1 bt162.2).bind fun t166 => (if t166 = true then (some true) else (if bt164.1 ≤ bt162.1 then (if bt162.2 ≤ bt164.2 then ((itv_None.f bt164.1 bt164.2).bind fun t167 => (some (!t167))) else (some false)) else (some false)))))
set_option maxHeartbeats 8000000 in
set_option maxRecDepth 100000 in
theorem itv_Leq.calls (a0_0 : Int) (a0_1 : Int) (a1_0 : Int) (a1_1 : Int) (r : Bool) (w : World) (h : itv_Leq.f a0_0 a0_1 a1_0 a1_1 = some r) :
    Calls Try.prog 24 #[.agg #[.int .i64 a0_0, .int .i64 a0_1], .agg #[.int .i64 a1_0, .int .i64 a1_1]] w fun e w' => e = .returned (.bool r) ∧ Below w.heap.size w w' := by
  have hu23 := Try.underlying23
  have HB := Aside0.mk (Below.refl w.heap.size w)
  have H : ((itv_sound.f a0_0 a0_1).bind fun bt162 => ((itv_sound.f a1_0 a1_1).bind fun bt164 => ((itv_None.f bt162.1 bt162.2).bind fun t166 => (if t166 = true then (some true) else (if bt164.1 ≤ bt162.1 then (if bt162.2 ≤ bt164.2 then ((itv_None.f bt164.1 bt164.2).bind fun t167 => (some (!t167))) else (some false)) else (some false)))))) = some r := h
  clear h
  replace H := bnH H
  obtain ⟨⟨t162, t163⟩, A30, H⟩ := H
  replace H : ((itv_sound.f a1_0 a1_1).bind fun bt164 => ((itv_None.f t162 t163).bind fun t166 => (if t166 = true then (some true) else (if bt164.1 ≤ t162 then (if t163 ≤ bt164.2 then ((itv_None.f bt164.1 bt164.2).bind fun t167 => (some (!t167))) else (some false)) else (some false))))) = some r := H
  have A3 := Aside0.mk A30
  clear A30
  replace H := bnH H
  obtain ⟨⟨t164, t165⟩, A40, H⟩ := H
  replace H : ((itv_None.f t162 t163).bind fun t166 => (if t166 = true then (some true) else (if t164 ≤ t162 then (if t163 ≤ t165 then ((itv_None.f t164 t165).bind fun t167 => (some (!t167))) else (some false)) else (some false)))) = some r := H
  have A4 := Aside0.mk A40
  clear A40
  replace H := bnH H
  obtain ⟨t166, A50, H⟩ := H
  replace H : (if t166 = true then (some true) else (if t164 ≤ t162 then (if t163 ≤ t165 then ((itv_None.f t164 t165).bind fun t167 => (some (!t167))) else (some false)) else (some false))) = some r := H
  have A5 := Aside0.mk A50
  clear A50
  by_cases c6 : t166 = true
  ·
   subst c6
   have H1 : (some true) = some r := by rw [if_pos rfl] at H; exact H
   clear H
   have H := H1
   clear H1
   obtain rfl := Option.some.inj H
   go_enter Try.func24, Try.ntmps24
   try go_wp2_with (first | ((with_reducible refine gate_dst (N := 2) rfl ?_); refine box_event ?hg (N := 2) ?hd (cs := #[.int .i64 a0_0, .int .i64 a0_1]) (t := 23) ?hr ?_; (case hd => rfl); (case hg => rfl); (case hr => first | (go_simp; done) | (go_simp; rfl)); intro gb160 hg w7 hbox hb; have n0_ := bst HB hb; have n1_ := Aside0.mk (hbox); have n2_ := bsz HB hg; have n3_ := bsz HB hg; clear HB; have HB := n0_; have BK160 := n1_; have GW160 := n2_; have GE160 := n3_; clear n0_ n1_ n2_ n3_; clear hb hbox hg) | ((with_reducible refine gate_dst (N := 3) rfl ?_); refine box_event ?hg (N := 3) ?hd (cs := #[.int .i64 a1_0, .int .i64 a1_1]) (t := 23) ?hr ?_; (case hd => rfl); (case hg => rfl); (case hr => first | (go_simp; done) | (go_simp; rfl)); intro gb161 hg w8 hbox hb; have n0_ := bst HB hb; have n1_ := Aside0.mk (hbox); have n2_ := bsz HB hg; have n3_ := bsz HB hg; have n4_ := bn1 BK160 hg; have n5_ := bn2 BK160 hg; replace BK160 := bbw BK160 hb; clear HB; have HB := n0_; have BK161 := n1_; have GW161 := n2_; have GE161 := n3_; have NB160_161 := n4_; have NB161_160 := n5_; clear n0_ n1_ n2_ n3_ n4_ n5_; clear hb hbox hg))
   have n0_ := Aside0.mk (blk_drew BK160.out)
   have n1_ := Aside0.mk (blk_drew BK161.out)
   have n2_ := Aside0.mk (below_drew1 HB.out)
   clear BK160
   clear BK161
   clear HB
   have BK160 := n0_
   have BK161 := n1_
   have HB := n2_
   clear n0_ n1_ n2_
   refine start_ (n := 6) (S := fun w' => w'.cell? ⟨gb160, 0, none⟩ = some (.int .i64 a0_0) ∧ w'.cell? ⟨gb160, 1, none⟩ = some (.int .i64 a0_1) ∧ w'.cell? ⟨gb161, 0, none⟩ = some (.int .i64 a1_0) ∧ w'.cell? ⟨gb161, 1, none⟩ = some (.int .i64 a1_1)) (ds := [4, 5]) #[false, false, false, false, false, false] (by kernel_rfl) rfl rfl ⟨hcz BK160 0, hcz BK160 1, hcz BK161 0, hcz BK161 1⟩ (fun hHeld => ?_)
   generalize w8.drew = w9 at BK160 BK161 HB hHeld ⊢
   refine take_ (i := 0) (N := some 5) (v := ?_) (a' := ?_) #[true, false, false, false, false, false] rfl rfl (by kernel_rfl) (fun _ _ _ h => h) (Or.inl ⟨by rfl, ?_⟩) hHeld ?_ ?_
   rotate_left
   ·
    rintro w' ⟨s0, s1, s2, s3⟩
    go_simp
    with_reducible rfl
   rotate_left
   ·
    simp only [Act.put, List.setIfInBounds_toArray, List.set_cons_zero, List.set_cons_succ, i64_w, i32_w]
    rfl
   refine take_ (i := 2) (N := some 7) (v := ?_) (a' := ?_) #[true, false, true, false, false, false] rfl rfl (by kernel_rfl) (fun _ _ _ h => h) (Or.inl ⟨by rfl, ?_⟩) hHeld ?_ ?_
   rotate_left
   ·
    rintro w' ⟨s0, s1, s2, s3⟩
    go_simp
    with_reducible rfl
   rotate_left
   ·
    simp only [Act.put, List.setIfInBounds_toArray, List.set_cons_zero, List.set_cons_succ, i64_w, i32_w]
    rfl
   refine one_ (i := 1) (N := some 6) #[true, true, true, false, false, false] rfl rfl (by kernel_rfl) (by decide) (fun K hK => ?_)
   refine goesQ Try.func59 #[.agg #[.int .i64 a0_0, .int .i64 a0_1]] ?_
   with_reducible refine (itv_sound.calls a0_0 a0_1 t162 t163 _ A3.out).mono ?_
   rintro e w10 ⟨rfl, hb⟩
   refine ⟨_, rfl, ?_⟩
   have n0_ := bst HB hb
   replace BK160 := bbw BK160 hb
   replace BK161 := bbw BK161 hb
   clear HB
   have HB := n0_
   clear n0_
   (try clear hb)
   refine hK.out _ _ ⟨hcz BK160 0, hcz BK160 1, hcz BK161 0, hcz BK161 1⟩ (fun hHeld => ?_)
   clear hK K
   refine normQ (N := 6) ?_
   refine one_ (i := 3) (N := some 8) #[true, true, true, true, false, false] rfl rfl (by kernel_rfl) (by decide) (fun K hK => ?_)
   refine goesQ Try.func59 #[.agg #[.int .i64 a1_0, .int .i64 a1_1]] ?_
   with_reducible refine (itv_sound.calls a1_0 a1_1 t164 t165 _ A4.out).mono ?_
   rintro e w11 ⟨rfl, hb⟩
   refine ⟨_, rfl, ?_⟩
   have n0_ := bst HB hb
   replace BK160 := bbw BK160 hb
   replace BK161 := bbw BK161 hb
   clear HB
   have HB := n0_
   clear n0_
   (try clear hb)
   refine hK.out _ _ ⟨hcz BK160 0, hcz BK160 1, hcz BK161 0, hcz BK161 1⟩ (fun hHeld => ?_)
   clear hK K
   refine normQ (N := 8) ?_
   refine last_ (i := 4) (N := none) #[true, true, true, true, true, false] rfl rfl (by kernel_rfl) (by decide) (fun K hK => ?_)
   have hs12 : w11.cell? ⟨gb160, 0, none⟩ = some (.int .i64 a0_0) := hcz BK160 0
   have hfs12 := bfz BK160 0
   have hns12_1 := nn NB161_160 NB160_161
   have hs13 : w11.cell? ⟨gb160, 1, none⟩ = some (.int .i64 a0_1) := hcz BK160 1
   have hfs13 := bfz BK160 1
   have hns13_1 := nn NB161_160 NB160_161
   refine skip_ (w1 := ?_) (by rfl) rfl ?_ ?_
   rotate_left
   ·
    go_simp
    rfl
   refine hK.out _ _ ?_
   clear hK K
   refine last_ (i := 5) (N := none) #[true, true, true, true, true, true] rfl rfl (by kernel_rfl) (by decide) (fun K hK => ?_)
   have hs14 : w11.cell? ⟨gb161, 0, none⟩ = some (.int .i64 a1_0) := hcz BK161 0
   have hfs14 := bfz BK161 0
   have hns14_0 := nn NB160_161 NB161_160
   have hs15 : w11.cell? ⟨gb161, 1, none⟩ = some (.int .i64 a1_1) := hcz BK161 1
   have hfs15 := bfz BK161 1
   have hns15_0 := nn NB160_161 NB161_160
   refine skip_ (w1 := ?_) (by rfl) rfl ?_ ?_
   rotate_left
   ·
    go_simp
    rfl
   refine hK.out _ _ ?_
   clear hK K
   refine done_ (by kernel_rfl) ?_
   have hnb16 := nn NB160_161 NB161_160
   have hcz17_0 := hcz BK160 0
   have hcz17_1 := hcz BK160 1
   have hfz17_0 := bfz BK160 0
   have hfz17_1 := bfz BK160 1
   try go_wp2_with (first | ((with_reducible refine gate_callee (f := 21) rfl ?_); refine goesL_ (some 10) rfl rfl Try.func21 (by kernel_rfl) rfl #[.agg #[.int .i64 t162, .int .i64 t163]] rfl (by (try simp only [List.map_toArray, List.map_cons, List.map_nil]); first | done | rfl | (simp only [List.length_drop, List.length_take]; rfl)) ?_; (with_reducible refine (itv_None.calls t162 t163 true _ A5.out).mono ?_); rintro e w18 ⟨rfl, hb⟩; refine ⟨_, rfl, ?_⟩; have n0_ := Aside0.mk (blk_below (g := gb160) (o := .cells #[.int .i64 t162, .int .i64 t163] 23 (0, 0)) (by refine pkB ?_; refine blk_far ?_ NB160_161.out _; refine pkB ?_; refine blk_far ?_ NB160_161.out _; refine pkB ?_; refine bput (cs := #[.int .i64 t162, .int .i64 a0_1]) 1 ?_; refine bput (cs := #[.int .i64 a0_0, .int .i64 a0_1]) 0 ?_; exact BK160.out) hb); have n1_ := Aside0.mk (blk_below (g := gb161) (o := .cells #[.int .i64 t164, .int .i64 t165] 23 (0, 0)) (by refine pkB ?_; refine bput (cs := #[.int .i64 t164, .int .i64 a1_1]) 1 ?_; refine bput (cs := #[.int .i64 a1_0, .int .i64 a1_1]) 0 ?_; refine blk_far ?_ NB161_160.out _; refine pkB ?_; refine blk_far ?_ NB161_160.out _; refine pkB ?_; exact BK161.out) hb); have n2_ := bst HB hb; clear BK160; clear BK161; clear HB; have BK160 := n0_; have BK161 := n1_; have HB := n2_; clear n0_ n1_ n2_; (try clear hb)))
   go_ret
   exact ⟨by first | rfl | (simp [errW_none, errW_some] <;> rfl) | (simp [*, errW_none, errW_some] <;> rfl) | kernel_rfl, (bpk HB).out⟩
  ·
   replace c6 := Bool.eq_false_iff.mpr c6
   subst c6
   have H1 : (if t164 ≤ t162 then (if t163 ≤ t165 then ((itv_None.f t164 t165).bind fun t167 => (some (!t167))) else (some false)) else (some false)) = some r := by rw [if_neg (show ¬ (false = true) by decide)] at H; exact H
   clear H
   have H := H1
   clear H1
   by_cases c19 : t164 ≤ t162
   ·
    rw [if_pos c19] at H
    have c19b0 : decide (t164 ≤ t162) = true := decide_eq_true c19
    clear c19
    by_cases c20 : t163 ≤ t165
    ·
     rw [if_pos c20] at H
     have c20b0 : decide (t163 ≤ t165) = true := decide_eq_true c20
     clear c20
     replace H := bnH H
     obtain ⟨t167, A210, H⟩ := H
     replace H : (some (!t167)) = some r := H
     have A21 := Aside0.mk A210
     clear A210
     obtain rfl := Option.some.inj H
     go_enter Try.func24, Try.ntmps24
     try go_wp2_with (first | ((with_reducible refine gate_dst (N := 2) rfl ?_); refine box_event ?hg (N := 2) ?hd (cs := #[.int .i64 a0_0, .int .i64 a0_1]) (t := 23) ?hr ?_; (case hd => rfl); (case hg => rfl); (case hr => first | (go_simp; done) | (go_simp; rfl)); intro gb160 hg w22 hbox hb; have n0_ := bst HB hb; have n1_ := Aside0.mk (hbox); have n2_ := bsz HB hg; have n3_ := bsz HB hg; clear HB; have HB := n0_; have BK160 := n1_; have GW160 := n2_; have GE160 := n3_; clear n0_ n1_ n2_ n3_; clear hb hbox hg) | ((with_reducible refine gate_dst (N := 3) rfl ?_); refine box_event ?hg (N := 3) ?hd (cs := #[.int .i64 a1_0, .int .i64 a1_1]) (t := 23) ?hr ?_; (case hd => rfl); (case hg => rfl); (case hr => first | (go_simp; done) | (go_simp; rfl)); intro gb161 hg w23 hbox hb; have n0_ := bst HB hb; have n1_ := Aside0.mk (hbox); have n2_ := bsz HB hg; have n3_ := bsz HB hg; have n4_ := bn1 BK160 hg; have n5_ := bn2 BK160 hg; replace BK160 := bbw BK160 hb; clear HB; have HB := n0_; have BK161 := n1_; have GW161 := n2_; have GE161 := n3_; have NB160_161 := n4_; have NB161_160 := n5_; clear n0_ n1_ n2_ n3_ n4_ n5_; clear hb hbox hg))
     have n0_ := Aside0.mk (blk_drew BK160.out)
     have n1_ := Aside0.mk (blk_drew BK161.out)
     have n2_ := Aside0.mk (below_drew1 HB.out)
     clear BK160
     clear BK161
     clear HB
     have BK160 := n0_
     have BK161 := n1_
     have HB := n2_
     clear n0_ n1_ n2_
     refine start_ (n := 6) (S := fun w' => w'.cell? ⟨gb160, 0, none⟩ = some (.int .i64 a0_0) ∧ w'.cell? ⟨gb160, 1, none⟩ = some (.int .i64 a0_1) ∧ w'.cell? ⟨gb161, 0, none⟩ = some (.int .i64 a1_0) ∧ w'.cell? ⟨gb161, 1, none⟩ = some (.int .i64 a1_1)) (ds := [4, 5]) #[false, false, false, false, false, false] (by kernel_rfl) rfl rfl ⟨hcz BK160 0, hcz BK160 1, hcz BK161 0, hcz BK161 1⟩ (fun hHeld => ?_)
     generalize w23.drew = w24 at BK160 BK161 HB hHeld ⊢
     refine take_ (i := 0) (N := some 5) (v := ?_) (a' := ?_) #[true, false, false, false, false, false] rfl rfl (by kernel_rfl) (fun _ _ _ h => h) (Or.inl ⟨by rfl, ?_⟩) hHeld ?_ ?_
     rotate_left
     ·
      rintro w' ⟨s0, s1, s2, s3⟩
      go_simp
      with_reducible rfl
     rotate_left
     ·
      simp only [Act.put, List.setIfInBounds_toArray, List.set_cons_zero, List.set_cons_succ, i64_w, i32_w]
      rfl
     refine take_ (i := 2) (N := some 7) (v := ?_) (a' := ?_) #[true, false, true, false, false, false] rfl rfl (by kernel_rfl) (fun _ _ _ h => h) (Or.inl ⟨by rfl, ?_⟩) hHeld ?_ ?_
     rotate_left
     ·
      rintro w' ⟨s0, s1, s2, s3⟩
      go_simp
      with_reducible rfl
     rotate_left
     ·
      simp only [Act.put, List.setIfInBounds_toArray, List.set_cons_zero, List.set_cons_succ, i64_w, i32_w]
      rfl
     refine one_ (i := 1) (N := some 6) #[true, true, true, false, false, false] rfl rfl (by kernel_rfl) (by decide) (fun K hK => ?_)
     refine goesQ Try.func59 #[.agg #[.int .i64 a0_0, .int .i64 a0_1]] ?_
     with_reducible refine (itv_sound.calls a0_0 a0_1 t162 t163 _ A3.out).mono ?_
     rintro e w25 ⟨rfl, hb⟩
     refine ⟨_, rfl, ?_⟩
     have n0_ := bst HB hb
     replace BK160 := bbw BK160 hb
     replace BK161 := bbw BK161 hb
     clear HB
     have HB := n0_
     clear n0_
     (try clear hb)
     refine hK.out _ _ ⟨hcz BK160 0, hcz BK160 1, hcz BK161 0, hcz BK161 1⟩ (fun hHeld => ?_)
     clear hK K
     refine normQ (N := 6) ?_
     refine one_ (i := 3) (N := some 8) #[true, true, true, true, false, false] rfl rfl (by kernel_rfl) (by decide) (fun K hK => ?_)
     refine goesQ Try.func59 #[.agg #[.int .i64 a1_0, .int .i64 a1_1]] ?_
     with_reducible refine (itv_sound.calls a1_0 a1_1 t164 t165 _ A4.out).mono ?_
     rintro e w26 ⟨rfl, hb⟩
     refine ⟨_, rfl, ?_⟩
     have n0_ := bst HB hb
     replace BK160 := bbw BK160 hb
     replace BK161 := bbw BK161 hb
     clear HB
     have HB := n0_
     clear n0_
     (try clear hb)
     refine hK.out _ _ ⟨hcz BK160 0, hcz BK160 1, hcz BK161 0, hcz BK161 1⟩ (fun hHeld => ?_)
     clear hK K
     refine normQ (N := 8) ?_
     refine last_ (i := 4) (N := none) #[true, true, true, true, true, false] rfl rfl (by kernel_rfl) (by decide) (fun K hK => ?_)
     have hs27 : w26.cell? ⟨gb160, 0, none⟩ = some (.int .i64 a0_0) := hcz BK160 0
     have hfs27 := bfz BK160 0
     have hns27_1 := nn NB161_160 NB160_161
     have hs28 : w26.cell? ⟨gb160, 1, none⟩ = some (.int .i64 a0_1) := hcz BK160 1
     have hfs28 := bfz BK160 1
     have hns28_1 := nn NB161_160 NB160_161
     refine skip_ (w1 := ?_) (by rfl) rfl ?_ ?_
     rotate_left
     ·
      go_simp
      rfl
     refine hK.out _ _ ?_
     clear hK K
     refine last_ (i := 5) (N := none) #[true, true, true, true, true, true] rfl rfl (by kernel_rfl) (by decide) (fun K hK => ?_)
     have hs29 : w26.cell? ⟨gb161, 0, none⟩ = some (.int .i64 a1_0) := hcz BK161 0
     have hfs29 := bfz BK161 0
     have hns29_0 := nn NB160_161 NB161_160
     have hs30 : w26.cell? ⟨gb161, 1, none⟩ = some (.int .i64 a1_1) := hcz BK161 1
     have hfs30 := bfz BK161 1
     have hns30_0 := nn NB160_161 NB161_160
     refine skip_ (w1 := ?_) (by rfl) rfl ?_ ?_
     rotate_left
     ·
      go_simp
      rfl
     refine hK.out _ _ ?_
     clear hK K
     refine done_ (by kernel_rfl) ?_
     have hnb31 := nn NB160_161 NB161_160
     have hcz32_0 := hcz BK160 0
     have hcz32_1 := hcz BK160 1
     have hfz32_0 := bfz BK160 0
     have hfz32_1 := bfz BK160 1
     try go_wp2_with (first | ((with_reducible refine gate_callee (f := 21) rfl ?_); refine goesL_ (some 10) rfl rfl Try.func21 (by kernel_rfl) rfl #[.agg #[.int .i64 t162, .int .i64 t163]] rfl (by (try simp only [List.map_toArray, List.map_cons, List.map_nil]); first | done | rfl | (simp only [List.length_drop, List.length_take]; rfl)) ?_; (with_reducible refine (itv_None.calls t162 t163 false _ A5.out).mono ?_); rintro e w33 ⟨rfl, hb⟩; refine ⟨_, rfl, ?_⟩; have n0_ := Aside0.mk (blk_below (g := gb160) (o := .cells #[.int .i64 t162, .int .i64 t163] 23 (0, 0)) (by refine pkB ?_; refine blk_far ?_ NB160_161.out _; refine pkB ?_; refine blk_far ?_ NB160_161.out _; refine pkB ?_; refine bput (cs := #[.int .i64 t162, .int .i64 a0_1]) 1 ?_; refine bput (cs := #[.int .i64 a0_0, .int .i64 a0_1]) 0 ?_; exact BK160.out) hb); have n1_ := Aside0.mk (blk_below (g := gb161) (o := .cells #[.int .i64 t164, .int .i64 t165] 23 (0, 0)) (by refine pkB ?_; refine bput (cs := #[.int .i64 t164, .int .i64 a1_1]) 1 ?_; refine bput (cs := #[.int .i64 a1_0, .int .i64 a1_1]) 0 ?_; refine blk_far ?_ NB161_160.out _; refine pkB ?_; refine blk_far ?_ NB161_160.out _; refine pkB ?_; exact BK161.out) hb); have n2_ := bst HB hb; clear BK160; clear BK161; clear HB; have BK160 := n0_; have BK161 := n1_; have HB := n2_; clear n0_ n1_ n2_; (try clear hb); have hcz34_0 := hcz BK161 0; have hcz34_1 := hcz BK161 1; have hfz34_0 := bfz BK161 0; have hfz34_1 := bfz BK161 1; have hcz35_0 := hcz BK160 0; have hcz35_1 := hcz BK160 1; have hfz35_0 := bfz BK160 0; have hfz35_1 := bfz BK160 1) | (go_at_call 21; (with_reducible refine (itv_None.calls t164 t165 t167 _ A21.out).mono ?_); rintro e w36 ⟨rfl, hb⟩; have n0_ := bst HB hb; replace BK160 := bbw BK160 hb; replace BK161 := bbw BK161 hb; clear HB; have HB := n0_; clear n0_; (try clear hb)))
     go_ret
     exact ⟨by first | rfl | (simp [errW_none, errW_some] <;> rfl) | (simp [*, errW_none, errW_some] <;> rfl) | kernel_rfl, (bpk HB).out⟩
    ·
     rw [if_neg c20] at H
     have c20b0 : decide (t163 ≤ t165) = false := decide_eq_false c20
     clear c20
     obtain rfl := Option.some.inj H
     go_enter Try.func24, Try.ntmps24
     try go_wp2_with (first | ((with_reducible refine gate_dst (N := 2) rfl ?_); refine box_event ?hg (N := 2) ?hd (cs := #[.int .i64 a0_0, .int .i64 a0_1]) (t := 23) ?hr ?_; (case hd => rfl); (case hg => rfl); (case hr => first | (go_simp; done) | (go_simp; rfl)); intro gb160 hg w37 hbox hb; have n0_ := bst HB hb; have n1_ := Aside0.mk (hbox); have n2_ := bsz HB hg; have n3_ := bsz HB hg; clear HB; have HB := n0_; have BK160 := n1_; have GW160 := n2_; have GE160 := n3_; clear n0_ n1_ n2_ n3_; clear hb hbox hg) | ((with_reducible refine gate_dst (N := 3) rfl ?_); refine box_event ?hg (N := 3) ?hd (cs := #[.int .i64 a1_0, .int .i64 a1_1]) (t := 23) ?hr ?_; (case hd => rfl); (case hg => rfl); (case hr => first | (go_simp; done) | (go_simp; rfl)); intro gb161 hg w38 hbox hb; have n0_ := bst HB hb; have n1_ := Aside0.mk (hbox); have n2_ := bsz HB hg; have n3_ := bsz HB hg; have n4_ := bn1 BK160 hg; have n5_ := bn2 BK160 hg; replace BK160 := bbw BK160 hb; clear HB; have HB := n0_; have BK161 := n1_; have GW161 := n2_; have GE161 := n3_; have NB160_161 := n4_; have NB161_160 := n5_; clear n0_ n1_ n2_ n3_ n4_ n5_; clear hb hbox hg))
     have n0_ := Aside0.mk (blk_drew BK160.out)
     have n1_ := Aside0.mk (blk_drew BK161.out)
     have n2_ := Aside0.mk (below_drew1 HB.out)
     clear BK160
     clear BK161
     clear HB
     have BK160 := n0_
     have BK161 := n1_
     have HB := n2_
     clear n0_ n1_ n2_
     refine start_ (n := 6) (S := fun w' => w'.cell? ⟨gb160, 0, none⟩ = some (.int .i64 a0_0) ∧ w'.cell? ⟨gb160, 1, none⟩ = some (.int .i64 a0_1) ∧ w'.cell? ⟨gb161, 0, none⟩ = some (.int .i64 a1_0) ∧ w'.cell? ⟨gb161, 1, none⟩ = some (.int .i64 a1_1)) (ds := [4, 5]) #[false, false, false, false, false, false] (by kernel_rfl) rfl rfl ⟨hcz BK160 0, hcz BK160 1, hcz BK161 0, hcz BK161 1⟩ (fun hHeld => ?_)
     generalize w38.drew = w39 at BK160 BK161 HB hHeld ⊢
     refine take_ (i := 0) (N := some 5) (v := ?_) (a' := ?_) #[true, false, false, false, false, false] rfl rfl (by kernel_rfl) (fun _ _ _ h => h) (Or.inl ⟨by rfl, ?_⟩) hHeld ?_ ?_
     rotate_left
     ·
      rintro w' ⟨s0, s1, s2, s3⟩
      go_simp
      with_reducible rfl
     rotate_left
     ·
      simp only [Act.put, List.setIfInBounds_toArray, List.set_cons_zero, List.set_cons_succ, i64_w, i32_w]
      rfl
     refine take_ (i := 2) (N := some 7) (v := ?_) (a' := ?_) #[true, false, true, false, false, false] rfl rfl (by kernel_rfl) (fun _ _ _ h => h) (Or.inl ⟨by rfl, ?_⟩) hHeld ?_ ?_
     rotate_left
     ·
      rintro w' ⟨s0, s1, s2, s3⟩
      go_simp
      with_reducible rfl
     rotate_left
     ·
      simp only [Act.put, List.setIfInBounds_toArray, List.set_cons_zero, List.set_cons_succ, i64_w, i32_w]
      rfl
     refine one_ (i := 1) (N := some 6) #[true, true, true, false, false, false] rfl rfl (by kernel_rfl) (by decide) (fun K hK => ?_)
     refine goesQ Try.func59 #[.agg #[.int .i64 a0_0, .int .i64 a0_1]] ?_
     with_reducible refine (itv_sound.calls a0_0 a0_1 t162 t163 _ A3.out).mono ?_
     rintro e w40 ⟨rfl, hb⟩
     refine ⟨_, rfl, ?_⟩
     have n0_ := bst HB hb
     replace BK160 := bbw BK160 hb
     replace BK161 := bbw BK161 hb
     clear HB
     have HB := n0_
     clear n0_
     (try clear hb)
     refine hK.out _ _ ⟨hcz BK160 0, hcz BK160 1, hcz BK161 0, hcz BK161 1⟩ (fun hHeld => ?_)
     clear hK K
     refine normQ (N := 6) ?_
     refine one_ (i := 3) (N := some 8) #[true, true, true, true, false, false] rfl rfl (by kernel_rfl) (by decide) (fun K hK => ?_)
     refine goesQ Try.func59 #[.agg #[.int .i64 a1_0, .int .i64 a1_1]] ?_
     with_reducible refine (itv_sound.calls a1_0 a1_1 t164 t165 _ A4.out).mono ?_
     rintro e w41 ⟨rfl, hb⟩
     refine ⟨_, rfl, ?_⟩
     have n0_ := bst HB hb
     replace BK160 := bbw BK160 hb
     replace BK161 := bbw BK161 hb
     clear HB
     have HB := n0_
     clear n0_
     (try clear hb)
     refine hK.out _ _ ⟨hcz BK160 0, hcz BK160 1, hcz BK161 0, hcz BK161 1⟩ (fun hHeld => ?_)
     clear hK K
     refine normQ (N := 8) ?_
     refine last_ (i := 4) (N := none) #[true, true, true, true, true, false] rfl rfl (by kernel_rfl) (by decide) (fun K hK => ?_)
     have hs42 : w41.cell? ⟨gb160, 0, none⟩ = some (.int .i64 a0_0) := hcz BK160 0
     have hfs42 := bfz BK160 0
     have hns42_1 := nn NB161_160 NB160_161
     have hs43 : w41.cell? ⟨gb160, 1, none⟩ = some (.int .i64 a0_1) := hcz BK160 1
     have hfs43 := bfz BK160 1
     have hns43_1 := nn NB161_160 NB160_161
     refine skip_ (w1 := ?_) (by rfl) rfl ?_ ?_
     rotate_left
     ·
      go_simp
      rfl
     refine hK.out _ _ ?_
     clear hK K
     refine last_ (i := 5) (N := none) #[true, true, true, true, true, true] rfl rfl (by kernel_rfl) (by decide) (fun K hK => ?_)
     have hs44 : w41.cell? ⟨gb161, 0, none⟩ = some (.int .i64 a1_0) := hcz BK161 0
     have hfs44 := bfz BK161 0
     have hns44_0 := nn NB160_161 NB161_160
     have hs45 : w41.cell? ⟨gb161, 1, none⟩ = some (.int .i64 a1_1) := hcz BK161 1
     have hfs45 := bfz BK161 1
     have hns45_0 := nn NB160_161 NB161_160
     refine skip_ (w1 := ?_) (by rfl) rfl ?_ ?_
     rotate_left
     ·
      go_simp
      rfl
     refine hK.out _ _ ?_
     clear hK K
     refine done_ (by kernel_rfl) ?_
     have hnb46 := nn NB160_161 NB161_160
     have hcz47_0 := hcz BK160 0
     have hcz47_1 := hcz BK160 1
     have hfz47_0 := bfz BK160 0
     have hfz47_1 := bfz BK160 1
     try go_wp2_with (first | ((with_reducible refine gate_callee (f := 21) rfl ?_); refine goesL_ (some 10) rfl rfl Try.func21 (by kernel_rfl) rfl #[.agg #[.int .i64 t162, .int .i64 t163]] rfl (by (try simp only [List.map_toArray, List.map_cons, List.map_nil]); first | done | rfl | (simp only [List.length_drop, List.length_take]; rfl)) ?_; (with_reducible refine (itv_None.calls t162 t163 false _ A5.out).mono ?_); rintro e w48 ⟨rfl, hb⟩; refine ⟨_, rfl, ?_⟩; have n0_ := Aside0.mk (blk_below (g := gb160) (o := .cells #[.int .i64 t162, .int .i64 t163] 23 (0, 0)) (by refine pkB ?_; refine blk_far ?_ NB160_161.out _; refine pkB ?_; refine blk_far ?_ NB160_161.out _; refine pkB ?_; refine bput (cs := #[.int .i64 t162, .int .i64 a0_1]) 1 ?_; refine bput (cs := #[.int .i64 a0_0, .int .i64 a0_1]) 0 ?_; exact BK160.out) hb); have n1_ := Aside0.mk (blk_below (g := gb161) (o := .cells #[.int .i64 t164, .int .i64 t165] 23 (0, 0)) (by refine pkB ?_; refine bput (cs := #[.int .i64 t164, .int .i64 a1_1]) 1 ?_; refine bput (cs := #[.int .i64 a1_0, .int .i64 a1_1]) 0 ?_; refine blk_far ?_ NB161_160.out _; refine pkB ?_; refine blk_far ?_ NB161_160.out _; refine pkB ?_; exact BK161.out) hb); have n2_ := bst HB hb; clear BK160; clear BK161; clear HB; have BK160 := n0_; have BK161 := n1_; have HB := n2_; clear n0_ n1_ n2_; (try clear hb); have hcz49_0 := hcz BK161 0; have hcz49_1 := hcz BK161 1; have hfz49_0 := bfz BK161 0; have hfz49_1 := bfz BK161 1; have hcz50_0 := hcz BK160 0; have hcz50_1 := hcz BK160 1; have hfz50_0 := bfz BK160 0; have hfz50_1 := bfz BK160 1))
     go_ret
     exact ⟨by first | rfl | (simp [errW_none, errW_some] <;> rfl) | (simp [*, errW_none, errW_some] <;> rfl) | kernel_rfl, (bpk HB).out⟩
   ·
    rw [if_neg c19] at H
    have c19b0 : decide (t164 ≤ t162) = false := decide_eq_false c19
    clear c19
    obtain rfl := Option.some.inj H
    go_enter Try.func24, Try.ntmps24
    try go_wp2_with (first | ((with_reducible refine gate_dst (N := 2) rfl ?_); refine box_event ?hg (N := 2) ?hd (cs := #[.int .i64 a0_0, .int .i64 a0_1]) (t := 23) ?hr ?_; (case hd => rfl); (case hg => rfl); (case hr => first | (go_simp; done) | (go_simp; rfl)); intro gb160 hg w51 hbox hb; have n0_ := bst HB hb; have n1_ := Aside0.mk (hbox); have n2_ := bsz HB hg; have n3_ := bsz HB hg; clear HB; have HB := n0_; have BK160 := n1_; have GW160 := n2_; have GE160 := n3_; clear n0_ n1_ n2_ n3_; clear hb hbox hg) | ((with_reducible refine gate_dst (N := 3) rfl ?_); refine box_event ?hg (N := 3) ?hd (cs := #[.int .i64 a1_0, .int .i64 a1_1]) (t := 23) ?hr ?_; (case hd => rfl); (case hg => rfl); (case hr => first | (go_simp; done) | (go_simp; rfl)); intro gb161 hg w52 hbox hb; have n0_ := bst HB hb; have n1_ := Aside0.mk (hbox); have n2_ := bsz HB hg; have n3_ := bsz HB hg; have n4_ := bn1 BK160 hg; have n5_ := bn2 BK160 hg; replace BK160 := bbw BK160 hb; clear HB; have HB := n0_; have BK161 := n1_; have GW161 := n2_; have GE161 := n3_; have NB160_161 := n4_; have NB161_160 := n5_; clear n0_ n1_ n2_ n3_ n4_ n5_; clear hb hbox hg))
    have n0_ := Aside0.mk (blk_drew BK160.out)
    have n1_ := Aside0.mk (blk_drew BK161.out)
    have n2_ := Aside0.mk (below_drew1 HB.out)
    clear BK160
    clear BK161
    clear HB
    have BK160 := n0_
    have BK161 := n1_
    have HB := n2_
    clear n0_ n1_ n2_
    refine start_ (n := 6) (S := fun w' => w'.cell? ⟨gb160, 0, none⟩ = some (.int .i64 a0_0) ∧ w'.cell? ⟨gb160, 1, none⟩ = some (.int .i64 a0_1) ∧ w'.cell? ⟨gb161, 0, none⟩ = some (.int .i64 a1_0) ∧ w'.cell? ⟨gb161, 1, none⟩ = some (.int .i64 a1_1)) (ds := [4, 5]) #[false, false, false, false, false, false] (by kernel_rfl) rfl rfl ⟨hcz BK160 0, hcz BK160 1, hcz BK161 0, hcz BK161 1⟩ (fun hHeld => ?_)
    generalize w52.drew = w53 at BK160 BK161 HB hHeld ⊢
    refine take_ (i := 0) (N := some 5) (v := ?_) (a' := ?_) #[true, false, false, false, false, false] rfl rfl (by kernel_rfl) (fun _ _ _ h => h) (Or.inl ⟨by rfl, ?_⟩) hHeld ?_ ?_
    rotate_left
    ·
     rintro w' ⟨s0, s1, s2, s3⟩
     go_simp
     with_reducible rfl
    rotate_left
    ·
     simp only [Act.put, List.setIfInBounds_toArray, List.set_cons_zero, List.set_cons_succ, i64_w, i32_w]
     rfl
    refine take_ (i := 2) (N := some 7) (v := ?_) (a' := ?_) #[true, false, true, false, false, false] rfl rfl (by kernel_rfl) (fun _ _ _ h => h) (Or.inl ⟨by rfl, ?_⟩) hHeld ?_ ?_
    rotate_left
    ·
     rintro w' ⟨s0, s1, s2, s3⟩
     go_simp
     with_reducible rfl
    rotate_left
    ·
     simp only [Act.put, List.setIfInBounds_toArray, List.set_cons_zero, List.set_cons_succ, i64_w, i32_w]
     rfl
    refine one_ (i := 1) (N := some 6) #[true, true, true, false, false, false] rfl rfl (by kernel_rfl) (by decide) (fun K hK => ?_)
    refine goesQ Try.func59 #[.agg #[.int .i64 a0_0, .int .i64 a0_1]] ?_
    with_reducible refine (itv_sound.calls a0_0 a0_1 t162 t163 _ A3.out).mono ?_
    rintro e w54 ⟨rfl, hb⟩
    refine ⟨_, rfl, ?_⟩
    have n0_ := bst HB hb
    replace BK160 := bbw BK160 hb
    replace BK161 := bbw BK161 hb
    clear HB
    have HB := n0_
    clear n0_
    (try clear hb)
    refine hK.out _ _ ⟨hcz BK160 0, hcz BK160 1, hcz BK161 0, hcz BK161 1⟩ (fun hHeld => ?_)
    clear hK K
    refine normQ (N := 6) ?_
    refine one_ (i := 3) (N := some 8) #[true, true, true, true, false, false] rfl rfl (by kernel_rfl) (by decide) (fun K hK => ?_)
    refine goesQ Try.func59 #[.agg #[.int .i64 a1_0, .int .i64 a1_1]] ?_
    with_reducible refine (itv_sound.calls a1_0 a1_1 t164 t165 _ A4.out).mono ?_
    rintro e w55 ⟨rfl, hb⟩
    refine ⟨_, rfl, ?_⟩
    have n0_ := bst HB hb
    replace BK160 := bbw BK160 hb
    replace BK161 := bbw BK161 hb
    clear HB
    have HB := n0_
    clear n0_
    (try clear hb)
    refine hK.out _ _ ⟨hcz BK160 0, hcz BK160 1, hcz BK161 0, hcz BK161 1⟩ (fun hHeld => ?_)
    clear hK K
    refine normQ (N := 8) ?_
    refine last_ (i := 4) (N := none) #[true, true, true, true, true, false] rfl rfl (by kernel_rfl) (by decide) (fun K hK => ?_)
    have hs56 : w55.cell? ⟨gb160, 0, none⟩ = some (.int .i64 a0_0) := hcz BK160 0
    have hfs56 := bfz BK160 0
    have hns56_1 := nn NB161_160 NB160_161
    have hs57 : w55.cell? ⟨gb160, 1, none⟩ = some (.int .i64 a0_1) := hcz BK160 1
    have hfs57 := bfz BK160 1
    have hns57_1 := nn NB161_160 NB160_161
    refine skip_ (w1 := ?_) (by rfl) rfl ?_ ?_
    rotate_left
    ·
     go_simp
     rfl
    refine hK.out _ _ ?_
    clear hK K
    refine last_ (i := 5) (N := none) #[true, true, true, true, true, true] rfl rfl (by kernel_rfl) (by decide) (fun K hK => ?_)
    have hs58 : w55.cell? ⟨gb161, 0, none⟩ = some (.int .i64 a1_0) := hcz BK161 0
    have hfs58 := bfz BK161 0
    have hns58_0 := nn NB160_161 NB161_160
    have hs59 : w55.cell? ⟨gb161, 1, none⟩ = some (.int .i64 a1_1) := hcz BK161 1
    have hfs59 := bfz BK161 1
    have hns59_0 := nn NB160_161 NB161_160
    refine skip_ (w1 := ?_) (by rfl) rfl ?_ ?_
    rotate_left
    ·
     go_simp
     rfl
    refine hK.out _ _ ?_
    clear hK K
    refine done_ (by kernel_rfl) ?_
    have hnb60 := nn NB160_161 NB161_160
    have hcz61_0 := hcz BK160 0
    have hcz61_1 := hcz BK160 1
    have hfz61_0 := bfz BK160 0
    have hfz61_1 := bfz BK160 1
    try go_wp2_with (first | ((with_reducible refine gate_callee (f := 21) rfl ?_); refine goesL_ (some 10) rfl rfl Try.func21 (by kernel_rfl) rfl #[.agg #[.int .i64 t162, .int .i64 t163]] rfl (by (try simp only [List.map_toArray, List.map_cons, List.map_nil]); first | done | rfl | (simp only [List.length_drop, List.length_take]; rfl)) ?_; (with_reducible refine (itv_None.calls t162 t163 false _ A5.out).mono ?_); rintro e w62 ⟨rfl, hb⟩; refine ⟨_, rfl, ?_⟩; have n0_ := Aside0.mk (blk_below (g := gb160) (o := .cells #[.int .i64 t162, .int .i64 t163] 23 (0, 0)) (by refine pkB ?_; refine blk_far ?_ NB160_161.out _; refine pkB ?_; refine blk_far ?_ NB160_161.out _; refine pkB ?_; refine bput (cs := #[.int .i64 t162, .int .i64 a0_1]) 1 ?_; refine bput (cs := #[.int .i64 a0_0, .int .i64 a0_1]) 0 ?_; exact BK160.out) hb); have n1_ := Aside0.mk (blk_below (g := gb161) (o := .cells #[.int .i64 t164, .int .i64 t165] 23 (0, 0)) (by refine pkB ?_; refine bput (cs := #[.int .i64 t164, .int .i64 a1_1]) 1 ?_; refine bput (cs := #[.int .i64 a1_0, .int .i64 a1_1]) 0 ?_; refine blk_far ?_ NB161_160.out _; refine pkB ?_; refine blk_far ?_ NB161_160.out _; refine pkB ?_; exact BK161.out) hb); have n2_ := bst HB hb; clear BK160; clear BK161; clear HB; have BK160 := n0_; have BK161 := n1_; have HB := n2_; clear n0_ n1_ n2_; (try clear hb); have hcz63_0 := hcz BK161 0; have hcz63_1 := hcz BK161 1; have hfz63_0 := bfz BK161 0; have hfz63_1 := bfz BK161 1; have hcz64_0 := hcz BK160 0; have hcz64_1 := hcz BK160 1; have hfz64_0 := bfz BK160 0; have hfz64_1 := bfz BK160 1))
    go_ret
    exact ⟨by first | rfl | (simp [errW_none, errW_some] <;> rfl) | (simp [*, errW_none, errW_some] <;> rfl) | kernel_rfl, (bpk HB).out⟩
end Go.Proofs.Ytbbnpipmjadpoaa.P
