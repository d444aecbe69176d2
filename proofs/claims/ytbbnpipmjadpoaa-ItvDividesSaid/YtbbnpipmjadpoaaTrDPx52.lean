/- What the law's proof needs of Px52. -/
import Derived.Test.YtbbnpipmjadpoaaTrDU2
import Derived.Test.YtbbnpipmjadpoaaTrDU
import Derived.Test.YtbbnpipmjadpoaaTrDPx0
import Derived.Test.YtbbnpipmjadpoaaTrDPx1
import Derived.Test.YtbbnpipmjadpoaaTrDPx18
import Derived.Test.YtbbnpipmjadpoaaTrDPx34
import Derived.Test.YtbbnpipmjadpoaaTrDPx46
import Derived.Test.YtbbnpipmjadpoaaTrDPx50
import Derived.Test.YtbbnpipmjadpoaaTrDPx51
-- PRINTED by print.py (a twelfth state) out of the translation. Not trusted: Lean checks it.
namespace Go.Proofs.Ytbbnpipmjadpoaa.P
open Go.RowKit Go.Proofs.YtbbnpipmjadpoaaW.PrintWords Go.Proofs.YtbbnpipmjadpoaaW.PrintLast Go.Proofs.YtbbnpipmjadpoaaW.PrintMore Go.Proofs.YtbbnpipmjadpoaaO
attribute [local go_sem] max2_int min2_int max_two min_two max_three min_three max_four min_four   -- for this text's walks alone
set_option linter.unusedVariables false
set_option linter.unusedSimpArgs false
attribute [local go_sem high] eqA23
def gimballaw02_ItvDivides.f (k : Nat) (a0_0 : Int) (a0_1 : Int) (a1_0 : Int) (a1_1 : Int) : Option (Bool) := (itv_Div.f k a0_0 a0_1 a1_0 a1_1).bind fun bt1152 => ((gimbalref02_Div.f k a0_0 a0_1 a1_0 a1_1).bind fun bt1154 => (if (bt1152.1 == bt1154.1 && (bt1152.2 == bt1154.2)) = true then ((itv_Mod.f k a0_0 a0_1 a1_0 a1_1).bind fun bt1156 => ((gimbalref02_Mod.f k a0_0 a0_1 a1_0 a1_1).bind fun bt1158 => (if (bt1156.1 == bt1158.1 && (bt1156.2 == bt1158.2)) = true then ((gimballaw02_awake.f k).bind fun t1160 => (some t1160)) else (some false)))) else (some false)))
def gimballaw02_ItvDivides.T1 : Bool × List (List Nat × List Nat) := (true, [([], []), ([], []), ([0, 1], [0, 1]), ([], []), ([], []), ([3, 4, 2], [3, 4]), ([2, 5], [2, 5]), ([6, 5], [6]), ([7], [7]), ([7], [7]), ([8, 9, 7, 7], [7, 8, 9]), ([7], [7]), ([7], [7]), ([11, 12, 10, 7], [7, 11, 12]), ([10, 13, 7], [7, 10, 13]), ([7, 14], [7, 14]), ([15, 13], [15]), ([16, 16], [16]), ([16, 17], [16, 17]), ([18, 17, 0, 1, 2, 3, 4, 5, 6, 7, 8, 9, 10, 11, 12, 13, 14, 15, 16, 17, 18], [18])])
def gimballaw02_ItvDivides.B1 : List Nat := [0, 0, 3, 0, 0, 31, 63, 127, 255, 255, 1023, 255, 255, 8191, 16383, 32767, 65535, 131071, 262143, 524287]
theorem gimballaw02_ItvDivides.tab1 : rtab .any (opsOf Try.f10 1) = gimballaw02_ItvDivides.T1 := by kernel_rfl
theorem gimballaw02_ItvDivides.bits1 : waitsOk gimballaw02_ItvDivides.T1.2 gimballaw02_ItvDivides.B1 = true := by kernel_rfl
set_option maxHeartbeats 8000000 in
set_option maxRecDepth 100000 in
theorem gimballaw02_ItvDivides.calls (k : Nat) (a0_0 : Int) (a0_1 : Int) (a1_0 : Int) (a1_1 : Int) (w : World) (h : gimballaw02_ItvDivides.f k a0_0 a0_1 a1_0 a1_1 = some true) :
    Calls Try.prog 10 #[.agg #[.int .i64 a0_0, .int .i64 a0_1], .agg #[.int .i64 a1_0, .int .i64 a1_1]] w fun e w' => e = .returned (.bool true) ∧ Below w.heap.size w w' := by
  have hu23 := Try.underlying23
  have HB := Aside0.mk (Below.refl w.heap.size w)
  have H : ((itv_Div.f k a0_0 a0_1 a1_0 a1_1).bind fun bt1152 => ((gimbalref02_Div.f k a0_0 a0_1 a1_0 a1_1).bind fun bt1154 => (if (bt1152.1 == bt1154.1 && (bt1152.2 == bt1154.2)) = true then ((itv_Mod.f k a0_0 a0_1 a1_0 a1_1).bind fun bt1156 => ((gimbalref02_Mod.f k a0_0 a0_1 a1_0 a1_1).bind fun bt1158 => (if (bt1156.1 == bt1158.1 && (bt1156.2 == bt1158.2)) = true then ((gimballaw02_awake.f k).bind fun t1160 => (some t1160)) else (some false)))) else (some false)))) = some true := h
  clear h
  replace H := Option.bind_eq_some_iff.mp H
  obtain ⟨⟨t1152, t1153⟩, A30, H⟩ := H
  replace H : ((gimbalref02_Div.f k a0_0 a0_1 a1_0 a1_1).bind fun bt1154 => (if (t1152 == bt1154.1 && (t1153 == bt1154.2)) = true then ((itv_Mod.f k a0_0 a0_1 a1_0 a1_1).bind fun bt1156 => ((gimbalref02_Mod.f k a0_0 a0_1 a1_0 a1_1).bind fun bt1158 => (if (bt1156.1 == bt1158.1 && (bt1156.2 == bt1158.2)) = true then ((gimballaw02_awake.f k).bind fun t1160 => (some t1160)) else (some false)))) else (some false))) = some true := H
  have A3 := Aside0.mk A30
  clear A30
  replace H := Option.bind_eq_some_iff.mp H
  obtain ⟨⟨t1154, t1155⟩, A40, H⟩ := H
  replace H : (if (t1152 == t1154 && (t1153 == t1155)) = true then ((itv_Mod.f k a0_0 a0_1 a1_0 a1_1).bind fun bt1156 => ((gimbalref02_Mod.f k a0_0 a0_1 a1_0 a1_1).bind fun bt1158 => (if (bt1156.1 == bt1158.1 && (bt1156.2 == bt1158.2)) = true then ((gimballaw02_awake.f k).bind fun t1160 => (some t1160)) else (some false)))) else (some false)) = some true := H
  have A4 := Aside0.mk A40
  clear A40
  by_cases c5 : (t1152 == t1154 && (t1153 == t1155)) = true
  ·
   rw [if_pos c5] at H
   have c5b0 : (t1152 == t1154 && (t1153 == t1155)) = true := c5
   (try (have c5b1 : decide (t1152 = t1154 && (t1153 == t1155)) = true := by simpa using c5))
   (try (have c5b2 : (t1152 == t1154 && (t1153 == t1155)) = true := by simpa using c5))
   clear c5
   replace H := Option.bind_eq_some_iff.mp H
   obtain ⟨⟨t1156, t1157⟩, A60, H⟩ := H
   replace H : ((gimbalref02_Mod.f k a0_0 a0_1 a1_0 a1_1).bind fun bt1158 => (if (t1156 == bt1158.1 && (t1157 == bt1158.2)) = true then ((gimballaw02_awake.f k).bind fun t1160 => (some t1160)) else (some false))) = some true := H
   have A6 := Aside0.mk A60
   clear A60
   replace H := Option.bind_eq_some_iff.mp H
   obtain ⟨⟨t1158, t1159⟩, A70, H⟩ := H
   replace H : (if (t1156 == t1158 && (t1157 == t1159)) = true then ((gimballaw02_awake.f k).bind fun t1160 => (some t1160)) else (some false)) = some true := H
   have A7 := Aside0.mk A70
   clear A70
   by_cases c8 : (t1156 == t1158 && (t1157 == t1159)) = true
   ·
    rw [if_pos c8] at H
    have c8b0 : (t1156 == t1158 && (t1157 == t1159)) = true := c8
    (try (have c8b1 : decide (t1156 = t1158 && (t1157 == t1159)) = true := by simpa using c8))
    (try (have c8b2 : (t1156 == t1158 && (t1157 == t1159)) = true := by simpa using c8))
    clear c8
    replace H := Option.bind_eq_some_iff.mp H
    obtain ⟨t1160, A90, H⟩ := H
    replace H : (some t1160) = some true := H
    have A9 := Aside0.mk A90
    clear A90
    have hret_ := Option.some.inj H
    clear H
    go_enter Try.func10, Try.ntmps10
    try go_wp2_with (first | ((with_reducible refine gate_dst (N := 2) rfl ?_); refine box_event ?hg (N := 2) ?hd (cs := #[.int .i64 a0_0, .int .i64 a0_1]) (t := 23) ?hr ?_; (case hd => rfl); (case hg => rfl); (case hr => first | (go_simp; done) | (go_simp; rfl)); intro gb1150 hg w10 hbox hb; have n0_ := bst HB hb; have n1_ := Aside0.mk (hbox); have n2_ := bsz HB hg; have n3_ := bsz HB hg; clear HB; have HB := n0_; have BK1150 := n1_; have GW1150 := n2_; have GE1150 := n3_; clear n0_ n1_ n2_ n3_; clear hb hbox hg) | ((with_reducible refine gate_dst (N := 3) rfl ?_); refine box_event ?hg (N := 3) ?hd (cs := #[.int .i64 a1_0, .int .i64 a1_1]) (t := 23) ?hr ?_; (case hd => rfl); (case hg => rfl); (case hr => first | (go_simp; done) | (go_simp; rfl)); intro gb1151 hg w11 hbox hb; have n0_ := bst HB hb; have n1_ := Aside0.mk (hbox); have n2_ := bsz HB hg; have n3_ := bsz HB hg; have n4_ := bn1 BK1150 hg; have n5_ := bn2 BK1150 hg; replace BK1150 := bbw BK1150 hb; clear HB; have HB := n0_; have BK1151 := n1_; have GW1151 := n2_; have GE1151 := n3_; have NB1150_1151 := n4_; have NB1151_1150 := n5_; clear n0_ n1_ n2_ n3_ n4_ n5_; clear hb hbox hg))
    have n0_ := Aside0.mk (blk_drew BK1150.out)
    have n1_ := Aside0.mk (blk_drew BK1151.out)
    have n2_ := Aside0.mk (below_drew1 HB.out)
    clear BK1150
    clear BK1151
    clear HB
    have BK1150 := n0_
    have BK1151 := n1_
    have HB := n2_
    clear n0_ n1_ n2_
    refine start_ (n := 20) (S := fun w' => w'.cell? ⟨gb1150, 0, none⟩ = some (.int .i64 a0_0) ∧ w'.cell? ⟨gb1150, 1, none⟩ = some (.int .i64 a0_1) ∧ w'.cell? ⟨gb1151, 0, none⟩ = some (.int .i64 a1_0) ∧ w'.cell? ⟨gb1151, 1, none⟩ = some (.int .i64 a1_1)) (ds := []) #[false, false, false, false, false, false, false, false, false, false, false, false, false, false, false, false, false, false, false, false] (by kernel_rfl) rfl rfl ⟨hcz BK1150 0, hcz BK1150 1, hcz BK1151 0, hcz BK1151 1⟩ (fun hHeld => ?_); refine with_tabW gimballaw02_ItvDivides.tab1 gimballaw02_ItvDivides.bits1 (fun HT_ HW_ => ?_)
    generalize w11.drew = w12 at BK1150 BK1151 HB hHeld ⊢
    refine takeQ 0 5 HT_.out HW_.out hHeld ?_
    refine takeQ 1 6 HT_.out HW_.out hHeld ?_
    refine takeQ 3 8 HT_.out HW_.out hHeld ?_
    refine takeQ 4 9 HT_.out HW_.out hHeld ?_
    refine oneQ 2 7 HT_.out (fun K hK => ?_)
    refine goesQ Try.func45 #[.agg #[.int .i64 a0_0, .int .i64 a0_1], .agg #[.int .i64 a1_0, .int .i64 a1_1]] ?_
    with_reducible refine (itv_Div.calls k a0_0 a0_1 a1_0 a1_1 t1152 t1153 _ A3.out).mono ?_
    rintro e w13 ⟨rfl, hb⟩
    refine ⟨_, rfl, ?_⟩
    have n0_ := bst HB hb
    replace BK1150 := bbw BK1150 hb
    replace BK1151 := bbw BK1151 hb
    clear HB
    have HB := n0_
    clear n0_
    (try clear hb)
    (try clear hb2)
    (try clear hk)
    (try clear hi)
    refine hK.out _ _ ⟨hcz BK1150 0, hcz BK1150 1, hcz BK1151 0, hcz BK1151 1⟩ (fun hHeld => ?_)
    clear hK K
    refine normQ (N := 7) ?_
    refine oneQ 5 10 HT_.out (fun K hK => ?_)
    refine goesQ Try.func55 #[.agg #[.int .i64 a0_0, .int .i64 a0_1], .agg #[.int .i64 a1_0, .int .i64 a1_1]] ?_
    with_reducible refine (gimbalref02_Div.calls k a0_0 a0_1 a1_0 a1_1 t1154 t1155 _ A4.out).mono ?_
    rintro e w14 ⟨rfl, hb⟩
    refine ⟨_, rfl, ?_⟩
    have n0_ := bst HB hb
    replace BK1150 := bbw BK1150 hb
    replace BK1151 := bbw BK1151 hb
    clear HB
    have HB := n0_
    clear n0_
    (try clear hb)
    (try clear hb2)
    (try clear hk)
    (try clear hi)
    refine hK.out _ _ ⟨hcz BK1150 0, hcz BK1150 1, hcz BK1151 0, hcz BK1151 1⟩ (fun hHeld => ?_)
    clear hK K
    refine normQ (N := 10) ?_
    refine pureQ 6 11 HT_.out ?_
    refine pureQ 7 12 HT_.out ?_
    refine takeQ 8 13 HT_.out HW_.out hHeld ?_
    refine takeQ 9 14 HT_.out HW_.out hHeld ?_
    refine takeQ 11 16 HT_.out HW_.out hHeld ?_
    refine takeQ 12 17 HT_.out HW_.out hHeld ?_
    refine oneQ 10 15 HT_.out (fun K hK => ?_)
    refine goesQ Try.func56 #[.agg #[.int .i64 a0_0, .int .i64 a0_1], .agg #[.int .i64 a1_0, .int .i64 a1_1]] ?_
    with_reducible refine (itv_Mod.calls k a0_0 a0_1 a1_0 a1_1 t1156 t1157 _ A6.out).mono ?_
    rintro e w15 ⟨rfl, hb⟩
    refine ⟨_, rfl, ?_⟩
    have n0_ := bst HB hb
    replace BK1150 := bbw BK1150 hb
    replace BK1151 := bbw BK1151 hb
    clear HB
    have HB := n0_
    clear n0_
    (try clear hb)
    (try clear hb2)
    (try clear hk)
    (try clear hi)
    refine hK.out _ _ ⟨hcz BK1150 0, hcz BK1150 1, hcz BK1151 0, hcz BK1151 1⟩ (fun hHeld => ?_)
    clear hK K
    refine normQ (N := 15) ?_
    refine oneQ 13 18 HT_.out (fun K hK => ?_)
    refine goesQ Try.func57 #[.agg #[.int .i64 a0_0, .int .i64 a0_1], .agg #[.int .i64 a1_0, .int .i64 a1_1]] ?_
    with_reducible refine (gimbalref02_Mod.calls k a0_0 a0_1 a1_0 a1_1 t1158 t1159 _ A7.out).mono ?_
    rintro e w16 ⟨rfl, hb⟩
    refine ⟨_, rfl, ?_⟩
    have n0_ := bst HB hb
    replace BK1150 := bbw BK1150 hb
    replace BK1151 := bbw BK1151 hb
    clear HB
    have HB := n0_
    clear n0_
    (try clear hb)
    (try clear hb2)
    (try clear hk)
    (try clear hi)
    refine hK.out _ _ ⟨hcz BK1150 0, hcz BK1150 1, hcz BK1151 0, hcz BK1151 1⟩ (fun hHeld => ?_)
    clear hK K
    refine normQ (N := 18) ?_
    refine pureQ 14 19 HT_.out ?_
    refine pureQ 15 20 HT_.out ?_
    refine pureQ 16 21 HT_.out ?_
    refine oneQ 17 22 HT_.out (fun K hK => ?_)
    refine goesQ Try.func36 #[] ?_
    with_reducible refine (gimballaw02_awake.calls k  t1160 _ A9.out).mono ?_
    rintro e w17 ⟨rfl, hb⟩
    refine ⟨_, rfl, ?_⟩
    have n0_ := bst HB hb
    replace BK1150 := bbw BK1150 hb
    replace BK1151 := bbw BK1151 hb
    clear HB
    have HB := n0_
    clear n0_
    (try clear hb)
    (try clear hb2)
    (try clear hk)
    (try clear hi)
    refine hK.out _ _ ⟨hcz BK1150 0, hcz BK1150 1, hcz BK1151 0, hcz BK1151 1⟩ (fun hHeld => ?_)
    clear hK K
    refine normQ (N := 22) ?_
    refine pureQ 18 23 HT_.out ?_
    refine pureQ 19 4 HT_.out ?_
    refine done_ (done_of HT_.out (by kernel_rfl)) ?_
    try go_wp2
    go_ret
    exact ⟨by first | rfl | (simp [errW_none, errW_some] <;> rfl) | (simp [*, errW_none, errW_some] <;> rfl) | kernel_rfl, by repeat (first | (with_reducible first | exact HB.out | apply below_alloc | apply pw_below_drewN | apply below_drew1 | refine below_set ?_ GE1150.out | refine below_set ?_ GE1151.out) | exact HB.out)⟩
   ·
    rw [if_neg c8] at H
    have c8b0 : (t1156 == t1158 && (t1157 == t1159)) = false := by simpa using c8
    (try (have c8b1 : decide (t1156 = t1158 && (t1157 == t1159)) = false := by simpa using c8))
    (try (have c8b2 : (t1156 == t1158 && (t1157 == t1159)) = false := by simpa using c8))
    (try (have c8b3 : ¬ (t1156 = t1158 && (t1157 == t1159)) := by simpa using c8))
    clear c8
    exact absurd H (by simp)
  ·
   rw [if_neg c5] at H
   have c5b0 : (t1152 == t1154 && (t1153 == t1155)) = false := by simpa using c5
   (try (have c5b1 : decide (t1152 = t1154 && (t1153 == t1155)) = false := by simpa using c5))
   (try (have c5b2 : (t1152 == t1154 && (t1153 == t1155)) = false := by simpa using c5))
   (try (have c5b3 : ¬ (t1152 = t1154 && (t1153 == t1155)) := by simpa using c5))
   clear c5
   exact absurd H (by simp)
/-- THE ONE PURE STATEMENT of gimballaw02_ItvDivides: yours. -/
def gimballaw02_ItvDivides.Pure : Prop := ∀ (a0_0 : Int) (a0_1 : Int) (a1_0 : Int) (a1_1 : Int), (Lit.int .i64 a0_0).wf = true → (Lit.int .i64 a0_1).wf = true → (Lit.int .i64 a1_0).wf = true → (Lit.int .i64 a1_1).wf = true → ∃ k, gimballaw02_ItvDivides.f k a0_0 a0_1 a1_0 a1_1 = some true
theorem gimballaw02_ItvDivides.walk (P : gimballaw02_ItvDivides.Pure) (a0_0 : Int) (a0_1 : Int) (a1_0 : Int) (a1_1 : Int) (w : World) (w0_0 : (Lit.int .i64 a0_0).wf = true) (w0_1 : (Lit.int .i64 a0_1).wf = true) (w1_0 : (Lit.int .i64 a1_0).wf = true) (w1_1 : (Lit.int .i64 a1_1).wf = true) :
    Calls Try.prog 10 #[.agg #[.int .i64 a0_0, .int .i64 a0_1], .agg #[.int .i64 a1_0, .int .i64 a1_1]] w fun e w' => e = .returned (.bool true) ∧ Below w.heap.size w w' := by
  obtain ⟨k, h⟩ := P a0_0 a0_1 a1_0 a1_1 w0_0 w0_1 w1_0 w1_1
  refine (gimballaw02_ItvDivides.calls k a0_0 a0_1 a1_0 a1_1  w h).mono ?_
  rintro e w' ⟨rfl, hd⟩
  exact ⟨rfl, hd⟩
end Go.Proofs.Ytbbnpipmjadpoaa.P
