import Derived.Test.YtcalcbeonbfkmaaTrRF4
/- What the law's proof needs of F5. -/
namespace Go.Proofs.Ytcalcbeonbfkmaa.P
open Go.RowKit Go.Proofs.YtcalcbeonbfkmaaW.PrintWords Go.Proofs.YtcalcbeonbfkmaaW.PrintLast Go.Proofs.YtcalcbeonbfkmaaW.PrintMore Go.Proofs.YtcalcbeonbfkmaaO
attribute [local go_sem] max2_int min2_int max_two min_two max_three min_three max_four min_four
set_option linter.unusedVariables false
set_option linter.unusedSimpArgs false
set_option maxHeartbeats 8000000 in
set_option maxRecDepth 100000 in
theorem site_calls (G : Gr) (A1 : Option Addr) (c1 : Nat) (l1 : List Int) (x : S52) (w : World) (hG : G.Held w) (hr1 : Kd.C (Kd.int .i64) w A1 l1.length l1)
    (h14 : x.f0 = 14 → 0 ≤ x.f2 ∧ x.f2 < (G.l6.length : Int)) (h13 : x.f0 = 13 → 0 ≤ x.f1 ∧ x.f1 < (G.l5.length : Int))
    (h13b : x.f0 = 13 → (G.l5.length : Int) ≤ x.f2 → wrap64 (x.f2 - (G.l5.length : Int)) < (l1.length : Int) ∧ 0 ≤ wrap64 (x.f2 - (G.l5.length : Int)) ∧ 0 ≤ rd l1 (wrap64 (x.f2 - (G.l5.length : Int))) ∧ rd l1 (wrap64 (x.f2 - (G.l5.length : Int))) < (G.l0.length : Int) ∧
      ((rd_T52 G.l0 (rd l1 (wrap64 (x.f2 - (G.l5.length : Int))))).f0 = 12 → 0 ≤ (rd_T52 G.l0 (rd l1 (wrap64 (x.f2 - (G.l5.length : Int))))).f2 ∧ (rd_T52 G.l0 (rd l1 (wrap64 (x.f2 - (G.l5.length : Int))))).f2 < (G.l4.length : Int))) :
    Calls Try.prog 23 #[G.v, .slice A1 l1.length c1, .agg #[.int .i64 x.f0, .int .i64 x.f1, .int .i64 x.f2, .int .i64 x.f3, .int .i64 x.f4, .int .i64 x.f5, .int .i64 x.f6.f0, .int .i64 x.f6.f1]] w fun e w' => RetB e AnyP ∧ Below w.heap.size w w' := by
  obtain ⟨A0, c0, l0, a1, a2, a3, A4, c4, l4, A5, c5, l5, A6, c6, l6, A7, c7, l7⟩ := G
  obtain ⟨a2_0, a2_1, a2_2, a2_3, a2_4, a2_5, a2_6, a2_7⟩ := x
  simp only [Gr.v] at *
  have H7 := hG.h7
  simp only at H7
  have QG := Aside0.mk hG
  have hu28 := Try.underlying28
  have hu52 := Try.underlying52
  have HB := Aside0.mk (Below.refl w.heap.size w)
  have Q7 := Aside0.mk H7
  have Q1 := Aside0.mk hr1
  have K14 := Aside0.mk h14
  have K13 := Aside0.mk h13
  have K13b := Aside0.mk h13b
  clear hG H7 hr1 h14 h13 h13b
  by_cases cS : 0 < a2_5 ∧ a2_5 < (l7.length : Int)
  · obtain ⟨cS1, cS2⟩ := cS
    have p7 : 0 ≤ a2_5 := by omega
    obtain ⟨ad7, ee, hx7_0, hx7_1⟩ := at_T77 Q7.out a2_5 p7 cS2
    cases ee
    have cSb := decide_eq_true cS1
    have cSc := decide_eq_true cS2
    have cSd : (a2_5 == 0) = false := beq_eq_false_iff_ne.mpr (by omega)
    replace p7 := eq_true p7
    replace cS2 := eq_true cS2
    go_enter Try.func23, Try.ntmps23
    go_wp2_with (first | ((with_reducible refine gate_dst (N := 3) rfl ?_); refine boxQ 3 #[.slice A0 l0.length c0, .int .i64 a1, .int .i64 a2, .int .i64 a3, .slice A4 l4.length c4, .slice A5 l5.length c5, .slice A6 l6.length c6, .slice (some ad7) l7.length c7] 28 HB ?_; clear HB; intro gb w1 _ GW BK _ HB) | ((with_reducible refine gate_dst (N := 5) rfl ?_); refine boxQ 5 #[.int .i64 a2_0, .int .i64 a2_1, .int .i64 a2_2, .int .i64 a2_3, .int .i64 a2_4, .int .i64 a2_5, .int .i64 a2_6, .int .i64 a2_7] 52 HB ?_; intro gc w2 eg GW2 BK2 hb2 HB2; have NB := bn1 BK eg.out; have NB2 := bn2 BK eg.out; replace BK := bbw BK hb2.out; clear HB; have HB := HB2; clear HB2; have hcf := hcf8 BK; obtain ⟨_, _, _, _, _, _, _, _, _, _, _, _, _, _, _, _⟩ := hcf; have hcf := hcf8 BK2; obtain ⟨_, _, _, _, _, _, _, _, _, _, _, _, _, _, _, _⟩ := hcf; have hnb := NB.out; have hnb2 := NB2.out) | ((with_reducible refine gate_callee (f := 39) rfl ?_); refine goesL_ (some 13) rfl rfl Try.func39 (by kernel_rfl) rfl #[.agg #[.slice A0 l0.length c0, .int .i64 a1, .int .i64 a2, .int .i64 a3, .slice A4 l4.length c4, .slice A5 l5.length c5, .slice A6 l6.length c6, .slice (some ad7) l7.length c7], .slice A1 l1.length c1, .agg #[.int .i64 a2_0, .int .i64 a2_1, .int .i64 a2_2, .int .i64 a2_3, .int .i64 a2_4, .int .i64 a2_5, .int .i64 a2_6, .int .i64 a2_7]] rfl (by (try simp only [List.map_toArray, List.map_cons, List.map_nil]); first | done | rfl) ?_; refine (kinds_calls ⟨A0, c0, l0, a1, a2, a3, A4, c4, l4, A5, c5, l5, A6, c6, l6, (some ad7), c7, l7⟩ A1 c1 l1 ⟨a2_0, a2_1, a2_2, a2_3, a2_4, a2_5, ⟨a2_6, a2_7⟩⟩ _ (Gr.Held.below QG.out (bpk HB).out) (Kd.C_below Q1.out (bpk HB).out) K14.out K13.out K13b.out).mono ?_; rintro e w' ⟨⟨kk, kb, rfl⟩, hb⟩; replace BK := bbw BK hb; replace BK2 := bbw BK2 hb; replace HB := bst HB hb; clear hb; have hcf := hcf8 BK; obtain ⟨_, _, _, _, _, _, _, _, _, _, _, _, _, _, _, _⟩ := hcf; have hcf := hcf8 BK2; obtain ⟨_, _, _, _, _, _, _, _, _, _, _, _, _, _, _, _⟩ := hcf; replace hx7_1 := (HB.out.cell (World.block_lt_of_cell? w _ hx7_1)).trans hx7_1; refine ⟨_, rfl, ?_⟩))
    all_goals go_ret
    all_goals exact ⟨⟨_, rfl, trivial⟩, (bpk HB).out⟩
  · by_cases cZ : a2_5 = 0
    · subst cZ
      go_enter Try.func23, Try.ntmps23
      go_wp2_with (first | ((with_reducible refine gate_dst (N := 3) rfl ?_); refine boxQ 3 #[.slice A0 l0.length c0, .int .i64 a1, .int .i64 a2, .int .i64 a3, .slice A4 l4.length c4, .slice A5 l5.length c5, .slice A6 l6.length c6, .slice A7 l7.length c7] 28 HB ?_; clear HB; intro gb w1 _ GW BK _ HB) | ((with_reducible refine gate_dst (N := 5) rfl ?_); refine boxQ 5 #[.int .i64 a2_0, .int .i64 a2_1, .int .i64 a2_2, .int .i64 a2_3, .int .i64 a2_4, .int .i64 0, .int .i64 a2_6, .int .i64 a2_7] 52 HB ?_; intro gc w2 eg GW2 BK2 hb2 HB2; have NB := bn1 BK eg.out; have NB2 := bn2 BK eg.out; replace BK := bbw BK hb2.out; clear HB; have HB := HB2; clear HB2; have hcf := hcf8 BK; obtain ⟨_, _, _, _, _, _, _, _, _, _, _, _, _, _, _, _⟩ := hcf; have hcf := hcf8 BK2; obtain ⟨_, _, _, _, _, _, _, _, _, _, _, _, _, _, _, _⟩ := hcf; have hnb := NB.out; have hnb2 := NB2.out) | ((with_reducible refine gate_callee (f := 39) rfl ?_); refine goesL_ (some 13) rfl rfl Try.func39 (by kernel_rfl) rfl #[.agg #[.slice A0 l0.length c0, .int .i64 a1, .int .i64 a2, .int .i64 a3, .slice A4 l4.length c4, .slice A5 l5.length c5, .slice A6 l6.length c6, .slice A7 l7.length c7], .slice A1 l1.length c1, .agg #[.int .i64 a2_0, .int .i64 a2_1, .int .i64 a2_2, .int .i64 a2_3, .int .i64 a2_4, .int .i64 0, .int .i64 a2_6, .int .i64 a2_7]] rfl (by (try simp only [List.map_toArray, List.map_cons, List.map_nil]); first | done | rfl) ?_; refine (kinds_calls ⟨A0, c0, l0, a1, a2, a3, A4, c4, l4, A5, c5, l5, A6, c6, l6, A7, c7, l7⟩ A1 c1 l1 ⟨a2_0, a2_1, a2_2, a2_3, a2_4, 0, ⟨a2_6, a2_7⟩⟩ _ (Gr.Held.below QG.out (bpk HB).out) (Kd.C_below Q1.out (bpk HB).out) K14.out K13.out K13b.out).mono ?_; rintro e w' ⟨⟨kk, kb, rfl⟩, hb⟩; replace BK := bbw BK hb; replace BK2 := bbw BK2 hb; replace HB := bst HB hb; clear hb; have hcf := hcf8 BK; obtain ⟨_, _, _, _, _, _, _, _, _, _, _, _, _, _, _, _⟩ := hcf; have hcf := hcf8 BK2; obtain ⟨_, _, _, _, _, _, _, _, _, _, _, _, _, _, _, _⟩ := hcf; refine ⟨_, rfl, ?_⟩))
      all_goals go_ret
      all_goals exact ⟨⟨_, rfl, trivial⟩, (bpk HB).out⟩
    · have cSd : (a2_5 == 0) = false := beq_eq_false_iff_ne.mpr (by omega)
      by_cases cP : 0 < a2_5
      · have cSb := decide_eq_true cP
        have cSc : decide (a2_5 < (l7.length : Int)) = false := decide_eq_false (by omega)
        go_enter Try.func23, Try.ntmps23
        go_wp2_with (first | ((with_reducible refine gate_dst (N := 3) rfl ?_); refine boxQ 3 #[.slice A0 l0.length c0, .int .i64 a1, .int .i64 a2, .int .i64 a3, .slice A4 l4.length c4, .slice A5 l5.length c5, .slice A6 l6.length c6, .slice A7 l7.length c7] 28 HB ?_; clear HB; intro gb w1 _ GW BK _ HB) | ((with_reducible refine gate_dst (N := 5) rfl ?_); refine boxQ 5 #[.int .i64 a2_0, .int .i64 a2_1, .int .i64 a2_2, .int .i64 a2_3, .int .i64 a2_4, .int .i64 a2_5, .int .i64 a2_6, .int .i64 a2_7] 52 HB ?_; intro gc w2 eg GW2 BK2 hb2 HB2; have NB := bn1 BK eg.out; have NB2 := bn2 BK eg.out; replace BK := bbw BK hb2.out; clear HB; have HB := HB2; clear HB2; have hcf := hcf8 BK; obtain ⟨_, _, _, _, _, _, _, _, _, _, _, _, _, _, _, _⟩ := hcf; have hcf := hcf8 BK2; obtain ⟨_, _, _, _, _, _, _, _, _, _, _, _, _, _, _, _⟩ := hcf; have hnb := NB.out; have hnb2 := NB2.out) | ((with_reducible refine gate_callee (f := 39) rfl ?_); refine goesL_ (some 13) rfl rfl Try.func39 (by kernel_rfl) rfl #[.agg #[.slice A0 l0.length c0, .int .i64 a1, .int .i64 a2, .int .i64 a3, .slice A4 l4.length c4, .slice A5 l5.length c5, .slice A6 l6.length c6, .slice A7 l7.length c7], .slice A1 l1.length c1, .agg #[.int .i64 a2_0, .int .i64 a2_1, .int .i64 a2_2, .int .i64 a2_3, .int .i64 a2_4, .int .i64 a2_5, .int .i64 a2_6, .int .i64 a2_7]] rfl (by (try simp only [List.map_toArray, List.map_cons, List.map_nil]); first | done | rfl) ?_; refine (kinds_calls ⟨A0, c0, l0, a1, a2, a3, A4, c4, l4, A5, c5, l5, A6, c6, l6, A7, c7, l7⟩ A1 c1 l1 ⟨a2_0, a2_1, a2_2, a2_3, a2_4, a2_5, ⟨a2_6, a2_7⟩⟩ _ (Gr.Held.below QG.out (bpk HB).out) (Kd.C_below Q1.out (bpk HB).out) K14.out K13.out K13b.out).mono ?_; rintro e w' ⟨⟨kk, kb, rfl⟩, hb⟩; replace BK := bbw BK hb; replace BK2 := bbw BK2 hb; replace HB := bst HB hb; clear hb; have hcf := hcf8 BK; obtain ⟨_, _, _, _, _, _, _, _, _, _, _, _, _, _, _, _⟩ := hcf; have hcf := hcf8 BK2; obtain ⟨_, _, _, _, _, _, _, _, _, _, _, _, _, _, _, _⟩ := hcf; refine ⟨_, rfl, ?_⟩))
        all_goals go_ret
        all_goals exact ⟨⟨_, rfl, trivial⟩, (bpk HB).out⟩
      · have cSb := decide_eq_false cP
        go_enter Try.func23, Try.ntmps23
        go_wp2_with (first | ((with_reducible refine gate_dst (N := 3) rfl ?_); refine boxQ 3 #[.slice A0 l0.length c0, .int .i64 a1, .int .i64 a2, .int .i64 a3, .slice A4 l4.length c4, .slice A5 l5.length c5, .slice A6 l6.length c6, .slice A7 l7.length c7] 28 HB ?_; clear HB; intro gb w1 _ GW BK _ HB) | ((with_reducible refine gate_dst (N := 5) rfl ?_); refine boxQ 5 #[.int .i64 a2_0, .int .i64 a2_1, .int .i64 a2_2, .int .i64 a2_3, .int .i64 a2_4, .int .i64 a2_5, .int .i64 a2_6, .int .i64 a2_7] 52 HB ?_; intro gc w2 eg GW2 BK2 hb2 HB2; have NB := bn1 BK eg.out; have NB2 := bn2 BK eg.out; replace BK := bbw BK hb2.out; clear HB; have HB := HB2; clear HB2; have hcf := hcf8 BK; obtain ⟨_, _, _, _, _, _, _, _, _, _, _, _, _, _, _, _⟩ := hcf; have hcf := hcf8 BK2; obtain ⟨_, _, _, _, _, _, _, _, _, _, _, _, _, _, _, _⟩ := hcf; have hnb := NB.out; have hnb2 := NB2.out) | ((with_reducible refine gate_callee (f := 39) rfl ?_); refine goesL_ (some 13) rfl rfl Try.func39 (by kernel_rfl) rfl #[.agg #[.slice A0 l0.length c0, .int .i64 a1, .int .i64 a2, .int .i64 a3, .slice A4 l4.length c4, .slice A5 l5.length c5, .slice A6 l6.length c6, .slice A7 l7.length c7], .slice A1 l1.length c1, .agg #[.int .i64 a2_0, .int .i64 a2_1, .int .i64 a2_2, .int .i64 a2_3, .int .i64 a2_4, .int .i64 a2_5, .int .i64 a2_6, .int .i64 a2_7]] rfl (by (try simp only [List.map_toArray, List.map_cons, List.map_nil]); first | done | rfl) ?_; refine (kinds_calls ⟨A0, c0, l0, a1, a2, a3, A4, c4, l4, A5, c5, l5, A6, c6, l6, A7, c7, l7⟩ A1 c1 l1 ⟨a2_0, a2_1, a2_2, a2_3, a2_4, a2_5, ⟨a2_6, a2_7⟩⟩ _ (Gr.Held.below QG.out (bpk HB).out) (Kd.C_below Q1.out (bpk HB).out) K14.out K13.out K13b.out).mono ?_; rintro e w' ⟨⟨kk, kb, rfl⟩, hb⟩; replace BK := bbw BK hb; replace BK2 := bbw BK2 hb; replace HB := bst HB hb; clear hb; have hcf := hcf8 BK; obtain ⟨_, _, _, _, _, _, _, _, _, _, _, _, _, _, _, _⟩ := hcf; have hcf := hcf8 BK2; obtain ⟨_, _, _, _, _, _, _, _, _, _, _, _, _, _, _, _⟩ := hcf; refine ⟨_, rfl, ?_⟩))
        all_goals go_ret
        all_goals exact ⟨⟨_, rfl, trivial⟩, (bpk HB).out⟩
end Go.Proofs.Ytcalcbeonbfkmaa.P
/- What the law's proof needs of F6. -/
namespace Go.Proofs.Ytcalcbeonbfkmaa.P
open Go.RowKit Go.Proofs.YtcalcbeonbfkmaaW.PrintWords Go.Proofs.YtcalcbeonbfkmaaW.PrintLast Go.Proofs.YtcalcbeonbfkmaaW.PrintMore Go.Proofs.YtcalcbeonbfkmaaO
attribute [local go_sem] max2_int min2_int max_two min_two max_three min_three max_four min_four
set_option linter.unusedVariables false
set_option linter.unusedSimpArgs false
def UsesP (op d a b : Int) (us : List Int) : Prop :=
  (op = 2 ∨ op = 3 ∨ op = 13 → us = [a]) ∧ (4 ≤ op ∧ op ≤ 10 ∨ op = 15 → us = [a, b]) ∧ (op = 11 → us = [b]) ∧ (op = 14 → us = [d, b]) ∧ us.length ≤ 2
/-- A list is returned. -/
def RetL (e : Ending) (w' : World) (p : List Int → Prop) : Prop := ∃ A c, ∃ us : List Int, e = .returned (.slice A us.length c) ∧ Kd.C (Kd.int .i64) w' A us.length us ∧ p us
theorem RetL_nil {w' : World} {p : List Int → Prop} (h : p []) : RetL (.returned (.slice none 0 0)) w' p := ⟨none, 0, [], rfl, (Kd.R_reads' (Kd.R_nil (Kd.int .i64) 3 w' 0 (fun _ => True))).2.2, h⟩
theorem RetL_R {W w' : World} {b : Nat} {ok : Nat → Prop} {v : Value} {us : List Int} {p : List Int → Prop} (HO : Aside0 (Kd.R (Kd.int .i64) 3 W b ok v us)) (h : p us) (hW : Kd.R (Kd.int .i64) 3 W b ok v us → Kd.R (Kd.int .i64) 3 w' b ok v us := by (intro hq_; (with_reducible repeat (first | exact hq_ | apply Kd.R_alloc | apply Kd.R_drewN | apply Kd.R_drew)); try exact hq_)) : RetL (.returned v) w' p := by
  have h2 := hW HO.out
  obtain ⟨A, c, rfl⟩ := Kd.R_slice h2
  exact ⟨A, c, us, rfl, (Kd.R_reads' h2).2.2, h⟩
set_option maxHeartbeats 8000000 in
set_option maxRecDepth 100000 in
theorem uses_calls (a0_0 a0_1 a0_2 a0_3 a0_4 a0_5 a0_6 a0_7 : Int) (w : World) :
    Calls Try.prog 22 #[.agg #[.int .i64 a0_0, .int .i64 a0_1, .int .i64 a0_2, .int .i64 a0_3, .int .i64 a0_4, .int .i64 a0_5, .int .i64 a0_6, .int .i64 a0_7]] w fun e w' => RetL e w' (UsesP a0_0 a0_1 a0_2 a0_3) ∧ Below w.heap.size w w' := by
  have hu52 := Try.underlying52
  have HB := Aside0.mk (Below.refl w.heap.size w)
  go_enter Try.func22, Try.ntmps22
  go_wp2_with (first | ((with_reducible refine gate_dst (N := 1) rfl ?_); refine boxQ 1 #[.int .i64 a0_0, .int .i64 a0_1, .int .i64 a0_2, .int .i64 a0_3, .int .i64 a0_4, .int .i64 a0_5, .int .i64 a0_6, .int .i64 a0_7] 52 HB ?_; clear HB; intro g w1 _ GW BK _ HB; have hcf := hcf8 BK; obtain ⟨_, _, _, _, _, _, _, _, _, _, _, _, _, _, _, _⟩ := hcf) | ((with_reducible refine gate_dst (N := 11) rfl ?_); refine Kd.R_lit (Kd.int .i64) _ 3 ?hg (N := 11) ?hd (xs := ([a0_2] : List Int)) (inner := [.int .i64 a0_2]) (ok := fun _ => True) (okp := fun _ => True) ?hr ?hp (fun _ hk => hk) trivial (Below.refl _ _) (Nat.le_refl _) (by simp) ?_; (case hd => rfl); (case hg => rfl); (case hr => first | (go_simp; done) | (go_simp; rfl)); (case hp => exact (Reps.one (show Kd.M (Kd.int .i64) _ _ _ a0_2 [.int .i64 a0_2] from rfl) (Reps.none _ _))); intro v wo ho hb hg_ hnew_; clear hg_ hnew_; replace HB := bst HB hb; have HO := Aside0.mk ho; clear hb ho; clear BK) | ((with_reducible refine gate_dst (N := 25) rfl ?_); refine Kd.R_lit (Kd.int .i64) _ 3 ?hg (N := 25) ?hd (xs := ([a0_2, a0_3] : List Int)) (inner := [.int .i64 a0_2, .int .i64 a0_3]) (ok := fun _ => True) (okp := fun _ => True) ?hr ?hp (fun _ hk => hk) trivial (Below.refl _ _) (Nat.le_refl _) (by simp) ?_; (case hd => rfl); (case hg => rfl); (case hr => first | (go_simp; done) | (go_simp; rfl)); (case hp => exact (Reps.one (show Kd.M (Kd.int .i64) _ _ _ a0_2 [.int .i64 a0_2] from rfl) (Reps.one (show Kd.M (Kd.int .i64) _ _ _ a0_3 [.int .i64 a0_3] from rfl) (Reps.none _ _)))); intro v wo ho hb hg_ hnew_; clear hg_ hnew_; replace HB := bst HB hb; have HO := Aside0.mk ho; clear hb ho; clear BK) | ((with_reducible refine gate_dst (N := 30) rfl ?_); refine Kd.R_lit (Kd.int .i64) _ 3 ?hg (N := 30) ?hd (xs := ([a0_3] : List Int)) (inner := [.int .i64 a0_3]) (ok := fun _ => True) (okp := fun _ => True) ?hr ?hp (fun _ hk => hk) trivial (Below.refl _ _) (Nat.le_refl _) (by simp) ?_; (case hd => rfl); (case hg => rfl); (case hr => first | (go_simp; done) | (go_simp; rfl)); (case hp => exact (Reps.one (show Kd.M (Kd.int .i64) _ _ _ a0_3 [.int .i64 a0_3] from rfl) (Reps.none _ _))); intro v wo ho hb hg_ hnew_; clear hg_ hnew_; replace HB := bst HB hb; have HO := Aside0.mk ho; clear hb ho; clear BK) | ((with_reducible refine gate_dst (N := 37) rfl ?_); refine Kd.R_lit (Kd.int .i64) _ 3 ?hg (N := 37) ?hd (xs := ([a0_1, a0_3] : List Int)) (inner := [.int .i64 a0_1, .int .i64 a0_3]) (ok := fun _ => True) (okp := fun _ => True) ?hr ?hp (fun _ hk => hk) trivial (Below.refl _ _) (Nat.le_refl _) (by simp) ?_; (case hd => rfl); (case hg => rfl); (case hr => first | (go_simp; done) | (go_simp; rfl)); (case hp => exact (Reps.one (show Kd.M (Kd.int .i64) _ _ _ a0_1 [.int .i64 a0_1] from rfl) (Reps.one (show Kd.M (Kd.int .i64) _ _ _ a0_3 [.int .i64 a0_3] from rfl) (Reps.none _ _)))); intro v wo ho hb hg_ hnew_; clear hg_ hnew_; replace HB := bst HB hb; have HO := Aside0.mk ho; clear hb ho; clear BK))
  all_goals first | go_ret | skip
  all_goals refine ⟨?_, (bpk HB).out⟩
  all_goals first | refine RetL_nil ?_ | refine RetL_R HO ?_
  all_goals simp only [beq_iff_eq, beq_eq_false_iff_ne, ne_eq] at *
  all_goals exact ⟨fun h => by first | rfl | omega, fun h => by first | rfl | omega, fun h => by first | rfl | omega, fun h => by first | rfl | omega, by simp⟩
end Go.Proofs.Ytcalcbeonbfkmaa.P
