import Derived.Test.YtllfopbchdahoaaTrFF4
/- What the law's proof needs of F5. -/
namespace Go.Proofs.Ytllfopbchdahoaa.P
open Go.RowKit Go.Proofs.YtllfopbchdahoaaW.PrintWords Go.Proofs.YtllfopbchdahoaaW.PrintLast Go.Proofs.YtllfopbchdahoaaW.PrintMore Go.Proofs.YtllfopbchdahoaaO
attribute [local go_sem] max2_int min2_int max_two min_two max_three min_three max_four min_four
set_option linter.unusedVariables false
set_option linter.unusedSimpArgs false
set_option maxHeartbeats 8000000 in
set_option maxRecDepth 100000 in
theorem site_calls (G : Gr) (A1 : Option Addr) (c1 : Nat) (l1 : List Int) (x : S64) (w : World) (hG : G.Held w) (hr1 : Kd.C (Kd.int .i64) w A1 l1.length l1)
    (h14 : x.f0 = 14 → 0 ≤ x.f2 ∧ x.f2 < (G.l6.length : Int)) (h13 : x.f0 = 13 → 0 ≤ x.f1 ∧ x.f1 < (G.l5.length : Int))
    (h13b : x.f0 = 13 → (G.l5.length : Int) ≤ x.f2 → wrap64 (x.f2 - (G.l5.length : Int)) < (l1.length : Int) ∧ 0 ≤ wrap64 (x.f2 - (G.l5.length : Int)) ∧ 0 ≤ rd l1 (wrap64 (x.f2 - (G.l5.length : Int))) ∧ rd l1 (wrap64 (x.f2 - (G.l5.length : Int))) < (G.l0.length : Int) ∧
      ((rd_T64 G.l0 (rd l1 (wrap64 (x.f2 - (G.l5.length : Int))))).f0 = 12 → 0 ≤ (rd_T64 G.l0 (rd l1 (wrap64 (x.f2 - (G.l5.length : Int))))).f2 ∧ (rd_T64 G.l0 (rd l1 (wrap64 (x.f2 - (G.l5.length : Int))))).f2 < (G.l4.length : Int))) :
    Calls Try.prog 36 #[G.v, .slice A1 l1.length c1, .agg #[.int .i64 x.f0, .int .i64 x.f1, .int .i64 x.f2, .int .i64 x.f3, .int .i64 x.f4, .int .i64 x.f5, .int .i64 x.f6.f0, .int .i64 x.f6.f1]] w fun e w' => RetB e AnyP ∧ Below w.heap.size w w' := by
  obtain ⟨A0, c0, l0, a1, a2, a3, A4, c4, l4, A5, c5, l5, A6, c6, l6, A7, c7, l7⟩ := G
  obtain ⟨a2_0, a2_1, a2_2, a2_3, a2_4, a2_5, a2_6, a2_7⟩ := x
  simp only [Gr.v] at *
  have H7 := hG.h7
  simp only at H7
  have QG := Aside0.mk hG
  have hu41 := Try.underlying41
  have hu64 := Try.underlying64
  have HB := Aside0.mk (Below.refl w.heap.size w)
  have Q7 := Aside0.mk H7
  have Q1 := Aside0.mk hr1
  have K14 := Aside0.mk h14
  have K13 := Aside0.mk h13
  have K13b := Aside0.mk h13b
  clear hG H7 hr1 h14 h13 h13b
  by_cases cS : 0 < a2_5 ∧ a2_5 < (l7.length : Int)
  · obtain ⟨cS1, cS2⟩ := cS
    have p7 : 0 ≤ a2_5 := by omega
    obtain ⟨ad7, ee, hx7_0, hx7_1⟩ := at_T80 Q7.out a2_5 p7 cS2
    cases ee
    have cSb := decide_eq_true cS1
    have cSc := decide_eq_true cS2
    have cSd : (a2_5 == 0) = false := beq_eq_false_iff_ne.mpr (by omega)
    replace p7 := eq_true p7
    replace cS2 := eq_true cS2
    go_enter Try.func36, Try.ntmps36
    go_wp2_with (first | ((with_reducible refine gate_dst (N := 3) rfl ?_); refine boxQ 3 #[.slice A0 l0.length c0, .int .i64 a1, .int .i64 a2, .int .i64 a3, .slice A4 l4.length c4, .slice A5 l5.length c5, .slice A6 l6.length c6, .slice (some ad7) l7.length c7] 41 HB ?_; clear HB; intro gb w1 _ GW BK _ HB) | ((with_reducible refine gate_dst (N := 5) rfl ?_); refine boxQ 5 #[.int .i64 a2_0, .int .i64 a2_1, .int .i64 a2_2, .int .i64 a2_3, .int .i64 a2_4, .int .i64 a2_5, .int .i64 a2_6, .int .i64 a2_7] 64 HB ?_; intro gc w2 eg GW2 BK2 hb2 HB2; have NB := bn1 BK eg.out; have NB2 := bn2 BK eg.out; replace BK := bbw BK hb2.out; clear HB; have HB := HB2; clear HB2; have hcf := hcf8 BK; obtain ⟨_, _, _, _, _, _, _, _, _, _, _, _, _, _, _, _⟩ := hcf; have hcf := hcf8 BK2; obtain ⟨_, _, _, _, _, _, _, _, _, _, _, _, _, _, _, _⟩ := hcf; have hnb := NB.out; have hnb2 := NB2.out) | ((with_reducible refine gate_callee (f := 48) rfl ?_); refine goesL_ (some 13) rfl rfl Try.func48 (by kernel_rfl) rfl #[.agg #[.slice A0 l0.length c0, .int .i64 a1, .int .i64 a2, .int .i64 a3, .slice A4 l4.length c4, .slice A5 l5.length c5, .slice A6 l6.length c6, .slice (some ad7) l7.length c7], .slice A1 l1.length c1, .agg #[.int .i64 a2_0, .int .i64 a2_1, .int .i64 a2_2, .int .i64 a2_3, .int .i64 a2_4, .int .i64 a2_5, .int .i64 a2_6, .int .i64 a2_7]] rfl (by (try simp only [List.map_toArray, List.map_cons, List.map_nil]); first | done | rfl) ?_; refine (kinds_calls ⟨A0, c0, l0, a1, a2, a3, A4, c4, l4, A5, c5, l5, A6, c6, l6, (some ad7), c7, l7⟩ A1 c1 l1 ⟨a2_0, a2_1, a2_2, a2_3, a2_4, a2_5, ⟨a2_6, a2_7⟩⟩ _ (Gr.Held.below QG.out (bpk HB).out) (Kd.C_below Q1.out (bpk HB).out) K14.out K13.out K13b.out).mono ?_; rintro e w' ⟨⟨kk, kb, rfl⟩, hb⟩; replace BK := bbw BK hb; replace BK2 := bbw BK2 hb; replace HB := bst HB hb; clear hb; have hcf := hcf8 BK; obtain ⟨_, _, _, _, _, _, _, _, _, _, _, _, _, _, _, _⟩ := hcf; have hcf := hcf8 BK2; obtain ⟨_, _, _, _, _, _, _, _, _, _, _, _, _, _, _, _⟩ := hcf; replace hx7_1 := (HB.out.cell (World.block_lt_of_cell? w _ hx7_1)).trans hx7_1; refine ⟨_, rfl, ?_⟩))
    all_goals go_ret
    all_goals exact ⟨⟨_, rfl, trivial⟩, (bpk HB).out⟩
  · by_cases cZ : a2_5 = 0
    · subst cZ
      go_enter Try.func36, Try.ntmps36
      go_wp2_with (first | ((with_reducible refine gate_dst (N := 3) rfl ?_); refine boxQ 3 #[.slice A0 l0.length c0, .int .i64 a1, .int .i64 a2, .int .i64 a3, .slice A4 l4.length c4, .slice A5 l5.length c5, .slice A6 l6.length c6, .slice A7 l7.length c7] 41 HB ?_; clear HB; intro gb w1 _ GW BK _ HB) | ((with_reducible refine gate_dst (N := 5) rfl ?_); refine boxQ 5 #[.int .i64 a2_0, .int .i64 a2_1, .int .i64 a2_2, .int .i64 a2_3, .int .i64 a2_4, .int .i64 0, .int .i64 a2_6, .int .i64 a2_7] 64 HB ?_; intro gc w2 eg GW2 BK2 hb2 HB2; have NB := bn1 BK eg.out; have NB2 := bn2 BK eg.out; replace BK := bbw BK hb2.out; clear HB; have HB := HB2; clear HB2; have hcf := hcf8 BK; obtain ⟨_, _, _, _, _, _, _, _, _, _, _, _, _, _, _, _⟩ := hcf; have hcf := hcf8 BK2; obtain ⟨_, _, _, _, _, _, _, _, _, _, _, _, _, _, _, _⟩ := hcf; have hnb := NB.out; have hnb2 := NB2.out) | ((with_reducible refine gate_callee (f := 48) rfl ?_); refine goesL_ (some 13) rfl rfl Try.func48 (by kernel_rfl) rfl #[.agg #[.slice A0 l0.length c0, .int .i64 a1, .int .i64 a2, .int .i64 a3, .slice A4 l4.length c4, .slice A5 l5.length c5, .slice A6 l6.length c6, .slice A7 l7.length c7], .slice A1 l1.length c1, .agg #[.int .i64 a2_0, .int .i64 a2_1, .int .i64 a2_2, .int .i64 a2_3, .int .i64 a2_4, .int .i64 0, .int .i64 a2_6, .int .i64 a2_7]] rfl (by (try simp only [List.map_toArray, List.map_cons, List.map_nil]); first | done | rfl) ?_; refine (kinds_calls ⟨A0, c0, l0, a1, a2, a3, A4, c4, l4, A5, c5, l5, A6, c6, l6, A7, c7, l7⟩ A1 c1 l1 ⟨a2_0, a2_1, a2_2, a2_3, a2_4, 0, ⟨a2_6, a2_7⟩⟩ _ (Gr.Held.below QG.out (bpk HB).out) (Kd.C_below Q1.out (bpk HB).out) K14.out K13.out K13b.out).mono ?_; rintro e w' ⟨⟨kk, kb, rfl⟩, hb⟩; replace BK := bbw BK hb; replace BK2 := bbw BK2 hb; replace HB := bst HB hb; clear hb; have hcf := hcf8 BK; obtain ⟨_, _, _, _, _, _, _, _, _, _, _, _, _, _, _, _⟩ := hcf; have hcf := hcf8 BK2; obtain ⟨_, _, _, _, _, _, _, _, _, _, _, _, _, _, _, _⟩ := hcf; refine ⟨_, rfl, ?_⟩))
      all_goals go_ret
      all_goals exact ⟨⟨_, rfl, trivial⟩, (bpk HB).out⟩
    · have cSd : (a2_5 == 0) = false := beq_eq_false_iff_ne.mpr (by omega)
      by_cases cP : 0 < a2_5
      · have cSb := decide_eq_true cP
        have cSc : decide (a2_5 < (l7.length : Int)) = false := decide_eq_false (by omega)
        go_enter Try.func36, Try.ntmps36
        go_wp2_with (first | ((with_reducible refine gate_dst (N := 3) rfl ?_); refine boxQ 3 #[.slice A0 l0.length c0, .int .i64 a1, .int .i64 a2, .int .i64 a3, .slice A4 l4.length c4, .slice A5 l5.length c5, .slice A6 l6.length c6, .slice A7 l7.length c7] 41 HB ?_; clear HB; intro gb w1 _ GW BK _ HB) | ((with_reducible refine gate_dst (N := 5) rfl ?_); refine boxQ 5 #[.int .i64 a2_0, .int .i64 a2_1, .int .i64 a2_2, .int .i64 a2_3, .int .i64 a2_4, .int .i64 a2_5, .int .i64 a2_6, .int .i64 a2_7] 64 HB ?_; intro gc w2 eg GW2 BK2 hb2 HB2; have NB := bn1 BK eg.out; have NB2 := bn2 BK eg.out; replace BK := bbw BK hb2.out; clear HB; have HB := HB2; clear HB2; have hcf := hcf8 BK; obtain ⟨_, _, _, _, _, _, _, _, _, _, _, _, _, _, _, _⟩ := hcf; have hcf := hcf8 BK2; obtain ⟨_, _, _, _, _, _, _, _, _, _, _, _, _, _, _, _⟩ := hcf; have hnb := NB.out; have hnb2 := NB2.out) | ((with_reducible refine gate_callee (f := 48) rfl ?_); refine goesL_ (some 13) rfl rfl Try.func48 (by kernel_rfl) rfl #[.agg #[.slice A0 l0.length c0, .int .i64 a1, .int .i64 a2, .int .i64 a3, .slice A4 l4.length c4, .slice A5 l5.length c5, .slice A6 l6.length c6, .slice A7 l7.length c7], .slice A1 l1.length c1, .agg #[.int .i64 a2_0, .int .i64 a2_1, .int .i64 a2_2, .int .i64 a2_3, .int .i64 a2_4, .int .i64 a2_5, .int .i64 a2_6, .int .i64 a2_7]] rfl (by (try simp only [List.map_toArray, List.map_cons, List.map_nil]); first | done | rfl) ?_; refine (kinds_calls ⟨A0, c0, l0, a1, a2, a3, A4, c4, l4, A5, c5, l5, A6, c6, l6, A7, c7, l7⟩ A1 c1 l1 ⟨a2_0, a2_1, a2_2, a2_3, a2_4, a2_5, ⟨a2_6, a2_7⟩⟩ _ (Gr.Held.below QG.out (bpk HB).out) (Kd.C_below Q1.out (bpk HB).out) K14.out K13.out K13b.out).mono ?_; rintro e w' ⟨⟨kk, kb, rfl⟩, hb⟩; replace BK := bbw BK hb; replace BK2 := bbw BK2 hb; replace HB := bst HB hb; clear hb; have hcf := hcf8 BK; obtain ⟨_, _, _, _, _, _, _, _, _, _, _, _, _, _, _, _⟩ := hcf; have hcf := hcf8 BK2; obtain ⟨_, _, _, _, _, _, _, _, _, _, _, _, _, _, _, _⟩ := hcf; refine ⟨_, rfl, ?_⟩))
        all_goals go_ret
        all_goals exact ⟨⟨_, rfl, trivial⟩, (bpk HB).out⟩
      · have cSb := decide_eq_false cP
        go_enter Try.func36, Try.ntmps36
        go_wp2_with (first | ((with_reducible refine gate_dst (N := 3) rfl ?_); refine boxQ 3 #[.slice A0 l0.length c0, .int .i64 a1, .int .i64 a2, .int .i64 a3, .slice A4 l4.length c4, .slice A5 l5.length c5, .slice A6 l6.length c6, .slice A7 l7.length c7] 41 HB ?_; clear HB; intro gb w1 _ GW BK _ HB) | ((with_reducible refine gate_dst (N := 5) rfl ?_); refine boxQ 5 #[.int .i64 a2_0, .int .i64 a2_1, .int .i64 a2_2, .int .i64 a2_3, .int .i64 a2_4, .int .i64 a2_5, .int .i64 a2_6, .int .i64 a2_7] 64 HB ?_; intro gc w2 eg GW2 BK2 hb2 HB2; have NB := bn1 BK eg.out; have NB2 := bn2 BK eg.out; replace BK := bbw BK hb2.out; clear HB; have HB := HB2; clear HB2; have hcf := hcf8 BK; obtain ⟨_, _, _, _, _, _, _, _, _, _, _, _, _, _, _, _⟩ := hcf; have hcf := hcf8 BK2; obtain ⟨_, _, _, _, _, _, _, _, _, _, _, _, _, _, _, _⟩ := hcf; have hnb := NB.out; have hnb2 := NB2.out) | ((with_reducible refine gate_callee (f := 48) rfl ?_); refine goesL_ (some 13) rfl rfl Try.func48 (by kernel_rfl) rfl #[.agg #[.slice A0 l0.length c0, .int .i64 a1, .int .i64 a2, .int .i64 a3, .slice A4 l4.length c4, .slice A5 l5.length c5, .slice A6 l6.length c6, .slice A7 l7.length c7], .slice A1 l1.length c1, .agg #[.int .i64 a2_0, .int .i64 a2_1, .int .i64 a2_2, .int .i64 a2_3, .int .i64 a2_4, .int .i64 a2_5, .int .i64 a2_6, .int .i64 a2_7]] rfl (by (try simp only [List.map_toArray, List.map_cons, List.map_nil]); first | done | rfl) ?_; refine (kinds_calls ⟨A0, c0, l0, a1, a2, a3, A4, c4, l4, A5, c5, l5, A6, c6, l6, A7, c7, l7⟩ A1 c1 l1 ⟨a2_0, a2_1, a2_2, a2_3, a2_4, a2_5, ⟨a2_6, a2_7⟩⟩ _ (Gr.Held.below QG.out (bpk HB).out) (Kd.C_below Q1.out (bpk HB).out) K14.out K13.out K13b.out).mono ?_; rintro e w' ⟨⟨kk, kb, rfl⟩, hb⟩; replace BK := bbw BK hb; replace BK2 := bbw BK2 hb; replace HB := bst HB hb; clear hb; have hcf := hcf8 BK; obtain ⟨_, _, _, _, _, _, _, _, _, _, _, _, _, _, _, _⟩ := hcf; have hcf := hcf8 BK2; obtain ⟨_, _, _, _, _, _, _, _, _, _, _, _, _, _, _, _⟩ := hcf; refine ⟨_, rfl, ?_⟩))
        all_goals go_ret
        all_goals exact ⟨⟨_, rfl, trivial⟩, (bpk HB).out⟩
end Go.Proofs.Ytllfopbchdahoaa.P
/- What the law's proof needs of F6. -/
namespace Go.Proofs.Ytllfopbchdahoaa.P
open Go.RowKit Go.Proofs.YtllfopbchdahoaaW.PrintWords Go.Proofs.YtllfopbchdahoaaW.PrintLast Go.Proofs.YtllfopbchdahoaaW.PrintMore Go.Proofs.YtllfopbchdahoaaO
attribute [local go_sem] max2_int min2_int max_two min_two max_three min_three max_four min_four
set_option linter.unusedVariables false
set_option linter.unusedSimpArgs false
def UsesP (op d a b : Int) (us : List Int) : Prop :=
  (op = 2 ∨ op = 3 ∨ op = 13 → us = [a]) ∧ (4 ≤ op ∧ op ≤ 10 ∨ op = 15 → us = [a, b]) ∧ (op = 11 → us = [b]) ∧ (op = 14 → us = [d, b]) ∧ us.length ≤ 2
/-- A list is returned. -/
def RetL (e : Ending) (w' : World) (p : List Int → Prop) : Prop := ∃ A c, ∃ us : List Int, e = .returned (.slice A us.length c) ∧ Kd.C (Kd.int .i64) w' A us.length us ∧ p us
theorem RetL_nil {w' : World} {p : List Int → Prop} (h : p []) : RetL (.returned (.slice none 0 0)) w' p := ⟨none, 0, [], rfl, (Kd.R_reads' (Kd.R_nil (Kd.int .i64) 3 w' 0 (fun _ => True))).2.2, h⟩
theorem RetL_R {W w' : World} {b : Nat} {ok : Nat → Prop} {v : Value} {us : List Int} {p : List Int → Prop} (HO : Aside0 (Kd.R (Kd.int .i64) 3 W b ok v us)) (h : p us) (hW : Kd.R (Kd.int .i64) 3 W b ok v us → Kd.R (Kd.int .i64) 3 w' b ok v us := by (intro hq_; (with_reducible repeat (first | exact hq_ | apply Kd.R_alloc | apply Kd.R_drewN | apply Kd.R_drew)); try exact hq_)) : RetL (.returned v) w' p := by
  have h2 := hW HO.out
  obtain ⟨A, c, rfl⟩ := Kd.R_slice h2
  exact ⟨A, c, us, rfl, (Kd.R_reads' h2).2.2, h⟩
set_option maxHeartbeats 8000000 in
set_option maxRecDepth 100000 in
theorem uses_calls (a0_0 a0_1 a0_2 a0_3 a0_4 a0_5 a0_6 a0_7 : Int) (w : World) :
    Calls Try.prog 35 #[.agg #[.int .i64 a0_0, .int .i64 a0_1, .int .i64 a0_2, .int .i64 a0_3, .int .i64 a0_4, .int .i64 a0_5, .int .i64 a0_6, .int .i64 a0_7]] w fun e w' => RetL e w' (UsesP a0_0 a0_1 a0_2 a0_3) ∧ Below w.heap.size w w' := by
  have hu64 := Try.underlying64
  have HB := Aside0.mk (Below.refl w.heap.size w)
  go_enter Try.func35, Try.ntmps35
  go_wp2_with (first | ((with_reducible refine gate_dst (N := 1) rfl ?_); refine boxQ 1 #[.int .i64 a0_0, .int .i64 a0_1, .int .i64 a0_2, .int .i64 a0_3, .int .i64 a0_4, .int .i64 a0_5, .int .i64 a0_6, .int .i64 a0_7] 64 HB ?_; clear HB; intro g w1 _ GW BK _ HB; have hcf := hcf8 BK; obtain ⟨_, _, _, _, _, _, _, _, _, _, _, _, _, _, _, _⟩ := hcf) | ((with_reducible refine gate_dst (N := 11) rfl ?_); refine Kd.R_lit (Kd.int .i64) _ 3 ?hg (N := 11) ?hd (xs := ([a0_2] : List Int)) (inner := [.int .i64 a0_2]) (ok := fun _ => True) (okp := fun _ => True) ?hr ?hp (fun _ hk => hk) trivial (Below.refl _ _) (Nat.le_refl _) (by simp) ?_; (case hd => rfl); (case hg => rfl); (case hr => first | (go_simp; done) | (go_simp; rfl)); (case hp => exact (Reps.one (show Kd.M (Kd.int .i64) _ _ _ a0_2 [.int .i64 a0_2] from rfl) (Reps.none _ _))); intro v wo ho hb hg_ hnew_; clear hg_ hnew_; replace HB := bst HB hb; have HO := Aside0.mk ho; clear hb ho; clear BK) | ((with_reducible refine gate_dst (N := 25) rfl ?_); refine Kd.R_lit (Kd.int .i64) _ 3 ?hg (N := 25) ?hd (xs := ([a0_2, a0_3] : List Int)) (inner := [.int .i64 a0_2, .int .i64 a0_3]) (ok := fun _ => True) (okp := fun _ => True) ?hr ?hp (fun _ hk => hk) trivial (Below.refl _ _) (Nat.le_refl _) (by simp) ?_; (case hd => rfl); (case hg => rfl); (case hr => first | (go_simp; done) | (go_simp; rfl)); (case hp => exact (Reps.one (show Kd.M (Kd.int .i64) _ _ _ a0_2 [.int .i64 a0_2] from rfl) (Reps.one (show Kd.M (Kd.int .i64) _ _ _ a0_3 [.int .i64 a0_3] from rfl) (Reps.none _ _)))); intro v wo ho hb hg_ hnew_; clear hg_ hnew_; replace HB := bst HB hb; have HO := Aside0.mk ho; clear hb ho; clear BK) | ((with_reducible refine gate_dst (N := 30) rfl ?_); refine Kd.R_lit (Kd.int .i64) _ 3 ?hg (N := 30) ?hd (xs := ([a0_3] : List Int)) (inner := [.int .i64 a0_3]) (ok := fun _ => True) (okp := fun _ => True) ?hr ?hp (fun _ hk => hk) trivial (Below.refl _ _) (Nat.le_refl _) (by simp) ?_; (case hd => rfl); (case hg => rfl); (case hr => first | (go_simp; done) | (go_simp; rfl)); (case hp => exact (Reps.one (show Kd.M (Kd.int .i64) _ _ _ a0_3 [.int .i64 a0_3] from rfl) (Reps.none _ _))); intro v wo ho hb hg_ hnew_; clear hg_ hnew_; replace HB := bst HB hb; have HO := Aside0.mk ho; clear hb ho; clear BK) | ((with_reducible refine gate_dst (N := 37) rfl ?_); refine Kd.R_lit (Kd.int .i64) _ 3 ?hg (N := 37) ?hd (xs := ([a0_1, a0_3] : List Int)) (inner := [.int .i64 a0_1, .int .i64 a0_3]) (ok := fun _ => True) (okp := fun _ => True) ?hr ?hp (fun _ hk => hk) trivial (Below.refl _ _) (Nat.le_refl _) (by simp) ?_; (case hd => rfl); (case hg => rfl); (case hr => first | (go_simp; done) | (go_simp; rfl)); (case hp => exact (Reps.one (show Kd.M (Kd.int .i64) _ _ _ a0_1 [.int .i64 a0_1] from rfl) (Reps.one (show Kd.M (Kd.int .i64) _ _ _ a0_3 [.int .i64 a0_3] from rfl) (Reps.none _ _)))); intro v wo ho hb hg_ hnew_; clear hg_ hnew_; replace HB := bst HB hb; have HO := Aside0.mk ho; clear hb ho; clear BK))
  all_goals first | go_ret | skip
  all_goals refine ⟨?_, (bpk HB).out⟩
  all_goals first | refine RetL_nil ?_ | refine RetL_R HO ?_
  all_goals simp only [beq_iff_eq, beq_eq_false_iff_ne, ne_eq] at *
  all_goals exact ⟨fun h => by first | rfl | omega, fun h => by first | rfl | omega, fun h => by first | rfl | omega, fun h => by first | rfl | omega, by simp⟩
end Go.Proofs.Ytllfopbchdahoaa.P
/- What the law's proof needs of F7. -/
namespace Go.Proofs.Ytllfopbchdahoaa.P
open Go.RowKit Go.Proofs.YtllfopbchdahoaaW.PrintWords Go.Proofs.YtllfopbchdahoaaW.PrintLast Go.Proofs.YtllfopbchdahoaaW.PrintMore Go.Proofs.YtllfopbchdahoaaO
attribute [local go_sem] max2_int min2_int max_two min_two max_three min_three max_four min_four
set_option linter.unusedVariables false
set_option linter.unusedSimpArgs false
def Typed (t : Int) : Prop := 1 ≤ t ∧ t ≤ 3
structure PartsOK (G : Gr) : Prop where
  n4 : G.l4.length ≤ 32
  n5 : G.l5.length ≤ 64
  n6 : G.l6.length ≤ 16
  tk : 0 ≤ G.ticks
  sc : ∀ j : Nat, j < G.l5.length → Typed (rd_T86 G.l5 (j : Int)).f1
  ar : ∀ j : Nat, j < G.l6.length → Typed (rd_T88 G.l6 (j : Int)).f1 ∧ 1 ≤ (rd_T88 G.l6 (j : Int)).f2 ∧ (rd_T88 G.l6 (j : Int)).f2 ≤ 256
def PartsP (G : Gr) (b : Bool) : Prop := b = true → PartsOK G
theorem upto_next {P : Nat → Prop} {k : Nat} (h : ∀ j : Nat, j < k → P j) (hk : P k) : ∀ j : Nat, j < k + 1 → P j := fun j hj => by
  by_cases e : j = k
  · subst e; exact hk
  · exact h j (by omega)
set_option maxHeartbeats 8000000 in
set_option maxRecDepth 100000 in
theorem parts_calls (G : Gr) (w : World) (hG : G.Held w) : Calls Try.prog 31 #[G.v] w fun e w' => RetB e (PartsP G) ∧ Below w.heap.size w w' := by
  obtain ⟨A0, c0, l0, a1, a2, a3, A4, c4, l4, A5, c5, l5, A6, c6, l6, A7, c7, l7⟩ := G
  obtain ⟨H0, H4, H5, H6, H7, k0, k5, k7⟩ := hG
  simp only [Gr.v] at *
  have hu41 := Try.underlying41
  have HB := Aside0.mk (Below.refl w.heap.size w)
  have Q4 := Aside0.mk H4
  have Q5 := Aside0.mk H5
  have Q6 := Aside0.mk H6
  have Q7 := Aside0.mk H7
  clear H0 H4 H5 H6 H7
  go_enter Try.func31, Try.ntmps31
  by_cases cS : 1 ≤ l7.length
  · obtain ⟨ad7, ee, hs_0, hs_1⟩ := at_T80 Q7.out 0 (by omega) (by omega)
    rw [show ((0 : Int)).toNat * 2 = 0 from rfl, Addr.add_zero'] at hs_0 hs_1
    cases ee
    have cS2 : (0 < l7.length) = True := eq_true (by omega)
    have cS3 : decide ((l7.length : Int) < 1) = false := decide_eq_false (by omega)
    have cS4 : ((0 : Int) < (l7.length : Int)) = True := eq_true (by omega)
    go_wp2_with (first | ((with_reducible refine gate_dst (N := 1) rfl ?_); refine boxQ 1 #[.slice A0 l0.length c0, .int .i64 a1, .int .i64 a2, .int .i64 a3, .slice A4 l4.length c4, .slice A5 l5.length c5, .slice A6 l6.length c6, .slice (some ad7) l7.length c7] 41 HB ?_; clear HB; intro gb w1 _ GW BK _ HB; replace hs_0 := (HB.out.cell (World.block_lt_of_cell? w _ hs_0)).trans hs_0; replace hs_1 := (HB.out.cell (World.block_lt_of_cell? w _ hs_1)).trans hs_1; have hcf := hcf8 BK; obtain ⟨_, _, _, _, _, _, _, _, _, _, _, _, _, _, _, _⟩ := hcf))
    all_goals first | (go_ret; exact ⟨⟨_, rfl, fun h => nomatch h⟩, (bpk HB).out⟩) | skip
    have n4 : l4.length ≤ 32 := by omega
    have n5 : l5.length ≤ 64 := by omega
    have n6 : l6.length ≤ 16 := by omega
    have tk : 0 ≤ a3 := by omega
    clear hs_0 hs_1 cS2 cS3 cS4
    go_loopw [54] (fun i wr => ∃ k : Nat, k ≤ l7.length ∧ i = .int .i64 (k : Int) ∧ (True) ∧ Aside0 (wr.heap[gb]? = some (.cells #[.slice A0 l0.length c0, .int .i64 a1, .int .i64 a2, .int .i64 a3, .slice A4 l4.length c4, .slice A5 l5.length c5, .slice A6 l6.length c6, .slice (some ad7) l7.length c7] 41 (0, 0))) ∧ Aside0 (Below w.heap.size w wr)) (fun i _ => l7.length - (intOf i).toNat)
    case atStart => exact ⟨0, Nat.zero_le _, rfl, trivial, pkA BK, bpk HB⟩
    case round =>
     rename World => wl
     clear HB BK
     obtain ⟨k, hk, rfl, hF7, BK, HB⟩ := hrel
     by_cases hlt : k < l7.length
     · obtain ⟨ad7, ee, hx_0, hx_1⟩ := at_T80 Q7.out (k : Int) (by omega) (by omega)
       replace hx_0 := (HB.out.cell (World.block_lt_of_cell? w _ hx_0)).trans hx_0
       replace hx_1 := (HB.out.cell (World.block_lt_of_cell? w _ hx_1)).trans hx_1
       have hcf := hcf8 BK
       obtain ⟨_, _, _, _, _, _, _, _, _, _, _, _, _, _, _, _⟩ := hcf
       have hlt2 : decide ((k : Int) < (l7.length : Int)) = true := decide_eq_true (by omega)
       generalize hy : rd_T80 l7 (k : Int) = y at hx_0 hx_1
       cases ee
       simp only [Int.toNat_natCast] at hx_0 hx_1
       go_wp2_with (first | ((with_reducible refine gate_dst (N := 4) rfl ?_); refine boxQ 4 #[.int .i64 0, .int .i64 0] 80 HB ?_; intro gx wx eg GX BX hb HX; have NX := bn1 BK eg.out; have NX2 := bn2 BK eg.out; replace BK := bbw BK hb.out; clear HB hb eg; have HB := HX; clear HX; have hcf := hcf2 BX; obtain ⟨_, _, _, _⟩ := hcf; have hnx := NX.out; have hnx2 := NX2.out))
       all_goals first | (go_ret; exact ⟨⟨_, rfl, fun h => nomatch h⟩, (bpk HB).out⟩) | skip
       all_goals (go_roundw; (case measure => simp [intOf]; omega); (case rel => exact ⟨k + 1, by omega, by simp, trivial, ⟨pkF BK⟩, bpk HB⟩))
     · obtain rfl : k = l7.length := by omega
       have hlt2 : decide ((l7.length : Int) < (l7.length : Int)) = false := decide_eq_false (by omega)
       have hcf := hcf8 BK
       obtain ⟨_, _, _, _, _, _, _, _, _, _, _, _, _, _, _, _⟩ := hcf
       go_wp2
       go_loopw [76] (fun i wr => ∃ k : Nat, k ≤ l4.length ∧ i = .int .i64 (k : Int) ∧ (True) ∧ Aside0 (wr.heap[gb]? = some (.cells #[.slice A0 l0.length c0, .int .i64 a1, .int .i64 a2, .int .i64 a3, .slice A4 l4.length c4, .slice A5 l5.length c5, .slice A6 l6.length c6, .slice (some ad7) l7.length c7] 41 (0, 0))) ∧ Aside0 (Below w.heap.size w wr)) (fun i _ => l4.length - (intOf i).toNat)
       case atStart => exact ⟨0, Nat.zero_le _, rfl, trivial, pkA BK, bpk HB⟩
       case round =>
        rename World => wl
        clear HB BK
        obtain ⟨k, hk, rfl, hF4, BK, HB⟩ := hrel
        by_cases hlt : k < l4.length
        · obtain ⟨ad4, ee, hx_0, hx_1, hx_2, hx_3⟩ := at_T82 Q4.out (k : Int) (by omega) (by omega)
          replace hx_0 := (HB.out.cell (World.block_lt_of_cell? w _ hx_0)).trans hx_0
          replace hx_1 := (HB.out.cell (World.block_lt_of_cell? w _ hx_1)).trans hx_1
          replace hx_2 := (HB.out.cell (World.block_lt_of_cell? w _ hx_2)).trans hx_2
          replace hx_3 := (HB.out.cell (World.block_lt_of_cell? w _ hx_3)).trans hx_3
          have hcf := hcf8 BK
          obtain ⟨_, _, _, _, _, _, _, _, _, _, _, _, _, _, _, _⟩ := hcf
          have hlt2 : decide ((k : Int) < (l4.length : Int)) = true := decide_eq_true (by omega)
          generalize hy : rd_T82 l4 (k : Int) = y at hx_0 hx_1 hx_2 hx_3
          cases ee
          simp only [Int.toNat_natCast] at hx_0 hx_1 hx_2 hx_3
          go_wp2_with (first | ((with_reducible refine gate_dst (N := 6) rfl ?_); refine boxQ 6 #[.string (⟨#[]⟩ : ByteArray), .int .i64 0, .int .i64 0, .int .i64 0] 82 HB ?_; intro gx wx eg GX BX hb HX; have NX := bn1 BK eg.out; have NX2 := bn2 BK eg.out; replace BK := bbw BK hb.out; clear HB hb eg; have HB := HX; clear HX; have hcf := hcf4 BX; obtain ⟨_, _, _, _, _, _, _, _⟩ := hcf; have hnx := NX.out; have hnx2 := NX2.out))
          by_cases ct : 1 ≤ y.f1 ∧ y.f1 ≤ 3
          rotate_left
          · have ctb := decide_eq_false ct
            go_quiet (first | exact Calls.quiet_of ((typed_q _ _).mono fun e w' ⟨h1, n, h2⟩ => ⟨h1, n, h2⟩) | exact Calls.quiet_of ((Lo_q _ _).mono fun e w' ⟨h1, n, h2⟩ => ⟨h1, n, h2⟩) | exact Calls.quiet_of ((Hi_q _ _).mono fun e w' ⟨h1, n, h2⟩ => ⟨h1, n, h2⟩))
            go_wp2
            go_ret
            exact ⟨⟨_, rfl, fun h => nomatch h⟩, (bpk HB).out⟩
          · have ctb := decide_eq_true ct
            by_cases c2 : y.f3 < y.f2
            · have c2b := decide_eq_true c2
              go_quiet (first | exact Calls.quiet_of ((typed_q _ _).mono fun e w' ⟨h1, n, h2⟩ => ⟨h1, n, h2⟩) | exact Calls.quiet_of ((Lo_q _ _).mono fun e w' ⟨h1, n, h2⟩ => ⟨h1, n, h2⟩) | exact Calls.quiet_of ((Hi_q _ _).mono fun e w' ⟨h1, n, h2⟩ => ⟨h1, n, h2⟩))
              go_wp2
              go_ret
              exact ⟨⟨_, rfl, fun h => nomatch h⟩, (bpk HB).out⟩
            · have c2b := decide_eq_false c2
              by_cases c3 : y.f2 < LoV y.f1
              · have c3b := decide_eq_true c3
                go_quiet (first | exact Calls.quiet_of ((typed_q _ _).mono fun e w' ⟨h1, n, h2⟩ => ⟨h1, n, h2⟩) | exact Calls.quiet_of ((Lo_q _ _).mono fun e w' ⟨h1, n, h2⟩ => ⟨h1, n, h2⟩) | exact Calls.quiet_of ((Hi_q _ _).mono fun e w' ⟨h1, n, h2⟩ => ⟨h1, n, h2⟩))
                go_wp2
                go_ret
                exact ⟨⟨_, rfl, fun h => nomatch h⟩, (bpk HB).out⟩
              · have c3b := decide_eq_false c3
                by_cases c4 : HiV y.f1 < y.f3
                · have c4b := decide_eq_true c4
                  go_quiet (first | exact Calls.quiet_of ((typed_q _ _).mono fun e w' ⟨h1, n, h2⟩ => ⟨h1, n, h2⟩) | exact Calls.quiet_of ((Lo_q _ _).mono fun e w' ⟨h1, n, h2⟩ => ⟨h1, n, h2⟩) | exact Calls.quiet_of ((Hi_q _ _).mono fun e w' ⟨h1, n, h2⟩ => ⟨h1, n, h2⟩))
                  go_wp2
                  go_ret
                  exact ⟨⟨_, rfl, fun h => nomatch h⟩, (bpk HB).out⟩
                · have c4b := decide_eq_false c4
                  go_quiet (first | exact Calls.quiet_of ((typed_q _ _).mono fun e w' ⟨h1, n, h2⟩ => ⟨h1, n, h2⟩) | exact Calls.quiet_of ((Lo_q _ _).mono fun e w' ⟨h1, n, h2⟩ => ⟨h1, n, h2⟩) | exact Calls.quiet_of ((Hi_q _ _).mono fun e w' ⟨h1, n, h2⟩ => ⟨h1, n, h2⟩))
                  go_wp2
                  all_goals (go_roundw; (case measure => simp [intOf]; omega); (case rel => exact ⟨k + 1, by omega, by simp, trivial, ⟨pkF BK⟩, bpk HB⟩))
        · obtain rfl : k = l4.length := by omega
          have hlt2 : decide ((l4.length : Int) < (l4.length : Int)) = false := decide_eq_false (by omega)
          have hcf := hcf8 BK
          obtain ⟨_, _, _, _, _, _, _, _, _, _, _, _, _, _, _, _⟩ := hcf
          go_wp2
          go_loopw [111] (fun i wr => ∃ k : Nat, k ≤ l5.length ∧ i = .int .i64 (k : Int) ∧ (∀ j : Nat, j < k → Typed (rd_T86 l5 (j : Int)).f1) ∧ Aside0 (wr.heap[gb]? = some (.cells #[.slice A0 l0.length c0, .int .i64 a1, .int .i64 a2, .int .i64 a3, .slice A4 l4.length c4, .slice A5 l5.length c5, .slice A6 l6.length c6, .slice (some ad7) l7.length c7] 41 (0, 0))) ∧ Aside0 (Below w.heap.size w wr)) (fun i _ => l5.length - (intOf i).toNat)
          case atStart => exact ⟨0, Nat.zero_le _, rfl, fun j hj => absurd hj (Nat.not_lt_zero j), pkA BK, bpk HB⟩
          case round =>
           rename World => wl
           clear HB BK
           obtain ⟨k, hk, rfl, hF5, BK, HB⟩ := hrel
           by_cases hlt : k < l5.length
           · obtain ⟨ad5, ee, hx_0, hx_1, hx_2⟩ := at_T86 Q5.out (k : Int) (by omega) (by omega)
             replace hx_0 := (HB.out.cell (World.block_lt_of_cell? w _ hx_0)).trans hx_0
             replace hx_1 := (HB.out.cell (World.block_lt_of_cell? w _ hx_1)).trans hx_1
             replace hx_2 := (HB.out.cell (World.block_lt_of_cell? w _ hx_2)).trans hx_2
             have hcf := hcf8 BK
             obtain ⟨_, _, _, _, _, _, _, _, _, _, _, _, _, _, _, _⟩ := hcf
             have hlt2 : decide ((k : Int) < (l5.length : Int)) = true := decide_eq_true (by omega)
             generalize hy : rd_T86 l5 (k : Int) = y at hx_0 hx_1 hx_2
             cases ee
             simp only [Int.toNat_natCast] at hx_0 hx_1 hx_2
             go_wp2_with (first | ((with_reducible refine gate_dst (N := 8) rfl ?_); refine boxQ 8 #[.string (⟨#[]⟩ : ByteArray), .int .i64 0, .int .i64 0] 86 HB ?_; intro gx wx eg GX BX hb HX; have NX := bn1 BK eg.out; have NX2 := bn2 BK eg.out; replace BK := bbw BK hb.out; clear HB hb eg; have HB := HX; clear HX; have hcf := hcf3 BX; obtain ⟨_, _, _, _, _, _⟩ := hcf; have hnx := NX.out; have hnx2 := NX2.out))
             by_cases ct : 1 ≤ y.f1 ∧ y.f1 ≤ 3
             rotate_left
             · have ctb := decide_eq_false ct
               go_quiet (first | exact Calls.quiet_of ((typed_q _ _).mono fun e w' ⟨h1, n, h2⟩ => ⟨h1, n, h2⟩) | exact Calls.quiet_of ((Lo_q _ _).mono fun e w' ⟨h1, n, h2⟩ => ⟨h1, n, h2⟩) | exact Calls.quiet_of ((Hi_q _ _).mono fun e w' ⟨h1, n, h2⟩ => ⟨h1, n, h2⟩))
               go_wp2
               go_ret
               exact ⟨⟨_, rfl, fun h => nomatch h⟩, (bpk HB).out⟩
             · have ctb := decide_eq_true ct
               by_cases c3 : y.f2 < LoV y.f1
               · have c3b := decide_eq_true c3
                 go_quiet (first | exact Calls.quiet_of ((typed_q _ _).mono fun e w' ⟨h1, n, h2⟩ => ⟨h1, n, h2⟩) | exact Calls.quiet_of ((Lo_q _ _).mono fun e w' ⟨h1, n, h2⟩ => ⟨h1, n, h2⟩) | exact Calls.quiet_of ((Hi_q _ _).mono fun e w' ⟨h1, n, h2⟩ => ⟨h1, n, h2⟩))
                 go_wp2
                 go_ret
                 exact ⟨⟨_, rfl, fun h => nomatch h⟩, (bpk HB).out⟩
               · have c3b := decide_eq_false c3
                 by_cases c4 : HiV y.f1 < y.f2
                 · have c4b := decide_eq_true c4
                   go_quiet (first | exact Calls.quiet_of ((typed_q _ _).mono fun e w' ⟨h1, n, h2⟩ => ⟨h1, n, h2⟩) | exact Calls.quiet_of ((Lo_q _ _).mono fun e w' ⟨h1, n, h2⟩ => ⟨h1, n, h2⟩) | exact Calls.quiet_of ((Hi_q _ _).mono fun e w' ⟨h1, n, h2⟩ => ⟨h1, n, h2⟩))
                   go_wp2
                   go_ret
                   exact ⟨⟨_, rfl, fun h => nomatch h⟩, (bpk HB).out⟩
                 · have c4b := decide_eq_false c4
                   go_quiet (first | exact Calls.quiet_of ((typed_q _ _).mono fun e w' ⟨h1, n, h2⟩ => ⟨h1, n, h2⟩) | exact Calls.quiet_of ((Lo_q _ _).mono fun e w' ⟨h1, n, h2⟩ => ⟨h1, n, h2⟩) | exact Calls.quiet_of ((Hi_q _ _).mono fun e w' ⟨h1, n, h2⟩ => ⟨h1, n, h2⟩))
                   go_wp2
                   all_goals (go_roundw; (case measure => simp [intOf]; omega); (case rel => exact ⟨k + 1, by omega, by simp, upto_next hF5 (by rw [hy]; exact ct), ⟨pkF BK⟩, bpk HB⟩))
           · obtain rfl : k = l5.length := by omega
             have hlt2 : decide ((l5.length : Int) < (l5.length : Int)) = false := decide_eq_false (by omega)
             have hcf := hcf8 BK
             obtain ⟨_, _, _, _, _, _, _, _, _, _, _, _, _, _, _, _⟩ := hcf
             go_wp2
             go_loopw [139] (fun i wr => ∃ k : Nat, k ≤ l6.length ∧ i = .int .i64 (k : Int) ∧ (∀ j : Nat, j < k → Typed (rd_T88 l6 (j : Int)).f1 ∧ 1 ≤ (rd_T88 l6 (j : Int)).f2 ∧ (rd_T88 l6 (j : Int)).f2 ≤ 256) ∧ Aside0 (wr.heap[gb]? = some (.cells #[.slice A0 l0.length c0, .int .i64 a1, .int .i64 a2, .int .i64 a3, .slice A4 l4.length c4, .slice A5 l5.length c5, .slice A6 l6.length c6, .slice (some ad7) l7.length c7] 41 (0, 0))) ∧ Aside0 (Below w.heap.size w wr)) (fun i _ => l6.length - (intOf i).toNat)
             case atStart => exact ⟨0, Nat.zero_le _, rfl, fun j hj => absurd hj (Nat.not_lt_zero j), pkA BK, bpk HB⟩
             case round =>
              rename World => wl
              clear HB BK
              obtain ⟨k, hk, rfl, hF6, BK, HB⟩ := hrel
              by_cases hlt : k < l6.length
              · obtain ⟨ad6, ee, hx_0, hx_1, hx_2, hx_3⟩ := at_T88 Q6.out (k : Int) (by omega) (by omega)
                replace hx_0 := (HB.out.cell (World.block_lt_of_cell? w _ hx_0)).trans hx_0
                replace hx_1 := (HB.out.cell (World.block_lt_of_cell? w _ hx_1)).trans hx_1
                replace hx_2 := (HB.out.cell (World.block_lt_of_cell? w _ hx_2)).trans hx_2
                replace hx_3 := (HB.out.cell (World.block_lt_of_cell? w _ hx_3)).trans hx_3
                have hcf := hcf8 BK
                obtain ⟨_, _, _, _, _, _, _, _, _, _, _, _, _, _, _, _⟩ := hcf
                have hlt2 : decide ((k : Int) < (l6.length : Int)) = true := decide_eq_true (by omega)
                generalize hy : rd_T88 l6 (k : Int) = y at hx_0 hx_1 hx_2 hx_3
                cases ee
                simp only [Int.toNat_natCast] at hx_0 hx_1 hx_2 hx_3
                go_wp2_with (first | ((with_reducible refine gate_dst (N := 10) rfl ?_); refine boxQ 10 #[.string (⟨#[]⟩ : ByteArray), .int .i64 0, .int .i64 0, .int .i64 0] 88 HB ?_; intro gx wx eg GX BX hb HX; have NX := bn1 BK eg.out; have NX2 := bn2 BK eg.out; replace BK := bbw BK hb.out; clear HB hb eg; have HB := HX; clear HX; have hcf := hcf4 BX; obtain ⟨_, _, _, _, _, _, _, _⟩ := hcf; have hnx := NX.out; have hnx2 := NX2.out))
                by_cases ct : 1 ≤ y.f1 ∧ y.f1 ≤ 3
                rotate_left
                · have ctb := decide_eq_false ct
                  go_quiet (first | exact Calls.quiet_of ((typed_q _ _).mono fun e w' ⟨h1, n, h2⟩ => ⟨h1, n, h2⟩) | exact Calls.quiet_of ((Lo_q _ _).mono fun e w' ⟨h1, n, h2⟩ => ⟨h1, n, h2⟩) | exact Calls.quiet_of ((Hi_q _ _).mono fun e w' ⟨h1, n, h2⟩ => ⟨h1, n, h2⟩))
                  go_wp2
                  go_ret
                  exact ⟨⟨_, rfl, fun h => nomatch h⟩, (bpk HB).out⟩
                · have ctb := decide_eq_true ct
                  by_cases c3 : y.f3 < LoV y.f1
                  · have c3b := decide_eq_true c3
                    go_quiet (first | exact Calls.quiet_of ((typed_q _ _).mono fun e w' ⟨h1, n, h2⟩ => ⟨h1, n, h2⟩) | exact Calls.quiet_of ((Lo_q _ _).mono fun e w' ⟨h1, n, h2⟩ => ⟨h1, n, h2⟩) | exact Calls.quiet_of ((Hi_q _ _).mono fun e w' ⟨h1, n, h2⟩ => ⟨h1, n, h2⟩))
                    go_wp2
                    go_ret
                    exact ⟨⟨_, rfl, fun h => nomatch h⟩, (bpk HB).out⟩
                  · have c3b := decide_eq_false c3
                    by_cases c4 : HiV y.f1 < y.f3
                    · have c4b := decide_eq_true c4
                      go_quiet (first | exact Calls.quiet_of ((typed_q _ _).mono fun e w' ⟨h1, n, h2⟩ => ⟨h1, n, h2⟩) | exact Calls.quiet_of ((Lo_q _ _).mono fun e w' ⟨h1, n, h2⟩ => ⟨h1, n, h2⟩) | exact Calls.quiet_of ((Hi_q _ _).mono fun e w' ⟨h1, n, h2⟩ => ⟨h1, n, h2⟩))
                      go_wp2
                      go_ret
                      exact ⟨⟨_, rfl, fun h => nomatch h⟩, (bpk HB).out⟩
                    · have c4b := decide_eq_false c4
                      by_cases c5 : y.f2 < 1
                      · have c5b := decide_eq_true c5
                        go_quiet (first | exact Calls.quiet_of ((typed_q _ _).mono fun e w' ⟨h1, n, h2⟩ => ⟨h1, n, h2⟩) | exact Calls.quiet_of ((Lo_q _ _).mono fun e w' ⟨h1, n, h2⟩ => ⟨h1, n, h2⟩) | exact Calls.quiet_of ((Hi_q _ _).mono fun e w' ⟨h1, n, h2⟩ => ⟨h1, n, h2⟩))
                        go_wp2
                        go_ret
                        exact ⟨⟨_, rfl, fun h => nomatch h⟩, (bpk HB).out⟩
                      · have c5b := decide_eq_false c5
                        by_cases c6 : 256 < y.f2
                        · have c6b := decide_eq_true c6
                          go_quiet (first | exact Calls.quiet_of ((typed_q _ _).mono fun e w' ⟨h1, n, h2⟩ => ⟨h1, n, h2⟩) | exact Calls.quiet_of ((Lo_q _ _).mono fun e w' ⟨h1, n, h2⟩ => ⟨h1, n, h2⟩) | exact Calls.quiet_of ((Hi_q _ _).mono fun e w' ⟨h1, n, h2⟩ => ⟨h1, n, h2⟩))
                          go_wp2
                          go_ret
                          exact ⟨⟨_, rfl, fun h => nomatch h⟩, (bpk HB).out⟩
                        · have c6b := decide_eq_false c6
                          go_quiet (first | exact Calls.quiet_of ((typed_q _ _).mono fun e w' ⟨h1, n, h2⟩ => ⟨h1, n, h2⟩) | exact Calls.quiet_of ((Lo_q _ _).mono fun e w' ⟨h1, n, h2⟩ => ⟨h1, n, h2⟩) | exact Calls.quiet_of ((Hi_q _ _).mono fun e w' ⟨h1, n, h2⟩ => ⟨h1, n, h2⟩))
                          go_wp2
                          all_goals (go_roundw; (case measure => simp [intOf]; omega); (case rel => exact ⟨k + 1, by omega, by simp, upto_next hF6 (by rw [hy]; exact ⟨ct, by omega, by omega⟩), ⟨pkF BK⟩, bpk HB⟩))
              · obtain rfl : k = l6.length := by omega
                have hlt2 : decide ((l6.length : Int) < (l6.length : Int)) = false := decide_eq_false (by omega)
                have hcf := hcf8 BK
                obtain ⟨_, _, _, _, _, _, _, _, _, _, _, _, _, _, _, _⟩ := hcf
                go_wp2
                go_ret
                exact ⟨⟨_, rfl, fun _ => ⟨n4, n5, n6, tk, hF5, hF6⟩⟩, (bpk HB).out⟩
  · go_wp2_with (first | ((with_reducible refine gate_dst (N := 1) rfl ?_); refine boxQ 1 #[.slice A0 l0.length c0, .int .i64 a1, .int .i64 a2, .int .i64 a3, .slice A4 l4.length c4, .slice A5 l5.length c5, .slice A6 l6.length c6, .slice A7 l7.length c7] 41 HB ?_; clear HB; intro gb w1 _ GW BK _ HB; have hcf := hcf8 BK; obtain ⟨_, _, _, _, _, _, _, _, _, _, _, _, _, _, _, _⟩ := hcf))
    all_goals (go_ret; exact ⟨⟨_, rfl, fun h => nomatch h⟩, (bpk HB).out⟩)
end Go.Proofs.Ytllfopbchdahoaa.P
