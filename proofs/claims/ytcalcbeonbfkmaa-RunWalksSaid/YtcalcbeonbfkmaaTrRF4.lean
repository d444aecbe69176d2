/- What the law's proof needs of F4. -/
import Derived.Test.YtcalcbeonbfkmaaTrRF3
namespace Go.Proofs.Ytcalcbeonbfkmaa.P
open Go.RowKit Go.Proofs.YtcalcbeonbfkmaaW.PrintWords Go.Proofs.YtcalcbeonbfkmaaW.PrintLast Go.Proofs.YtcalcbeonbfkmaaW.PrintMore Go.Proofs.YtcalcbeonbfkmaaO
attribute [local go_sem] max2_int min2_int max_two min_two max_three min_three max_four min_four
set_option linter.unusedVariables false
set_option linter.unusedSimpArgs false
def KT24 : Bool × List (List Nat × List Nat) := (true, [([], []), ([0], [0]), ([], []), ([], []), ([3], [3]), ([], []), ([5], [5]), ([6], [6]), ([4, 7], [4, 7]), ([2, 8], [2, 8]), ([9], [9]), ([1, 10], [1, 10]), ([11], [11]), ([], []), ([13, 12, 0, 1, 2, 3, 4, 5, 6, 7, 8, 9, 10, 11, 12, 13], [12, 13])])
def KB24 : List Nat := [0, 1, 0, 0, 8, 0, 32, 96, 248, 508, 1020, 2047, 4095, 0, 16383]
theorem Ktab24 : rtab .any (opsOf Try.f39 24) = KT24 := by kernel_rfl
theorem Kbits24 : waitsOk KT24.2 KB24 = true := by kernel_rfl
set_option maxHeartbeats 8000000 in
set_option maxRecDepth 100000 in
theorem kinds_calls (G : Gr) (A1 : Option Addr) (c1 : Nat) (l1 : List Int) (x : S52) (w : World) (hG : G.Held w) (hr1 : Kd.C (Kd.int .i64) w A1 l1.length l1)
    (h14 : x.f0 = 14 → 0 ≤ x.f2 ∧ x.f2 < (G.l6.length : Int)) (h13 : x.f0 = 13 → 0 ≤ x.f1 ∧ x.f1 < (G.l5.length : Int))
    (h13b : x.f0 = 13 → (G.l5.length : Int) ≤ x.f2 → wrap64 (x.f2 - (G.l5.length : Int)) < (l1.length : Int) ∧ 0 ≤ wrap64 (x.f2 - (G.l5.length : Int)) ∧ 0 ≤ rd l1 (wrap64 (x.f2 - (G.l5.length : Int))) ∧ rd l1 (wrap64 (x.f2 - (G.l5.length : Int))) < (G.l0.length : Int) ∧
      ((rd_T52 G.l0 (rd l1 (wrap64 (x.f2 - (G.l5.length : Int))))).f0 = 12 → 0 ≤ (rd_T52 G.l0 (rd l1 (wrap64 (x.f2 - (G.l5.length : Int))))).f2 ∧ (rd_T52 G.l0 (rd l1 (wrap64 (x.f2 - (G.l5.length : Int))))).f2 < (G.l4.length : Int))) :
    Calls Try.prog 39 #[G.v, .slice A1 l1.length c1, .agg #[.int .i64 x.f0, .int .i64 x.f1, .int .i64 x.f2, .int .i64 x.f3, .int .i64 x.f4, .int .i64 x.f5, .int .i64 x.f6.f0, .int .i64 x.f6.f1]] w fun e w' => RetK e ∧ Below w.heap.size w w' := by
  obtain ⟨A0, c0, l0, a1, a2, a3, A4, c4, l4, A5, c5, l5, A6, c6, l6, A7, c7, l7⟩ := G
  obtain ⟨H0, H4, H5, H6, H7, k0, k5, k7⟩ := hG
  obtain ⟨a2_0, a2_1, a2_2, a2_3, a2_4, a2_5, a2_6, a2_7⟩ := x
  simp only [Gr.v] at *
  have hu28 := Try.underlying28
  have hu52 := Try.underlying52
  have HB := Aside0.mk (Below.refl w.heap.size w)
  have Q0 := Aside0.mk H0
  have Q4 := Aside0.mk H4
  have Q5 := Aside0.mk H5
  have Q6 := Aside0.mk H6
  have Q1 := Aside0.mk hr1
  have K14 := Aside0.mk h14
  have K13 := Aside0.mk h13
  have K13b := Aside0.mk h13b
  clear H0 H4 H5 H6 H7 hr1 h14 h13 h13b
  by_cases e13 : a2_0 = 13
  · subst e13
    obtain ⟨p1, q1⟩ := K13.out rfl
    obtain ⟨ad5, ee, hx5_0, hx5_1, hx5_2⟩ := at_T83 Q5.out a2_1 p1 q1
    cases ee
    by_cases cA : (l5.length : Int) ≤ a2_2
    · obtain ⟨qd, pd, pe, qe, Kr⟩ := K13b.out rfl cA
      have cAb : decide ((l5.length : Int) ≤ a2_2) = true := decide_eq_true cA
      obtain ⟨ji, hji⟩ : ∃ j_ : Int, wrap64 (a2_2 - (l5.length : Int)) = j_ := ⟨_, rfl⟩
      have hjiw : IntKind.i64.wrap (a2_2 - (l5.length : Int)) = ji := (i64_w _).trans hji
      rw [hji] at qd pd pe qe Kr
      obtain ⟨adD, ee, hxD⟩ := Kd.at_int Q1.out ji pd qd
      cases ee
      obtain ⟨ad0, ee, hx0_0, hx0_1, hx0_2, hx0_3, hx0_4, hx0_5, hx0_6, hx0_7⟩ := at_T52 Q0.out (rd l1 ji) pe qe
      cases ee
      generalize hd : rd_T52 l0 (rd l1 ji) = y at hx0_0 hx0_1 hx0_2 hx0_3 hx0_4 hx0_5 hx0_6 hx0_7 Kr
      have KR := Aside0.mk Kr
      clear Kr
      go_enter Try.func39, Try.ntmps39
      go_wp2_with (first | ((with_reducible refine gate_dst (N := 3) rfl ?_); refine boxQ 3 #[.slice (some ad0) l0.length c0, .int .i64 a1, .int .i64 a2, .int .i64 a3, .slice A4 l4.length c4, .slice (some ad5) l5.length c5, .slice A6 l6.length c6, .slice A7 l7.length c7] 28 HB ?_; clear HB; intro gb w1 _ GW BK _ HB) | ((with_reducible refine gate_dst (N := 5) rfl ?_); refine boxQ 5 #[.int .i64 13, .int .i64 a2_1, .int .i64 a2_2, .int .i64 a2_3, .int .i64 a2_4, .int .i64 a2_5, .int .i64 a2_6, .int .i64 a2_7] 52 HB ?_; intro gc w2 eg GW2 BK2 hb2 HB2; have NB := bn1 BK eg.out; have NB2 := bn2 BK eg.out; replace BK := bbw BK hb2.out; clear HB; have HB := HB2; clear HB2; have hcf := hcf8 BK; obtain ⟨_, _, _, _, _, _, _, _, _, _, _, _, _, _, _, _⟩ := hcf; have hcf := hcf8 BK2; obtain ⟨_, _, _, _, _, _, _, _, _, _, _, _, _, _, _, _⟩ := hcf; have hnb := NB.out; have hnb2 := NB2.out; replace hx5_1 := (HB.out.cell (World.block_lt_of_cell? w _ hx5_1)).trans hx5_1; replace p1 := eq_true p1; replace q1 := eq_true q1))
      have hS : ∀ w' : World, w'.heap[gb]? = some (.cells #[.slice (some ad0) l0.length c0, .int .i64 a1, .int .i64 a2, .int .i64 a3, .slice A4 l4.length c4, .slice (some ad5) l5.length c5, .slice A6 l6.length c6, .slice A7 l7.length c7] 28 (0, 0)) → w'.heap[gc]? = some (.cells #[.int .i64 13, .int .i64 a2_1, .int .i64 a2_2, .int .i64 a2_3, .int .i64 a2_4, .int .i64 a2_5, .int .i64 a2_6, .int .i64 a2_7] 52 (0, 0)) → Below w.heap.size w w' → (w'.cell? ⟨gb, 0, none⟩ = some (.slice (some ad0) l0.length c0) ∧ w'.cell? ⟨gb, 5, none⟩ = some (.slice (some ad5) l5.length c5) ∧ w'.cell? ⟨gc, 2, none⟩ = some (.int .i64 a2_2) ∧ w'.cell? (adD.add ji.toNat) = some (.int .i64 (rd l1 ji)) ∧ w'.cell? (ad0.add ((rd l1 ji).toNat * 8)) = some (.int .i64 y.f0) ∧ w'.cell? ⟨(ad0.add ((rd l1 ji).toNat * 8)).block, (ad0.add ((rd l1 ji).toNat * 8)).off + 1, none⟩ = some (.int .i64 y.f1) ∧ w'.cell? ⟨(ad0.add ((rd l1 ji).toNat * 8)).block, (ad0.add ((rd l1 ji).toNat * 8)).off + 2, none⟩ = some (.int .i64 y.f2) ∧ w'.cell? ⟨(ad0.add ((rd l1 ji).toNat * 8)).block, (ad0.add ((rd l1 ji).toNat * 8)).off + 3, none⟩ = some (.int .i64 y.f3) ∧ w'.cell? ⟨(ad0.add ((rd l1 ji).toNat * 8)).block, (ad0.add ((rd l1 ji).toNat * 8)).off + 4, none⟩ = some (.int .i64 y.f4) ∧ w'.cell? ⟨(ad0.add ((rd l1 ji).toNat * 8)).block, (ad0.add ((rd l1 ji).toNat * 8)).off + 5, none⟩ = some (.int .i64 y.f5) ∧ w'.cell? ⟨(ad0.add ((rd l1 ji).toNat * 8)).block, (ad0.add ((rd l1 ji).toNat * 8)).off + 6, none⟩ = some (.int .i64 y.f6.f0) ∧ w'.cell? ⟨(ad0.add ((rd l1 ji).toNat * 8)).block, (ad0.add ((rd l1 ji).toNat * 8)).off + 7, none⟩ = some (.int .i64 y.f6.f1)) := fun w' hb hc hB => ⟨hcz ⟨hb⟩ 0, hcz ⟨hb⟩ 5, hcz ⟨hc⟩ 2, (hB.cell (World.block_lt_of_cell? w _ hxD)).trans hxD, (hB.cell (World.block_lt_of_cell? w _ hx0_0)).trans hx0_0, (hB.cell (World.block_lt_of_cell? w _ hx0_1)).trans hx0_1, (hB.cell (World.block_lt_of_cell? w _ hx0_2)).trans hx0_2, (hB.cell (World.block_lt_of_cell? w _ hx0_3)).trans hx0_3, (hB.cell (World.block_lt_of_cell? w _ hx0_4)).trans hx0_4, (hB.cell (World.block_lt_of_cell? w _ hx0_5)).trans hx0_5, (hB.cell (World.block_lt_of_cell? w _ hx0_6)).trans hx0_6, (hB.cell (World.block_lt_of_cell? w _ hx0_7)).trans hx0_7⟩
      refine start_ (n := 15) (S := fun w' => w'.cell? ⟨gb, 0, none⟩ = some (.slice (some ad0) l0.length c0) ∧ w'.cell? ⟨gb, 5, none⟩ = some (.slice (some ad5) l5.length c5) ∧ w'.cell? ⟨gc, 2, none⟩ = some (.int .i64 a2_2) ∧ w'.cell? (adD.add ji.toNat) = some (.int .i64 (rd l1 ji)) ∧ w'.cell? (ad0.add ((rd l1 ji).toNat * 8)) = some (.int .i64 y.f0) ∧ w'.cell? ⟨(ad0.add ((rd l1 ji).toNat * 8)).block, (ad0.add ((rd l1 ji).toNat * 8)).off + 1, none⟩ = some (.int .i64 y.f1) ∧ w'.cell? ⟨(ad0.add ((rd l1 ji).toNat * 8)).block, (ad0.add ((rd l1 ji).toNat * 8)).off + 2, none⟩ = some (.int .i64 y.f2) ∧ w'.cell? ⟨(ad0.add ((rd l1 ji).toNat * 8)).block, (ad0.add ((rd l1 ji).toNat * 8)).off + 3, none⟩ = some (.int .i64 y.f3) ∧ w'.cell? ⟨(ad0.add ((rd l1 ji).toNat * 8)).block, (ad0.add ((rd l1 ji).toNat * 8)).off + 4, none⟩ = some (.int .i64 y.f4) ∧ w'.cell? ⟨(ad0.add ((rd l1 ji).toNat * 8)).block, (ad0.add ((rd l1 ji).toNat * 8)).off + 5, none⟩ = some (.int .i64 y.f5) ∧ w'.cell? ⟨(ad0.add ((rd l1 ji).toNat * 8)).block, (ad0.add ((rd l1 ji).toNat * 8)).off + 6, none⟩ = some (.int .i64 y.f6.f0) ∧ w'.cell? ⟨(ad0.add ((rd l1 ji).toNat * 8)).block, (ad0.add ((rd l1 ji).toNat * 8)).off + 7, none⟩ = some (.int .i64 y.f6.f1)) (ds := []) #[false, false, false, false, false, false, false, false, false, false, false, false, false, false, false] (by kernel_rfl) rfl rfl (hS _ (blk_drew (pkA BK).out) (blk_drew (pkA BK2).out) (below_drew1 (bpk HB).out)) (fun hHeld => ?_)
      refine with_tabW Ktab24 Kbits24 (fun HT_ HW_ => ?_)
      replace BK := Aside0.mk (blk_drew (pkA BK).out)
      replace BK2 := Aside0.mk (blk_drew (pkA BK2).out)
      replace HB := Aside0.mk (below_drew1 (bpk HB).out)
      generalize World.drew _ = wd at BK BK2 HB hHeld ⊢
      replace pd := eq_true pd
      replace qd := eq_true qd
      replace pe := eq_true pe
      replace qe := eq_true qe
      refine pureQ 0 54 HT_.out ?_
      refine pureQ 2 56 HT_.out ?_
      refine pureQ 3 57 HT_.out ?_
      refine pureQ 5 59 HT_.out ?_
      refine takeQ 1 55 HT_.out HW_.out hHeld ?_
      refine takeQ 4 58 HT_.out HW_.out hHeld ?_
      refine takeQ 6 60 HT_.out HW_.out hHeld ?_
      refine pureQ 7 61 HT_.out ?_
      refine pureQ 8 62 HT_.out ?_
      refine pureQ 9 63 HT_.out ?_
      refine takeQ 10 64 HT_.out HW_.out hHeld ?_
      refine pureQ 11 65 HT_.out ?_
      refine takeQ 12 66 HT_.out HW_.out hHeld ?_
      refine oneQ 13 10 HT_.out (fun K hK => ?_)
      refine box_step ?hg (N := 10) ?hd (cs := #[.int .i64 0, .int .i64 0, .int .i64 0, .int .i64 0, .int .i64 0, .int .i64 0, .int .i64 0, .int .i64 0]) (t := 52) ?hr ?_; (case hd => rfl); (case hg => rfl); (case hr => first | (go_simp; done) | (go_simp; rfl))
      intro gx hg w3 hbox hb
      have GX := bsz HB hg
      have NX := bn1 BK hg
      have NX2 := bn1 BK2 hg
      replace BK := bbw BK hb
      replace BK2 := bbw BK2 hb
      replace HB := bst HB hb
      have BX := Aside0.mk hbox
      clear hb hbox hg
      refine hK.out _ _ (hS _ BK.out BK2.out HB.out) (fun hHeld => ?_)
      clear hK K
      refine normQ (N := 10) ?_
      refine one_ (i := 14) (N := none) #[true, true, true, true, true, true, true, true, true, true, true, true, true, true, true] rfl rfl (one_of HT_.out (by kernel_rfl)) (by decide) (fun K hK => ?_)
      obtain ⟨wz, hwz⟩ : ∃ wz, wz = ((((((((w3).setCell ⟨gx, 0, none⟩ (.int .i64 y.f0)).setCell ⟨gx, 1, none⟩ (.int .i64 y.f1)).setCell ⟨gx, 2, none⟩ (.int .i64 y.f2)).setCell ⟨gx, 3, none⟩ (.int .i64 y.f3)).setCell ⟨gx, 4, none⟩ (.int .i64 y.f4)).setCell ⟨gx, 5, none⟩ (.int .i64 y.f5)).setCell ⟨gx, 6, none⟩ (.int .i64 y.f6.f0)).setCell ⟨gx, 7, none⟩ (.int .i64 y.f6.f1) := ⟨_, rfl⟩
      obtain ⟨z1, z2, z3⟩ := set8 BX.out _ _ _ _ _ _ _ _ wz hwz
      have hfx := hcf8 BX
      obtain ⟨_, _, _, _, _, _, _, _, _, _, _, _, _, _, _, _⟩ := hfx
      refine skip_ (w1 := wz) (by rfl) rfl (by rw [hwz]; go_simp) ?_
      clear hwz
      replace BK := Aside0.mk (z2 _ _ NX.out BK.out)
      replace BK2 := Aside0.mk (z2 _ _ NX2.out BK2.out)
      replace HB := Aside0.mk (z3 _ GX.out HB.out)
      have BX2 := Aside0.mk z1
      clear BX z1 z2 z3
      refine hK.out _ _ (hS _ BK.out BK2.out HB.out) (fun hHeld => ?_)
      clear hK K
      refine done_ (done_of HT_.out (by kernel_rfl)) ?_
      try go_wp2
      have hfx := hcf8 BX2
      obtain ⟨_, _, _, _, _, _, _, _, _, _, _, _, _, _, _, _⟩ := hfx
      have hfx := hcf8 BK
      obtain ⟨_, _, _, _, _, _, _, _, _, _, _, _, _, _, _, _⟩ := hfx
      clear hHeld HT_ HW_ hS
      by_cases e12 : y.f0 = 12
      · obtain ⟨p4, q4⟩ := KR.out e12
        obtain ⟨ad4, ee, hx4_0, hx4_1, hx4_2, hx4_3⟩ := at_T79 Q4.out y.f2 p4 q4
        cases ee
        replace hx4_2 := (HB.out.cell (World.block_lt_of_cell? w _ hx4_2)).trans hx4_2
        replace hx4_3 := (HB.out.cell (World.block_lt_of_cell? w _ hx4_3)).trans hx4_3
        replace p4 := eq_true p4
        replace q4 := eq_true q4
        have e12b : (y.f0 == 12) = true := beq_iff_eq.mpr e12
        by_cases eL : LoV (rd_T83 l5 a2_1).f1 ≤ (rd_T79 l4 y.f2).f2
        · have eLb := decide_eq_true eL
          by_cases eH : (rd_T79 l4 y.f2).f3 ≤ HiV (rd_T83 l5 a2_1).f1
          · have eHb := decide_eq_true eH
            go_quiet (first | exact Calls.quiet_of ((Lo_q _ _).mono fun e w' ⟨h1, n, h2⟩ => ⟨h1, n, h2⟩) | exact Calls.quiet_of ((Hi_q _ _).mono fun e w' ⟨h1, n, h2⟩ => ⟨h1, n, h2⟩))
            go_wp2
            all_goals go_ret2
            all_goals exact ⟨⟨_, _, rfl⟩, (bpk HB).out⟩
          · have eHb := decide_eq_false eH
            go_quiet (first | exact Calls.quiet_of ((Lo_q _ _).mono fun e w' ⟨h1, n, h2⟩ => ⟨h1, n, h2⟩) | exact Calls.quiet_of ((Hi_q _ _).mono fun e w' ⟨h1, n, h2⟩ => ⟨h1, n, h2⟩))
            go_wp2
            all_goals go_ret2
            all_goals exact ⟨⟨_, _, rfl⟩, (bpk HB).out⟩
        · have eLb := decide_eq_false eL
          go_quiet (first | exact Calls.quiet_of ((Lo_q _ _).mono fun e w' ⟨h1, n, h2⟩ => ⟨h1, n, h2⟩) | exact Calls.quiet_of ((Hi_q _ _).mono fun e w' ⟨h1, n, h2⟩ => ⟨h1, n, h2⟩))
          go_wp2
          all_goals go_ret2
          all_goals exact ⟨⟨_, _, rfl⟩, (bpk HB).out⟩
      · have e12b : (y.f0 == 12) = false := beq_eq_false_iff_ne.mpr e12
        go_quiet (first | exact Calls.quiet_of ((Lo_q _ _).mono fun e w' ⟨h1, n, h2⟩ => ⟨h1, n, h2⟩) | exact Calls.quiet_of ((Hi_q _ _).mono fun e w' ⟨h1, n, h2⟩ => ⟨h1, n, h2⟩))
        go_wp2
        all_goals go_ret2
        all_goals exact ⟨⟨_, _, rfl⟩, (bpk HB).out⟩
    · have cAb : decide ((l5.length : Int) ≤ a2_2) = false := decide_eq_false cA
      go_enter Try.func39, Try.ntmps39
      go_wp2_with (first | ((with_reducible refine gate_dst (N := 3) rfl ?_); refine boxQ 3 #[.slice A0 l0.length c0, .int .i64 a1, .int .i64 a2, .int .i64 a3, .slice A4 l4.length c4, .slice (some ad5) l5.length c5, .slice A6 l6.length c6, .slice A7 l7.length c7] 28 HB ?_; clear HB; intro gb w1 _ GW BK _ HB) | ((with_reducible refine gate_dst (N := 5) rfl ?_); refine boxQ 5 #[.int .i64 13, .int .i64 a2_1, .int .i64 a2_2, .int .i64 a2_3, .int .i64 a2_4, .int .i64 a2_5, .int .i64 a2_6, .int .i64 a2_7] 52 HB ?_; intro gc w2 eg GW2 BK2 hb2 HB2; have NB := bn1 BK eg.out; have NB2 := bn2 BK eg.out; replace BK := bbw BK hb2.out; clear HB; have HB := HB2; clear HB2; have hcf := hcf8 BK; obtain ⟨_, _, _, _, _, _, _, _, _, _, _, _, _, _, _, _⟩ := hcf; have hcf := hcf8 BK2; obtain ⟨_, _, _, _, _, _, _, _, _, _, _, _, _, _, _, _⟩ := hcf; have hnb := NB.out; have hnb2 := NB2.out; replace hx5_1 := (HB.out.cell (World.block_lt_of_cell? w _ hx5_1)).trans hx5_1; replace p1 := eq_true p1; replace q1 := eq_true q1))
      all_goals go_ret2
      all_goals exact ⟨⟨_, _, rfl⟩, (bpk HB).out⟩
  · by_cases e14 : a2_0 = 14
    · subst e14
      obtain ⟨p1, q1⟩ := K14.out rfl
      obtain ⟨ad6, ee, hx6_0, hx6_1, hx6_2, hx6_3⟩ := at_T85 Q6.out a2_2 p1 q1
      cases ee
      go_enter Try.func39, Try.ntmps39
      go_wp2_with (first | ((with_reducible refine gate_dst (N := 3) rfl ?_); refine boxQ 3 #[.slice A0 l0.length c0, .int .i64 a1, .int .i64 a2, .int .i64 a3, .slice A4 l4.length c4, .slice A5 l5.length c5, .slice (some ad6) l6.length c6, .slice A7 l7.length c7] 28 HB ?_; clear HB; intro gb w1 _ GW BK _ HB) | ((with_reducible refine gate_dst (N := 5) rfl ?_); refine boxQ 5 #[.int .i64 14, .int .i64 a2_1, .int .i64 a2_2, .int .i64 a2_3, .int .i64 a2_4, .int .i64 a2_5, .int .i64 a2_6, .int .i64 a2_7] 52 HB ?_; intro gc w2 eg GW2 BK2 hb2 HB2; have NB := bn1 BK eg.out; have NB2 := bn2 BK eg.out; replace BK := bbw BK hb2.out; clear HB; have HB := HB2; clear HB2; have hcf := hcf8 BK; obtain ⟨_, _, _, _, _, _, _, _, _, _, _, _, _, _, _, _⟩ := hcf; have hcf := hcf8 BK2; obtain ⟨_, _, _, _, _, _, _, _, _, _, _, _, _, _, _, _⟩ := hcf; have hnb := NB.out; have hnb2 := NB2.out; replace hx6_1 := (HB.out.cell (World.block_lt_of_cell? w _ hx6_1)).trans hx6_1; replace p1 := eq_true p1; replace q1 := eq_true q1))
      all_goals go_ret2
      all_goals exact ⟨⟨_, _, rfl⟩, (bpk HB).out⟩
    · go_enter Try.func39, Try.ntmps39
      go_wp2_with (first | ((with_reducible refine gate_dst (N := 3) rfl ?_); refine boxQ 3 #[.slice A0 l0.length c0, .int .i64 a1, .int .i64 a2, .int .i64 a3, .slice A4 l4.length c4, .slice A5 l5.length c5, .slice A6 l6.length c6, .slice A7 l7.length c7] 28 HB ?_; clear HB; intro gb w1 _ GW BK _ HB) | ((with_reducible refine gate_dst (N := 5) rfl ?_); refine boxQ 5 #[.int .i64 a2_0, .int .i64 a2_1, .int .i64 a2_2, .int .i64 a2_3, .int .i64 a2_4, .int .i64 a2_5, .int .i64 a2_6, .int .i64 a2_7] 52 HB ?_; intro gc w2 eg GW2 BK2 hb2 HB2; clear HB; have HB := HB2; clear HB2; have hcf := hcf8 BK2; obtain ⟨_, _, _, _, _, _, _, _, _, _, _, _, _, _, _, _⟩ := hcf))
      all_goals go_ret2
      all_goals exact ⟨⟨_, _, rfl⟩, (bpk HB).out⟩
end Go.Proofs.Ytcalcbeonbfkmaa.P
