/- What the law's proof needs of Px14. -/
import Derived.Test.YtllfopbchdahoaaTrFU4
import Derived.Test.YtllfopbchdahoaaTrFPx0
-- PRINTED by print.py (a twelfth state) out of the translation. Not trusted: Lean checks it.
namespace Go.Proofs.Ytllfopbchdahoaa.P
open Go.RowKit Go.Proofs.YtllfopbchdahoaaW.PrintWords Go.Proofs.YtllfopbchdahoaaW.PrintLast Go.Proofs.YtllfopbchdahoaaW.PrintMore Go.Proofs.YtllfopbchdahoaaO
attribute [local go_sem] max2_int min2_int max_two min_two max_three min_three max_four min_four   -- for this text's walks alone
set_option linter.unusedVariables false
set_option linter.unusedSimpArgs false
def gimbalref14_put.l0 : Nat → List (S56) → Int → Int → Int → Option ((List (S56)))
  | 0, _, _, _, _ => none
  | k + 1, x0, x5, x233000, x233001 => if x5 < (x0.length : Int) then (if 0 ≤ x5 then (if ((rd_T56 x0 x5).f0) = x233000 then (some (x0.set (x5 : Int).toNat (⟨(rd_T56 x0 x5).f0, wrap64 (((rd_T56 x0 x5).f1) + x233001)⟩ : S56))) else (gimbalref14_put.l0 k x0 (wrap64 (x5 + 1)) x233000 x233001)) else (none)) else (if x0.length < 8796093022208 then (some (x0 ++ [(⟨x233000, x233001⟩ : S56)])) else (none))
def gimbalref14_put.f (k : Nat) (l0 : List (S56)) (a1_0 : Int) (a1_1 : Int) : Option ((List (S56))) := gimbalref14_put.l0 k l0 0 a1_0 a1_1
def gimbalref14_put.T4 : Bool × List (List Nat × List Nat) := (true, [([], []), ([], []), ([0, 1], [0, 1]), ([2], [2]), ([3], [3]), ([], []), ([5], [5]), ([4, 6], [4, 6])])
def gimbalref14_put.B4 : List Nat := [0, 0, 3, 7, 15, 0, 32, 127]
theorem gimbalref14_put.tab4 : rtab .any (opsOf Try.f28 4) = gimbalref14_put.T4 := by kernel_rfl
theorem gimbalref14_put.bits4 : waitsOk gimbalref14_put.T4.2 gimbalref14_put.B4 = true := by kernel_rfl
def gimbalref14_put.T5 : Bool × List (List Nat × List Nat) := (true, [([], []), ([], []), ([], []), ([], []), ([2, 3], [2, 3]), ([4], [4]), ([5], [5]), ([], []), ([7], [7]), ([6, 8], [6, 8]), ([0, 1, 0, 1, 2, 3, 4, 5, 6, 7, 8, 9], [0, 1]), ([10, 0, 1, 2, 3, 4, 5, 6, 7, 8, 9], [10]), ([11, 9, 0, 1, 2, 3, 4, 5, 6, 7, 8, 9], [9, 11])])
def gimbalref14_put.B5 : List Nat := [0, 0, 0, 0, 12, 28, 60, 0, 128, 508, 1023, 2047, 4095]
theorem gimbalref14_put.tab5 : rtab .any (opsOf Try.f28 5) = gimbalref14_put.T5 := by kernel_rfl
theorem gimbalref14_put.bits5 : waitsOk gimbalref14_put.T5.2 gimbalref14_put.B5 = true := by kernel_rfl
set_option maxHeartbeats 8000000 in
set_option maxRecDepth 100000 in
theorem gimbalref14_put.calls (k : Nat) (P0_ : Nat → Prop) (u9000_ : Value) (l0 : List (S56)) (a1_0 : Int) (a1_1 : Int) (r : List (S56)) (w0 w : World) (hB : Below w0.heap.size w0 w) (ho0 : Kd.R k56 56 w w0.heap.size P0_ u9000_ l0) (h : gimbalref14_put.f k l0 a1_0 a1_1 = some r) :
    Calls Try.prog 28 #[u9000_, .agg #[.int .i64 a1_0, .int .i64 a1_1]] w fun e w' => ∃ v0_ : Value, e = .returned (v0_) ∧ Kd.R k56 56 w' w0.heap.size (fun k_ => (P0_ k_ ∨ w.heap.size ≤ k_)) v0_ r ∧ Below w0.heap.size w0 w' ∧ Kept w w' (fun k_ => P0_ k_) := by
  have hu56 := Try.underlying56
  have HO0 := Aside0.mk (show Kd.R k56 56 w w0.heap.size (fun k_ => (P0_ k_ ∨ w.heap.size ≤ k_)) u9000_ l0 from Kd.R_mono ho0 (fun k_ hk => (.inl hk)))
  have HK := Aside0.mk (Kept.refl w (fun k_ => P0_ k_))
  have HW0 := Aside0.mk hB.size
  have HB := Aside0.mk hB; clear hB
  have H : (gimbalref14_put.l0 k l0 0 a1_0 a1_1) = some r := h
  clear h
  have H' := Aside0.mk H
  clear H
  go_enter Try.func28, Try.ntmps28
  go_wp2_with (first | ((with_reducible refine gate_dst (N := 3) rfl ?_); refine box_event ?hg (N := 3) ?hd (cs := #[.int .i64 a1_0, .int .i64 a1_1]) (t := 56) ?hr ?_; (case hd => rfl); (case hg => rfl); (case hr => first | (go_simp; done) | (go_simp; rfl)); intro gb232 hg w3 hbox hb; have n0_ := Aside0.mk (Kd.R_below (Kd.R_elderB (rup HO0) gb232 (Nat.le_of_eq hg.symm)) hb); have n1_ := Aside0.mk (Kept.below (S := (fun k_ => P0_ k_)) (by repeat (first | (with_reducible first | exact HK.out | apply Kept.alloc | apply Kept.drewN | apply Kept.drew) | exact HK.out)) hb); have n2_ := bst HB hb; have n3_ := Aside0.mk (hbox); have n4_ := Aside0.mk ((by rw [hg]; exact (by first | exact HK.out.1 | exact (show Kept w _ (fun k_ => P0_ k_) from by repeat (first | (with_reducible first | exact HK.out | apply Kept.alloc | apply Kept.drewN | apply Kept.drew) | exact HK.out)).1) : w.heap.size ≤ gb232)); have n5_ := Aside0.mk ((by rw [hg]; exact (below_size (by repeat (first | (with_reducible first | exact HB.out | apply below_alloc | apply pw_below_drewN | apply below_drew1) | exact HB.out))) : w0.heap.size ≤ gb232)); clear HO0; clear HK; clear HB; have HO0 := n0_; have HK := n1_; have HB := n2_; have BK232 := n3_; have GW232 := n4_; have GE232 := n5_; clear n0_ n1_ n2_ n3_ n4_ n5_; clear hb hbox hg))
  go_loopg [5] k (fun kq v5 w' => ∃ (x0_1 : List (S56)) (x5_1 : Int) (x233001_1 : Int), v5 = .int .i64 x5_1 ∧ Aside0 (gimbalref14_put.l0 kq x0_1 x5_1 a1_0 x233001_1 = some r) ∧ Aside0 (kq ≤ k) ∧ Aside0 (Kd.R k56 56 w' w0.heap.size (fun k_ => (P0_ k_ ∨ w.heap.size ≤ k_) ∧ k_ ≠ gb232) u9000_ x0_1) ∧ Aside0 (w'.heap[gb232]? = some (.cells #[.int .i64 a1_0, .int .i64 x233001_1] 56 (0, 0))) ∧ Aside0 (Kept w w' (fun k_ => P0_ k_)) ∧ Aside0 (Below w0.heap.size w0 w'))
  case atStart => exact ⟨(l0), (0), (a1_1), (by first | rfl | (simp; done) | (simp [*]; done)), H', ⟨Nat.le_refl _⟩, ⟨rup HO0⟩, pkA BK232, ⟨by repeat (first | (with_reducible first | exact HK.out | apply Kept.alloc | apply Kept.drewN | apply Kept.drew | refine Kept.setCell ?_ (.inr GW232.out) _) | exact HK.out)⟩, bpk HB⟩
  case round =>
   clear H'
   (try clear c2); (try clear p2); obtain ⟨x0_1, x5_1, x233001_1, rfl, HA, HK1, HO_0, BK232, HK, HB⟩ := hrel
   cases gk with
   | zero => exact absurd HA.out (by simp [gimbalref14_put.l0])
   | succ k1 =>
    have H := HA.out
    clear HA
    simp only [gimbalref14_put.l0] at H
    by_cases c4 : x5_1 < (x0_1.length : Int)
    ·
     rw [if_pos c4] at H
     have c4b0 : decide (x5_1 < (x0_1.length : Int)) = true := decide_eq_true c4
     clear c4
     by_cases c5 : 0 ≤ x5_1
     case neg => rw [if_neg c5] at H; exact absurd H (by simp)
     rw [if_pos c5] at H
     have c5b0 : decide (0 ≤ x5_1) = true := decide_eq_true c5
     clear c5
     by_cases c6 : ((rd_T56 x0_1 x5_1).f0) = a1_0
     ·
      rw [if_pos c6] at H
      have c6b0 : (((rd_T56 x0_1 x5_1).f0) == a1_0) = true := beq_iff_eq.mpr c6
      have c6b1 : (((rd_T56 x0_1 x5_1).f0) != a1_0) = false := bne_eq_false_iff_eq.mpr c6
      clear c6
      obtain ⟨y235, hy235⟩ : ∃ y_ : List (S56), y_ = (x0_1.set (x5_1 : Int).toNat (⟨(rd_T56 x0_1 x5_1).f0, wrap64 (((rd_T56 x0_1 x5_1).f1) + x233001_1)⟩ : S56)) := ⟨_, rfl⟩
      replace H : (some y235) = some r := by first | (rw [hy235]; with_reducible exact H) | (have H2_ := (Option.bind_some _ _).symm.trans H; rw [hy235]; with_reducible exact H2_) | (have H2_ := (Option.bind_some _ _).symm.trans H; with_reducible exact H2_) | with_reducible exact H | (rw [hy235]; exact H) | exact H
      have Ny235 := Aside0.mk hy235; clear hy235
      obtain rfl := Option.some.inj H
      obtain ⟨Ao8, co8, eo8⟩ := Kd.R_slice HO_0.out
      subst eo8
      try go_wp2
      have n0_ := Aside0.mk (Kd.R_drew HO_0.out); have n1_ := Aside0.mk (blk_drew BK232.out)
      have n2_ := Aside0.mk (Kept.drew HK.out)
      have n3_ := Aside0.mk (below_drew1 HB.out); clear HO_0 BK232 HK HB; have HO_0 := n0_; have BK232 := n1_; have HK := n2_; have HB := n3_; clear n0_ n1_ n2_ n3_
      have p233 : 0 ≤ (x5_1 : Int) := of_decide_eq_true (by first | (with_reducible assumption) | assumption)
      have q233 : x5_1 < (x0_1.length : Int) := of_decide_eq_true (by first | (with_reducible assumption) | assumption)
      obtain ⟨ad233, e233, hx233_0, hx233_1⟩ := at_T56 (Kd.R_reads' HO_0.out).2.2 x5_1 p233 q233
      cases e233; replace p233 := eq_true p233; replace q233 := eq_true q233
      refine start_ (n := 8) (S := fun w' => w'.cell? ⟨gb232, 0, none⟩ = some (.int .i64 a1_0) ∧ w'.cell? ⟨gb232, 1, none⟩ = some (.int .i64 x233001_1) ∧ w'.cell? (ad233.add ((x5_1).toNat * 2)) = some (.int .i64 ((rd_T56 x0_1 x5_1).f0)) ∧ w'.cell? ⟨(ad233.add ((x5_1).toNat * 2)).block, (ad233.add ((x5_1).toNat * 2)).off + 1, none⟩ = some (.int .i64 ((rd_T56 x0_1 x5_1).f1))) (ds := []) #[false, false, false, false, false, false, false, false] (by kernel_rfl) rfl rfl ⟨hcz BK232 0, hcz BK232 1, hx233_0, hx233_1⟩ (fun hHeld => ?_); refine with_tabW gimbalref14_put.tab4 gimbalref14_put.bits4 (fun HT_ HW_ => ?_)
      generalize wr.drew = w9 at HO_0 BK232 HK HB hx233_0 hx233_1 hHeld ⊢
      refine pureQ 0 12 HT_.out ?_; refine pureQ 1 13 HT_.out ?_; refine pureQ 2 14 HT_.out ?_; refine pureQ 3 15 HT_.out ?_; refine pureQ 5 17 HT_.out ?_; refine takeQ 4 16 HT_.out HW_.out hHeld ?_; refine takeQ 6 18 HT_.out HW_.out hHeld ?_; refine pureQ 7 19 HT_.out ?_
      refine done_ (done_of HT_.out (by kernel_rfl)) ?_
      try go_wp2
      have n0_ := Aside0.mk (Kd.R_drew HO_0.out); have n1_ := Aside0.mk (blk_drew BK232.out)
      have n2_ := Aside0.mk (Kept.drew HK.out)
      have n3_ := Aside0.mk (below_drew1 HB.out); clear HO_0 BK232 HK HB; have HO_0 := n0_; have BK232 := n1_; have HK := n2_; have HB := n3_; clear n0_ n1_ n2_ n3_
      have p234 : 0 ≤ (x5_1 : Int) := of_decide_eq_true (by first | (with_reducible assumption) | assumption)
      have q234 : x5_1 < (x0_1.length : Int) := of_decide_eq_true (by first | (with_reducible assumption) | assumption)
      obtain ⟨ad234, e234, hx234_0, hx234_1⟩ := at_T56 (Kd.R_reads' HO_0.out).2.2 x5_1 p234 q234
      obtain rfl : ad233 = ad234 := (by injection e234)
      replace p234 := eq_true p234; replace q234 := eq_true q234
      have p7 : 0 ≤ (x5_1 : Int) := of_decide_eq_true (by first | (with_reducible assumption) | assumption)
      have q7 : (x5_1 : Int) < ((x0_1.length : Int) : Int) := of_decide_eq_true (by first | (with_reducible assumption) | assumption)
      obtain ⟨go7, co7, eo7, gb7, gl7, cl7, HG7⟩ := Kd.R_form HO_0.out (by omega)
      (first | cases eo7 | (injection eo7 with ea_ en_ ec_; (first | subst ea_ | (injection ea_ with ea_; subst ea_)); subst ec_; clear en_))
      have GB7 := Aside0.mk gb7; have GG7 := Aside0.mk HG7; clear gb7 gl7 HG7
      have HMgo7 := Aside0.mk (show (P0_ go7 ∨ w.heap.size ≤ go7) from (HO_0.out.1 _ rfl).1)
      (first | simp only [add_plain] at hx233_0 | skip)
      (first | simp only [add_plain] at hx233_1 | skip)
      (first | simp only [add_plain] at hx234_0 | skip)
      (first | simp only [add_plain] at hx234_1 | skip)
      obtain ⟨ce7, hcl7, hM7, hcc7, hfr7⟩ := Kd.R_elem HO_0.out z56 (x5_1 : Int) p7 q7
      obtain rfl := k56_openM hM7
      have hx7_0 : World.cell? _ ⟨go7, (x5_1 : Int).toNat * 2, none⟩ = some (.int .i64 ((rd_T56 x0_1 x5_1).f0)) := hcc7 0 _ rfl
      have hx7_1 : World.cell? _ ⟨go7, (x5_1 : Int).toNat * 2 + 1, none⟩ = some (.int .i64 ((rd_T56 x0_1 x5_1).f1)) := hcc7 1 _ rfl
      have hf7_0 : World.frozen? _ ⟨go7, (x5_1 : Int).toNat * 2, none⟩ = false := hfr7 0
      have hf7_1 : World.frozen? _ ⟨go7, (x5_1 : Int).toNat * 2 + 1, none⟩ = false := hfr7 1
      clear hcl7 hcc7 hfr7 hM7; replace p7 := eq_true p7; replace q7 := eq_true q7
      obtain ⟨ce11, hcl11, hM11, hcc11, hfr11⟩ := Kd.R_elem HO_0.out z56 (x5_1 : Int) (of_decide_eq_true (by first | (with_reducible assumption) | assumption)) (by have h_ : (x5_1 : Int) < ((x0_1.length : Int) : Int) := of_decide_eq_true (by first | (with_reducible assumption) | assumption); first | exact h_ | (have e_ := (Kd.R_reads' HO_0.out).1; omega) | simpa using h_)
      obtain rfl := k56_openM hM11
      have HP11 := (Kd.R_seg HO_0.out (x5_1 : Int) (of_decide_eq_true (by first | (with_reducible assumption) | assumption)) (by have h_ : (x5_1 : Int) < ((x0_1.length : Int) : Int) := of_decide_eq_true (by first | (with_reducible assumption) | assumption); first | exact h_ | (have e_ := (Kd.R_reads' HO_0.out).1; omega) | simpa using h_) (seg := [.int .i64 (wrap64 (((rd_T56 x0_1 x5_1).f1) + x233001_1))]) (j := 1) hcl11 hcc11 (show 2 ≤ 2 from by decide) (x' := (⟨(rd_T56 x0_1 x5_1).f0, wrap64 (((rd_T56 x0_1 x5_1).f1) + x233001_1)⟩ : S56)) (k56_mkM _ _ _ (⟨(rd_T56 x0_1 x5_1).f0, wrap64 (((rd_T56 x0_1 x5_1).f1) + x233001_1)⟩ : S56) ) (fun _ hk => hk)).1
      rw [← Ny235.out] at HP11
      have HQ11 := Aside0.mk HP11; clear hcl11 hcc11 hfr11 hM11 HP11
      refine start_ (n := 13) (S := fun w' => w'.cell? ⟨gb232, 0, none⟩ = some (.int .i64 a1_0) ∧ w'.cell? ⟨gb232, 1, none⟩ = some (.int .i64 x233001_1) ∧ w'.cell? ⟨go7, ((x5_1).toNat * 2), none⟩ = some (.int .i64 ((rd_T56 x0_1 x5_1).f0)) ∧ w'.cell? ⟨go7, ((x5_1).toNat * 2) + 1, none⟩ = some (.int .i64 ((rd_T56 x0_1 x5_1).f1))) (ds := [12]) #[false, false, false, false, false, false, false, false, false, false, false, false, false] (by kernel_rfl) rfl rfl ⟨hcz BK232 0, hcz BK232 1, hx234_0, hx234_1⟩ (fun hHeld => ?_); refine with_tabW gimbalref14_put.tab5 gimbalref14_put.bits5 (fun HT_ HW_ => ?_)
      generalize w9.drew = w10 at HO_0 BK232 HK HB GG7 HQ11 hf7_0 hf7_1 hx233_0 hx233_1 hx234_0 hx234_1 hx7_0 hx7_1 hHeld ⊢
      refine pureQ 0 20 HT_.out ?_; refine pureQ 1 21 HT_.out ?_; refine pureQ 2 22 HT_.out ?_; refine pureQ 3 23 HT_.out ?_; refine pureQ 4 24 HT_.out ?_; refine pureQ 5 25 HT_.out ?_; refine pureQ 7 27 HT_.out ?_; refine takeQ 6 26 HT_.out HW_.out hHeld ?_; refine takeQ 8 28 HT_.out HW_.out hHeld ?_; refine pureQ 9 29 HT_.out ?_; refine pureQ 10 30 HT_.out ?_; refine pureQ 11 31 HT_.out ?_
      refine last_ (i := 12) (N := none) #[true, true, true, true, true, true, true, true, true, true, true, true, true] rfl rfl (one_of HT_.out (by kernel_rfl)) (by decide) (fun K hK => ?_)
      refine skip_ (w1 := ?_) (by rfl) rfl ?_ ?_
      rotate_left
      ·
       go_simp
       rfl
      refine hK.out _ _ ?_
      clear hK K
      refine done_ (done_of HT_.out (by kernel_rfl)) ?_
      try go_wp2
      go_ret
      exact ⟨_, by first | rfl | (simp [errW_none, errW_some] <;> rfl) | (simp [*, errW_none, errW_some] <;> rfl) | kernel_rfl, by (with_reducible repeat (first | apply Kd.R_alloc | apply Kd.R_drewN | apply Kd.R_drew)); exact Kd.R_mono HQ11.out (fun _ hk => hk.1), by repeat (first | (with_reducible first | exact HB.out | apply below_alloc | apply pw_below_drewN | apply below_drew1 | refine below_set ?_ GB7.out | refine below_set ?_ GE232.out) | exact HB.out), by repeat (first | (with_reducible first | exact HK.out | apply Kept.alloc | apply Kept.drewN | apply Kept.drew | refine Kept.setCell ?_ HMgo7.out _ | refine Kept.setCell ?_ (.inr GW232.out) _) | exact HK.out)⟩
     ·
      rw [if_neg c6] at H
      have c6b0 : (((rd_T56 x0_1 x5_1).f0) == a1_0) = false := beq_eq_false_iff_ne.mpr c6
      have c6b1 : (((rd_T56 x0_1 x5_1).f0) != a1_0) = true := bne_iff_ne.mpr c6
      have H' := Aside0.mk H
      clear H
      obtain ⟨Ao12, co12, eo12⟩ := Kd.R_slice HO_0.out
      subst eo12
      try go_wp2
      have n0_ := Aside0.mk (Kd.R_drew HO_0.out); have n1_ := Aside0.mk (blk_drew BK232.out)
      have n2_ := Aside0.mk (Kept.drew HK.out)
      have n3_ := Aside0.mk (below_drew1 HB.out); clear HO_0 BK232 HK HB; have HO_0 := n0_; have BK232 := n1_; have HK := n2_; have HB := n3_; clear n0_ n1_ n2_ n3_
      have p233 : 0 ≤ (x5_1 : Int) := of_decide_eq_true (by first | (with_reducible assumption) | assumption)
      have q233 : x5_1 < (x0_1.length : Int) := of_decide_eq_true (by first | (with_reducible assumption) | assumption)
      obtain ⟨ad233, e233, hx233_0, hx233_1⟩ := at_T56 (Kd.R_reads' HO_0.out).2.2 x5_1 p233 q233
      cases e233; replace p233 := eq_true p233; replace q233 := eq_true q233
      refine start_ (n := 8) (S := fun w' => w'.cell? ⟨gb232, 0, none⟩ = some (.int .i64 a1_0) ∧ w'.cell? ⟨gb232, 1, none⟩ = some (.int .i64 x233001_1) ∧ w'.cell? (ad233.add ((x5_1).toNat * 2)) = some (.int .i64 ((rd_T56 x0_1 x5_1).f0)) ∧ w'.cell? ⟨(ad233.add ((x5_1).toNat * 2)).block, (ad233.add ((x5_1).toNat * 2)).off + 1, none⟩ = some (.int .i64 ((rd_T56 x0_1 x5_1).f1))) (ds := []) #[false, false, false, false, false, false, false, false] (by kernel_rfl) rfl rfl ⟨hcz BK232 0, hcz BK232 1, hx233_0, hx233_1⟩ (fun hHeld => ?_); refine with_tabW gimbalref14_put.tab4 gimbalref14_put.bits4 (fun HT_ HW_ => ?_)
      generalize wr.drew = w13 at HO_0 BK232 HK HB hx233_0 hx233_1 hHeld ⊢
      refine pureQ 0 12 HT_.out ?_; refine pureQ 1 13 HT_.out ?_; refine pureQ 2 14 HT_.out ?_; refine pureQ 3 15 HT_.out ?_; refine pureQ 5 17 HT_.out ?_; refine takeQ 4 16 HT_.out HW_.out hHeld ?_; refine takeQ 6 18 HT_.out HW_.out hHeld ?_; refine pureQ 7 19 HT_.out ?_
      refine done_ (done_of HT_.out (by kernel_rfl)) ?_
      try go_wp2
      go_roundg k1
      case measure => have := HK1.out; omega
      case rel => exact ⟨(x0_1), (wrap64 (x5_1 + 1)), (x233001_1), (by first | rfl | (simp; done) | (simp [*]; done)), H', ⟨by have := HK1.out; omega⟩, ⟨rup HO_0⟩, pkA BK232, ⟨by repeat (first | (with_reducible first | exact HK.out | apply Kept.alloc | apply Kept.drewN | apply Kept.drew | refine Kept.setCell ?_ (.inr GW232.out) _) | exact HK.out)⟩, bpk HB⟩
    ·
     rw [if_neg c4] at H
     have c4b0 : decide (x5_1 < (x0_1.length : Int)) = false := decide_eq_false c4
     clear c4
     by_cases c14 : x0_1.length < 8796093022208
     case neg => rw [if_neg c14] at H; exact absurd H (by simp)
     rw [if_pos c14] at H; have LMc14 := Aside0.mk c14; clear c14
     obtain ⟨y236, hy236⟩ : ∃ y_ : List (S56), y_ = (x0_1 ++ [(⟨a1_0, x233001_1⟩ : S56)]) := ⟨_, rfl⟩
     replace H : (some y236) = some r := by first | (rw [hy236]; with_reducible exact H) | (have H2_ := (Option.bind_some _ _).symm.trans H; rw [hy236]; with_reducible exact H2_) | (have H2_ := (Option.bind_some _ _).symm.trans H; with_reducible exact H2_) | with_reducible exact H | (rw [hy236]; exact H) | exact H
     have Ny236 := Aside0.mk hy236; clear hy236
     obtain rfl := Option.some.inj H
     obtain ⟨Ao15, co15, eo15⟩ := Kd.R_slice HO_0.out
     subst eo15
     obtain ⟨hcz16_0, hcz16_1, hfz16_0, hfz16_1⟩ := hcf2 BK232
     go_wp2_with (first | ((with_reducible refine gate_builtin (b := .append) (xs := #[.tmp 33, .tmp 35]) rfl ?_); at_builtin; refine Kd.R_append k56 (w0 := w0) w0.heap.size rfl (.tmp 33) (.tmp 35) 53 56 (.agg #[(.int .i64 0), (.int .i64 0)]) 16 rfl Try.underlying53 info56 rfl (by decide) (by omega) (.slice Ao15 x0_1.length co15) x0_1 (⟨a1_0, x233001_1⟩ : S56) [.int .i64 a1_0, .int .i64 x233001_1] (fun k_ => (P0_ k_ ∨ w.heap.size ≤ k_) ∧ k_ ≠ gb232) (fun _ => False) rfl rfl ?aP (fun _ hk => hk.elim) ?aF ?aO ?aB ?aS ?aL ?_; (case aP => exact k56_mkM _ _ _ (⟨a1_0, x233001_1⟩ : S56)); (case aB => exact (by repeat (first | (with_reducible first | exact HB.out | apply below_alloc | apply pw_below_drewN | apply below_drew1 | refine below_set ?_ GE232.out) | exact HB.out))); (case aF => exact (fun k_ hk => ⟨(.inr (Nat.le_trans (by first | exact HK.out.1 | exact (show Kept w _ (fun k_ => P0_ k_) from by repeat (first | (with_reducible first | exact HK.out | apply Kept.alloc | apply Kept.drewN | apply Kept.drew | refine Kept.setCell ?_ (.inr GW232.out) _) | exact HK.out)).1) hk)), Kd.freshB (g := gb232) (o := .cells #[.int .i64 a1_0, .int .i64 x233001_1] 56 (0, 0)) (pk BK232.out) k_ hk⟩)); (case aO => exact (rup HO_0)); (case aS => exact (below_size (by repeat (first | (with_reducible first | exact HB.out | apply below_alloc | apply pw_below_drewN | apply below_drew1 | refine below_set ?_ GE232.out) | exact HB.out)))); (case aL => have := LMc14.out; omega); intro v237 w17 ho hb hg hat; rw [← Ny236.out] at ho; have n0_ := Aside0.mk (blk_grown (g := gb232) (o := .cells #[.int .i64 a1_0, .int .i64 x233001_1] 56 (0, 0)) (pk BK232.out) hg (Kd.R_away HO_0.out (fun _ hk => hk.2))); have n1_ := Aside0.mk (hb); have n2_ := Aside0.mk (Kept.of_grown (S := (fun k_ => P0_ k_)) hg (by repeat (first | (with_reducible first | exact HK.out | apply Kept.alloc | apply Kept.drewN | apply Kept.drew | refine Kept.setCell ?_ (.inr GW232.out) _) | exact HK.out)) (fun k_ e_ => (HO_0.out.1 k_ e_).1)); have n3_ := Aside0.mk (ho); clear BK232; clear HB; clear HK; clear HO_0; have BK232 := n0_; have HB := n1_; have HK := n2_; have HO238 := n3_; clear n0_ n1_ n2_ n3_; clear ho hb hg hat))
     go_ret
     exact ⟨_, by first | rfl | (simp [errW_none, errW_some] <;> rfl) | (simp [*, errW_none, errW_some] <;> rfl) | kernel_rfl, by (with_reducible repeat (first | apply Kd.R_alloc | apply Kd.R_drewN | apply Kd.R_drew)); exact Kd.R_mono HO238.out (fun _ hk => hk.1), by repeat (first | (with_reducible first | exact HB.out | apply below_alloc | apply pw_below_drewN | apply below_drew1 | refine below_set ?_ GE232.out) | exact HB.out), by repeat (first | (with_reducible first | exact HK.out | apply Kept.alloc | apply Kept.drewN | apply Kept.drew | refine Kept.setCell ?_ (.inr GW232.out) _) | exact HK.out)⟩
end Go.Proofs.Ytllfopbchdahoaa.P
