/- What the law's proof needs of Px15. -/
import Derived.Test.YtllfopbchdahoaaTrFU4
import Derived.Test.YtllfopbchdahoaaTrFPx0
import Derived.Test.YtllfopbchdahoaaTrFPx7
-- PRINTED by print.py (a twelfth state) out of the translation. Not trusted: Lean checks it.
namespace Go.Proofs.Ytllfopbchdahoaa.P
open Go.RowKit Go.Proofs.YtllfopbchdahoaaW.PrintWords Go.Proofs.YtllfopbchdahoaaW.PrintLast Go.Proofs.YtllfopbchdahoaaW.PrintMore Go.Proofs.YtllfopbchdahoaaO
attribute [local go_sem] max2_int min2_int max_two min_two max_three min_three max_four min_four   -- for this text's walks alone
set_option linter.unusedVariables false
set_option linter.unusedSimpArgs false
mutual
def gimbalref14_told.l0 : Nat → List (S56) → Int → Int → Int → Int → Int → Int → Int → Int → Option (Int × Int × Int × Int × Int × Bool)
  | 0, _, _, _, _, _, _, _, _, _ => none
  | k + 1, x0, x1, x7, x8, x241000, x241001, x241002, x241003, x241004 => if x8 < (x0.length : Int) then (if 0 ≤ x8 then (if ((rd_T56 x0 x8).f1) = 0 then (gimbalref14_told.l0 k x0 x1 x7 (wrap64 (x8 + 1)) x241000 x241001 x241002 x241003 x241004) else (if (wrap64 (x7 + 1)) = 1 then (gimbalref14_told.l0 k x0 x1 (wrap64 (x7 + 1)) (wrap64 (x8 + 1)) ((rd_T56 x0 x8).f0) ((rd_T56 x0 x8).f1) x241002 x241003 x241004) else (gimbalref14_told.l0 k x0 x1 (wrap64 (x7 + 1)) (wrap64 (x8 + 1)) x241000 x241001 ((rd_T56 x0 x8).f0) ((rd_T56 x0 x8).f1) x241004))) else (none)) else (if x7 = 2 then (gimbalref14_told.j1 k x1 x7 (decide (x241000 > x241002)) x241000 x241001 x241002 x241003 x241004) else (gimbalref14_told.j1 k x1 x7 false x241000 x241001 x241002 x241003 x241004))
def gimbalref14_told.j1 : Nat → Int → Int → Bool → Int → Int → Int → Int → Int → Option (Int × Int × Int × Int × Int × Bool)
  | 0, _, _, _, _, _, _, _, _ => none
  | k + 1, x1, x7, x59, x241000, x241001, x241002, x241003, x241004 => if x59 = true then (if x7 > 2 then (some (0, 0, 0, 0, 0, false)) else ((gimbalref14_Fit.f k x241002 x241003 x241000 x241001 x1).bind fun t246 => (if t246 = true then (some (x241002, x241003, x241000, x241001, x1, true)) else (some (0, 0, 0, 0, 0, false))))) else (if x7 > 2 then (some (0, 0, 0, 0, 0, false)) else ((gimbalref14_Fit.f k x241000 x241001 x241002 x241003 x241004).bind fun t247 => (if t247 = true then (some (x241000, x241001, x241002, x241003, x241004, true)) else (some (0, 0, 0, 0, 0, false)))))
end
def gimbalref14_told.f (k : Nat) (l0 : List (S56)) (a1 : Int) : Option (Int × Int × Int × Int × Int × Bool) := gimbalref14_told.l0 k l0 a1 0 0 0 0 0 0 a1
set_option maxHeartbeats 8000000 in
set_option maxRecDepth 100000 in
theorem gimbalref14_told.calls (k : Nat) (A0 : Option Addr) (c0 : Nat) (l0 : List (S56)) (a1 : Int) (r1 : Int) (r2 : Int) (r3 : Int) (r4 : Int) (r5 : Int) (r6 : Bool) (w : World) (hr0 : Kd.C k56 w A0 l0.length l0) (hc0 : l0.length ≤ c0) (h : gimbalref14_told.f k l0 a1 = some (r1, r2, r3, r4, r5, r6)) :
    Calls Try.prog 29 #[.slice A0 l0.length c0, .int .i64 a1] w fun e w' => e = .returned (.tuple #[.agg #[.int .i64 r1, .int .i64 r2, .int .i64 r3, .int .i64 r4, .int .i64 r5], .bool r6]) ∧ Below w.heap.size w w' := by
  have hu23 := Try.underlying23
  have HR0 := Aside0.mk hr0; have HC0 := Aside0.mk hc0; clear hr0 hc0
  have HB := Aside0.mk (Below.refl w.heap.size w)
  have H : (gimbalref14_told.l0 k l0 a1 0 0 0 0 0 0 a1) = some (r1, r2, r3, r4, r5, r6) := h
  clear h
  have H' := Aside0.mk H
  clear H
  go_enter Try.func29, Try.ntmps29
  go_wp2_with (first | ((with_reducible refine gate_dst (N := 4) rfl ?_); refine box_event ?hg (N := 4) ?hd (cs := #[.int .i64 0, .int .i64 0, .int .i64 0, .int .i64 0, .int .i64 0]) (t := 23) ?hr ?_; (case hd => rfl); (case hg => rfl); (case hr => first | (go_simp; done) | (go_simp; rfl)); intro gb239 hg w3 hbox hb; have n0_ := bst HB hb; have n1_ := Aside0.mk (hbox); have n2_ := bsz HB hg; have n3_ := bsz HB hg; clear HB; have HB := n0_; have BK239 := n1_; have GW239 := n2_; have GE239 := n3_; clear n0_ n1_ n2_ n3_; clear hb hbox hg) | ((with_reducible refine gate_dst (N := 6) rfl ?_); refine box_event ?hg (N := 6) ?hd (cs := #[.int .i64 0, .int .i64 0, .int .i64 0, .int .i64 0, .int .i64 0]) (t := 23) ?hr ?_; (case hd => rfl); (case hg => rfl); (case hr => first | (go_simp; done) | (go_simp; rfl)); intro gb240 hg w4 hbox hb; have n0_ := bst HB hb; have n1_ := Aside0.mk (hbox); have n2_ := bsz HB hg; have n3_ := bsz HB hg; have n4_ := bn1 BK239 hg; have n5_ := bn2 BK239 hg; replace BK239 := bbw BK239 hb; clear HB; have HB := n0_; have BK240 := n1_; have GW240 := n2_; have GE240 := n3_; have NB239_240 := n4_; have NB240_239 := n5_; clear n0_ n1_ n2_ n3_ n4_ n5_; clear hb hbox hg; have hnb5 := nn NB240_239 NB239_240; obtain ⟨hcz6_0, hcz6_1, hcz6_2, hcz6_3, hcz6_4, hfz6_0, hfz6_1, hfz6_2, hfz6_3, hfz6_4⟩ := hcf5 BK240))
  go_loopg [7, 8] k (fun kq v7 v8 w' => ∃ (x7_1 : Int) (x8_1 : Int) (x241000_1 : Int) (x241001_1 : Int) (x241002_1 : Int) (x241003_1 : Int), v7 = .int .i64 x7_1 ∧ v8 = .int .i64 x8_1 ∧ Aside0 (gimbalref14_told.l0 kq l0 a1 x7_1 x8_1 x241000_1 x241001_1 x241002_1 x241003_1 a1 = some (r1, r2, r3, r4, r5, r6)) ∧ Aside0 (kq ≤ k) ∧ Aside0 (w'.heap[gb239]? = some (.cells #[.int .i64 0, .int .i64 0, .int .i64 0, .int .i64 0, .int .i64 0] 23 (0, 0))) ∧ Aside0 (w'.heap[gb240]? = some (.cells #[.int .i64 x241000_1, .int .i64 x241001_1, .int .i64 x241002_1, .int .i64 x241003_1, .int .i64 a1] 23 (0, 0))) ∧ Aside0 (Below w.heap.size w w'))
  case atStart => exact ⟨(0), (0), (0), (0), (0), (0), (by first | rfl | (simp; done) | (simp [*]; done)), (by first | rfl | (simp; done) | (simp [*]; done)), H', ⟨Nat.le_refl _⟩, ⟨pkF BK239⟩, ⟨by refine pkB ?_; refine bput (cs := #[.int .i64 0, .int .i64 0, .int .i64 0, .int .i64 0, .int .i64 0]) 4 ?_; refine bput (cs := #[.int .i64 0, .int .i64 0, .int .i64 0, .int .i64 0, .int .i64 0]) 3 ?_; refine bput (cs := #[.int .i64 0, .int .i64 0, .int .i64 0, .int .i64 0, .int .i64 0]) 2 ?_; refine bput (cs := #[.int .i64 0, .int .i64 0, .int .i64 0, .int .i64 0, .int .i64 0]) 1 ?_; refine bput (cs := #[.int .i64 0, .int .i64 0, .int .i64 0, .int .i64 0, .int .i64 0]) 0 ?_; exact BK240.out⟩, bpk HB⟩
  case round =>
   clear H'
   (try clear c2); (try clear p2); (try clear c5); (try clear hcz6_0 hcz6_1 hcz6_2 hcz6_3 hcz6_4 hfz6_0 hfz6_1 hfz6_2 hfz6_3 hfz6_4); obtain ⟨x7_1, x8_1, x241000_1, x241001_1, x241002_1, x241003_1, rfl, rfl, HA, HK1, BK239, BK240, HB⟩ := hrel
   cases gk with
   | zero => exact absurd HA.out (by simp [gimbalref14_told.l0])
   | succ k1 =>
    have H := HA.out
    clear HA
    simp only [gimbalref14_told.l0] at H
    by_cases c7 : x8_1 < (l0.length : Int)
    ·
     rw [if_pos c7] at H
     have c7b0 : decide (x8_1 < (l0.length : Int)) = true := decide_eq_true c7
     clear c7
     by_cases c8 : 0 ≤ x8_1
     case neg => rw [if_neg c8] at H; exact absurd H (by simp)
     rw [if_pos c8] at H
     have c8b0 : decide (0 ≤ x8_1) = true := decide_eq_true c8
     clear c8
     by_cases c9 : ((rd_T56 l0 x8_1).f1) = 0
     ·
      rw [if_pos c9] at H
      have c9b0 : (((rd_T56 l0 x8_1).f1) == 0) = true := beq_iff_eq.mpr c9
      have c9b1 : (((rd_T56 l0 x8_1).f1) != 0) = false := bne_eq_false_iff_eq.mpr c9
      clear c9
      have H' := Aside0.mk H
      clear H
      have p241 : 0 ≤ (x8_1 : Int) := of_decide_eq_true (by first | (with_reducible assumption) | assumption)
      have q241 : x8_1 < (l0.length : Int) := of_decide_eq_true (by first | (with_reducible assumption) | assumption)
      obtain ⟨ad241, e241, hx241_0, hx241_1⟩ := at_T56 HR0.out x8_1 p241 q241
      cases e241
      replace hx241_0 := (HB.out.cell (World.block_lt_of_cell? w _ hx241_0)).trans hx241_0
      replace hx241_1 := (HB.out.cell (World.block_lt_of_cell? w _ hx241_1)).trans hx241_1
      replace p241 := eq_true p241; replace q241 := eq_true q241
      go_wp2
      go_roundg k1
      case measure => have := HK1.out; omega
      case rel => exact ⟨(x7_1), (wrap64 (x8_1 + 1)), (x241000_1), (x241001_1), (x241002_1), (x241003_1), (by first | rfl | (simp; done) | (simp [*]; done)), (by first | rfl | (simp; done) | (simp [*]; done)), H', ⟨by have := HK1.out; omega⟩, pkA BK239, pkA BK240, bpk HB⟩
     ·
      rw [if_neg c9] at H
      have c9b0 : (((rd_T56 l0 x8_1).f1) == 0) = false := beq_eq_false_iff_ne.mpr c9
      have c9b1 : (((rd_T56 l0 x8_1).f1) != 0) = true := bne_iff_ne.mpr c9
      by_cases c10 : (wrap64 (x7_1 + 1)) = 1
      ·
       rw [if_pos c10] at H
       have c10b0 : ((wrap64 (x7_1 + 1)) == 1) = true := beq_iff_eq.mpr c10
       have c10b1 : ((wrap64 (x7_1 + 1)) != 1) = false := bne_eq_false_iff_eq.mpr c10
       clear c10
       have H' := Aside0.mk H
       clear H
       have p241 : 0 ≤ (x8_1 : Int) := of_decide_eq_true (by first | (with_reducible assumption) | assumption)
       have q241 : x8_1 < (l0.length : Int) := of_decide_eq_true (by first | (with_reducible assumption) | assumption)
       obtain ⟨ad241, e241, hx241_0, hx241_1⟩ := at_T56 HR0.out x8_1 p241 q241
       cases e241
       replace hx241_0 := (HB.out.cell (World.block_lt_of_cell? w _ hx241_0)).trans hx241_0
       replace hx241_1 := (HB.out.cell (World.block_lt_of_cell? w _ hx241_1)).trans hx241_1
       replace p241 := eq_true p241; replace q241 := eq_true q241
       have p242 : 0 ≤ (x8_1 : Int) := of_decide_eq_true (by first | (with_reducible assumption) | assumption)
       have q242 : x8_1 < (l0.length : Int) := of_decide_eq_true (by first | (with_reducible assumption) | assumption)
       obtain ⟨ad242, e242, hx242_0, hx242_1⟩ := at_T56 HR0.out x8_1 p242 q242
       obtain rfl : ad241 = ad242 := (by injection e242)
       replace hx242_0 := (HB.out.cell (World.block_lt_of_cell? w _ hx242_0)).trans hx242_0
       replace hx242_1 := (HB.out.cell (World.block_lt_of_cell? w _ hx242_1)).trans hx242_1
       replace p242 := eq_true p242; replace q242 := eq_true q242; have hnb11 := nn NB240_239 NB239_240
       obtain ⟨hcz12_0, hcz12_1, hcz12_2, hcz12_3, hcz12_4, hfz12_0, hfz12_1, hfz12_2, hfz12_3, hfz12_4⟩ := hcf5 BK240
       have p243 : 0 ≤ (x8_1 : Int) := of_decide_eq_true (by first | (with_reducible assumption) | assumption)
       have q243 : x8_1 < (l0.length : Int) := of_decide_eq_true (by first | (with_reducible assumption) | assumption)
       obtain ⟨ad243, e243, hx243_0, hx243_1⟩ := at_T56 HR0.out x8_1 p243 q243
       obtain rfl : ad241 = ad243 := (by injection e243)
       have hn243_0 : ad241.block ≠ gb240 := Nat.ne_of_lt (Nat.lt_of_lt_of_le (by have := World.block_lt_of_cell? _ _ hx243_0; first | rwa [add_block] at this | exact this) GW240.out)
       replace hx243_0 := (HB.out.cell (World.block_lt_of_cell? w _ hx243_0)).trans hx243_0
       replace hx243_1 := (HB.out.cell (World.block_lt_of_cell? w _ hx243_1)).trans hx243_1
       replace hx243_0 := (cell_far (p := ⟨gb240, 0, none⟩) (by first | (rw [add_block]; exact hn243_0) | (show (Addr.add _ _).block ≠ _; rw [add_block]; exact hn243_0) | exact hn243_0) (.int .i64 ((rd_T56 l0 x8_1).f0))).trans hx243_0
       replace hx243_1 := (cell_far (p := ⟨gb240, 0, none⟩) (by first | (rw [add_block]; exact hn243_0) | (show (Addr.add _ _).block ≠ _; rw [add_block]; exact hn243_0) | exact hn243_0) (.int .i64 ((rd_T56 l0 x8_1).f0))).trans hx243_1
       clear hn243_0; replace p243 := eq_true p243; replace q243 := eq_true q243
       go_wp2
       go_roundg k1
       case measure => have := HK1.out; omega
       case rel => exact ⟨(wrap64 (x7_1 + 1)), (wrap64 (x8_1 + 1)), ((rd_T56 l0 x8_1).f0), ((rd_T56 l0 x8_1).f1), (x241002_1), (x241003_1), (by first | rfl | (simp; done) | (simp [*]; done)), (by first | rfl | (simp; done) | (simp [*]; done)), H', ⟨by have := HK1.out; omega⟩, far2 BK239 NB239_240, ⟨by refine pkB ?_; refine bput (cs := #[.int .i64 ((rd_T56 l0 x8_1).f0), .int .i64 x241001_1, .int .i64 x241002_1, .int .i64 x241003_1, .int .i64 a1]) 1 ?_; refine bput (cs := #[.int .i64 x241000_1, .int .i64 x241001_1, .int .i64 x241002_1, .int .i64 x241003_1, .int .i64 a1]) 0 ?_; exact BK240.out⟩, bpk HB⟩
      ·
       rw [if_neg c10] at H
       have c10b0 : ((wrap64 (x7_1 + 1)) == 1) = false := beq_eq_false_iff_ne.mpr c10
       have c10b1 : ((wrap64 (x7_1 + 1)) != 1) = true := bne_iff_ne.mpr c10
       have H' := Aside0.mk H
       clear H
       have p241 : 0 ≤ (x8_1 : Int) := of_decide_eq_true (by first | (with_reducible assumption) | assumption)
       have q241 : x8_1 < (l0.length : Int) := of_decide_eq_true (by first | (with_reducible assumption) | assumption)
       obtain ⟨ad241, e241, hx241_0, hx241_1⟩ := at_T56 HR0.out x8_1 p241 q241
       cases e241
       replace hx241_0 := (HB.out.cell (World.block_lt_of_cell? w _ hx241_0)).trans hx241_0
       replace hx241_1 := (HB.out.cell (World.block_lt_of_cell? w _ hx241_1)).trans hx241_1
       replace p241 := eq_true p241; replace q241 := eq_true q241
       have p244 : 0 ≤ (x8_1 : Int) := of_decide_eq_true (by first | (with_reducible assumption) | assumption)
       have q244 : x8_1 < (l0.length : Int) := of_decide_eq_true (by first | (with_reducible assumption) | assumption)
       obtain ⟨ad244, e244, hx244_0, hx244_1⟩ := at_T56 HR0.out x8_1 p244 q244
       obtain rfl : ad241 = ad244 := (by injection e244)
       replace hx244_0 := (HB.out.cell (World.block_lt_of_cell? w _ hx244_0)).trans hx244_0
       replace hx244_1 := (HB.out.cell (World.block_lt_of_cell? w _ hx244_1)).trans hx244_1
       replace p244 := eq_true p244; replace q244 := eq_true q244; have hnb13 := nn NB240_239 NB239_240
       obtain ⟨hcz14_0, hcz14_1, hcz14_2, hcz14_3, hcz14_4, hfz14_0, hfz14_1, hfz14_2, hfz14_3, hfz14_4⟩ := hcf5 BK240
       have p245 : 0 ≤ (x8_1 : Int) := of_decide_eq_true (by first | (with_reducible assumption) | assumption)
       have q245 : x8_1 < (l0.length : Int) := of_decide_eq_true (by first | (with_reducible assumption) | assumption)
       obtain ⟨ad245, e245, hx245_0, hx245_1⟩ := at_T56 HR0.out x8_1 p245 q245
       obtain rfl : ad241 = ad245 := (by injection e245)
       have hn245_0 : ad241.block ≠ gb240 := Nat.ne_of_lt (Nat.lt_of_lt_of_le (by have := World.block_lt_of_cell? _ _ hx245_0; first | rwa [add_block] at this | exact this) GW240.out)
       replace hx245_0 := (HB.out.cell (World.block_lt_of_cell? w _ hx245_0)).trans hx245_0
       replace hx245_1 := (HB.out.cell (World.block_lt_of_cell? w _ hx245_1)).trans hx245_1
       replace hx245_0 := (cell_far (p := ⟨gb240, 2, none⟩) (by first | (rw [add_block]; exact hn245_0) | (show (Addr.add _ _).block ≠ _; rw [add_block]; exact hn245_0) | exact hn245_0) (.int .i64 ((rd_T56 l0 x8_1).f0))).trans hx245_0
       replace hx245_1 := (cell_far (p := ⟨gb240, 2, none⟩) (by first | (rw [add_block]; exact hn245_0) | (show (Addr.add _ _).block ≠ _; rw [add_block]; exact hn245_0) | exact hn245_0) (.int .i64 ((rd_T56 l0 x8_1).f0))).trans hx245_1
       clear hn245_0; replace p245 := eq_true p245; replace q245 := eq_true q245
       go_wp2
       go_roundg k1
       case measure => have := HK1.out; omega
       case rel => exact ⟨(wrap64 (x7_1 + 1)), (wrap64 (x8_1 + 1)), (x241000_1), (x241001_1), ((rd_T56 l0 x8_1).f0), ((rd_T56 l0 x8_1).f1), (by first | rfl | (simp; done) | (simp [*]; done)), (by first | rfl | (simp; done) | (simp [*]; done)), H', ⟨by have := HK1.out; omega⟩, far2 BK239 NB239_240, ⟨by refine pkB ?_; refine bput (cs := #[.int .i64 x241000_1, .int .i64 x241001_1, .int .i64 ((rd_T56 l0 x8_1).f0), .int .i64 x241003_1, .int .i64 a1]) 3 ?_; refine bput (cs := #[.int .i64 x241000_1, .int .i64 x241001_1, .int .i64 x241002_1, .int .i64 x241003_1, .int .i64 a1]) 2 ?_; exact BK240.out⟩, bpk HB⟩
    ·
     rw [if_neg c7] at H
     have c7b0 : decide (x8_1 < (l0.length : Int)) = false := decide_eq_false c7
     clear c7; have HC15 := Aside0.mk H; clear H
     go_upto_region 13 with (fail)
     go_cut [59] (fun v59 wc => ∃ (kq : Nat) (x59_14 : Bool), v59 = .bool x59_14 ∧ Aside0 (gimbalref14_told.j1 kq a1 x7_1 x59_14 x241000_1 x241001_1 x241002_1 x241003_1 a1 = some (r1, r2, r3, r4, r5, r6)) ∧ Aside0 (kq ≤ k1) ∧ Aside0 (wc.heap[gb239]? = some (.cells #[.int .i64 0, .int .i64 0, .int .i64 0, .int .i64 0, .int .i64 0] 23 (0, 0))) ∧ Aside0 (wc.heap[gb240]? = some (.cells #[.int .i64 x241000_1, .int .i64 x241001_1, .int .i64 x241002_1, .int .i64 x241003_1, .int .i64 a1] 23 (0, 0))) ∧ Aside0 (Below w.heap.size w wc))
     case first =>
      have H := HC15.out
      clear HC15
      by_cases c16 : x7_1 = 2
      ·
       rw [if_pos c16] at H
       have c16b0 : (x7_1 == 2) = true := beq_iff_eq.mpr c16
       have c16b1 : (x7_1 != 2) = false := bne_eq_false_iff_eq.mpr c16
       clear c16
       (first | rw [c16b0] | (simp only [i64_w, i32_w]; rw [c16b0]) | skip)
       have H' := Aside0.mk H
       clear H; have hnb17 := nn NB240_239 NB239_240
       obtain ⟨hcz18_0, hcz18_1, hcz18_2, hcz18_3, hcz18_4, hfz18_0, hfz18_1, hfz18_2, hfz18_3, hfz18_4⟩ := hcf5 BK240
       go_wp2
       go_meet
       case rel => exact ⟨_, (decide (x241000_1 > x241002_1)), (by first | rfl | (simp; done) | (simp [*]; done)), H', ⟨by have := HK1.out; first | omega | exact Nat.le_refl _⟩, pkA BK239, pkA BK240, bpk HB⟩
      ·
       rw [if_neg c16] at H
       have c16b0 : (x7_1 == 2) = false := beq_eq_false_iff_ne.mpr c16
       have c16b1 : (x7_1 != 2) = true := bne_iff_ne.mpr c16
       (first | rw [c16b0] | (simp only [i64_w, i32_w]; rw [c16b0]) | skip)
       have H' := Aside0.mk H
       clear H
       go_wp2
       go_meet
       case rel => exact ⟨_, (false), (by first | rfl | (simp; done) | (simp [*]; done)), H', ⟨by have := HK1.out; first | omega | exact Nat.le_refl _⟩, pkA BK239, pkA BK240, bpk HB⟩
     case rest =>
      clear HC15; (try clear c1); (try clear c2); (try clear p2); (try clear q2); (try clear hx2); (try clear c5); (try clear p6); (try clear c7); (try clear c7b0); (try clear c8); (try clear c8b0); (try clear c9); (try clear c9b0); (try clear c9b1); (try clear c10); (try clear c10b0); (try clear c10b1); (try clear c11); (try clear c13); (try clear c16); (try clear c16b0); (try clear c16b1); (try clear c17); (try clear hcz12_0 hcz12_1 hcz12_2 hcz12_3 hcz12_4); (try clear hcz14_0 hcz14_1 hcz14_2 hcz14_3 hcz14_4); (try clear hcz18_0 hcz18_1 hcz18_2 hcz18_3 hcz18_4); (try clear hcz6_0 hcz6_1 hcz6_2 hcz6_3 hcz6_4); (try clear hfz12_0 hfz12_1 hfz12_2 hfz12_3 hfz12_4); (try clear hfz14_0 hfz14_1 hfz14_2 hfz14_3 hfz14_4); (try clear hfz18_0 hfz18_1 hfz18_2 hfz18_3 hfz18_4); (try clear hfz6_0 hfz6_1 hfz6_2 hfz6_3 hfz6_4); (try clear hx241_0); (try clear hx241_1); (try clear hx242_0); (try clear hx242_1); (try clear hx243_0); (try clear hx243_1); (try clear hx244_0); (try clear hx244_1); (try clear hx245_0); (try clear hx245_1); (try clear p2); (try clear p241); (try clear p242); (try clear p243); (try clear p244); (try clear p245); (try clear q241); (try clear q242); (try clear q243); (try clear q244); (try clear q245); obtain ⟨kq, x59_14, rfl, HA, HJ14, BK239, BK240, HB⟩ := hcut
      cases kq with
      | zero => exact absurd HA.out (by simp [gimbalref14_told.j1])
      | succ kj14 =>
       have H := HA.out
       clear HA
       simp only [gimbalref14_told.j1] at H
       by_cases c19 : x59_14 = true
       ·
        subst c19
        have H1 : (if x7_1 > 2 then (some (0, 0, 0, 0, 0, false)) else ((gimbalref14_Fit.f kj14 x241002_1 x241003_1 x241000_1 x241001_1 a1).bind fun t246 => (if t246 = true then (some (x241002_1, x241003_1, x241000_1, x241001_1, a1, true)) else (some (0, 0, 0, 0, 0, false))))) = some (r1, r2, r3, r4, r5, r6) := by rw [if_pos rfl] at H; exact H
        clear H; have H := H1; clear H1
        by_cases c20 : x7_1 > 2
        ·
         rw [if_pos c20] at H
         have c20b0 : decide (2 < x7_1) = true := decide_eq_true c20
         clear c20
         simp only [Option.some.injEq, Prod.mk.injEq] at H
         obtain ⟨rfl, rfl, rfl, rfl, rfl, rfl⟩ := H; have hnb21 := nn NB240_239 NB239_240
         obtain ⟨hcz22_0, hcz22_1, hcz22_2, hcz22_3, hcz22_4, hfz22_0, hfz22_1, hfz22_2, hfz22_3, hfz22_4⟩ := hcf5 BK240
         obtain ⟨hcz23_0, hcz23_1, hcz23_2, hcz23_3, hcz23_4, hfz23_0, hfz23_1, hfz23_2, hfz23_3, hfz23_4⟩ := hcf5 BK239
         go_wp2
         refine bodyPost_ret (results_ct rfl _ _ gb239 23 #[.int .i64 0, .int .i64 0, .int .i64 0, .int .i64 0, .int .i64 0] (0, 0) _ rfl (by refine pkB ?_; refine bput (cs := #[.int .i64 0, .int .i64 0, .int .i64 0, .int .i64 0, .int .i64 0]) 4 ?_; refine bput (cs := #[.int .i64 0, .int .i64 0, .int .i64 0, .int .i64 0, .int .i64 0]) 3 ?_; refine bput (cs := #[.int .i64 0, .int .i64 0, .int .i64 0, .int .i64 0, .int .i64 0]) 2 ?_; refine bput (cs := #[.int .i64 0, .int .i64 0, .int .i64 0, .int .i64 0, .int .i64 0]) 1 ?_; refine bput (cs := #[.int .i64 0, .int .i64 0, .int .i64 0, .int .i64 0, .int .i64 0]) 0 ?_; refine blk_far ?_ NB239_240.out _; refine pkB ?_; refine blk_far ?_ NB239_240.out _; refine pkB ?_; refine blk_far ?_ NB239_240.out _; refine pkB ?_; refine blk_far ?_ NB239_240.out _; refine pkB ?_; refine blk_far ?_ NB239_240.out _; refine pkB ?_; exact BK239.out) Try.underlying23 rfl (by kernel_rfl)) rfl ?_
         exact ⟨by first | rfl | (simp [errW_none, errW_some] <;> rfl) | (simp [*, errW_none, errW_some] <;> rfl) | kernel_rfl, (bpk HB).out⟩
        ·
         rw [if_neg c20] at H
         have c20b0 : decide (2 < x7_1) = false := decide_eq_false c20
         clear c20; replace H := bnH H; obtain ⟨t246, A240, H⟩ := H
         try dsimp only at H
         have A24 := Aside0.mk A240; clear A240
         by_cases c25 : t246 = true
         ·
          subst c25
          have H1 : (some (x241002_1, x241003_1, x241000_1, x241001_1, a1, true)) = some (r1, r2, r3, r4, r5, r6) := by rw [if_pos rfl] at H; exact H
          clear H; have H := H1; clear H1
          simp only [Option.some.injEq, Prod.mk.injEq] at H
          obtain ⟨rfl, rfl, rfl, rfl, rfl, rfl⟩ := H; have hnb26 := nn NB240_239 NB239_240
          obtain ⟨hcz27_0, hcz27_1, hcz27_2, hcz27_3, hcz27_4, hfz27_0, hfz27_1, hfz27_2, hfz27_3, hfz27_4⟩ := hcf5 BK240
          go_wp2_with (first | (go_at_call 18; (with_reducible refine (gimbalref14_Fit.calls kj14 x241002_1 x241003_1 x241000_1 x241001_1 a1 true _ A24.out).mono ?_); rintro e w28 ⟨rfl, hb⟩; have n0_ := bbF BK239 hb; have n1_ := Aside0.mk (blk_below (g := gb240) (o := .cells #[.int .i64 x241002_1, .int .i64 x241003_1, .int .i64 x241000_1, .int .i64 x241001_1, .int .i64 a1] 23 (0, 0)) (by refine pkB ?_; refine bput (cs := #[.int .i64 x241002_1, .int .i64 x241003_1, .int .i64 x241000_1, .int .i64 x241001_1, .int .i64 a1]) 4 ?_; refine bput (cs := #[.int .i64 x241002_1, .int .i64 x241003_1, .int .i64 x241000_1, .int .i64 x241003_1, .int .i64 a1]) 3 ?_; refine bput (cs := #[.int .i64 x241002_1, .int .i64 x241003_1, .int .i64 x241002_1, .int .i64 x241003_1, .int .i64 a1]) 2 ?_; refine bput (cs := #[.int .i64 x241002_1, .int .i64 x241001_1, .int .i64 x241002_1, .int .i64 x241003_1, .int .i64 a1]) 1 ?_; refine bput (cs := #[.int .i64 x241000_1, .int .i64 x241001_1, .int .i64 x241002_1, .int .i64 x241003_1, .int .i64 a1]) 0 ?_; exact BK240.out) hb); have n2_ := bst HB hb; clear BK239; clear BK240; clear HB; have BK239 := n0_; have BK240 := n1_; have HB := n2_; clear n0_ n1_ n2_; (try clear hb); obtain ⟨hcz29_0, hcz29_1, hcz29_2, hcz29_3, hcz29_4, hfz29_0, hfz29_1, hfz29_2, hfz29_3, hfz29_4⟩ := hcf5 BK240; obtain ⟨hcz30_0, hcz30_1, hcz30_2, hcz30_3, hcz30_4, hfz30_0, hfz30_1, hfz30_2, hfz30_3, hfz30_4⟩ := hcf5 BK239))
          refine bodyPost_ret (results_ct rfl _ _ gb239 23 #[.int .i64 x241002_1, .int .i64 x241003_1, .int .i64 x241000_1, .int .i64 x241001_1, .int .i64 a1] (0, 0) _ rfl (by refine pkB ?_; refine bput (cs := #[.int .i64 x241002_1, .int .i64 x241003_1, .int .i64 x241000_1, .int .i64 x241001_1, .int .i64 0]) 4 ?_; refine bput (cs := #[.int .i64 x241002_1, .int .i64 x241003_1, .int .i64 x241000_1, .int .i64 0, .int .i64 0]) 3 ?_; refine bput (cs := #[.int .i64 x241002_1, .int .i64 x241003_1, .int .i64 0, .int .i64 0, .int .i64 0]) 2 ?_; refine bput (cs := #[.int .i64 x241002_1, .int .i64 0, .int .i64 0, .int .i64 0, .int .i64 0]) 1 ?_; refine bput (cs := #[.int .i64 0, .int .i64 0, .int .i64 0, .int .i64 0, .int .i64 0]) 0 ?_; exact BK239.out) Try.underlying23 rfl (by kernel_rfl)) rfl ?_
          exact ⟨by first | rfl | (simp [errW_none, errW_some] <;> rfl) | (simp [*, errW_none, errW_some] <;> rfl) | kernel_rfl, (bpk HB).out⟩
         ·
          replace c25 := Bool.eq_false_iff.mpr c25
          subst c25
          have H1 : (some (0, 0, 0, 0, 0, false)) = some (r1, r2, r3, r4, r5, r6) := by rw [if_neg (show ¬ (false = true) by decide)] at H; exact H
          clear H; have H := H1; clear H1
          simp only [Option.some.injEq, Prod.mk.injEq] at H
          obtain ⟨rfl, rfl, rfl, rfl, rfl, rfl⟩ := H; have hnb31 := nn NB240_239 NB239_240
          obtain ⟨hcz32_0, hcz32_1, hcz32_2, hcz32_3, hcz32_4, hfz32_0, hfz32_1, hfz32_2, hfz32_3, hfz32_4⟩ := hcf5 BK240
          go_wp2_with (first | (go_at_call 18; (with_reducible refine (gimbalref14_Fit.calls kj14 x241002_1 x241003_1 x241000_1 x241001_1 a1 false _ A24.out).mono ?_); rintro e w33 ⟨rfl, hb⟩; have n0_ := bbF BK239 hb; have n1_ := Aside0.mk (blk_below (g := gb240) (o := .cells #[.int .i64 x241002_1, .int .i64 x241003_1, .int .i64 x241000_1, .int .i64 x241001_1, .int .i64 a1] 23 (0, 0)) (by refine pkB ?_; refine bput (cs := #[.int .i64 x241002_1, .int .i64 x241003_1, .int .i64 x241000_1, .int .i64 x241001_1, .int .i64 a1]) 4 ?_; refine bput (cs := #[.int .i64 x241002_1, .int .i64 x241003_1, .int .i64 x241000_1, .int .i64 x241003_1, .int .i64 a1]) 3 ?_; refine bput (cs := #[.int .i64 x241002_1, .int .i64 x241003_1, .int .i64 x241002_1, .int .i64 x241003_1, .int .i64 a1]) 2 ?_; refine bput (cs := #[.int .i64 x241002_1, .int .i64 x241001_1, .int .i64 x241002_1, .int .i64 x241003_1, .int .i64 a1]) 1 ?_; refine bput (cs := #[.int .i64 x241000_1, .int .i64 x241001_1, .int .i64 x241002_1, .int .i64 x241003_1, .int .i64 a1]) 0 ?_; exact BK240.out) hb); have n2_ := bst HB hb; clear BK239; clear BK240; clear HB; have BK239 := n0_; have BK240 := n1_; have HB := n2_; clear n0_ n1_ n2_; (try clear hb); obtain ⟨hcz34_0, hcz34_1, hcz34_2, hcz34_3, hcz34_4, hfz34_0, hfz34_1, hfz34_2, hfz34_3, hfz34_4⟩ := hcf5 BK239))
          refine bodyPost_ret (results_ct rfl _ _ gb239 23 #[.int .i64 0, .int .i64 0, .int .i64 0, .int .i64 0, .int .i64 0] (0, 0) _ rfl (by refine pkB ?_; refine bput (cs := #[.int .i64 0, .int .i64 0, .int .i64 0, .int .i64 0, .int .i64 0]) 4 ?_; refine bput (cs := #[.int .i64 0, .int .i64 0, .int .i64 0, .int .i64 0, .int .i64 0]) 3 ?_; refine bput (cs := #[.int .i64 0, .int .i64 0, .int .i64 0, .int .i64 0, .int .i64 0]) 2 ?_; refine bput (cs := #[.int .i64 0, .int .i64 0, .int .i64 0, .int .i64 0, .int .i64 0]) 1 ?_; refine bput (cs := #[.int .i64 0, .int .i64 0, .int .i64 0, .int .i64 0, .int .i64 0]) 0 ?_; exact BK239.out) Try.underlying23 rfl (by kernel_rfl)) rfl ?_
          exact ⟨by first | rfl | (simp [errW_none, errW_some] <;> rfl) | (simp [*, errW_none, errW_some] <;> rfl) | kernel_rfl, (bpk HB).out⟩
       ·
        replace c19 := Bool.eq_false_iff.mpr c19
        subst c19
        have H1 : (if x7_1 > 2 then (some (0, 0, 0, 0, 0, false)) else ((gimbalref14_Fit.f kj14 x241000_1 x241001_1 x241002_1 x241003_1 a1).bind fun t247 => (if t247 = true then (some (x241000_1, x241001_1, x241002_1, x241003_1, a1, true)) else (some (0, 0, 0, 0, 0, false))))) = some (r1, r2, r3, r4, r5, r6) := by rw [if_neg (show ¬ (false = true) by decide)] at H; exact H
        clear H; have H := H1; clear H1
        by_cases c35 : x7_1 > 2
        ·
         rw [if_pos c35] at H
         have c35b0 : decide (2 < x7_1) = true := decide_eq_true c35
         clear c35
         simp only [Option.some.injEq, Prod.mk.injEq] at H
         obtain ⟨rfl, rfl, rfl, rfl, rfl, rfl⟩ := H; have hnb36 := nn NB239_240 NB240_239
         obtain ⟨hcz37_0, hcz37_1, hcz37_2, hcz37_3, hcz37_4, hfz37_0, hfz37_1, hfz37_2, hfz37_3, hfz37_4⟩ := hcf5 BK239
         go_wp2
         refine bodyPost_ret (results_ct rfl _ _ gb239 23 #[.int .i64 0, .int .i64 0, .int .i64 0, .int .i64 0, .int .i64 0] (0, 0) _ rfl (by refine pkB ?_; refine bput (cs := #[.int .i64 0, .int .i64 0, .int .i64 0, .int .i64 0, .int .i64 0]) 4 ?_; refine bput (cs := #[.int .i64 0, .int .i64 0, .int .i64 0, .int .i64 0, .int .i64 0]) 3 ?_; refine bput (cs := #[.int .i64 0, .int .i64 0, .int .i64 0, .int .i64 0, .int .i64 0]) 2 ?_; refine bput (cs := #[.int .i64 0, .int .i64 0, .int .i64 0, .int .i64 0, .int .i64 0]) 1 ?_; refine bput (cs := #[.int .i64 0, .int .i64 0, .int .i64 0, .int .i64 0, .int .i64 0]) 0 ?_; exact BK239.out) Try.underlying23 rfl (by kernel_rfl)) rfl ?_
         exact ⟨by first | rfl | (simp [errW_none, errW_some] <;> rfl) | (simp [*, errW_none, errW_some] <;> rfl) | kernel_rfl, (bpk HB).out⟩
        ·
         rw [if_neg c35] at H
         have c35b0 : decide (2 < x7_1) = false := decide_eq_false c35
         clear c35; replace H := bnH H; obtain ⟨t247, A380, H⟩ := H
         try dsimp only at H
         have A38 := Aside0.mk A380; clear A380
         by_cases c39 : t247 = true
         ·
          subst c39
          have H1 : (some (x241000_1, x241001_1, x241002_1, x241003_1, a1, true)) = some (r1, r2, r3, r4, r5, r6) := by rw [if_pos rfl] at H; exact H
          clear H; have H := H1; clear H1
          simp only [Option.some.injEq, Prod.mk.injEq] at H
          obtain ⟨rfl, rfl, rfl, rfl, rfl, rfl⟩ := H; have hnb40 := nn NB240_239 NB239_240
          obtain ⟨hcz41_0, hcz41_1, hcz41_2, hcz41_3, hcz41_4, hfz41_0, hfz41_1, hfz41_2, hfz41_3, hfz41_4⟩ := hcf5 BK240
          go_wp2_with (first | (go_at_call 18; (with_reducible refine (gimbalref14_Fit.calls kj14 x241000_1 x241001_1 x241002_1 x241003_1 a1 true _ A38.out).mono ?_); rintro e w42 ⟨rfl, hb⟩; have n0_ := bst HB hb; replace BK239 := bbw BK239 hb; replace BK240 := bbw BK240 hb; clear HB; have HB := n0_; clear n0_; (try clear hb); obtain ⟨hcz43_0, hcz43_1, hcz43_2, hcz43_3, hcz43_4, hfz43_0, hfz43_1, hfz43_2, hfz43_3, hfz43_4⟩ := hcf5 BK240; obtain ⟨hcz44_0, hcz44_1, hcz44_2, hcz44_3, hcz44_4, hfz44_0, hfz44_1, hfz44_2, hfz44_3, hfz44_4⟩ := hcf5 BK239))
          refine bodyPost_ret (results_ct rfl _ _ gb239 23 #[.int .i64 x241000_1, .int .i64 x241001_1, .int .i64 x241002_1, .int .i64 x241003_1, .int .i64 a1] (0, 0) _ rfl (by refine pkB ?_; refine bput (cs := #[.int .i64 x241000_1, .int .i64 x241001_1, .int .i64 x241002_1, .int .i64 x241003_1, .int .i64 0]) 4 ?_; refine bput (cs := #[.int .i64 x241000_1, .int .i64 x241001_1, .int .i64 x241002_1, .int .i64 0, .int .i64 0]) 3 ?_; refine bput (cs := #[.int .i64 x241000_1, .int .i64 x241001_1, .int .i64 0, .int .i64 0, .int .i64 0]) 2 ?_; refine bput (cs := #[.int .i64 x241000_1, .int .i64 0, .int .i64 0, .int .i64 0, .int .i64 0]) 1 ?_; refine bput (cs := #[.int .i64 0, .int .i64 0, .int .i64 0, .int .i64 0, .int .i64 0]) 0 ?_; exact BK239.out) Try.underlying23 rfl (by kernel_rfl)) rfl ?_
          exact ⟨by first | rfl | (simp [errW_none, errW_some] <;> rfl) | (simp [*, errW_none, errW_some] <;> rfl) | kernel_rfl, (bpk HB).out⟩
         ·
          replace c39 := Bool.eq_false_iff.mpr c39
          subst c39
          have H1 : (some (0, 0, 0, 0, 0, false)) = some (r1, r2, r3, r4, r5, r6) := by rw [if_neg (show ¬ (false = true) by decide)] at H; exact H
          clear H; have H := H1; clear H1
          simp only [Option.some.injEq, Prod.mk.injEq] at H
          obtain ⟨rfl, rfl, rfl, rfl, rfl, rfl⟩ := H; have hnb45 := nn NB240_239 NB239_240
          obtain ⟨hcz46_0, hcz46_1, hcz46_2, hcz46_3, hcz46_4, hfz46_0, hfz46_1, hfz46_2, hfz46_3, hfz46_4⟩ := hcf5 BK240
          go_wp2_with (first | (go_at_call 18; (with_reducible refine (gimbalref14_Fit.calls kj14 x241000_1 x241001_1 x241002_1 x241003_1 a1 false _ A38.out).mono ?_); rintro e w47 ⟨rfl, hb⟩; have n0_ := bst HB hb; replace BK239 := bbw BK239 hb; replace BK240 := bbw BK240 hb; clear HB; have HB := n0_; clear n0_; (try clear hb); obtain ⟨hcz48_0, hcz48_1, hcz48_2, hcz48_3, hcz48_4, hfz48_0, hfz48_1, hfz48_2, hfz48_3, hfz48_4⟩ := hcf5 BK239))
          refine bodyPost_ret (results_ct rfl _ _ gb239 23 #[.int .i64 0, .int .i64 0, .int .i64 0, .int .i64 0, .int .i64 0] (0, 0) _ rfl (by refine pkB ?_; refine bput (cs := #[.int .i64 0, .int .i64 0, .int .i64 0, .int .i64 0, .int .i64 0]) 4 ?_; refine bput (cs := #[.int .i64 0, .int .i64 0, .int .i64 0, .int .i64 0, .int .i64 0]) 3 ?_; refine bput (cs := #[.int .i64 0, .int .i64 0, .int .i64 0, .int .i64 0, .int .i64 0]) 2 ?_; refine bput (cs := #[.int .i64 0, .int .i64 0, .int .i64 0, .int .i64 0, .int .i64 0]) 1 ?_; refine bput (cs := #[.int .i64 0, .int .i64 0, .int .i64 0, .int .i64 0, .int .i64 0]) 0 ?_; exact BK239.out) Try.underlying23 rfl (by kernel_rfl)) rfl ?_
          exact ⟨by first | rfl | (simp [errW_none, errW_some] <;> rfl) | (simp [*, errW_none, errW_some] <;> rfl) | kernel_rfl, (bpk HB).out⟩
end Go.Proofs.Ytllfopbchdahoaa.P
