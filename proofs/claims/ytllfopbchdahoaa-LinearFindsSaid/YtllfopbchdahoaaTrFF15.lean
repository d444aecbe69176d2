/- What the law's proof needs of F15. -/
import Derived.Test.YtllfopbchdahoaaTrFF14
import Derived.Test.YtllfopbchdahoaaTrFF13
namespace Go.Proofs.Ytllfopbchdahoaa.P
open Go.RowKit Go.Proofs.YtllfopbchdahoaaW.PrintWords Go.Proofs.YtllfopbchdahoaaW.PrintLast Go.Proofs.YtllfopbchdahoaaW.PrintMore Go.Proofs.YtllfopbchdahoaaO
attribute [local go_sem] max2_int min2_int max_two min_two max_three min_three max_four min_four
set_option linter.unusedVariables false
set_option linter.unusedSimpArgs false
def N42aT : Bool × List (List Nat × List Nat) := (true, [([], []), ([0], [0]), ([1], [1]), ([2], [2]), ([], []), ([4], [4]), ([3, 5], [3, 5]), ([6], [6]), ([], []), ([8, 7, 0, 1, 2, 3, 4, 5, 6, 7, 8], [7, 8])])
def N42aB : List Nat := [0, 1, 3, 7, 0, 16, 63, 127, 0, 511]
theorem N42atab : rtab .any (opsOf Try.f42 4) = N42aT := by kernel_rfl
theorem N42abits : waitsOk N42aT.2 N42aB = true := by kernel_rfl
def N42bT : Bool × List (List Nat × List Nat) := (true, [([], []), ([0], [0]), ([1], [1]), ([2], [2]), ([], []), ([4], [4]), ([3, 5], [3, 5]), ([6], [6]), ([7, 0, 1, 2, 3, 4, 5, 6, 7], [7]), ([8, 0, 1, 2, 3, 4, 5, 6, 7, 8], [])])
def N42bB : List Nat := [0, 1, 3, 7, 0, 16, 63, 127, 255, 511]
theorem N42btab : rtab .any (opsOf Try.f42 11) = N42bT := by kernel_rfl
theorem N42bbits : waitsOk N42bT.2 N42bB = true := by kernel_rfl
def N42cT : Bool × List (List Nat × List Nat) := (true, [([], []), ([0], [0]), ([1], [1]), ([2], [2]), ([], []), ([4], [4]), ([3, 5], [3, 5]), ([6], [6]), ([7], [7]), ([8], [8]), ([8], [8]), ([9, 8, 0, 1, 2, 3, 4, 5, 6, 7, 8, 9, 10], [9]), ([10, 11, 0, 1, 2, 3, 4, 5, 6, 7, 8, 9, 10, 11], [10])])
def N42cB : List Nat := [0, 1, 3, 7, 0, 16, 63, 127, 255, 511, 511, 2047, 4095]
theorem N42ctab : rtab .any (opsOf Try.f42 12) = N42cT := by kernel_rfl
theorem N42cbits : waitsOk N42cT.2 N42cB = true := by kernel_rfl
set_option maxHeartbeats 8000000 in
set_option maxRecDepth 100000 in
theorem tmul_calls (gt : Nat) (Af Ao : Option Addr) (n cf co : Nat) (T : List S23 × List Bool) (y : S64) (w : World) (hT : TB w gt Af Ao n cf co T) (h : y.f0 = 6) (hA : 0 ≤ y.f2 ∧ y.f2 < (n : Int)) (hBB : 0 ≤ y.f3 ∧ y.f3 < (n : Int)) : Calls Try.prog 42 #[.pointer (some ⟨gt, 0, none⟩), .agg #[.int .i64 y.f0, .int .i64 y.f1, .int .i64 y.f2, .int .i64 y.f3, .int .i64 y.f4, .int .i64 y.f5, .int .i64 y.f6.f0, .int .i64 y.f6.f1]] w (Ret5 (ofV y.f0 y.f4 (rd_T23 T.1 y.f2) (T.2.getD y.f2.toNat false) (rd_T23 T.1 y.f3) (T.2.getD y.f3.toNat false)) w) := by
  have hu64 := Try.underlying64
  have hu23 := Try.underlying23
  have hu74 := Try.underlying74
  have HB := Aside0.mk (Below.refl w.heap.size w)
  have KT := Aside0.mk hT
  have xt_0 := hT.h0
  have xt_1 := hT.h1
  clear hT
  have hi0 : ∀ (a b c d : Int) (W : World), (Instr.index 93 (.agg #[.int .i64 a, .int .i64 b, .int .i64 c, .int .i64 d]) (.int .i64 0)).run Try.prog W = .ok (.agg #[.int .i64 a, .int .i64 b]) W := fun _ _ _ _ _ => by kernel_rfl
  have hi1 : ∀ (a b c d : Int) (W : World), (Instr.index 93 (.agg #[.int .i64 a, .int .i64 b, .int .i64 c, .int .i64 d]) (.int .i64 1)).run Try.prog W = .ok (.agg #[.int .i64 c, .int .i64 d]) W := fun _ _ _ _ _ => by kernel_rfl
  have hu62 := Try.underlying62
  have hV : (ofV y.f0 y.f4 (rd_T23 T.1 y.f2) (T.2.getD y.f2.toNat false) (rd_T23 T.1 y.f3) (T.2.getD y.f3.toNat false)) = (if fac (rd_T23 T.1 y.f2) (T.2.getD y.f2.toNat false) then mulK (rd_T23 T.1 y.f2) (rd_T23 T.1 y.f3) (T.2.getD y.f3.toNat false) else if fac (rd_T23 T.1 y.f3) (T.2.getD y.f3.toNat false) then mulK (rd_T23 T.1 y.f3) (rd_T23 T.1 y.f2) (T.2.getD y.f2.toNat false) else (z23, false)) := by unfold ofV; rw [if_neg (show ¬ y.f0 = 1 by omega), if_neg (show ¬ y.f0 = 2 by omega), if_pos h]
  rw [hV]
  clear hV h
  obtain ⟨pA, qA⟩ := hA
  obtain ⟨adA, ee, xA_0, xA_1, xA_2, xA_3, xA_4⟩ := at_T23 KT.out.rf y.f2 pA qA
  cases ee
  obtain ⟨aoA, ee, xA_5⟩ := Kd.at_bool KT.out.ro y.f2 pA qA
  cases ee
  replace xA_5 : w.cell? _ = some (.bool (T.2.getD y.f2.toNat false)) := xA_5
  generalize rd_T23 T.1 y.f2 = la at *
  generalize T.2.getD y.f2.toNat false = oa at *
  replace pA := eq_true pA
  replace qA := eq_true qA
  obtain ⟨pB, qB⟩ := hBB
  obtain ⟨adB, ee, xB_0, xB_1, xB_2, xB_3, xB_4⟩ := at_T23 KT.out.rf y.f3 pB qB
  cases ee
  obtain ⟨aoB, ee, xB_5⟩ := Kd.at_bool KT.out.ro y.f3 pB qB
  cases ee
  replace xB_5 : w.cell? _ = some (.bool (T.2.getD y.f3.toNat false)) := xB_5
  generalize rd_T23 T.1 y.f3 = lb at *
  generalize T.2.getD y.f3.toNat false = ob at *
  replace pB := eq_true pB
  replace qB := eq_true qB
  obtain ⟨R, hR⟩ : ∃ R, (if fac la oa then mulK la lb ob else if fac lb ob then mulK lb la oa else (z23, false)) = R := ⟨_, rfl⟩
  rw [hR]
  have KR := Aside0.mk hR
  clear hR
  go_enter Try.func42, Try.ntmps42
  go_wp2_with (first | ((with_reducible refine gate_dst (N := 3) rfl ?_); refine boxQ 3 #[.int .i64 y.f0, .int .i64 y.f1, .int .i64 y.f2, .int .i64 y.f3, .int .i64 y.f4, .int .i64 y.f5, .int .i64 y.f6.f0, .int .i64 y.f6.f1] 64 HB ?_; clear HB; intro gb w1 _ GW BK _ HB; have hcf := hcf8 BK; obtain ⟨_, _, _, _, _, _, _, _, _, _, _, _, _, _, _, _⟩ := hcf) | ((with_reducible refine gate_dst (N := 4) rfl ?_); refine boxQ 4 #[.int .i64 0, .int .i64 0, .int .i64 0, .int .i64 0, .int .i64 0] 23 HB ?_; intro gx wx eg GX BX hb HX; have NX := bn1 BK eg.out; have NX2 := bn2 BK eg.out; replace BK := bbw BK hb.out; clear HB hb eg; have HB := HX; clear HX; have hcf := hcf8 BK; obtain ⟨_, _, _, _, _, _, _, _, _, _, _, _, _, _, _, _⟩ := hcf; have hcf := hcf5 BX; obtain ⟨_, _, _, _, _, _, _, _, _, _⟩ := hcf; have hnx := NX.out; have hnx2 := NX2.out))
  go_loopw [20] (fun i wr => ∃ k : Nat, k ≤ 2 ∧ i = .int .i64 (k : Int) ∧ Aside0 ((1 ≤ k → ¬ fac la oa) ∧ (2 ≤ k → ¬ fac lb ob)) ∧ Aside0 (wr.heap[gb]? = some (.cells #[.int .i64 y.f0, .int .i64 y.f1, .int .i64 y.f2, .int .i64 y.f3, .int .i64 y.f4, .int .i64 y.f5, .int .i64 y.f6.f0, .int .i64 y.f6.f1] 64 (0, 0))) ∧ Aside0 (wr.heap[gx]? = some (.cells #[.int .i64 0, .int .i64 0, .int .i64 0, .int .i64 0, .int .i64 0] 23 (0, 0))) ∧ Aside0 (Below w.heap.size w wr)) (fun i _ => 2 - (intOf i).toNat)
  case atStart => exact ⟨0, by omega, rfl, ⟨fun h => absurd h (by omega), fun h => absurd h (by omega)⟩, pkA BK, pkA BX, bpk HB⟩
  case round =>
   rename World => wl
   clear BK BX HB
   obtain ⟨k, hk, rfl, HN, BK, BX, HB⟩ := hrel
   have hcf := hcf8 BK
   obtain ⟨_, _, _, _, _, _, _, _, _, _, _, _, _, _, _, _⟩ := hcf
   have hcf := hcf5 BX
   obtain ⟨_, _, _, _, _, _, _, _, _, _⟩ := hcf
   rcases (show k = 0 ∨ k = 1 ∨ k = 2 by omega) with rfl | rfl | rfl
   · have hk2 : decide ((0 : Int) < 2) = true := by decide
     go_upto_region 4 with (first | ((with_reducible refine gate_dst (N := 7) rfl ?_); refine boxQ 7 #[.int .i64 0, .int .i64 0] 62 HB ?_; intro g7 wx eg G7 B7 hb HX; have N7 := bn1 BK eg.out; have N7x := bn1 BX eg.out; replace BK := bbw BK hb.out; replace BX := bbw BX hb.out; clear HB hb eg; have HB := HX; clear HX; have hcf := hcf2 B7; obtain ⟨_, _, _, _⟩ := hcf) | ((with_reducible refine gate_store (p := 7) (t := 62) rfl ?_); refine store_box rfl rfl rfl g7 62 _ #[.int .i64 y.f2, .int .i64 y.f3] (pkA B7).out rfl rfl (by kernel_rfl) rfl (by kernel_rfl) ?_; intro ws hbs hgs; have HS := Aside0.mk (Below_boxed (bpk HB).out (Nat.le_refl _) G7.out hgs); replace BK := boxed_other (pkA BK) hgs N7; replace BX := boxed_other (pkA BX) hgs N7x; clear HB B7 hgs; have HB := HS; have B7 := Aside0.mk hbs; clear HS hbs))
     have hS : ∀ w' : World, w'.heap[g7]? = some (.cells #[.int .i64 y.f2, .int .i64 y.f3] 62 (0, 0)) → Below w.heap.size w w' → (w'.cell? ⟨gt, 0, none⟩ = some (.slice (some adA) n cf) ∧ w'.cell? ⟨g7, 0, none⟩ = some (.int .i64 y.f2) ∧ w'.cell? (adA.add (y.f2.toNat * 5)) = some (.int .i64 la.f0) ∧ w'.cell? ⟨(adA.add (y.f2.toNat * 5)).block, (adA.add (y.f2.toNat * 5)).off + 1, none⟩ = some (.int .i64 la.f1) ∧ w'.cell? ⟨(adA.add (y.f2.toNat * 5)).block, (adA.add (y.f2.toNat * 5)).off + 2, none⟩ = some (.int .i64 la.f2) ∧ w'.cell? ⟨(adA.add (y.f2.toNat * 5)).block, (adA.add (y.f2.toNat * 5)).off + 3, none⟩ = some (.int .i64 la.f3) ∧ w'.cell? ⟨(adA.add (y.f2.toNat * 5)).block, (adA.add (y.f2.toNat * 5)).off + 4, none⟩ = some (.int .i64 la.f4)) := fun w' hb hB => ⟨(hB.cell (World.block_lt_of_cell? w _ xt_0)).trans xt_0, hcz ⟨hb⟩ 0, (hB.cell (World.block_lt_of_cell? w _ xA_0)).trans xA_0, (hB.cell (World.block_lt_of_cell? w _ xA_1)).trans xA_1, (hB.cell (World.block_lt_of_cell? w _ xA_2)).trans xA_2, (hB.cell (World.block_lt_of_cell? w _ xA_3)).trans xA_3, (hB.cell (World.block_lt_of_cell? w _ xA_4)).trans xA_4⟩
     refine start_ (n := 10) (S := fun w' => w'.cell? ⟨gt, 0, none⟩ = some (.slice (some adA) n cf) ∧ w'.cell? ⟨g7, 0, none⟩ = some (.int .i64 y.f2) ∧ w'.cell? (adA.add (y.f2.toNat * 5)) = some (.int .i64 la.f0) ∧ w'.cell? ⟨(adA.add (y.f2.toNat * 5)).block, (adA.add (y.f2.toNat * 5)).off + 1, none⟩ = some (.int .i64 la.f1) ∧ w'.cell? ⟨(adA.add (y.f2.toNat * 5)).block, (adA.add (y.f2.toNat * 5)).off + 2, none⟩ = some (.int .i64 la.f2) ∧ w'.cell? ⟨(adA.add (y.f2.toNat * 5)).block, (adA.add (y.f2.toNat * 5)).off + 3, none⟩ = some (.int .i64 la.f3) ∧ w'.cell? ⟨(adA.add (y.f2.toNat * 5)).block, (adA.add (y.f2.toNat * 5)).off + 4, none⟩ = some (.int .i64 la.f4)) (ds := []) #[false, false, false, false, false, false, false, false, false, false] (by kernel_rfl) rfl rfl (hS _ (blk_drew (pkA B7).out) (below_drew1 (bpk HB).out)) (fun hHeld => ?_)
     refine with_tabW N42atab N42abits (fun HT_ HW_ => ?_)
     replace BK := Aside0.mk (blk_drew BK.out)
     replace BX := Aside0.mk (blk_drew BX.out)
     replace B7 := Aside0.mk (blk_drew B7.out)
     replace HB := Aside0.mk (below_drew1 HB.out)
     generalize World.drew _ = wa at BK BX B7 HB hHeld ⊢
     refine pureQ 0 23 HT_.out ?_
     refine pureQ 1 24 HT_.out ?_
     refine pureQ 2 25 HT_.out ?_
     refine pureQ 4 27 HT_.out ?_
     refine takeQ 3 26 HT_.out HW_.out hHeld ?_
     refine takeQ 5 28 HT_.out HW_.out hHeld ?_
     refine pureQ 6 29 HT_.out ?_
     refine takeQ 7 30 HT_.out HW_.out hHeld ?_
     refine oneQ 8 8 HT_.out (fun K hK => ?_)
     refine box_step ?hg (N := 8) ?hd (cs := #[.int .i64 0, .int .i64 0, .int .i64 0, .int .i64 0, .int .i64 0]) (t := 23) ?hr ?_; (case hd => rfl); (case hg => rfl); (case hr => first | (go_simp; done) | (go_simp; rfl))
     intro g8 hg w3 hbox hb
     have G8 := bsz HB hg
     have N8 := bn1 BK hg
     have N8x := bn1 BX hg
     have N87 := bn1 B7 hg
     replace BK := bbw BK hb
     replace BX := bbw BX hb
     replace B7 := bbw B7 hb
     replace HB := bst HB hb
     have B8 := Aside0.mk hbox
     clear hb hbox hg
     refine hK.out _ _ (hS _ B7.out HB.out) (fun hHeld => ?_)
     clear hK K
     refine normQ (N := 8) ?_
     refine one_ (i := 9) (N := none) #[true, true, true, true, true, true, true, true, true, true] rfl rfl (one_of HT_.out (by kernel_rfl)) (by decide) (fun K hK => ?_)
     obtain ⟨wz, hwz⟩ : ∃ wz, wz = (((((w3).setCell ⟨g8, 0, none⟩ (.int .i64 la.f0)).setCell ⟨g8, 1, none⟩ (.int .i64 la.f1)).setCell ⟨g8, 2, none⟩ (.int .i64 la.f2)).setCell ⟨g8, 3, none⟩ (.int .i64 la.f3)).setCell ⟨g8, 4, none⟩ (.int .i64 la.f4) := ⟨_, rfl⟩
     obtain ⟨z1, z2, z3⟩ := set5 B8.out _ _ _ _ _ wz hwz
     have hfx := hcf5 B8
     obtain ⟨_, _, _, _, _, _, _, _, _, _⟩ := hfx
     refine skip_ (w1 := wz) (by rfl) rfl (by rw [hwz]; go_simp) ?_
     clear hwz
     replace BK := Aside0.mk (z2 _ _ N8.out BK.out)
     replace BX := Aside0.mk (z2 _ _ N8x.out BX.out)
     replace B7 := Aside0.mk (z2 _ _ N87.out B7.out)
     replace HB := Aside0.mk (z3 _ G8.out HB.out)
     clear B8
     have B8 := Aside0.mk z1
     clear z1 z2 z3
     refine hK.out _ _ (hS _ B7.out HB.out) (fun hHeld => ?_)
     clear hK K
     refine done_ (done_of HT_.out (by kernel_rfl)) ?_
     clear hHeld HT_ HW_ hS
     go_upto_region 5 with (fail)
     have hcf := hcf8 BK
     obtain ⟨_, _, _, _, _, _, _, _, _, _, _, _, _, _, _, _⟩ := hcf
     have hcf := hcf5 BX
     obtain ⟨_, _, _, _, _, _, _, _, _, _⟩ := hcf
     have hcf := hcf5 B8
     obtain ⟨_, _, _, _, _, _, _, _, _, _⟩ := hcf
     have hcf := hcf2 B7
     obtain ⟨_, _, _, _⟩ := hcf
     have xt_1z := (HB.out.cell (World.block_lt_of_cell? w _ xt_1)).trans xt_1
     have x5a := (HB.out.cell (World.block_lt_of_cell? w _ xA_5)).trans xA_5
     have x5b := (HB.out.cell (World.block_lt_of_cell? w _ xB_5)).trans xB_5
     cases oa with
     | false =>
       go_quiet (fail)
       go_wp2
       go_roundw
       case measure => simp [intOf] <;> omega
       case rel => exact ⟨1, by omega, by first | rfl | simp, ⟨fun _ => fun hf => absurd hf.1 (by decide), fun h => absurd h (by omega)⟩, pkA BK, pkA BX, bpk HB⟩
     | true =>
       by_cases m1 : la.f1 = 0
       · have m1b : (la.f1 != 0) = false := bne_eq_false_iff_eq.mpr m1
         by_cases m2 : la.f4 < -1
         · have m2b := decide_eq_true m2
           go_quiet (fail)
           go_wp2
           go_roundw
           case measure => simp [intOf] <;> omega
           case rel => exact ⟨1, by omega, by first | rfl | simp, ⟨fun _ => fun hf => absurd hf.2.2.1 (by omega), fun h => absurd h (by omega)⟩, pkA BK, pkA BX, bpk HB⟩
         · have m2b := decide_eq_false m2
           by_cases m3 : 1 < la.f4
           · have m3b := decide_eq_true m3
             go_quiet (fail)
             go_wp2
             go_roundw
             case measure => simp [intOf] <;> omega
             case rel => exact ⟨1, by omega, by first | rfl | simp, ⟨fun _ => fun hf => absurd hf.2.2.2 (by omega), fun h => absurd h (by omega)⟩, pkA BK, pkA BX, bpk HB⟩
           · have m3b := decide_eq_false m3
             have hfac : fac la true := ⟨rfl, m1, by omega, by omega⟩
             have hRV : R = mulK la lb ob := KR.out.symm.trans (if_pos hfac)
             have KM := Aside0.mk hRV
             clear hRV hfac m1 m2 m3
             go_quiet (fail)
             rename Nat => nqa
             go_upto_region 6 with (fail)
             by_cases m0 : la.f4 = 0
             · have m0b : (la.f4 == 0) = true := beq_iff_eq.mpr m0
               have hv : R = (z23, true) := KM.out.trans (if_pos m0)
               subst hv
               clear m0
               go_wp2_with (first | ((with_reducible refine gate_store (p := 4) (t := 23) rfl ?_); refine store_box rfl rfl rfl gx 23 _ _ (pkA BX).out rfl rfl (by kernel_rfl) rfl (by kernel_rfl) ?_; intro ws hbs hgs; have HS := Aside0.mk (Below_boxed (bpk HB).out (Nat.le_refl _) GX.out hgs); clear HB BX BK hgs; have HB := HS; have BX := Aside0.mk hbs; clear HS hbs))
               refine bodyPost_ret (results_ct rfl _ _ gx 23 _ (0, 0) _ rfl (pkA BX).out Try.underlying23 rfl (by kernel_rfl)) rfl ?_
               exact ⟨rfl, (bpk HB).out⟩
             · have m0b : (la.f4 == 0) = false := beq_eq_false_iff_ne.mpr m0
               go_upto_region 8 with (fail)
               cases ob with
               | false =>
                 have hv : R = (z23, false) := KM.out.trans ((if_neg m0).trans (if_pos rfl))
                 subst hv
                 clear m0
                 go_quiet (fail)
                 go_wp2_with (first | ((with_reducible refine gate_store (p := 4) (t := 23) rfl ?_); refine store_box rfl rfl rfl gx 23 _ _ (pkA BX).out rfl rfl (by kernel_rfl) rfl (by kernel_rfl) ?_; intro ws hbs hgs; have HS := Aside0.mk (Below_boxed (bpk HB).out (Nat.le_refl _) GX.out hgs); clear HB BX BK hgs; have HB := HS; have BX := Aside0.mk hbs; clear HS hbs))
                 refine bodyPost_ret (results_ct rfl _ _ gx 23 _ (0, 0) _ rfl (pkA BX).out Try.underlying23 rfl (by kernel_rfl)) rfl ?_
                 exact ⟨rfl, (bpk HB).out⟩
               | true =>
                 go_quiet (fail)
                 go_upto_region 10 with (fail)
                 by_cases m4 : la.f4 = 1
                 · have m4b : (la.f4 == 1) = true := beq_iff_eq.mpr m4
                   have hv : R = (lb, true) := KM.out.trans ((if_neg m0).trans ((if_neg (by decide)).trans (if_pos m4)))
                   subst hv
                   clear m0 m4
                   go_upto_region 11 with (fail)
                   replace BK := Aside0.mk (blk_drewN BK.out (nqa + nq))
                   replace BX := Aside0.mk (blk_drewN BX.out (nqa + nq))
                   replace B7 := Aside0.mk (blk_drewN B7.out (nqa + nq))
                   replace HB := Aside0.mk (pw_below_drewN HB.out (nqa + nq))
                   generalize wz.drewN (nqa + nq) = wq at BK BX B7 HB ⊢
                   have hS : ∀ w' : World, w'.heap[g7]? = some (.cells #[.int .i64 y.f2, .int .i64 y.f3] 62 (0, 0)) → Below w.heap.size w w' → (w'.cell? ⟨gt, 0, none⟩ = some (.slice (some adA) n cf) ∧ w'.cell? ⟨g7, 1, none⟩ = some (.int .i64 y.f3) ∧ w'.cell? (adA.add (y.f3.toNat * 5)) = some (.int .i64 lb.f0) ∧ w'.cell? ⟨(adA.add (y.f3.toNat * 5)).block, (adA.add (y.f3.toNat * 5)).off + 1, none⟩ = some (.int .i64 lb.f1) ∧ w'.cell? ⟨(adA.add (y.f3.toNat * 5)).block, (adA.add (y.f3.toNat * 5)).off + 2, none⟩ = some (.int .i64 lb.f2) ∧ w'.cell? ⟨(adA.add (y.f3.toNat * 5)).block, (adA.add (y.f3.toNat * 5)).off + 3, none⟩ = some (.int .i64 lb.f3) ∧ w'.cell? ⟨(adA.add (y.f3.toNat * 5)).block, (adA.add (y.f3.toNat * 5)).off + 4, none⟩ = some (.int .i64 lb.f4)) := fun w' hb hB => ⟨(hB.cell (World.block_lt_of_cell? w _ xt_0)).trans xt_0, hcz ⟨hb⟩ 1, (hB.cell (World.block_lt_of_cell? w _ xB_0)).trans xB_0, (hB.cell (World.block_lt_of_cell? w _ xB_1)).trans xB_1, (hB.cell (World.block_lt_of_cell? w _ xB_2)).trans xB_2, (hB.cell (World.block_lt_of_cell? w _ xB_3)).trans xB_3, (hB.cell (World.block_lt_of_cell? w _ xB_4)).trans xB_4⟩
                   refine start_ (n := 10) (S := fun w' => w'.cell? ⟨gt, 0, none⟩ = some (.slice (some adA) n cf) ∧ w'.cell? ⟨g7, 1, none⟩ = some (.int .i64 y.f3) ∧ w'.cell? (adA.add (y.f3.toNat * 5)) = some (.int .i64 lb.f0) ∧ w'.cell? ⟨(adA.add (y.f3.toNat * 5)).block, (adA.add (y.f3.toNat * 5)).off + 1, none⟩ = some (.int .i64 lb.f1) ∧ w'.cell? ⟨(adA.add (y.f3.toNat * 5)).block, (adA.add (y.f3.toNat * 5)).off + 2, none⟩ = some (.int .i64 lb.f2) ∧ w'.cell? ⟨(adA.add (y.f3.toNat * 5)).block, (adA.add (y.f3.toNat * 5)).off + 3, none⟩ = some (.int .i64 lb.f3) ∧ w'.cell? ⟨(adA.add (y.f3.toNat * 5)).block, (adA.add (y.f3.toNat * 5)).off + 4, none⟩ = some (.int .i64 lb.f4)) (ds := []) #[false, false, false, false, false, false, false, false, false, false] (by kernel_rfl) rfl rfl (hS _ (blk_drew (pkA B7).out) (below_drew1 (bpk HB).out)) (fun hHeld => ?_)
                   refine with_tabW N42btab N42bbits (fun HT_ HW_ => ?_)
                   replace BK := Aside0.mk (blk_drew BK.out)
                   replace BX := Aside0.mk (blk_drew BX.out)
                   replace B7 := Aside0.mk (blk_drew B7.out)
                   replace HB := Aside0.mk (below_drew1 HB.out)
                   generalize World.drew _ = wa at BK BX B7 HB hHeld ⊢
                   refine pureQ 0 75 HT_.out ?_
                   refine pureQ 1 76 HT_.out ?_
                   refine pureQ 2 77 HT_.out ?_
                   refine pureQ 4 79 HT_.out ?_
                   refine takeQ 3 78 HT_.out HW_.out hHeld ?_
                   refine takeQ 5 80 HT_.out HW_.out hHeld ?_
                   refine pureQ 6 81 HT_.out ?_
                   refine takeQ 7 82 HT_.out HW_.out hHeld ?_
                   refine one_ (i := 8) (N := none) #[true, true, true, true, true, true, true, true, true, false] rfl rfl (one_of HT_.out (by kernel_rfl)) (by decide) (fun K hK => ?_)
                   obtain ⟨wy, hwz⟩ : ∃ wz, wz = (((((wa).setCell ⟨gx, 0, none⟩ (.int .i64 lb.f0)).setCell ⟨gx, 1, none⟩ (.int .i64 lb.f1)).setCell ⟨gx, 2, none⟩ (.int .i64 lb.f2)).setCell ⟨gx, 3, none⟩ (.int .i64 lb.f3)).setCell ⟨gx, 4, none⟩ (.int .i64 lb.f4) := ⟨_, rfl⟩
                   obtain ⟨z1, z2, z3⟩ := set5 BX.out _ _ _ _ _ wy hwz
                   have hfx := hcf5 BX
                   obtain ⟨_, _, _, _, _, _, _, _, _, _⟩ := hfx
                   refine skip_ (w1 := wy) (by rfl) rfl (by rw [hwz]; go_simp) ?_
                   clear hwz
                   replace B7 := Aside0.mk (z2 _ _ (N7x.out.symm) B7.out)
                   replace HB := Aside0.mk (z3 _ GX.out HB.out)
                   clear BX BK B8
                   have BX := Aside0.mk z1
                   clear z1 z2 z3
                   refine hK.out _ _ (hS _ B7.out HB.out) (fun hHeld => ?_)
                   clear hK K
                   refine pureQ 9 5 HT_.out ?_
                   refine done_ (done_of HT_.out (by kernel_rfl)) ?_
                   clear hHeld HT_ HW_ hS
                   go_wp2
                   refine bodyPost_ret (results_ct rfl _ _ gx 23 _ (0, 0) _ rfl (pkA BX).out Try.underlying23 rfl (by kernel_rfl)) rfl ?_
                   exact ⟨rfl, (bpk HB).out⟩
                 · have m4b : (la.f4 == 1) = false := beq_eq_false_iff_ne.mpr m4
                   obtain ⟨r, hr⟩ : ∃ r, negS lb = r := ⟨_, rfl⟩
                   have hv : r = R := (KM.out.trans ((if_neg m0).trans ((if_neg (by decide)).trans ((if_neg m4).trans hr)))).symm
                   subst hv
                   clear m0 m4
                   go_upto_region 12 with (fail)
                   replace BK := Aside0.mk (blk_drewN BK.out (nqa + nq))
                   replace BX := Aside0.mk (blk_drewN BX.out (nqa + nq))
                   replace B7 := Aside0.mk (blk_drewN B7.out (nqa + nq))
                   replace HB := Aside0.mk (pw_below_drewN HB.out (nqa + nq))
                   generalize wz.drewN (nqa + nq) = wq at BK BX B7 HB ⊢
                   have hS : ∀ w' : World, w'.heap[g7]? = some (.cells #[.int .i64 y.f2, .int .i64 y.f3] 62 (0, 0)) → Below w.heap.size w w' → (w'.cell? ⟨gt, 0, none⟩ = some (.slice (some adA) n cf) ∧ w'.cell? ⟨g7, 1, none⟩ = some (.int .i64 y.f3) ∧ w'.cell? (adA.add (y.f3.toNat * 5)) = some (.int .i64 lb.f0) ∧ w'.cell? ⟨(adA.add (y.f3.toNat * 5)).block, (adA.add (y.f3.toNat * 5)).off + 1, none⟩ = some (.int .i64 lb.f1) ∧ w'.cell? ⟨(adA.add (y.f3.toNat * 5)).block, (adA.add (y.f3.toNat * 5)).off + 2, none⟩ = some (.int .i64 lb.f2) ∧ w'.cell? ⟨(adA.add (y.f3.toNat * 5)).block, (adA.add (y.f3.toNat * 5)).off + 3, none⟩ = some (.int .i64 lb.f3) ∧ w'.cell? ⟨(adA.add (y.f3.toNat * 5)).block, (adA.add (y.f3.toNat * 5)).off + 4, none⟩ = some (.int .i64 lb.f4)) := fun w' hb hB => ⟨(hB.cell (World.block_lt_of_cell? w _ xt_0)).trans xt_0, hcz ⟨hb⟩ 1, (hB.cell (World.block_lt_of_cell? w _ xB_0)).trans xB_0, (hB.cell (World.block_lt_of_cell? w _ xB_1)).trans xB_1, (hB.cell (World.block_lt_of_cell? w _ xB_2)).trans xB_2, (hB.cell (World.block_lt_of_cell? w _ xB_3)).trans xB_3, (hB.cell (World.block_lt_of_cell? w _ xB_4)).trans xB_4⟩
                   refine start_ (n := 13) (S := fun w' => w'.cell? ⟨gt, 0, none⟩ = some (.slice (some adA) n cf) ∧ w'.cell? ⟨g7, 1, none⟩ = some (.int .i64 y.f3) ∧ w'.cell? (adA.add (y.f3.toNat * 5)) = some (.int .i64 lb.f0) ∧ w'.cell? ⟨(adA.add (y.f3.toNat * 5)).block, (adA.add (y.f3.toNat * 5)).off + 1, none⟩ = some (.int .i64 lb.f1) ∧ w'.cell? ⟨(adA.add (y.f3.toNat * 5)).block, (adA.add (y.f3.toNat * 5)).off + 2, none⟩ = some (.int .i64 lb.f2) ∧ w'.cell? ⟨(adA.add (y.f3.toNat * 5)).block, (adA.add (y.f3.toNat * 5)).off + 3, none⟩ = some (.int .i64 lb.f3) ∧ w'.cell? ⟨(adA.add (y.f3.toNat * 5)).block, (adA.add (y.f3.toNat * 5)).off + 4, none⟩ = some (.int .i64 lb.f4)) (ds := []) #[false, false, false, false, false, false, false, false, false, false, false, false, false] (by kernel_rfl) rfl rfl (hS _ (blk_drew (pkA B7).out) (below_drew1 (bpk HB).out)) (fun hHeld => ?_)
                   refine with_tabW N42ctab N42cbits (fun HT_ HW_ => ?_)
                   replace BK := Aside0.mk (blk_drew BK.out)
                   replace BX := Aside0.mk (blk_drew BX.out)
                   replace B7 := Aside0.mk (blk_drew B7.out)
                   replace HB := Aside0.mk (below_drew1 HB.out)
                   generalize World.drew _ = wa at BK BX B7 HB hHeld ⊢
                   refine pureQ 0 83 HT_.out ?_
                   refine pureQ 1 84 HT_.out ?_
                   refine pureQ 2 85 HT_.out ?_
                   refine pureQ 4 87 HT_.out ?_
                   refine takeQ 3 86 HT_.out HW_.out hHeld ?_
                   refine takeQ 5 88 HT_.out HW_.out hHeld ?_
                   refine pureQ 6 89 HT_.out ?_
                   refine takeQ 7 90 HT_.out HW_.out hHeld ?_
                   refine oneQ 8 91 HT_.out (fun K hK => ?_)
                   refine goesQ Try.func13 #[.agg #[.int .i64 lb.f0, .int .i64 lb.f1, .int .i64 lb.f2, .int .i64 lb.f3, .int .i64 lb.f4]] ?_
                   refine (neg_c lb r hr _).mono ?_
                   rintro e w' ⟨rfl, hb⟩
                   refine ⟨_, rfl, ?_⟩
                   replace BX := bbw BX hb
                   replace B7 := bbw B7 hb
                   replace HB := bst HB hb
                   clear hb
                   refine hK.out _ _ (hS _ B7.out HB.out) (fun hHeld => ?_)
                   clear hK K
                   refine normQ (N := 91) ?_
                   refine pureQ 9 92 HT_.out ?_
                   refine pureQ 10 93 HT_.out ?_
                   refine one_ (i := 11) (N := none) #[true, true, true, true, true, true, true, true, true, true, true, true, false] rfl rfl (one_of HT_.out (by kernel_rfl)) (by decide) (fun K hK => ?_)
                   obtain ⟨wy, hwz⟩ : ∃ wz, wz = (((((w').setCell ⟨gx, 0, none⟩ (.int .i64 r.1.f0)).setCell ⟨gx, 1, none⟩ (.int .i64 r.1.f1)).setCell ⟨gx, 2, none⟩ (.int .i64 r.1.f2)).setCell ⟨gx, 3, none⟩ (.int .i64 r.1.f3)).setCell ⟨gx, 4, none⟩ (.int .i64 r.1.f4) := ⟨_, rfl⟩
                   obtain ⟨z1, z2, z3⟩ := set5 BX.out _ _ _ _ _ wy hwz
                   have hfx := hcf5 BX
                   obtain ⟨_, _, _, _, _, _, _, _, _, _⟩ := hfx
                   refine skip_ (w1 := wy) (by rfl) rfl (by rw [hwz]; go_simp) ?_
                   clear hwz
                   replace B7 := Aside0.mk (z2 _ _ (N7x.out.symm) B7.out)
                   replace HB := Aside0.mk (z3 _ GX.out HB.out)
                   clear BX BK B8
                   have BX := Aside0.mk z1
                   clear z1 z2 z3
                   refine hK.out _ _ (hS _ B7.out HB.out) (fun hHeld => ?_)
                   clear hK K
                   refine pureQ 12 5 HT_.out ?_
                   refine done_ (done_of HT_.out (by kernel_rfl)) ?_
                   clear hHeld HT_ HW_ hS
                   go_wp2
                   refine bodyPost_ret (results_ct rfl _ _ gx 23 _ (0, 0) _ rfl (pkA BX).out Try.underlying23 rfl (by kernel_rfl)) rfl ?_
                   exact ⟨rfl, (bpk HB).out⟩
       · have m1b : (la.f1 != 0) = true := bne_iff_ne.mpr m1
         go_quiet (fail)
         go_wp2
         go_roundw
         case measure => simp [intOf] <;> omega
         case rel => exact ⟨1, by omega, by first | rfl | simp, ⟨fun _ => fun hf => m1 hf.2.1, fun h => absurd h (by omega)⟩, pkA BK, pkA BX, bpk HB⟩
   · have hk2 : decide ((1 : Int) < 2) = true := by decide
     go_upto_region 4 with (first | ((with_reducible refine gate_dst (N := 7) rfl ?_); refine boxQ 7 #[.int .i64 0, .int .i64 0] 62 HB ?_; intro g7 wx eg G7 B7 hb HX; have N7 := bn1 BK eg.out; have N7x := bn1 BX eg.out; replace BK := bbw BK hb.out; replace BX := bbw BX hb.out; clear HB hb eg; have HB := HX; clear HX; have hcf := hcf2 B7; obtain ⟨_, _, _, _⟩ := hcf) | ((with_reducible refine gate_store (p := 7) (t := 62) rfl ?_); refine store_box rfl rfl rfl g7 62 _ #[.int .i64 y.f3, .int .i64 y.f2] (pkA B7).out rfl rfl (by kernel_rfl) rfl (by kernel_rfl) ?_; intro ws hbs hgs; have HS := Aside0.mk (Below_boxed (bpk HB).out (Nat.le_refl _) G7.out hgs); replace BK := boxed_other (pkA BK) hgs N7; replace BX := boxed_other (pkA BX) hgs N7x; clear HB B7 hgs; have HB := HS; have B7 := Aside0.mk hbs; clear HS hbs))
     have hS : ∀ w' : World, w'.heap[g7]? = some (.cells #[.int .i64 y.f3, .int .i64 y.f2] 62 (0, 0)) → Below w.heap.size w w' → (w'.cell? ⟨gt, 0, none⟩ = some (.slice (some adA) n cf) ∧ w'.cell? ⟨g7, 0, none⟩ = some (.int .i64 y.f3) ∧ w'.cell? (adA.add (y.f3.toNat * 5)) = some (.int .i64 lb.f0) ∧ w'.cell? ⟨(adA.add (y.f3.toNat * 5)).block, (adA.add (y.f3.toNat * 5)).off + 1, none⟩ = some (.int .i64 lb.f1) ∧ w'.cell? ⟨(adA.add (y.f3.toNat * 5)).block, (adA.add (y.f3.toNat * 5)).off + 2, none⟩ = some (.int .i64 lb.f2) ∧ w'.cell? ⟨(adA.add (y.f3.toNat * 5)).block, (adA.add (y.f3.toNat * 5)).off + 3, none⟩ = some (.int .i64 lb.f3) ∧ w'.cell? ⟨(adA.add (y.f3.toNat * 5)).block, (adA.add (y.f3.toNat * 5)).off + 4, none⟩ = some (.int .i64 lb.f4)) := fun w' hb hB => ⟨(hB.cell (World.block_lt_of_cell? w _ xt_0)).trans xt_0, hcz ⟨hb⟩ 0, (hB.cell (World.block_lt_of_cell? w _ xB_0)).trans xB_0, (hB.cell (World.block_lt_of_cell? w _ xB_1)).trans xB_1, (hB.cell (World.block_lt_of_cell? w _ xB_2)).trans xB_2, (hB.cell (World.block_lt_of_cell? w _ xB_3)).trans xB_3, (hB.cell (World.block_lt_of_cell? w _ xB_4)).trans xB_4⟩
     refine start_ (n := 10) (S := fun w' => w'.cell? ⟨gt, 0, none⟩ = some (.slice (some adA) n cf) ∧ w'.cell? ⟨g7, 0, none⟩ = some (.int .i64 y.f3) ∧ w'.cell? (adA.add (y.f3.toNat * 5)) = some (.int .i64 lb.f0) ∧ w'.cell? ⟨(adA.add (y.f3.toNat * 5)).block, (adA.add (y.f3.toNat * 5)).off + 1, none⟩ = some (.int .i64 lb.f1) ∧ w'.cell? ⟨(adA.add (y.f3.toNat * 5)).block, (adA.add (y.f3.toNat * 5)).off + 2, none⟩ = some (.int .i64 lb.f2) ∧ w'.cell? ⟨(adA.add (y.f3.toNat * 5)).block, (adA.add (y.f3.toNat * 5)).off + 3, none⟩ = some (.int .i64 lb.f3) ∧ w'.cell? ⟨(adA.add (y.f3.toNat * 5)).block, (adA.add (y.f3.toNat * 5)).off + 4, none⟩ = some (.int .i64 lb.f4)) (ds := []) #[false, false, false, false, false, false, false, false, false, false] (by kernel_rfl) rfl rfl (hS _ (blk_drew (pkA B7).out) (below_drew1 (bpk HB).out)) (fun hHeld => ?_)
     refine with_tabW N42atab N42abits (fun HT_ HW_ => ?_)
     replace BK := Aside0.mk (blk_drew BK.out)
     replace BX := Aside0.mk (blk_drew BX.out)
     replace B7 := Aside0.mk (blk_drew B7.out)
     replace HB := Aside0.mk (below_drew1 HB.out)
     generalize World.drew _ = wa at BK BX B7 HB hHeld ⊢
     refine pureQ 0 23 HT_.out ?_
     refine pureQ 1 24 HT_.out ?_
     refine pureQ 2 25 HT_.out ?_
     refine pureQ 4 27 HT_.out ?_
     refine takeQ 3 26 HT_.out HW_.out hHeld ?_
     refine takeQ 5 28 HT_.out HW_.out hHeld ?_
     refine pureQ 6 29 HT_.out ?_
     refine takeQ 7 30 HT_.out HW_.out hHeld ?_
     refine oneQ 8 8 HT_.out (fun K hK => ?_)
     refine box_step ?hg (N := 8) ?hd (cs := #[.int .i64 0, .int .i64 0, .int .i64 0, .int .i64 0, .int .i64 0]) (t := 23) ?hr ?_; (case hd => rfl); (case hg => rfl); (case hr => first | (go_simp; done) | (go_simp; rfl))
     intro g8 hg w3 hbox hb
     have G8 := bsz HB hg
     have N8 := bn1 BK hg
     have N8x := bn1 BX hg
     have N87 := bn1 B7 hg
     replace BK := bbw BK hb
     replace BX := bbw BX hb
     replace B7 := bbw B7 hb
     replace HB := bst HB hb
     have B8 := Aside0.mk hbox
     clear hb hbox hg
     refine hK.out _ _ (hS _ B7.out HB.out) (fun hHeld => ?_)
     clear hK K
     refine normQ (N := 8) ?_
     refine one_ (i := 9) (N := none) #[true, true, true, true, true, true, true, true, true, true] rfl rfl (one_of HT_.out (by kernel_rfl)) (by decide) (fun K hK => ?_)
     obtain ⟨wz, hwz⟩ : ∃ wz, wz = (((((w3).setCell ⟨g8, 0, none⟩ (.int .i64 lb.f0)).setCell ⟨g8, 1, none⟩ (.int .i64 lb.f1)).setCell ⟨g8, 2, none⟩ (.int .i64 lb.f2)).setCell ⟨g8, 3, none⟩ (.int .i64 lb.f3)).setCell ⟨g8, 4, none⟩ (.int .i64 lb.f4) := ⟨_, rfl⟩
     obtain ⟨z1, z2, z3⟩ := set5 B8.out _ _ _ _ _ wz hwz
     have hfx := hcf5 B8
     obtain ⟨_, _, _, _, _, _, _, _, _, _⟩ := hfx
     refine skip_ (w1 := wz) (by rfl) rfl (by rw [hwz]; go_simp) ?_
     clear hwz
     replace BK := Aside0.mk (z2 _ _ N8.out BK.out)
     replace BX := Aside0.mk (z2 _ _ N8x.out BX.out)
     replace B7 := Aside0.mk (z2 _ _ N87.out B7.out)
     replace HB := Aside0.mk (z3 _ G8.out HB.out)
     clear B8
     have B8 := Aside0.mk z1
     clear z1 z2 z3
     refine hK.out _ _ (hS _ B7.out HB.out) (fun hHeld => ?_)
     clear hK K
     refine done_ (done_of HT_.out (by kernel_rfl)) ?_
     clear hHeld HT_ HW_ hS
     go_upto_region 5 with (fail)
     have hcf := hcf8 BK
     obtain ⟨_, _, _, _, _, _, _, _, _, _, _, _, _, _, _, _⟩ := hcf
     have hcf := hcf5 BX
     obtain ⟨_, _, _, _, _, _, _, _, _, _⟩ := hcf
     have hcf := hcf5 B8
     obtain ⟨_, _, _, _, _, _, _, _, _, _⟩ := hcf
     have hcf := hcf2 B7
     obtain ⟨_, _, _, _⟩ := hcf
     have xt_1z := (HB.out.cell (World.block_lt_of_cell? w _ xt_1)).trans xt_1
     have x5a := (HB.out.cell (World.block_lt_of_cell? w _ xB_5)).trans xB_5
     have x5b := (HB.out.cell (World.block_lt_of_cell? w _ xA_5)).trans xA_5
     cases ob with
     | false =>
       go_quiet (fail)
       go_wp2
       go_roundw
       case measure => simp [intOf] <;> omega
       case rel => exact ⟨2, by omega, by first | rfl | simp, ⟨fun _ => HN.out.1 (by omega), fun _ => fun hf => absurd hf.1 (by decide)⟩, pkA BK, pkA BX, bpk HB⟩
     | true =>
       by_cases m1 : lb.f1 = 0
       · have m1b : (lb.f1 != 0) = false := bne_eq_false_iff_eq.mpr m1
         by_cases m2 : lb.f4 < -1
         · have m2b := decide_eq_true m2
           go_quiet (fail)
           go_wp2
           go_roundw
           case measure => simp [intOf] <;> omega
           case rel => exact ⟨2, by omega, by first | rfl | simp, ⟨fun _ => HN.out.1 (by omega), fun _ => fun hf => absurd hf.2.2.1 (by omega)⟩, pkA BK, pkA BX, bpk HB⟩
         · have m2b := decide_eq_false m2
           by_cases m3 : 1 < lb.f4
           · have m3b := decide_eq_true m3
             go_quiet (fail)
             go_wp2
             go_roundw
             case measure => simp [intOf] <;> omega
             case rel => exact ⟨2, by omega, by first | rfl | simp, ⟨fun _ => HN.out.1 (by omega), fun _ => fun hf => absurd hf.2.2.2 (by omega)⟩, pkA BK, pkA BX, bpk HB⟩
           · have m3b := decide_eq_false m3
             have hfac : fac lb true := ⟨rfl, m1, by omega, by omega⟩
             have hRV : R = mulK lb la oa := KR.out.symm.trans ((if_neg (HN.out.1 (by omega))).trans (if_pos hfac))
             have KM := Aside0.mk hRV
             clear hRV hfac m1 m2 m3
             go_quiet (fail)
             rename Nat => nqa
             go_upto_region 6 with (fail)
             by_cases m0 : lb.f4 = 0
             · have m0b : (lb.f4 == 0) = true := beq_iff_eq.mpr m0
               have hv : R = (z23, true) := KM.out.trans (if_pos m0)
               subst hv
               clear m0
               go_wp2_with (first | ((with_reducible refine gate_store (p := 4) (t := 23) rfl ?_); refine store_box rfl rfl rfl gx 23 _ _ (pkA BX).out rfl rfl (by kernel_rfl) rfl (by kernel_rfl) ?_; intro ws hbs hgs; have HS := Aside0.mk (Below_boxed (bpk HB).out (Nat.le_refl _) GX.out hgs); clear HB BX BK hgs; have HB := HS; have BX := Aside0.mk hbs; clear HS hbs))
               refine bodyPost_ret (results_ct rfl _ _ gx 23 _ (0, 0) _ rfl (pkA BX).out Try.underlying23 rfl (by kernel_rfl)) rfl ?_
               exact ⟨rfl, (bpk HB).out⟩
             · have m0b : (lb.f4 == 0) = false := beq_eq_false_iff_ne.mpr m0
               go_upto_region 8 with (fail)
               cases oa with
               | false =>
                 have hv : R = (z23, false) := KM.out.trans ((if_neg m0).trans (if_pos rfl))
                 subst hv
                 clear m0
                 go_quiet (fail)
                 go_wp2_with (first | ((with_reducible refine gate_store (p := 4) (t := 23) rfl ?_); refine store_box rfl rfl rfl gx 23 _ _ (pkA BX).out rfl rfl (by kernel_rfl) rfl (by kernel_rfl) ?_; intro ws hbs hgs; have HS := Aside0.mk (Below_boxed (bpk HB).out (Nat.le_refl _) GX.out hgs); clear HB BX BK hgs; have HB := HS; have BX := Aside0.mk hbs; clear HS hbs))
                 refine bodyPost_ret (results_ct rfl _ _ gx 23 _ (0, 0) _ rfl (pkA BX).out Try.underlying23 rfl (by kernel_rfl)) rfl ?_
                 exact ⟨rfl, (bpk HB).out⟩
               | true =>
                 go_quiet (fail)
                 go_upto_region 10 with (fail)
                 by_cases m4 : lb.f4 = 1
                 · have m4b : (lb.f4 == 1) = true := beq_iff_eq.mpr m4
                   have hv : R = (la, true) := KM.out.trans ((if_neg m0).trans ((if_neg (by decide)).trans (if_pos m4)))
                   subst hv
                   clear m0 m4
                   go_upto_region 11 with (fail)
                   replace BK := Aside0.mk (blk_drewN BK.out (nqa + nq))
                   replace BX := Aside0.mk (blk_drewN BX.out (nqa + nq))
                   replace B7 := Aside0.mk (blk_drewN B7.out (nqa + nq))
                   replace HB := Aside0.mk (pw_below_drewN HB.out (nqa + nq))
                   generalize wz.drewN (nqa + nq) = wq at BK BX B7 HB ⊢
                   have hS : ∀ w' : World, w'.heap[g7]? = some (.cells #[.int .i64 y.f3, .int .i64 y.f2] 62 (0, 0)) → Below w.heap.size w w' → (w'.cell? ⟨gt, 0, none⟩ = some (.slice (some adA) n cf) ∧ w'.cell? ⟨g7, 1, none⟩ = some (.int .i64 y.f2) ∧ w'.cell? (adA.add (y.f2.toNat * 5)) = some (.int .i64 la.f0) ∧ w'.cell? ⟨(adA.add (y.f2.toNat * 5)).block, (adA.add (y.f2.toNat * 5)).off + 1, none⟩ = some (.int .i64 la.f1) ∧ w'.cell? ⟨(adA.add (y.f2.toNat * 5)).block, (adA.add (y.f2.toNat * 5)).off + 2, none⟩ = some (.int .i64 la.f2) ∧ w'.cell? ⟨(adA.add (y.f2.toNat * 5)).block, (adA.add (y.f2.toNat * 5)).off + 3, none⟩ = some (.int .i64 la.f3) ∧ w'.cell? ⟨(adA.add (y.f2.toNat * 5)).block, (adA.add (y.f2.toNat * 5)).off + 4, none⟩ = some (.int .i64 la.f4)) := fun w' hb hB => ⟨(hB.cell (World.block_lt_of_cell? w _ xt_0)).trans xt_0, hcz ⟨hb⟩ 1, (hB.cell (World.block_lt_of_cell? w _ xA_0)).trans xA_0, (hB.cell (World.block_lt_of_cell? w _ xA_1)).trans xA_1, (hB.cell (World.block_lt_of_cell? w _ xA_2)).trans xA_2, (hB.cell (World.block_lt_of_cell? w _ xA_3)).trans xA_3, (hB.cell (World.block_lt_of_cell? w _ xA_4)).trans xA_4⟩
                   refine start_ (n := 10) (S := fun w' => w'.cell? ⟨gt, 0, none⟩ = some (.slice (some adA) n cf) ∧ w'.cell? ⟨g7, 1, none⟩ = some (.int .i64 y.f2) ∧ w'.cell? (adA.add (y.f2.toNat * 5)) = some (.int .i64 la.f0) ∧ w'.cell? ⟨(adA.add (y.f2.toNat * 5)).block, (adA.add (y.f2.toNat * 5)).off + 1, none⟩ = some (.int .i64 la.f1) ∧ w'.cell? ⟨(adA.add (y.f2.toNat * 5)).block, (adA.add (y.f2.toNat * 5)).off + 2, none⟩ = some (.int .i64 la.f2) ∧ w'.cell? ⟨(adA.add (y.f2.toNat * 5)).block, (adA.add (y.f2.toNat * 5)).off + 3, none⟩ = some (.int .i64 la.f3) ∧ w'.cell? ⟨(adA.add (y.f2.toNat * 5)).block, (adA.add (y.f2.toNat * 5)).off + 4, none⟩ = some (.int .i64 la.f4)) (ds := []) #[false, false, false, false, false, false, false, false, false, false] (by kernel_rfl) rfl rfl (hS _ (blk_drew (pkA B7).out) (below_drew1 (bpk HB).out)) (fun hHeld => ?_)
                   refine with_tabW N42btab N42bbits (fun HT_ HW_ => ?_)
                   replace BK := Aside0.mk (blk_drew BK.out)
                   replace BX := Aside0.mk (blk_drew BX.out)
                   replace B7 := Aside0.mk (blk_drew B7.out)
                   replace HB := Aside0.mk (below_drew1 HB.out)
                   generalize World.drew _ = wa at BK BX B7 HB hHeld ⊢
                   refine pureQ 0 75 HT_.out ?_
                   refine pureQ 1 76 HT_.out ?_
                   refine pureQ 2 77 HT_.out ?_
                   refine pureQ 4 79 HT_.out ?_
                   refine takeQ 3 78 HT_.out HW_.out hHeld ?_
                   refine takeQ 5 80 HT_.out HW_.out hHeld ?_
                   refine pureQ 6 81 HT_.out ?_
                   refine takeQ 7 82 HT_.out HW_.out hHeld ?_
                   refine one_ (i := 8) (N := none) #[true, true, true, true, true, true, true, true, true, false] rfl rfl (one_of HT_.out (by kernel_rfl)) (by decide) (fun K hK => ?_)
                   obtain ⟨wy, hwz⟩ : ∃ wz, wz = (((((wa).setCell ⟨gx, 0, none⟩ (.int .i64 la.f0)).setCell ⟨gx, 1, none⟩ (.int .i64 la.f1)).setCell ⟨gx, 2, none⟩ (.int .i64 la.f2)).setCell ⟨gx, 3, none⟩ (.int .i64 la.f3)).setCell ⟨gx, 4, none⟩ (.int .i64 la.f4) := ⟨_, rfl⟩
                   obtain ⟨z1, z2, z3⟩ := set5 BX.out _ _ _ _ _ wy hwz
                   have hfx := hcf5 BX
                   obtain ⟨_, _, _, _, _, _, _, _, _, _⟩ := hfx
                   refine skip_ (w1 := wy) (by rfl) rfl (by rw [hwz]; go_simp) ?_
                   clear hwz
                   replace B7 := Aside0.mk (z2 _ _ (N7x.out.symm) B7.out)
                   replace HB := Aside0.mk (z3 _ GX.out HB.out)
                   clear BX BK B8
                   have BX := Aside0.mk z1
                   clear z1 z2 z3
                   refine hK.out _ _ (hS _ B7.out HB.out) (fun hHeld => ?_)
                   clear hK K
                   refine pureQ 9 5 HT_.out ?_
                   refine done_ (done_of HT_.out (by kernel_rfl)) ?_
                   clear hHeld HT_ HW_ hS
                   go_wp2
                   refine bodyPost_ret (results_ct rfl _ _ gx 23 _ (0, 0) _ rfl (pkA BX).out Try.underlying23 rfl (by kernel_rfl)) rfl ?_
                   exact ⟨rfl, (bpk HB).out⟩
                 · have m4b : (lb.f4 == 1) = false := beq_eq_false_iff_ne.mpr m4
                   obtain ⟨r, hr⟩ : ∃ r, negS la = r := ⟨_, rfl⟩
                   have hv : r = R := (KM.out.trans ((if_neg m0).trans ((if_neg (by decide)).trans ((if_neg m4).trans hr)))).symm
                   subst hv
                   clear m0 m4
                   go_upto_region 12 with (fail)
                   replace BK := Aside0.mk (blk_drewN BK.out (nqa + nq))
                   replace BX := Aside0.mk (blk_drewN BX.out (nqa + nq))
                   replace B7 := Aside0.mk (blk_drewN B7.out (nqa + nq))
                   replace HB := Aside0.mk (pw_below_drewN HB.out (nqa + nq))
                   generalize wz.drewN (nqa + nq) = wq at BK BX B7 HB ⊢
                   have hS : ∀ w' : World, w'.heap[g7]? = some (.cells #[.int .i64 y.f3, .int .i64 y.f2] 62 (0, 0)) → Below w.heap.size w w' → (w'.cell? ⟨gt, 0, none⟩ = some (.slice (some adA) n cf) ∧ w'.cell? ⟨g7, 1, none⟩ = some (.int .i64 y.f2) ∧ w'.cell? (adA.add (y.f2.toNat * 5)) = some (.int .i64 la.f0) ∧ w'.cell? ⟨(adA.add (y.f2.toNat * 5)).block, (adA.add (y.f2.toNat * 5)).off + 1, none⟩ = some (.int .i64 la.f1) ∧ w'.cell? ⟨(adA.add (y.f2.toNat * 5)).block, (adA.add (y.f2.toNat * 5)).off + 2, none⟩ = some (.int .i64 la.f2) ∧ w'.cell? ⟨(adA.add (y.f2.toNat * 5)).block, (adA.add (y.f2.toNat * 5)).off + 3, none⟩ = some (.int .i64 la.f3) ∧ w'.cell? ⟨(adA.add (y.f2.toNat * 5)).block, (adA.add (y.f2.toNat * 5)).off + 4, none⟩ = some (.int .i64 la.f4)) := fun w' hb hB => ⟨(hB.cell (World.block_lt_of_cell? w _ xt_0)).trans xt_0, hcz ⟨hb⟩ 1, (hB.cell (World.block_lt_of_cell? w _ xA_0)).trans xA_0, (hB.cell (World.block_lt_of_cell? w _ xA_1)).trans xA_1, (hB.cell (World.block_lt_of_cell? w _ xA_2)).trans xA_2, (hB.cell (World.block_lt_of_cell? w _ xA_3)).trans xA_3, (hB.cell (World.block_lt_of_cell? w _ xA_4)).trans xA_4⟩
                   refine start_ (n := 13) (S := fun w' => w'.cell? ⟨gt, 0, none⟩ = some (.slice (some adA) n cf) ∧ w'.cell? ⟨g7, 1, none⟩ = some (.int .i64 y.f2) ∧ w'.cell? (adA.add (y.f2.toNat * 5)) = some (.int .i64 la.f0) ∧ w'.cell? ⟨(adA.add (y.f2.toNat * 5)).block, (adA.add (y.f2.toNat * 5)).off + 1, none⟩ = some (.int .i64 la.f1) ∧ w'.cell? ⟨(adA.add (y.f2.toNat * 5)).block, (adA.add (y.f2.toNat * 5)).off + 2, none⟩ = some (.int .i64 la.f2) ∧ w'.cell? ⟨(adA.add (y.f2.toNat * 5)).block, (adA.add (y.f2.toNat * 5)).off + 3, none⟩ = some (.int .i64 la.f3) ∧ w'.cell? ⟨(adA.add (y.f2.toNat * 5)).block, (adA.add (y.f2.toNat * 5)).off + 4, none⟩ = some (.int .i64 la.f4)) (ds := []) #[false, false, false, false, false, false, false, false, false, false, false, false, false] (by kernel_rfl) rfl rfl (hS _ (blk_drew (pkA B7).out) (below_drew1 (bpk HB).out)) (fun hHeld => ?_)
                   refine with_tabW N42ctab N42cbits (fun HT_ HW_ => ?_)
                   replace BK := Aside0.mk (blk_drew BK.out)
                   replace BX := Aside0.mk (blk_drew BX.out)
                   replace B7 := Aside0.mk (blk_drew B7.out)
                   replace HB := Aside0.mk (below_drew1 HB.out)
                   generalize World.drew _ = wa at BK BX B7 HB hHeld ⊢
                   refine pureQ 0 83 HT_.out ?_
                   refine pureQ 1 84 HT_.out ?_
                   refine pureQ 2 85 HT_.out ?_
                   refine pureQ 4 87 HT_.out ?_
                   refine takeQ 3 86 HT_.out HW_.out hHeld ?_
                   refine takeQ 5 88 HT_.out HW_.out hHeld ?_
                   refine pureQ 6 89 HT_.out ?_
                   refine takeQ 7 90 HT_.out HW_.out hHeld ?_
                   refine oneQ 8 91 HT_.out (fun K hK => ?_)
                   refine goesQ Try.func13 #[.agg #[.int .i64 la.f0, .int .i64 la.f1, .int .i64 la.f2, .int .i64 la.f3, .int .i64 la.f4]] ?_
                   refine (neg_c la r hr _).mono ?_
                   rintro e w' ⟨rfl, hb⟩
                   refine ⟨_, rfl, ?_⟩
                   replace BX := bbw BX hb
                   replace B7 := bbw B7 hb
                   replace HB := bst HB hb
                   clear hb
                   refine hK.out _ _ (hS _ B7.out HB.out) (fun hHeld => ?_)
                   clear hK K
                   refine normQ (N := 91) ?_
                   refine pureQ 9 92 HT_.out ?_
                   refine pureQ 10 93 HT_.out ?_
                   refine one_ (i := 11) (N := none) #[true, true, true, true, true, true, true, true, true, true, true, true, false] rfl rfl (one_of HT_.out (by kernel_rfl)) (by decide) (fun K hK => ?_)
                   obtain ⟨wy, hwz⟩ : ∃ wz, wz = (((((w').setCell ⟨gx, 0, none⟩ (.int .i64 r.1.f0)).setCell ⟨gx, 1, none⟩ (.int .i64 r.1.f1)).setCell ⟨gx, 2, none⟩ (.int .i64 r.1.f2)).setCell ⟨gx, 3, none⟩ (.int .i64 r.1.f3)).setCell ⟨gx, 4, none⟩ (.int .i64 r.1.f4) := ⟨_, rfl⟩
                   obtain ⟨z1, z2, z3⟩ := set5 BX.out _ _ _ _ _ wy hwz
                   have hfx := hcf5 BX
                   obtain ⟨_, _, _, _, _, _, _, _, _, _⟩ := hfx
                   refine skip_ (w1 := wy) (by rfl) rfl (by rw [hwz]; go_simp) ?_
                   clear hwz
                   replace B7 := Aside0.mk (z2 _ _ (N7x.out.symm) B7.out)
                   replace HB := Aside0.mk (z3 _ GX.out HB.out)
                   clear BX BK B8
                   have BX := Aside0.mk z1
                   clear z1 z2 z3
                   refine hK.out _ _ (hS _ B7.out HB.out) (fun hHeld => ?_)
                   clear hK K
                   refine pureQ 12 5 HT_.out ?_
                   refine done_ (done_of HT_.out (by kernel_rfl)) ?_
                   clear hHeld HT_ HW_ hS
                   go_wp2
                   refine bodyPost_ret (results_ct rfl _ _ gx 23 _ (0, 0) _ rfl (pkA BX).out Try.underlying23 rfl (by kernel_rfl)) rfl ?_
                   exact ⟨rfl, (bpk HB).out⟩
       · have m1b : (lb.f1 != 0) = true := bne_iff_ne.mpr m1
         go_quiet (fail)
         go_wp2
         go_roundw
         case measure => simp [intOf] <;> omega
         case rel => exact ⟨2, by omega, by first | rfl | simp, ⟨fun _ => HN.out.1 (by omega), fun _ => fun hf => m1 hf.2.1⟩, pkA BK, pkA BX, bpk HB⟩
   · have hk2 : decide ((2 : Int) < 2) = false := by decide
     have hv : R = (z23, false) := KR.out.symm.trans ((if_neg (HN.out.1 (by omega))).trans (if_neg (HN.out.2 (by omega))))
     subst hv
     clear HN
     go_wp2_with (first | ((with_reducible refine gate_store (p := 4) (t := 23) rfl ?_); refine store_box rfl rfl rfl gx 23 _ _ (pkA BX).out rfl rfl (by kernel_rfl) rfl (by kernel_rfl) ?_; intro ws hbs hgs; have HS := Aside0.mk (Below_boxed (bpk HB).out (Nat.le_refl _) GX.out hgs); clear HB BX BK hgs; have HB := HS; have BX := Aside0.mk hbs; clear HS hbs))
     refine bodyPost_ret (results_ct rfl _ _ gx 23 _ (0, 0) _ rfl (pkA BX).out Try.underlying23 rfl (by kernel_rfl)) rfl ?_
     exact ⟨rfl, (bpk HB).out⟩
end Go.Proofs.Ytllfopbchdahoaa.P
