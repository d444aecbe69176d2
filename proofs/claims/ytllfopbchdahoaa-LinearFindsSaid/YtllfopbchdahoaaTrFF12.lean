/- What the law's proof needs of F12. -/
import Derived.Test.YtllfopbchdahoaaTrFF11
import Derived.Test.YtllfopbchdahoaaTrFPx32
namespace Go.Proofs.Ytllfopbchdahoaa.P
open Go.RowKit Go.Proofs.YtllfopbchdahoaaW.PrintWords Go.Proofs.YtllfopbchdahoaaW.PrintLast Go.Proofs.YtllfopbchdahoaaW.PrintMore Go.Proofs.YtllfopbchdahoaaO
attribute [local go_sem] max2_int min2_int max_two min_two max_three min_three max_four min_four
set_option linter.unusedVariables false
set_option linter.unusedSimpArgs false
theorem factor_c (l : S23) (ok r : Bool) (h : decide (fac l ok) = r) (w : World) : Calls Try.prog 50 #[.agg #[.int .i64 l.f0, .int .i64 l.f1, .int .i64 l.f2, .int .i64 l.f3, .int .i64 l.f4], .bool ok] w fun e w' => e = .returned (.bool r) ∧ Below w.heap.size w w' := by
  subst h
  refine gimbalref14_factor.calls _ _ _ _ _ _ _ w ?_
  unfold gimbalref14_factor.f fac
  by_cases h0 : ok = true
  · rw [if_pos h0]
    by_cases h1 : l.f1 = 0
    · rw [if_pos h1]
      by_cases h2 : l.f4 ≥ -1
      · rw [if_pos h2]
        congr 1
        exact decide_eq_decide.mpr ⟨fun h => ⟨h0, h1, h2, h⟩, fun h => h.2.2.2⟩
      · rw [if_neg h2]
        congr 1
        exact (decide_eq_false fun h => h2 h.2.2.1).symm
    · rw [if_neg h1]
      congr 1
      exact (decide_eq_false fun h => h1 h.2.1).symm
  · rw [if_neg h0]
    congr 1
    exact (decide_eq_false fun h => h0 h.1).symm
def OT8 : Bool × List (List Nat × List Nat) := (true, [([], []), ([], []), ([0, 1], [0, 1]), ([2], [2]), ([], []), ([], []), ([4, 5], [4, 5]), ([6], [6]), ([3, 7], [3, 7]), ([8], [8])])
def OB8 : List Nat := [0, 0, 3, 7, 0, 0, 48, 112, 255, 511]
theorem Otab8 : rtab .any (opsOf Try.f43 8) = OT8 := by kernel_rfl
theorem Obits8 : waitsOk OT8.2 OB8 = true := by kernel_rfl
def OT11 : Bool × List (List Nat × List Nat) := (true, [([], []), ([], []), ([0, 1], [0, 1]), ([2], [2]), ([], []), ([], []), ([4, 5], [4, 5]), ([6], [6]), ([3, 7], [3, 7]), ([8], [8])])
def OB11 : List Nat := [0, 0, 3, 7, 0, 0, 48, 112, 255, 511]
theorem Otab11 : rtab .any (opsOf Try.f43 11) = OT11 := by kernel_rfl
theorem Obits11 : waitsOk OT11.2 OB11 = true := by kernel_rfl
def OT22 : Bool × List (List Nat × List Nat) := (true, [([], []), ([], []), ([1], [1]), ([0, 2], [0, 2]), ([3], [3]), ([], []), ([], []), ([6], [6]), ([5, 7], [5, 7]), ([8], [8]), ([4, 9], [4, 9]), ([10], [10]), ([10], [10]), ([11, 10, 0, 1, 2, 3, 4, 5, 6, 7, 8, 9, 10, 11, 12], [11]), ([12, 13, 0, 1, 2, 3, 4, 5, 6, 7, 8, 9, 10, 11, 12, 13], [12])])
def OB22 : List Nat := [0, 0, 2, 7, 15, 0, 0, 64, 224, 480, 1023, 2047, 2047, 8191, 16383]
theorem Otab22 : rtab .any (opsOf Try.f43 22) = OT22 := by kernel_rfl
theorem Obits22 : waitsOk OT22.2 OB22 = true := by kernel_rfl
def OT23 : Bool × List (List Nat × List Nat) := (true, [([], []), ([], []), ([1], [1]), ([0, 2], [0, 2]), ([3], [3]), ([], []), ([], []), ([6], [6]), ([5, 7], [5, 7]), ([8], [8]), ([4, 9], [4, 9]), ([10], [10]), ([10], [10]), ([11, 10, 0, 1, 2, 3, 4, 5, 6, 7, 8, 9, 10, 11, 12], [11]), ([12, 13, 0, 1, 2, 3, 4, 5, 6, 7, 8, 9, 10, 11, 12, 13], [12])])
def OB23 : List Nat := [0, 0, 2, 7, 15, 0, 0, 64, 224, 480, 1023, 2047, 2047, 8191, 16383]
theorem Otab23 : rtab .any (opsOf Try.f43 23) = OT23 := by kernel_rfl
theorem Obits23 : waitsOk OT23.2 OB23 = true := by kernel_rfl
/-- Five cells, stored one by one. -/
theorem set5 {w : World} {g : Nat} {t : TypeId} {o0 o1 o2 o3 o4 : Value} (h : w.heap[g]? = some (.cells #[o0, o1, o2, o3, o4] t (0, 0))) (x0 x1 x2 x3 x4 : Value) :
    ∀ w1, w1 = ((((w.setCell ⟨g, 0, none⟩ x0).setCell ⟨g, 1, none⟩ x1).setCell ⟨g, 2, none⟩ x2).setCell ⟨g, 3, none⟩ x3).setCell ⟨g, 4, none⟩ x4 →
    w1.heap[g]? = some (.cells #[x0, x1, x2, x3, x4] t (0, 0)) ∧ (∀ g' o', g' ≠ g → w.heap[g']? = some o' → w1.heap[g']? = some o') ∧ (∀ w0 : World, w0.heap.size ≤ g → Below w0.heap.size w0 w → Below w0.heap.size w0 w1) := by
  intro w1 e1
  subst e1
  refine ⟨?_, ?_, ?_⟩
  · exact blk_put (cs := #[x0, x1, x2, x3, o4]) (blk_put (cs := #[x0, x1, x2, o3, o4]) (blk_put (cs := #[x0, x1, o2, o3, o4]) (blk_put (cs := #[x0, o1, o2, o3, o4]) (blk_put h 0 x0 rfl) 1 x1 rfl) 2 x2 rfl) 3 x3 rfl) 4 x4 rfl
  · intro g' o' hne h'
    have far : ∀ (w : World) (i : Nat) (v : Value), (w.setCell ⟨g, i, none⟩ v).heap[g']? = w.heap[g']? := fun w i v => Below.heap_setCell w _ v g' hne
    simp only [far]
    exact h'
  · intro w0 hg hB
    exact below_set (below_set (below_set (below_set (below_set hB hg) hg) hg) hg) hg
set_option maxHeartbeats 8000000 in
set_option maxRecDepth 100000 in
theorem of_calls (A : Option Addr) (c : Nat) (fs : List S23) (A' : Option Addr) (c' : Nat) (oks : List Bool) (y : S64) (w : World) (hf : Kd.C k23 w A fs.length fs) (ho : Kd.C Kd.bool w A' oks.length oks) (hl : oks.length = fs.length)
    (hA : y.f0 = 2 ∨ 4 ≤ y.f0 ∧ y.f0 ≤ 6 → 0 ≤ y.f2 ∧ y.f2 < (fs.length : Int)) (hB : 4 ≤ y.f0 ∧ y.f0 ≤ 6 → 0 ≤ y.f3 ∧ y.f3 < (fs.length : Int)) :
    Calls Try.prog 43 #[.slice A fs.length c, .slice A' oks.length c', .agg #[.int .i64 y.f0, .int .i64 y.f1, .int .i64 y.f2, .int .i64 y.f3, .int .i64 y.f4, .int .i64 y.f5, .int .i64 y.f6.f0, .int .i64 y.f6.f1]] w (Ret5 (ofV y.f0 y.f4 (rd_T23 fs y.f2) (oks.getD y.f2.toNat false) (rd_T23 fs y.f3) (oks.getD y.f3.toNat false)) w) := by
  have hu64 := Try.underlying64
  have hu23 := Try.underlying23
  have HB := Aside0.mk (Below.refl w.heap.size w)
  have QF := Aside0.mk hf
  have QO := Aside0.mk ho
  have KL := Aside0.mk hl
  have KA := Aside0.mk hA
  have KB := Aside0.mk hB
  clear hf ho hl hA hB
  by_cases h : y.f0 = 1
  · have e1 : (y.f0 == 1) = true := beq_iff_eq.mpr h
    obtain ⟨r, hr⟩ : ∃ r, numS y.f4 = r := ⟨_, rfl⟩
    have hV : ofV y.f0 y.f4 (rd_T23 fs y.f2) (oks.getD y.f2.toNat false) (rd_T23 fs y.f3) (oks.getD y.f3.toNat false) = r := by
      unfold ofV
      rw [if_pos h]
      exact hr
    rw [hV]
    clear hV
    clear h
    go_enter Try.func43, Try.ntmps43
    go_wp2_with (first | ((with_reducible refine gate_dst (N := 5) rfl ?_); refine boxQ 5 #[.int .i64 y.f0, .int .i64 y.f1, .int .i64 y.f2, .int .i64 y.f3, .int .i64 y.f4, .int .i64 y.f5, .int .i64 y.f6.f0, .int .i64 y.f6.f1] 64 HB ?_; clear HB; intro gb w1 _ GW BK _ HB; have hcf := hcf8 BK; obtain ⟨_, _, _, _, _, _, _, _, _, _, _, _, _, _, _, _⟩ := hcf) | ((with_reducible refine gate_dst (N := 6) rfl ?_); refine boxQ 6 #[.int .i64 0, .int .i64 0, .int .i64 0, .int .i64 0, .int .i64 0] 23 HB ?_; intro gx wx eg GX BX hb HX; have NX := bn1 BK eg.out; have NX2 := bn2 BK eg.out; replace BK := bbw BK hb.out; clear HB hb eg; have HB := HX; clear HX; have hcf := hcf8 BK; obtain ⟨_, _, _, _, _, _, _, _, _, _, _, _, _, _, _, _⟩ := hcf; have hcf := hcf5 BX; obtain ⟨_, _, _, _, _, _, _, _, _, _⟩ := hcf; have hnx := NX.out; have hnx2 := NX2.out) | ((with_reducible refine gate_callee (f := 29) rfl ?_); refine goesL_ (some 15) rfl rfl Try.func29 (by kernel_rfl) rfl #[.slice none 0 0, .int .i64 y.f4] rfl (by (try simp only [List.map_toArray, List.map_cons, List.map_nil]); first | done | rfl) ?_; refine (told_c y.f4 r hr _).mono ?_; rintro e w' ⟨rfl, hb⟩; replace BK := bbw BK hb; replace BX := bbw BX hb; replace HB := bst HB hb; clear hb; refine ⟨_, rfl, ?_⟩) | ((with_reducible refine gate_store (p := 6) (t := 23) rfl ?_); refine store_box rfl rfl rfl gx 23 _ _ (pkA BX).out rfl rfl (by kernel_rfl) rfl (by kernel_rfl) ?_; intro ws hbs hgs; have HS := Aside0.mk (Below_boxed (bpk HB).out (Nat.le_refl _) GX.out hgs); clear HB BX BK hgs; have HB := HS; have BX := Aside0.mk hbs; clear HS hbs))
    refine bodyPost_ret (results_ct rfl _ _ gx 23 _ (0, 0) _ rfl (pkA BX).out Try.underlying23 rfl (by kernel_rfl)) rfl ?_
    exact ⟨rfl, (bpk HB).out⟩
  by_cases h2 : y.f0 = 2
  · have e1 : (y.f0 == 1) = false := beq_eq_false_iff_ne.mpr (by omega)
    have e2 : (y.f0 == 2) = true := beq_iff_eq.mpr h2
    have e6 : (y.f0 == 6) = false := beq_eq_false_iff_ne.mpr (by omega)
    have e4 : (y.f0 == 4) = false := beq_eq_false_iff_ne.mpr (by omega)
    have e5 : (y.f0 == 5) = false := beq_eq_false_iff_ne.mpr (by omega)
    obtain ⟨pA, qA⟩ := KA.out (.inl h2)
    have qA2 : y.f2 < (oks.length : Int) := by have := KL.out; omega
    obtain ⟨adA, ee, xa_0, xa_1, xa_2, xa_3, xa_4⟩ := at_T23 QF.out y.f2 pA qA
    cases ee
    obtain ⟨aoA, ee, xa_5⟩ := Kd.at_bool QO.out y.f2 pA qA2
    cases ee
    replace xa_5 : w.cell? _ = some (.bool (oks.getD y.f2.toNat false)) := xa_5
    generalize rd_T23 fs y.f2 = la at *
    generalize oks.getD y.f2.toNat false = oa at *
    replace pA := eq_true pA
    replace qA := eq_true qA
    replace qA2 := eq_true qA2
    cases oa with
    | true =>
      obtain ⟨r, hr⟩ : ∃ r, negS la = r := ⟨_, rfl⟩
      have hV : ofV y.f0 y.f4 la true (rd_T23 fs y.f3) (oks.getD y.f3.toNat false) = r := by unfold ofV; rw [if_neg h, if_pos h2, if_pos rfl]; exact hr
      rw [hV]
      clear hV h h2
      go_enter Try.func43, Try.ntmps43
      go_wp2_with (first | ((with_reducible refine gate_dst (N := 5) rfl ?_); refine boxQ 5 #[.int .i64 y.f0, .int .i64 y.f1, .int .i64 y.f2, .int .i64 y.f3, .int .i64 y.f4, .int .i64 y.f5, .int .i64 y.f6.f0, .int .i64 y.f6.f1] 64 HB ?_; clear HB; intro gb w1 _ GW BK _ HB; have hcf := hcf8 BK; obtain ⟨_, _, _, _, _, _, _, _, _, _, _, _, _, _, _, _⟩ := hcf) | ((with_reducible refine gate_dst (N := 6) rfl ?_); refine boxQ 6 #[.int .i64 0, .int .i64 0, .int .i64 0, .int .i64 0, .int .i64 0] 23 HB ?_; intro gx wx eg GX BX hb HX; have NX := bn1 BK eg.out; have NX2 := bn2 BK eg.out; replace BK := bbw BK hb.out; clear HB hb eg; have HB := HX; clear HX; have hcf := hcf8 BK; obtain ⟨_, _, _, _, _, _, _, _, _, _, _, _, _, _, _, _⟩ := hcf; have hcf := hcf5 BX; obtain ⟨_, _, _, _, _, _, _, _, _, _⟩ := hcf; have hnx := NX.out; have hnx2 := NX2.out; replace xa_0 := (HB.out.cell (World.block_lt_of_cell? w _ xa_0)).trans xa_0; replace xa_1 := (HB.out.cell (World.block_lt_of_cell? w _ xa_1)).trans xa_1; replace xa_2 := (HB.out.cell (World.block_lt_of_cell? w _ xa_2)).trans xa_2; replace xa_3 := (HB.out.cell (World.block_lt_of_cell? w _ xa_3)).trans xa_3; replace xa_4 := (HB.out.cell (World.block_lt_of_cell? w _ xa_4)).trans xa_4; replace xa_5 := (HB.out.cell (World.block_lt_of_cell? w _ xa_5)).trans xa_5) | ((with_reducible refine gate_callee (f := 16) rfl ?_); refine goesL_ (some 33) rfl rfl Try.func16 (by kernel_rfl) rfl #[.agg #[.int .i64 la.f0, .int .i64 la.f1, .int .i64 la.f2, .int .i64 la.f3, .int .i64 la.f4]] rfl (by (try simp only [List.map_toArray, List.map_cons, List.map_nil]); first | done | rfl) ?_; refine (refNeg_c la r hr _).mono ?_; rintro e w' ⟨rfl, hb⟩; replace BK := bbw BK hb; replace BX := bbw BX hb; replace HB := bst HB hb; clear hb; refine ⟨_, rfl, ?_⟩) | ((with_reducible refine gate_store (p := 6) (t := 23) rfl ?_); refine store_box rfl rfl rfl gx 23 _ _ (pkA BX).out rfl rfl (by kernel_rfl) rfl (by kernel_rfl) ?_; intro ws hbs hgs; have HS := Aside0.mk (Below_boxed (bpk HB).out (Nat.le_refl _) GX.out hgs); clear HB BX BK hgs; have HB := HS; have BX := Aside0.mk hbs; clear HS hbs))
      refine bodyPost_ret (results_ct rfl _ _ gx 23 _ (0, 0) _ rfl (pkA BX).out Try.underlying23 rfl (by kernel_rfl)) rfl ?_
      exact ⟨rfl, (bpk HB).out⟩
    | false =>
      have hV : ofV y.f0 y.f4 la false (rd_T23 fs y.f3) (oks.getD y.f3.toNat false) = (z23, false) := by unfold ofV; rw [if_neg h, if_pos h2, if_neg (by decide)]
      rw [hV]
      clear hV h h2
      go_enter Try.func43, Try.ntmps43
      go_wp2_with (first | ((with_reducible refine gate_dst (N := 5) rfl ?_); refine boxQ 5 #[.int .i64 y.f0, .int .i64 y.f1, .int .i64 y.f2, .int .i64 y.f3, .int .i64 y.f4, .int .i64 y.f5, .int .i64 y.f6.f0, .int .i64 y.f6.f1] 64 HB ?_; clear HB; intro gb w1 _ GW BK _ HB; have hcf := hcf8 BK; obtain ⟨_, _, _, _, _, _, _, _, _, _, _, _, _, _, _, _⟩ := hcf) | ((with_reducible refine gate_dst (N := 6) rfl ?_); refine boxQ 6 #[.int .i64 0, .int .i64 0, .int .i64 0, .int .i64 0, .int .i64 0] 23 HB ?_; intro gx wx eg GX BX hb HX; have NX := bn1 BK eg.out; have NX2 := bn2 BK eg.out; replace BK := bbw BK hb.out; clear HB hb eg; have HB := HX; clear HX; have hcf := hcf8 BK; obtain ⟨_, _, _, _, _, _, _, _, _, _, _, _, _, _, _, _⟩ := hcf; have hcf := hcf5 BX; obtain ⟨_, _, _, _, _, _, _, _, _, _⟩ := hcf; have hnx := NX.out; have hnx2 := NX2.out; replace xa_0 := (HB.out.cell (World.block_lt_of_cell? w _ xa_0)).trans xa_0; replace xa_1 := (HB.out.cell (World.block_lt_of_cell? w _ xa_1)).trans xa_1; replace xa_2 := (HB.out.cell (World.block_lt_of_cell? w _ xa_2)).trans xa_2; replace xa_3 := (HB.out.cell (World.block_lt_of_cell? w _ xa_3)).trans xa_3; replace xa_4 := (HB.out.cell (World.block_lt_of_cell? w _ xa_4)).trans xa_4; replace xa_5 := (HB.out.cell (World.block_lt_of_cell? w _ xa_5)).trans xa_5) | ((with_reducible refine gate_store (p := 6) (t := 23) rfl ?_); refine store_box rfl rfl rfl gx 23 _ _ (pkA BX).out rfl rfl (by kernel_rfl) rfl (by kernel_rfl) ?_; intro ws hbs hgs; have HS := Aside0.mk (Below_boxed (bpk HB).out (Nat.le_refl _) GX.out hgs); clear HB BX BK hgs; have HB := HS; have BX := Aside0.mk hbs; clear HS hbs))
      refine bodyPost_ret (results_ct rfl _ _ gx 23 _ (0, 0) _ rfl (pkA BX).out Try.underlying23 rfl (by kernel_rfl)) rfl ?_
      exact ⟨rfl, (bpk HB).out⟩
  by_cases h6 : 4 ≤ y.f0 ∧ y.f0 ≤ 6
  · obtain ⟨pA, qA⟩ := KA.out (.inr h6)
    have qA2 : y.f2 < (oks.length : Int) := by have := KL.out; omega
    obtain ⟨adA, ee, xa_0, xa_1, xa_2, xa_3, xa_4⟩ := at_T23 QF.out y.f2 pA qA
    cases ee
    obtain ⟨aoA, ee, xa_5⟩ := Kd.at_bool QO.out y.f2 pA qA2
    cases ee
    replace xa_5 : w.cell? _ = some (.bool (oks.getD y.f2.toNat false)) := xa_5
    generalize rd_T23 fs y.f2 = la at *
    generalize oks.getD y.f2.toNat false = oa at *
    replace pA := eq_true pA
    replace qA := eq_true qA
    replace qA2 := eq_true qA2
    obtain ⟨pB, qB⟩ := KB.out h6
    have qB2 : y.f3 < (oks.length : Int) := by have := KL.out; omega
    obtain ⟨adB, ee, xb_0, xb_1, xb_2, xb_3, xb_4⟩ := at_T23 QF.out y.f3 pB qB
    cases ee
    obtain ⟨aoB, ee, xb_5⟩ := Kd.at_bool QO.out y.f3 pB qB2
    cases ee
    replace xb_5 : w.cell? _ = some (.bool (oks.getD y.f3.toNat false)) := xb_5
    generalize rd_T23 fs y.f3 = lb at *
    generalize oks.getD y.f3.toNat false = ob at *
    replace pB := eq_true pB
    replace qB := eq_true qB
    replace qB2 := eq_true qB2
    have e1 : (y.f0 == 1) = false := beq_eq_false_iff_ne.mpr h
    have e2 : (y.f0 == 2) = false := beq_eq_false_iff_ne.mpr h2
    by_cases h4 : y.f0 = 6
    · have e6 : (y.f0 == 6) = true := beq_iff_eq.mpr h4
      obtain ⟨R, hR⟩ : ∃ R, ofV y.f0 y.f4 la oa lb ob = R := ⟨_, rfl⟩
      rw [hR]
      have KR := Aside0.mk hR
      have KH := Aside0.mk (And.intro h (And.intro h2 h4))
      clear hR h h2 h4 h6
      go_enter Try.func43, Try.ntmps43
      go_upto_region 8 with (first | ((with_reducible refine gate_dst (N := 5) rfl ?_); refine boxQ 5 #[.int .i64 y.f0, .int .i64 y.f1, .int .i64 y.f2, .int .i64 y.f3, .int .i64 y.f4, .int .i64 y.f5, .int .i64 y.f6.f0, .int .i64 y.f6.f1] 64 HB ?_; clear HB; intro gb w1 _ GW BK _ HB; have hcf := hcf8 BK; obtain ⟨_, _, _, _, _, _, _, _, _, _, _, _, _, _, _, _⟩ := hcf) | ((with_reducible refine gate_dst (N := 6) rfl ?_); refine boxQ 6 #[.int .i64 0, .int .i64 0, .int .i64 0, .int .i64 0, .int .i64 0] 23 HB ?_; intro gx wx eg GX BX hb HX; have NX := bn1 BK eg.out; have NX2 := bn2 BK eg.out; replace BK := bbw BK hb.out; clear HB hb eg; have HB := HX; clear HX; have hcf := hcf8 BK; obtain ⟨_, _, _, _, _, _, _, _, _, _, _, _, _, _, _, _⟩ := hcf; have hcf := hcf5 BX; obtain ⟨_, _, _, _, _, _, _, _, _, _⟩ := hcf; have hnx := NX.out; have hnx2 := NX2.out))
      by_cases fA : fac la oa
      · have fAb := decide_eq_true fA
        have hS : ∀ w' : World, Below w.heap.size w w' → (w'.cell? (adA.add (y.f2.toNat * 5)) = some (.int .i64 la.f0) ∧ w'.cell? ⟨(adA.add (y.f2.toNat * 5)).block, (adA.add (y.f2.toNat * 5)).off + 1, none⟩ = some (.int .i64 la.f1) ∧ w'.cell? ⟨(adA.add (y.f2.toNat * 5)).block, (adA.add (y.f2.toNat * 5)).off + 2, none⟩ = some (.int .i64 la.f2) ∧ w'.cell? ⟨(adA.add (y.f2.toNat * 5)).block, (adA.add (y.f2.toNat * 5)).off + 3, none⟩ = some (.int .i64 la.f3) ∧ w'.cell? ⟨(adA.add (y.f2.toNat * 5)).block, (adA.add (y.f2.toNat * 5)).off + 4, none⟩ = some (.int .i64 la.f4) ∧ w'.cell? (aoA.add y.f2.toNat) = some (.bool oa)) := fun w' hB => ⟨(hB.cell (World.block_lt_of_cell? w _ xa_0)).trans xa_0, (hB.cell (World.block_lt_of_cell? w _ xa_1)).trans xa_1, (hB.cell (World.block_lt_of_cell? w _ xa_2)).trans xa_2, (hB.cell (World.block_lt_of_cell? w _ xa_3)).trans xa_3, (hB.cell (World.block_lt_of_cell? w _ xa_4)).trans xa_4, (hB.cell (World.block_lt_of_cell? w _ xa_5)).trans xa_5⟩
        refine start_ (n := 10) (S := fun w' => w'.cell? (adA.add (y.f2.toNat * 5)) = some (.int .i64 la.f0) ∧ w'.cell? ⟨(adA.add (y.f2.toNat * 5)).block, (adA.add (y.f2.toNat * 5)).off + 1, none⟩ = some (.int .i64 la.f1) ∧ w'.cell? ⟨(adA.add (y.f2.toNat * 5)).block, (adA.add (y.f2.toNat * 5)).off + 2, none⟩ = some (.int .i64 la.f2) ∧ w'.cell? ⟨(adA.add (y.f2.toNat * 5)).block, (adA.add (y.f2.toNat * 5)).off + 3, none⟩ = some (.int .i64 la.f3) ∧ w'.cell? ⟨(adA.add (y.f2.toNat * 5)).block, (adA.add (y.f2.toNat * 5)).off + 4, none⟩ = some (.int .i64 la.f4) ∧ w'.cell? (aoA.add y.f2.toNat) = some (.bool oa)) (ds := []) #[false, false, false, false, false, false, false, false, false, false] (by kernel_rfl) rfl rfl (hS _ (below_drew1 (bpk HB).out)) (fun hHeld => ?_)
        refine with_tabW Otab8 Obits8 (fun HT_ HW_ => ?_)
        replace BK := Aside0.mk (blk_drew (pkA BK).out)
        replace BX := Aside0.mk (blk_drew (pkA BX).out)
        replace HB := Aside0.mk (below_drew1 (bpk HB).out)
        generalize World.drew _ = wa at BK BX HB hHeld ⊢
        refine pureQ 0 43 HT_.out ?_
        refine pureQ 1 44 HT_.out ?_
        refine pureQ 2 45 HT_.out ?_
        refine pureQ 4 47 HT_.out ?_
        refine pureQ 5 48 HT_.out ?_
        refine pureQ 6 49 HT_.out ?_
        refine takeQ 3 46 HT_.out HW_.out hHeld ?_
        refine takeQ 7 50 HT_.out HW_.out hHeld ?_
        refine oneQ 8 51 HT_.out (fun K hK => ?_)
        refine goesQ Try.func50 #[.agg #[.int .i64 la.f0, .int .i64 la.f1, .int .i64 la.f2, .int .i64 la.f3, .int .i64 la.f4], .bool oa] ?_
        refine (factor_c la oa _ fAb _).mono ?_
        rintro e w' ⟨rfl, hb⟩
        refine ⟨_, rfl, ?_⟩
        replace BK := bbw BK hb
        replace BX := bbw BX hb
        replace HB := bst HB hb
        clear hb
        refine hK.out _ _ (hS _ HB.out) (fun hHeld => ?_)
        clear hK K
        refine normQ (N := 51) ?_
        refine pureQ 9 52 HT_.out ?_
        refine done_ (done_of HT_.out (by kernel_rfl)) ?_
        clear hHeld HT_ HW_ hS
        have hcf := hcf8 BK
        obtain ⟨_, _, _, _, _, _, _, _, _, _, _, _, _, _, _, _⟩ := hcf
        have hcf := hcf5 BX
        obtain ⟨_, _, _, _, _, _, _, _, _, _⟩ := hcf
        go_upto_region 11 with (fail)
        have hS : ∀ w' : World, Below w.heap.size w w' → (w'.cell? (adA.add (y.f2.toNat * 5)) = some (.int .i64 la.f0) ∧ w'.cell? ⟨(adA.add (y.f2.toNat * 5)).block, (adA.add (y.f2.toNat * 5)).off + 1, none⟩ = some (.int .i64 la.f1) ∧ w'.cell? ⟨(adA.add (y.f2.toNat * 5)).block, (adA.add (y.f2.toNat * 5)).off + 2, none⟩ = some (.int .i64 la.f2) ∧ w'.cell? ⟨(adA.add (y.f2.toNat * 5)).block, (adA.add (y.f2.toNat * 5)).off + 3, none⟩ = some (.int .i64 la.f3) ∧ w'.cell? ⟨(adA.add (y.f2.toNat * 5)).block, (adA.add (y.f2.toNat * 5)).off + 4, none⟩ = some (.int .i64 la.f4) ∧ w'.cell? (aoA.add y.f2.toNat) = some (.bool oa)) := fun w' hB => ⟨(hB.cell (World.block_lt_of_cell? w _ xa_0)).trans xa_0, (hB.cell (World.block_lt_of_cell? w _ xa_1)).trans xa_1, (hB.cell (World.block_lt_of_cell? w _ xa_2)).trans xa_2, (hB.cell (World.block_lt_of_cell? w _ xa_3)).trans xa_3, (hB.cell (World.block_lt_of_cell? w _ xa_4)).trans xa_4, (hB.cell (World.block_lt_of_cell? w _ xa_5)).trans xa_5⟩
        refine start_ (n := 10) (S := fun w' => w'.cell? (adA.add (y.f2.toNat * 5)) = some (.int .i64 la.f0) ∧ w'.cell? ⟨(adA.add (y.f2.toNat * 5)).block, (adA.add (y.f2.toNat * 5)).off + 1, none⟩ = some (.int .i64 la.f1) ∧ w'.cell? ⟨(adA.add (y.f2.toNat * 5)).block, (adA.add (y.f2.toNat * 5)).off + 2, none⟩ = some (.int .i64 la.f2) ∧ w'.cell? ⟨(adA.add (y.f2.toNat * 5)).block, (adA.add (y.f2.toNat * 5)).off + 3, none⟩ = some (.int .i64 la.f3) ∧ w'.cell? ⟨(adA.add (y.f2.toNat * 5)).block, (adA.add (y.f2.toNat * 5)).off + 4, none⟩ = some (.int .i64 la.f4) ∧ w'.cell? (aoA.add y.f2.toNat) = some (.bool oa)) (ds := []) #[false, false, false, false, false, false, false, false, false, false] (by kernel_rfl) rfl rfl (hS _ (below_drew1 (bpk HB).out)) (fun hHeld => ?_)
        refine with_tabW Otab11 Obits11 (fun HT_ HW_ => ?_)
        replace BK := Aside0.mk (blk_drew (pkA BK).out)
        replace BX := Aside0.mk (blk_drew (pkA BX).out)
        replace HB := Aside0.mk (below_drew1 (bpk HB).out)
        generalize World.drew _ = wa at BK BX HB hHeld ⊢
        refine pureQ 0 57 HT_.out ?_
        refine pureQ 1 58 HT_.out ?_
        refine pureQ 2 59 HT_.out ?_
        refine pureQ 4 61 HT_.out ?_
        refine pureQ 5 62 HT_.out ?_
        refine pureQ 6 63 HT_.out ?_
        refine takeQ 3 60 HT_.out HW_.out hHeld ?_
        refine takeQ 7 64 HT_.out HW_.out hHeld ?_
        refine oneQ 8 65 HT_.out (fun K hK => ?_)
        refine goesQ Try.func50 #[.agg #[.int .i64 la.f0, .int .i64 la.f1, .int .i64 la.f2, .int .i64 la.f3, .int .i64 la.f4], .bool oa] ?_
        refine (factor_c la oa _ fAb _).mono ?_
        rintro e w' ⟨rfl, hb⟩
        refine ⟨_, rfl, ?_⟩
        replace BK := bbw BK hb
        replace BX := bbw BX hb
        replace HB := bst HB hb
        clear hb
        refine hK.out _ _ (hS _ HB.out) (fun hHeld => ?_)
        clear hK K
        refine normQ (N := 65) ?_
        refine pureQ 9 66 HT_.out ?_
        refine done_ (done_of HT_.out (by kernel_rfl)) ?_
        clear hHeld HT_ HW_ hS
        have xa_0n := (HB.out.cell (World.block_lt_of_cell? w _ xa_0)).trans xa_0
        have xa_1n := (HB.out.cell (World.block_lt_of_cell? w _ xa_1)).trans xa_1
        have xa_2n := (HB.out.cell (World.block_lt_of_cell? w _ xa_2)).trans xa_2
        have xa_3n := (HB.out.cell (World.block_lt_of_cell? w _ xa_3)).trans xa_3
        have xa_4n := (HB.out.cell (World.block_lt_of_cell? w _ xa_4)).trans xa_4
        have xa_5n := (HB.out.cell (World.block_lt_of_cell? w _ xa_5)).trans xa_5
        have xb_0n := (HB.out.cell (World.block_lt_of_cell? w _ xb_0)).trans xb_0
        have xb_1n := (HB.out.cell (World.block_lt_of_cell? w _ xb_1)).trans xb_1
        have xb_2n := (HB.out.cell (World.block_lt_of_cell? w _ xb_2)).trans xb_2
        have xb_3n := (HB.out.cell (World.block_lt_of_cell? w _ xb_3)).trans xb_3
        have xb_4n := (HB.out.cell (World.block_lt_of_cell? w _ xb_4)).trans xb_4
        have xb_5n := (HB.out.cell (World.block_lt_of_cell? w _ xb_5)).trans xb_5
        clear xa_0 xa_1 xa_2 xa_3 xa_4 xa_5 xb_0 xb_1 xb_2 xb_3 xb_4 xb_5
        have hcf := hcf8 BK
        obtain ⟨_, _, _, _, _, _, _, _, _, _, _, _, _, _, _, _⟩ := hcf
        have hcf := hcf5 BX
        obtain ⟨_, _, _, _, _, _, _, _, _, _⟩ := hcf
        by_cases m0 : la.f4 = 0
        · have m0b : (la.f4 == 0) = true := beq_iff_eq.mpr m0
          have hv : R = (z23, true) := KR.out.symm.trans ((if_neg KH.out.1).trans ((if_neg KH.out.2.1).trans ((if_pos KH.out.2.2).trans ((if_pos fA).trans (if_pos m0)))))
          subst hv
          clear m0
          go_wp2_with (first | ((with_reducible refine gate_store (p := 6) (t := 23) rfl ?_); refine store_box rfl rfl rfl gx 23 _ _ (pkA BX).out rfl rfl (by kernel_rfl) rfl (by kernel_rfl) ?_; intro ws hbs hgs; have HS := Aside0.mk (Below_boxed (bpk HB).out (Nat.le_refl _) GX.out hgs); clear HB BX BK hgs; have HB := HS; have BX := Aside0.mk hbs; clear HS hbs))
          refine bodyPost_ret (results_ct rfl _ _ gx 23 _ (0, 0) _ rfl (pkA BX).out Try.underlying23 rfl (by kernel_rfl)) rfl ?_
          exact ⟨rfl, (bpk HB).out⟩
        · have m0b : (la.f4 == 0) = false := beq_eq_false_iff_ne.mpr m0
          cases ob with
          | false =>
            have hv : R = (z23, false) := KR.out.symm.trans ((if_neg KH.out.1).trans ((if_neg KH.out.2.1).trans ((if_pos KH.out.2.2).trans ((if_pos fA).trans ((if_neg m0).trans (if_pos rfl))))))
            subst hv
            clear m0
            go_wp2_with (first | ((with_reducible refine gate_store (p := 6) (t := 23) rfl ?_); refine store_box rfl rfl rfl gx 23 _ _ (pkA BX).out rfl rfl (by kernel_rfl) rfl (by kernel_rfl) ?_; intro ws hbs hgs; have HS := Aside0.mk (Below_boxed (bpk HB).out (Nat.le_refl _) GX.out hgs); clear HB BX BK hgs; have HB := HS; have BX := Aside0.mk hbs; clear HS hbs))
            refine bodyPost_ret (results_ct rfl _ _ gx 23 _ (0, 0) _ rfl (pkA BX).out Try.underlying23 rfl (by kernel_rfl)) rfl ?_
            exact ⟨rfl, (bpk HB).out⟩
          | true =>
            by_cases m1 : la.f4 = 1
            · have m1b : (la.f4 == 1) = true := beq_iff_eq.mpr m1
              have hv : R = (lb, true) := KR.out.symm.trans ((if_neg KH.out.1).trans ((if_neg KH.out.2.1).trans ((if_pos KH.out.2.2).trans ((if_pos fA).trans ((if_neg m0).trans ((if_neg (by decide)).trans (if_pos m1)))))))
              subst hv
              clear m0 m1
              go_wp2_with (first | ((with_reducible refine gate_store (p := 6) (t := 23) rfl ?_); refine store_box rfl rfl rfl gx 23 _ _ (pkA BX).out rfl rfl (by kernel_rfl) rfl (by kernel_rfl) ?_; intro ws hbs hgs; have HS := Aside0.mk (Below_boxed (bpk HB).out (Nat.le_refl _) GX.out hgs); clear HB BX BK hgs; have HB := HS; have BX := Aside0.mk hbs; clear HS hbs))
              refine bodyPost_ret (results_ct rfl _ _ gx 23 _ (0, 0) _ rfl (pkA BX).out Try.underlying23 rfl (by kernel_rfl)) rfl ?_
              exact ⟨rfl, (bpk HB).out⟩
            · have m1b : (la.f4 == 1) = false := beq_eq_false_iff_ne.mpr m1
              obtain ⟨r, hr⟩ : ∃ r, negS lb = r := ⟨_, rfl⟩
              have hv : r = R := (KR.out.symm.trans ((if_neg KH.out.1).trans ((if_neg KH.out.2.1).trans ((if_pos KH.out.2.2).trans ((if_pos fA).trans ((if_neg m0).trans ((if_neg (by decide)).trans ((if_neg m1).trans hr)))))))).symm
              subst hv
              clear m0 m1
              go_wp2_with (first | ((with_reducible refine gate_callee (f := 16) rfl ?_); refine goesL_ (some 95) rfl rfl Try.func16 (by kernel_rfl) rfl #[.agg #[.int .i64 lb.f0, .int .i64 lb.f1, .int .i64 lb.f2, .int .i64 lb.f3, .int .i64 lb.f4]] rfl (by (try simp only [List.map_toArray, List.map_cons, List.map_nil]); first | done | rfl) ?_; refine (refNeg_c lb r hr _).mono ?_; rintro e w' ⟨rfl, hb⟩; replace BK := bbw BK hb; replace BX := bbw BX hb; replace HB := bst HB hb; clear hb; refine ⟨_, rfl, ?_⟩) | ((with_reducible refine gate_store (p := 6) (t := 23) rfl ?_); refine store_box rfl rfl rfl gx 23 _ _ (pkA BX).out rfl rfl (by kernel_rfl) rfl (by kernel_rfl) ?_; intro ws hbs hgs; have HS := Aside0.mk (Below_boxed (bpk HB).out (Nat.le_refl _) GX.out hgs); clear HB BX BK hgs; have HB := HS; have BX := Aside0.mk hbs; clear HS hbs))
              refine bodyPost_ret (results_ct rfl _ _ gx 23 _ (0, 0) _ rfl (pkA BX).out Try.underlying23 rfl (by kernel_rfl)) rfl ?_
              exact ⟨rfl, (bpk HB).out⟩
      · have fAb := decide_eq_false fA
        have hS : ∀ w' : World, Below w.heap.size w w' → (w'.cell? (adA.add (y.f2.toNat * 5)) = some (.int .i64 la.f0) ∧ w'.cell? ⟨(adA.add (y.f2.toNat * 5)).block, (adA.add (y.f2.toNat * 5)).off + 1, none⟩ = some (.int .i64 la.f1) ∧ w'.cell? ⟨(adA.add (y.f2.toNat * 5)).block, (adA.add (y.f2.toNat * 5)).off + 2, none⟩ = some (.int .i64 la.f2) ∧ w'.cell? ⟨(adA.add (y.f2.toNat * 5)).block, (adA.add (y.f2.toNat * 5)).off + 3, none⟩ = some (.int .i64 la.f3) ∧ w'.cell? ⟨(adA.add (y.f2.toNat * 5)).block, (adA.add (y.f2.toNat * 5)).off + 4, none⟩ = some (.int .i64 la.f4) ∧ w'.cell? (aoA.add y.f2.toNat) = some (.bool oa)) := fun w' hB => ⟨(hB.cell (World.block_lt_of_cell? w _ xa_0)).trans xa_0, (hB.cell (World.block_lt_of_cell? w _ xa_1)).trans xa_1, (hB.cell (World.block_lt_of_cell? w _ xa_2)).trans xa_2, (hB.cell (World.block_lt_of_cell? w _ xa_3)).trans xa_3, (hB.cell (World.block_lt_of_cell? w _ xa_4)).trans xa_4, (hB.cell (World.block_lt_of_cell? w _ xa_5)).trans xa_5⟩
        refine start_ (n := 10) (S := fun w' => w'.cell? (adA.add (y.f2.toNat * 5)) = some (.int .i64 la.f0) ∧ w'.cell? ⟨(adA.add (y.f2.toNat * 5)).block, (adA.add (y.f2.toNat * 5)).off + 1, none⟩ = some (.int .i64 la.f1) ∧ w'.cell? ⟨(adA.add (y.f2.toNat * 5)).block, (adA.add (y.f2.toNat * 5)).off + 2, none⟩ = some (.int .i64 la.f2) ∧ w'.cell? ⟨(adA.add (y.f2.toNat * 5)).block, (adA.add (y.f2.toNat * 5)).off + 3, none⟩ = some (.int .i64 la.f3) ∧ w'.cell? ⟨(adA.add (y.f2.toNat * 5)).block, (adA.add (y.f2.toNat * 5)).off + 4, none⟩ = some (.int .i64 la.f4) ∧ w'.cell? (aoA.add y.f2.toNat) = some (.bool oa)) (ds := []) #[false, false, false, false, false, false, false, false, false, false] (by kernel_rfl) rfl rfl (hS _ (below_drew1 (bpk HB).out)) (fun hHeld => ?_)
        refine with_tabW Otab8 Obits8 (fun HT_ HW_ => ?_)
        replace BK := Aside0.mk (blk_drew (pkA BK).out)
        replace BX := Aside0.mk (blk_drew (pkA BX).out)
        replace HB := Aside0.mk (below_drew1 (bpk HB).out)
        generalize World.drew _ = wa at BK BX HB hHeld ⊢
        refine pureQ 0 43 HT_.out ?_
        refine pureQ 1 44 HT_.out ?_
        refine pureQ 2 45 HT_.out ?_
        refine pureQ 4 47 HT_.out ?_
        refine pureQ 5 48 HT_.out ?_
        refine pureQ 6 49 HT_.out ?_
        refine takeQ 3 46 HT_.out HW_.out hHeld ?_
        refine takeQ 7 50 HT_.out HW_.out hHeld ?_
        refine oneQ 8 51 HT_.out (fun K hK => ?_)
        refine goesQ Try.func50 #[.agg #[.int .i64 la.f0, .int .i64 la.f1, .int .i64 la.f2, .int .i64 la.f3, .int .i64 la.f4], .bool oa] ?_
        refine (factor_c la oa _ fAb _).mono ?_
        rintro e w' ⟨rfl, hb⟩
        refine ⟨_, rfl, ?_⟩
        replace BK := bbw BK hb
        replace BX := bbw BX hb
        replace HB := bst HB hb
        clear hb
        refine hK.out _ _ (hS _ HB.out) (fun hHeld => ?_)
        clear hK K
        refine normQ (N := 51) ?_
        refine pureQ 9 52 HT_.out ?_
        refine done_ (done_of HT_.out (by kernel_rfl)) ?_
        clear hHeld HT_ HW_ hS
        have hcf := hcf8 BK
        obtain ⟨_, _, _, _, _, _, _, _, _, _, _, _, _, _, _, _⟩ := hcf
        have hcf := hcf5 BX
        obtain ⟨_, _, _, _, _, _, _, _, _, _⟩ := hcf
        go_upto_region 11 with (fail)
        by_cases fB : fac lb ob
        · have fBb := decide_eq_true fB
          have hS : ∀ w' : World, Below w.heap.size w w' → (w'.cell? (adA.add (y.f3.toNat * 5)) = some (.int .i64 lb.f0) ∧ w'.cell? ⟨(adA.add (y.f3.toNat * 5)).block, (adA.add (y.f3.toNat * 5)).off + 1, none⟩ = some (.int .i64 lb.f1) ∧ w'.cell? ⟨(adA.add (y.f3.toNat * 5)).block, (adA.add (y.f3.toNat * 5)).off + 2, none⟩ = some (.int .i64 lb.f2) ∧ w'.cell? ⟨(adA.add (y.f3.toNat * 5)).block, (adA.add (y.f3.toNat * 5)).off + 3, none⟩ = some (.int .i64 lb.f3) ∧ w'.cell? ⟨(adA.add (y.f3.toNat * 5)).block, (adA.add (y.f3.toNat * 5)).off + 4, none⟩ = some (.int .i64 lb.f4) ∧ w'.cell? (aoA.add y.f3.toNat) = some (.bool ob)) := fun w' hB => ⟨(hB.cell (World.block_lt_of_cell? w _ xb_0)).trans xb_0, (hB.cell (World.block_lt_of_cell? w _ xb_1)).trans xb_1, (hB.cell (World.block_lt_of_cell? w _ xb_2)).trans xb_2, (hB.cell (World.block_lt_of_cell? w _ xb_3)).trans xb_3, (hB.cell (World.block_lt_of_cell? w _ xb_4)).trans xb_4, (hB.cell (World.block_lt_of_cell? w _ xb_5)).trans xb_5⟩
          refine start_ (n := 10) (S := fun w' => w'.cell? (adA.add (y.f3.toNat * 5)) = some (.int .i64 lb.f0) ∧ w'.cell? ⟨(adA.add (y.f3.toNat * 5)).block, (adA.add (y.f3.toNat * 5)).off + 1, none⟩ = some (.int .i64 lb.f1) ∧ w'.cell? ⟨(adA.add (y.f3.toNat * 5)).block, (adA.add (y.f3.toNat * 5)).off + 2, none⟩ = some (.int .i64 lb.f2) ∧ w'.cell? ⟨(adA.add (y.f3.toNat * 5)).block, (adA.add (y.f3.toNat * 5)).off + 3, none⟩ = some (.int .i64 lb.f3) ∧ w'.cell? ⟨(adA.add (y.f3.toNat * 5)).block, (adA.add (y.f3.toNat * 5)).off + 4, none⟩ = some (.int .i64 lb.f4) ∧ w'.cell? (aoA.add y.f3.toNat) = some (.bool ob)) (ds := []) #[false, false, false, false, false, false, false, false, false, false] (by kernel_rfl) rfl rfl (hS _ (below_drew1 (bpk HB).out)) (fun hHeld => ?_)
          refine with_tabW Otab11 Obits11 (fun HT_ HW_ => ?_)
          replace BK := Aside0.mk (blk_drew (pkA BK).out)
          replace BX := Aside0.mk (blk_drew (pkA BX).out)
          replace HB := Aside0.mk (below_drew1 (bpk HB).out)
          generalize World.drew _ = wa at BK BX HB hHeld ⊢
          refine pureQ 0 57 HT_.out ?_
          refine pureQ 1 58 HT_.out ?_
          refine pureQ 2 59 HT_.out ?_
          refine pureQ 4 61 HT_.out ?_
          refine pureQ 5 62 HT_.out ?_
          refine pureQ 6 63 HT_.out ?_
          refine takeQ 3 60 HT_.out HW_.out hHeld ?_
          refine takeQ 7 64 HT_.out HW_.out hHeld ?_
          refine oneQ 8 65 HT_.out (fun K hK => ?_)
          refine goesQ Try.func50 #[.agg #[.int .i64 lb.f0, .int .i64 lb.f1, .int .i64 lb.f2, .int .i64 lb.f3, .int .i64 lb.f4], .bool ob] ?_
          refine (factor_c lb ob _ fBb _).mono ?_
          rintro e w' ⟨rfl, hb⟩
          refine ⟨_, rfl, ?_⟩
          replace BK := bbw BK hb
          replace BX := bbw BX hb
          replace HB := bst HB hb
          clear hb
          refine hK.out _ _ (hS _ HB.out) (fun hHeld => ?_)
          clear hK K
          refine normQ (N := 65) ?_
          refine pureQ 9 66 HT_.out ?_
          refine done_ (done_of HT_.out (by kernel_rfl)) ?_
          clear hHeld HT_ HW_ hS
          have xa_0n := (HB.out.cell (World.block_lt_of_cell? w _ xa_0)).trans xa_0
          have xa_1n := (HB.out.cell (World.block_lt_of_cell? w _ xa_1)).trans xa_1
          have xa_2n := (HB.out.cell (World.block_lt_of_cell? w _ xa_2)).trans xa_2
          have xa_3n := (HB.out.cell (World.block_lt_of_cell? w _ xa_3)).trans xa_3
          have xa_4n := (HB.out.cell (World.block_lt_of_cell? w _ xa_4)).trans xa_4
          have xa_5n := (HB.out.cell (World.block_lt_of_cell? w _ xa_5)).trans xa_5
          have xb_0n := (HB.out.cell (World.block_lt_of_cell? w _ xb_0)).trans xb_0
          have xb_1n := (HB.out.cell (World.block_lt_of_cell? w _ xb_1)).trans xb_1
          have xb_2n := (HB.out.cell (World.block_lt_of_cell? w _ xb_2)).trans xb_2
          have xb_3n := (HB.out.cell (World.block_lt_of_cell? w _ xb_3)).trans xb_3
          have xb_4n := (HB.out.cell (World.block_lt_of_cell? w _ xb_4)).trans xb_4
          have xb_5n := (HB.out.cell (World.block_lt_of_cell? w _ xb_5)).trans xb_5
          clear xa_0 xa_1 xa_2 xa_3 xa_4 xa_5 xb_0 xb_1 xb_2 xb_3 xb_4 xb_5
          have hcf := hcf8 BK
          obtain ⟨_, _, _, _, _, _, _, _, _, _, _, _, _, _, _, _⟩ := hcf
          have hcf := hcf5 BX
          obtain ⟨_, _, _, _, _, _, _, _, _, _⟩ := hcf
          by_cases m0 : lb.f4 = 0
          · have m0b : (lb.f4 == 0) = true := beq_iff_eq.mpr m0
            have hv : R = (z23, true) := KR.out.symm.trans ((if_neg KH.out.1).trans ((if_neg KH.out.2.1).trans ((if_pos KH.out.2.2).trans ((if_neg fA).trans ((if_pos fB).trans (if_pos m0))))))
            subst hv
            clear m0
            go_wp2_with (first | ((with_reducible refine gate_store (p := 6) (t := 23) rfl ?_); refine store_box rfl rfl rfl gx 23 _ _ (pkA BX).out rfl rfl (by kernel_rfl) rfl (by kernel_rfl) ?_; intro ws hbs hgs; have HS := Aside0.mk (Below_boxed (bpk HB).out (Nat.le_refl _) GX.out hgs); clear HB BX BK hgs; have HB := HS; have BX := Aside0.mk hbs; clear HS hbs))
            refine bodyPost_ret (results_ct rfl _ _ gx 23 _ (0, 0) _ rfl (pkA BX).out Try.underlying23 rfl (by kernel_rfl)) rfl ?_
            exact ⟨rfl, (bpk HB).out⟩
          · have m0b : (lb.f4 == 0) = false := beq_eq_false_iff_ne.mpr m0
            cases oa with
            | false =>
              have hv : R = (z23, false) := KR.out.symm.trans ((if_neg KH.out.1).trans ((if_neg KH.out.2.1).trans ((if_pos KH.out.2.2).trans ((if_neg fA).trans ((if_pos fB).trans ((if_neg m0).trans (if_pos rfl)))))))
              subst hv
              clear m0
              go_wp2_with (first | ((with_reducible refine gate_store (p := 6) (t := 23) rfl ?_); refine store_box rfl rfl rfl gx 23 _ _ (pkA BX).out rfl rfl (by kernel_rfl) rfl (by kernel_rfl) ?_; intro ws hbs hgs; have HS := Aside0.mk (Below_boxed (bpk HB).out (Nat.le_refl _) GX.out hgs); clear HB BX BK hgs; have HB := HS; have BX := Aside0.mk hbs; clear HS hbs))
              refine bodyPost_ret (results_ct rfl _ _ gx 23 _ (0, 0) _ rfl (pkA BX).out Try.underlying23 rfl (by kernel_rfl)) rfl ?_
              exact ⟨rfl, (bpk HB).out⟩
            | true =>
              by_cases m1 : lb.f4 = 1
              · have m1b : (lb.f4 == 1) = true := beq_iff_eq.mpr m1
                have hv : R = (la, true) := KR.out.symm.trans ((if_neg KH.out.1).trans ((if_neg KH.out.2.1).trans ((if_pos KH.out.2.2).trans ((if_neg fA).trans ((if_pos fB).trans ((if_neg m0).trans ((if_neg (by decide)).trans (if_pos m1))))))))
                subst hv
                clear m0 m1
                go_wp2_with (first | ((with_reducible refine gate_store (p := 6) (t := 23) rfl ?_); refine store_box rfl rfl rfl gx 23 _ _ (pkA BX).out rfl rfl (by kernel_rfl) rfl (by kernel_rfl) ?_; intro ws hbs hgs; have HS := Aside0.mk (Below_boxed (bpk HB).out (Nat.le_refl _) GX.out hgs); clear HB BX BK hgs; have HB := HS; have BX := Aside0.mk hbs; clear HS hbs))
                refine bodyPost_ret (results_ct rfl _ _ gx 23 _ (0, 0) _ rfl (pkA BX).out Try.underlying23 rfl (by kernel_rfl)) rfl ?_
                exact ⟨rfl, (bpk HB).out⟩
              · have m1b : (lb.f4 == 1) = false := beq_eq_false_iff_ne.mpr m1
                obtain ⟨r, hr⟩ : ∃ r, negS la = r := ⟨_, rfl⟩
                have hv : r = R := (KR.out.symm.trans ((if_neg KH.out.1).trans ((if_neg KH.out.2.1).trans ((if_pos KH.out.2.2).trans ((if_neg fA).trans ((if_pos fB).trans ((if_neg m0).trans ((if_neg (by decide)).trans ((if_neg m1).trans hr))))))))).symm
                subst hv
                clear m0 m1
                go_wp2_with (first | ((with_reducible refine gate_callee (f := 16) rfl ?_); refine goesL_ (some 95) rfl rfl Try.func16 (by kernel_rfl) rfl #[.agg #[.int .i64 la.f0, .int .i64 la.f1, .int .i64 la.f2, .int .i64 la.f3, .int .i64 la.f4]] rfl (by (try simp only [List.map_toArray, List.map_cons, List.map_nil]); first | done | rfl) ?_; refine (refNeg_c la r hr _).mono ?_; rintro e w' ⟨rfl, hb⟩; replace BK := bbw BK hb; replace BX := bbw BX hb; replace HB := bst HB hb; clear hb; refine ⟨_, rfl, ?_⟩) | ((with_reducible refine gate_store (p := 6) (t := 23) rfl ?_); refine store_box rfl rfl rfl gx 23 _ _ (pkA BX).out rfl rfl (by kernel_rfl) rfl (by kernel_rfl) ?_; intro ws hbs hgs; have HS := Aside0.mk (Below_boxed (bpk HB).out (Nat.le_refl _) GX.out hgs); clear HB BX BK hgs; have HB := HS; have BX := Aside0.mk hbs; clear HS hbs))
                refine bodyPost_ret (results_ct rfl _ _ gx 23 _ (0, 0) _ rfl (pkA BX).out Try.underlying23 rfl (by kernel_rfl)) rfl ?_
                exact ⟨rfl, (bpk HB).out⟩
        · have fBb := decide_eq_false fB
          have hS : ∀ w' : World, Below w.heap.size w w' → (w'.cell? (adA.add (y.f3.toNat * 5)) = some (.int .i64 lb.f0) ∧ w'.cell? ⟨(adA.add (y.f3.toNat * 5)).block, (adA.add (y.f3.toNat * 5)).off + 1, none⟩ = some (.int .i64 lb.f1) ∧ w'.cell? ⟨(adA.add (y.f3.toNat * 5)).block, (adA.add (y.f3.toNat * 5)).off + 2, none⟩ = some (.int .i64 lb.f2) ∧ w'.cell? ⟨(adA.add (y.f3.toNat * 5)).block, (adA.add (y.f3.toNat * 5)).off + 3, none⟩ = some (.int .i64 lb.f3) ∧ w'.cell? ⟨(adA.add (y.f3.toNat * 5)).block, (adA.add (y.f3.toNat * 5)).off + 4, none⟩ = some (.int .i64 lb.f4) ∧ w'.cell? (aoA.add y.f3.toNat) = some (.bool ob)) := fun w' hB => ⟨(hB.cell (World.block_lt_of_cell? w _ xb_0)).trans xb_0, (hB.cell (World.block_lt_of_cell? w _ xb_1)).trans xb_1, (hB.cell (World.block_lt_of_cell? w _ xb_2)).trans xb_2, (hB.cell (World.block_lt_of_cell? w _ xb_3)).trans xb_3, (hB.cell (World.block_lt_of_cell? w _ xb_4)).trans xb_4, (hB.cell (World.block_lt_of_cell? w _ xb_5)).trans xb_5⟩
          refine start_ (n := 10) (S := fun w' => w'.cell? (adA.add (y.f3.toNat * 5)) = some (.int .i64 lb.f0) ∧ w'.cell? ⟨(adA.add (y.f3.toNat * 5)).block, (adA.add (y.f3.toNat * 5)).off + 1, none⟩ = some (.int .i64 lb.f1) ∧ w'.cell? ⟨(adA.add (y.f3.toNat * 5)).block, (adA.add (y.f3.toNat * 5)).off + 2, none⟩ = some (.int .i64 lb.f2) ∧ w'.cell? ⟨(adA.add (y.f3.toNat * 5)).block, (adA.add (y.f3.toNat * 5)).off + 3, none⟩ = some (.int .i64 lb.f3) ∧ w'.cell? ⟨(adA.add (y.f3.toNat * 5)).block, (adA.add (y.f3.toNat * 5)).off + 4, none⟩ = some (.int .i64 lb.f4) ∧ w'.cell? (aoA.add y.f3.toNat) = some (.bool ob)) (ds := []) #[false, false, false, false, false, false, false, false, false, false] (by kernel_rfl) rfl rfl (hS _ (below_drew1 (bpk HB).out)) (fun hHeld => ?_)
          refine with_tabW Otab11 Obits11 (fun HT_ HW_ => ?_)
          replace BK := Aside0.mk (blk_drew (pkA BK).out)
          replace BX := Aside0.mk (blk_drew (pkA BX).out)
          replace HB := Aside0.mk (below_drew1 (bpk HB).out)
          generalize World.drew _ = wa at BK BX HB hHeld ⊢
          refine pureQ 0 57 HT_.out ?_
          refine pureQ 1 58 HT_.out ?_
          refine pureQ 2 59 HT_.out ?_
          refine pureQ 4 61 HT_.out ?_
          refine pureQ 5 62 HT_.out ?_
          refine pureQ 6 63 HT_.out ?_
          refine takeQ 3 60 HT_.out HW_.out hHeld ?_
          refine takeQ 7 64 HT_.out HW_.out hHeld ?_
          refine oneQ 8 65 HT_.out (fun K hK => ?_)
          refine goesQ Try.func50 #[.agg #[.int .i64 lb.f0, .int .i64 lb.f1, .int .i64 lb.f2, .int .i64 lb.f3, .int .i64 lb.f4], .bool ob] ?_
          refine (factor_c lb ob _ fBb _).mono ?_
          rintro e w' ⟨rfl, hb⟩
          refine ⟨_, rfl, ?_⟩
          replace BK := bbw BK hb
          replace BX := bbw BX hb
          replace HB := bst HB hb
          clear hb
          refine hK.out _ _ (hS _ HB.out) (fun hHeld => ?_)
          clear hK K
          refine normQ (N := 65) ?_
          refine pureQ 9 66 HT_.out ?_
          refine done_ (done_of HT_.out (by kernel_rfl)) ?_
          clear hHeld HT_ HW_ hS
          have hcf := hcf8 BK
          obtain ⟨_, _, _, _, _, _, _, _, _, _, _, _, _, _, _, _⟩ := hcf
          have hcf := hcf5 BX
          obtain ⟨_, _, _, _, _, _, _, _, _, _⟩ := hcf
          have hv : R = (z23, false) := KR.out.symm.trans ((if_neg KH.out.1).trans ((if_neg KH.out.2.1).trans ((if_pos KH.out.2.2).trans ((if_neg fA).trans (if_neg fB)))))
          subst hv
          go_wp2_with (first | ((with_reducible refine gate_store (p := 6) (t := 23) rfl ?_); refine store_box rfl rfl rfl gx 23 _ _ (pkA BX).out rfl rfl (by kernel_rfl) rfl (by kernel_rfl) ?_; intro ws hbs hgs; have HS := Aside0.mk (Below_boxed (bpk HB).out (Nat.le_refl _) GX.out hgs); clear HB BX BK hgs; have HB := HS; have BX := Aside0.mk hbs; clear HS hbs))
          refine bodyPost_ret (results_ct rfl _ _ gx 23 _ (0, 0) _ rfl (pkA BX).out Try.underlying23 rfl (by kernel_rfl)) rfl ?_
          exact ⟨rfl, (bpk HB).out⟩
    · have e6 : (y.f0 == 6) = false := beq_eq_false_iff_ne.mpr h4
      cases oa with
      | false =>
        have hV : ofV y.f0 y.f4 la false lb ob = (z23, false) := by
          unfold ofV
          rw [if_neg h, if_neg h2, if_neg h4]
          by_cases h3 : y.f0 = 4
          · rw [if_pos h3, if_neg (by simp)]
          · rw [if_neg h3]
            by_cases h5 : y.f0 = 5
            · rw [if_pos h5, if_neg (by simp)]
            · rw [if_neg h5]
        rw [hV]
        clear hV
        have hcase : ((y.f0 == 4) = true ∧ (y.f0 == 5) = false) ∨ ((y.f0 == 4) = false ∧ (y.f0 == 5) = true) := if h3 : y.f0 = 4 then .inl ⟨beq_iff_eq.mpr h3, beq_eq_false_iff_ne.mpr (by omega)⟩ else .inr ⟨beq_eq_false_iff_ne.mpr h3, beq_iff_eq.mpr (by omega)⟩
        clear h h2 h6 h4
        rcases hcase with ⟨e4, e5⟩ | ⟨e4, e5⟩
        all_goals go_enter Try.func43, Try.ntmps43
        all_goals go_wp2_with (first | ((with_reducible refine gate_dst (N := 5) rfl ?_); refine boxQ 5 #[.int .i64 y.f0, .int .i64 y.f1, .int .i64 y.f2, .int .i64 y.f3, .int .i64 y.f4, .int .i64 y.f5, .int .i64 y.f6.f0, .int .i64 y.f6.f1] 64 HB ?_; clear HB; intro gb w1 _ GW BK _ HB; have hcf := hcf8 BK; obtain ⟨_, _, _, _, _, _, _, _, _, _, _, _, _, _, _, _⟩ := hcf) | ((with_reducible refine gate_dst (N := 6) rfl ?_); refine boxQ 6 #[.int .i64 0, .int .i64 0, .int .i64 0, .int .i64 0, .int .i64 0] 23 HB ?_; intro gx wx eg GX BX hb HX; have NX := bn1 BK eg.out; have NX2 := bn2 BK eg.out; replace BK := bbw BK hb.out; clear HB hb eg; have HB := HX; clear HX; have hcf := hcf8 BK; obtain ⟨_, _, _, _, _, _, _, _, _, _, _, _, _, _, _, _⟩ := hcf; have hcf := hcf5 BX; obtain ⟨_, _, _, _, _, _, _, _, _, _⟩ := hcf; have hnx := NX.out; have hnx2 := NX2.out; replace xa_0 := (HB.out.cell (World.block_lt_of_cell? w _ xa_0)).trans xa_0; replace xa_1 := (HB.out.cell (World.block_lt_of_cell? w _ xa_1)).trans xa_1; replace xa_2 := (HB.out.cell (World.block_lt_of_cell? w _ xa_2)).trans xa_2; replace xa_3 := (HB.out.cell (World.block_lt_of_cell? w _ xa_3)).trans xa_3; replace xa_4 := (HB.out.cell (World.block_lt_of_cell? w _ xa_4)).trans xa_4; replace xa_5 := (HB.out.cell (World.block_lt_of_cell? w _ xa_5)).trans xa_5) | ((with_reducible refine gate_store (p := 6) (t := 23) rfl ?_); refine store_box rfl rfl rfl gx 23 _ _ (pkA BX).out rfl rfl (by kernel_rfl) rfl (by kernel_rfl) ?_; intro ws hbs hgs; have HS := Aside0.mk (Below_boxed (bpk HB).out (Nat.le_refl _) GX.out hgs); clear HB BX BK hgs; have HB := HS; have BX := Aside0.mk hbs; clear HS hbs))
        all_goals refine bodyPost_ret (results_ct rfl _ _ gx 23 _ (0, 0) _ rfl (pkA BX).out Try.underlying23 rfl (by kernel_rfl)) rfl ?_
        all_goals exact ⟨rfl, (bpk HB).out⟩
      | true =>
        cases ob with
        | false =>
          have hV : ofV y.f0 y.f4 la true lb false = (z23, false) := by
            unfold ofV
            rw [if_neg h, if_neg h2, if_neg h4]
            by_cases h3 : y.f0 = 4
            · rw [if_pos h3, if_neg (by simp)]
            · rw [if_neg h3]
              by_cases h5 : y.f0 = 5
              · rw [if_pos h5, if_neg (by simp)]
              · rw [if_neg h5]
          rw [hV]
          clear hV
          have hcase : ((y.f0 == 4) = true ∧ (y.f0 == 5) = false) ∨ ((y.f0 == 4) = false ∧ (y.f0 == 5) = true) := if h3 : y.f0 = 4 then .inl ⟨beq_iff_eq.mpr h3, beq_eq_false_iff_ne.mpr (by omega)⟩ else .inr ⟨beq_eq_false_iff_ne.mpr h3, beq_iff_eq.mpr (by omega)⟩
          clear h h2 h6 h4
          rcases hcase with ⟨e4, e5⟩ | ⟨e4, e5⟩
          all_goals go_enter Try.func43, Try.ntmps43
          all_goals go_wp2_with (first | ((with_reducible refine gate_dst (N := 5) rfl ?_); refine boxQ 5 #[.int .i64 y.f0, .int .i64 y.f1, .int .i64 y.f2, .int .i64 y.f3, .int .i64 y.f4, .int .i64 y.f5, .int .i64 y.f6.f0, .int .i64 y.f6.f1] 64 HB ?_; clear HB; intro gb w1 _ GW BK _ HB; have hcf := hcf8 BK; obtain ⟨_, _, _, _, _, _, _, _, _, _, _, _, _, _, _, _⟩ := hcf) | ((with_reducible refine gate_dst (N := 6) rfl ?_); refine boxQ 6 #[.int .i64 0, .int .i64 0, .int .i64 0, .int .i64 0, .int .i64 0] 23 HB ?_; intro gx wx eg GX BX hb HX; have NX := bn1 BK eg.out; have NX2 := bn2 BK eg.out; replace BK := bbw BK hb.out; clear HB hb eg; have HB := HX; clear HX; have hcf := hcf8 BK; obtain ⟨_, _, _, _, _, _, _, _, _, _, _, _, _, _, _, _⟩ := hcf; have hcf := hcf5 BX; obtain ⟨_, _, _, _, _, _, _, _, _, _⟩ := hcf; have hnx := NX.out; have hnx2 := NX2.out; replace xa_0 := (HB.out.cell (World.block_lt_of_cell? w _ xa_0)).trans xa_0; replace xa_1 := (HB.out.cell (World.block_lt_of_cell? w _ xa_1)).trans xa_1; replace xa_2 := (HB.out.cell (World.block_lt_of_cell? w _ xa_2)).trans xa_2; replace xa_3 := (HB.out.cell (World.block_lt_of_cell? w _ xa_3)).trans xa_3; replace xa_4 := (HB.out.cell (World.block_lt_of_cell? w _ xa_4)).trans xa_4; replace xa_5 := (HB.out.cell (World.block_lt_of_cell? w _ xa_5)).trans xa_5; replace xb_5 := (HB.out.cell (World.block_lt_of_cell? w _ xb_5)).trans xb_5) | ((with_reducible refine gate_store (p := 6) (t := 23) rfl ?_); refine store_box rfl rfl rfl gx 23 _ _ (pkA BX).out rfl rfl (by kernel_rfl) rfl (by kernel_rfl) ?_; intro ws hbs hgs; have HS := Aside0.mk (Below_boxed (bpk HB).out (Nat.le_refl _) GX.out hgs); clear HB BX BK hgs; have HB := HS; have BX := Aside0.mk hbs; clear HS hbs))
          all_goals refine bodyPost_ret (results_ct rfl _ _ gx 23 _ (0, 0) _ rfl (pkA BX).out Try.underlying23 rfl (by kernel_rfl)) rfl ?_
          all_goals exact ⟨rfl, (bpk HB).out⟩
        | true =>
          by_cases h3 : y.f0 = 4
          · have e4 : (y.f0 == 4) = true := beq_iff_eq.mpr h3
            obtain ⟨r, hr⟩ : ∃ r, addS la lb = r := ⟨_, rfl⟩
            rw [show ofV y.f0 y.f4 la true lb true = r from (if_neg h).trans ((if_neg h2).trans ((if_neg h4).trans ((if_pos h3).trans ((if_pos ⟨rfl, rfl⟩).trans hr))))]
            clear h h2 h6 h4 h3
            go_enter Try.func43, Try.ntmps43
            go_upto_region 22 with (first | ((with_reducible refine gate_dst (N := 5) rfl ?_); refine boxQ 5 #[.int .i64 y.f0, .int .i64 y.f1, .int .i64 y.f2, .int .i64 y.f3, .int .i64 y.f4, .int .i64 y.f5, .int .i64 y.f6.f0, .int .i64 y.f6.f1] 64 HB ?_; clear HB; intro gb w1 _ GW BK _ HB; have hcf := hcf8 BK; obtain ⟨_, _, _, _, _, _, _, _, _, _, _, _, _, _, _, _⟩ := hcf) | ((with_reducible refine gate_dst (N := 6) rfl ?_); refine boxQ 6 #[.int .i64 0, .int .i64 0, .int .i64 0, .int .i64 0, .int .i64 0] 23 HB ?_; intro gx wx eg GX BX hb HX; have NX := bn1 BK eg.out; have NX2 := bn2 BK eg.out; replace BK := bbw BK hb.out; clear HB hb eg; have HB := HX; clear HX; have hcf := hcf8 BK; obtain ⟨_, _, _, _, _, _, _, _, _, _, _, _, _, _, _, _⟩ := hcf; have hcf := hcf5 BX; obtain ⟨_, _, _, _, _, _, _, _, _, _⟩ := hcf; have hnx := NX.out; have hnx2 := NX2.out; replace xa_5 := (HB.out.cell (World.block_lt_of_cell? w _ xa_5)).trans xa_5; replace xb_5 := (HB.out.cell (World.block_lt_of_cell? w _ xb_5)).trans xb_5))
            have hS : ∀ w' : World, w'.heap[gb]? = some (.cells #[.int .i64 y.f0, .int .i64 y.f1, .int .i64 y.f2, .int .i64 y.f3, .int .i64 y.f4, .int .i64 y.f5, .int .i64 y.f6.f0, .int .i64 y.f6.f1] 64 (0, 0)) → Below w.heap.size w w' → (w'.cell? (adA.add (y.f2.toNat * 5)) = some (.int .i64 la.f0) ∧ w'.cell? ⟨(adA.add (y.f2.toNat * 5)).block, (adA.add (y.f2.toNat * 5)).off + 1, none⟩ = some (.int .i64 la.f1) ∧ w'.cell? ⟨(adA.add (y.f2.toNat * 5)).block, (adA.add (y.f2.toNat * 5)).off + 2, none⟩ = some (.int .i64 la.f2) ∧ w'.cell? ⟨(adA.add (y.f2.toNat * 5)).block, (adA.add (y.f2.toNat * 5)).off + 3, none⟩ = some (.int .i64 la.f3) ∧ w'.cell? ⟨(adA.add (y.f2.toNat * 5)).block, (adA.add (y.f2.toNat * 5)).off + 4, none⟩ = some (.int .i64 la.f4) ∧ w'.cell? (adA.add (y.f3.toNat * 5)) = some (.int .i64 lb.f0) ∧ w'.cell? ⟨(adA.add (y.f3.toNat * 5)).block, (adA.add (y.f3.toNat * 5)).off + 1, none⟩ = some (.int .i64 lb.f1) ∧ w'.cell? ⟨(adA.add (y.f3.toNat * 5)).block, (adA.add (y.f3.toNat * 5)).off + 2, none⟩ = some (.int .i64 lb.f2) ∧ w'.cell? ⟨(adA.add (y.f3.toNat * 5)).block, (adA.add (y.f3.toNat * 5)).off + 3, none⟩ = some (.int .i64 lb.f3) ∧ w'.cell? ⟨(adA.add (y.f3.toNat * 5)).block, (adA.add (y.f3.toNat * 5)).off + 4, none⟩ = some (.int .i64 lb.f4) ∧ w'.cell? ⟨gb, 2, none⟩ = some (.int .i64 y.f2) ∧ w'.cell? ⟨gb, 3, none⟩ = some (.int .i64 y.f3)) := fun w' hb hB => ⟨(hB.cell (World.block_lt_of_cell? w _ xa_0)).trans xa_0, (hB.cell (World.block_lt_of_cell? w _ xa_1)).trans xa_1, (hB.cell (World.block_lt_of_cell? w _ xa_2)).trans xa_2, (hB.cell (World.block_lt_of_cell? w _ xa_3)).trans xa_3, (hB.cell (World.block_lt_of_cell? w _ xa_4)).trans xa_4, (hB.cell (World.block_lt_of_cell? w _ xb_0)).trans xb_0, (hB.cell (World.block_lt_of_cell? w _ xb_1)).trans xb_1, (hB.cell (World.block_lt_of_cell? w _ xb_2)).trans xb_2, (hB.cell (World.block_lt_of_cell? w _ xb_3)).trans xb_3, (hB.cell (World.block_lt_of_cell? w _ xb_4)).trans xb_4, hcz ⟨hb⟩ 2, hcz ⟨hb⟩ 3⟩
            refine start_ (n := 15) (S := fun w' => w'.cell? (adA.add (y.f2.toNat * 5)) = some (.int .i64 la.f0) ∧ w'.cell? ⟨(adA.add (y.f2.toNat * 5)).block, (adA.add (y.f2.toNat * 5)).off + 1, none⟩ = some (.int .i64 la.f1) ∧ w'.cell? ⟨(adA.add (y.f2.toNat * 5)).block, (adA.add (y.f2.toNat * 5)).off + 2, none⟩ = some (.int .i64 la.f2) ∧ w'.cell? ⟨(adA.add (y.f2.toNat * 5)).block, (adA.add (y.f2.toNat * 5)).off + 3, none⟩ = some (.int .i64 la.f3) ∧ w'.cell? ⟨(adA.add (y.f2.toNat * 5)).block, (adA.add (y.f2.toNat * 5)).off + 4, none⟩ = some (.int .i64 la.f4) ∧ w'.cell? (adA.add (y.f3.toNat * 5)) = some (.int .i64 lb.f0) ∧ w'.cell? ⟨(adA.add (y.f3.toNat * 5)).block, (adA.add (y.f3.toNat * 5)).off + 1, none⟩ = some (.int .i64 lb.f1) ∧ w'.cell? ⟨(adA.add (y.f3.toNat * 5)).block, (adA.add (y.f3.toNat * 5)).off + 2, none⟩ = some (.int .i64 lb.f2) ∧ w'.cell? ⟨(adA.add (y.f3.toNat * 5)).block, (adA.add (y.f3.toNat * 5)).off + 3, none⟩ = some (.int .i64 lb.f3) ∧ w'.cell? ⟨(adA.add (y.f3.toNat * 5)).block, (adA.add (y.f3.toNat * 5)).off + 4, none⟩ = some (.int .i64 lb.f4) ∧ w'.cell? ⟨gb, 2, none⟩ = some (.int .i64 y.f2) ∧ w'.cell? ⟨gb, 3, none⟩ = some (.int .i64 y.f3)) (ds := []) #[false, false, false, false, false, false, false, false, false, false, false, false, false, false, false] (by kernel_rfl) rfl rfl (hS _ (blk_drew (pkA BK).out) (below_drew1 (bpk HB).out)) (fun hHeld => ?_)
            refine with_tabW Otab22 Obits22 (fun HT_ HW_ => ?_)
            replace BK := Aside0.mk (blk_drew (pkA BK).out)
            replace BX := Aside0.mk (blk_drew (pkA BX).out)
            replace HB := Aside0.mk (below_drew1 (bpk HB).out)
            generalize World.drew _ = wa at BK BX HB hHeld ⊢
            refine pureQ 0 123 HT_.out ?_
            refine pureQ 1 124 HT_.out ?_
            refine pureQ 5 128 HT_.out ?_
            refine pureQ 6 129 HT_.out ?_
            refine takeQ 2 125 HT_.out HW_.out hHeld ?_
            refine pureQ 3 126 HT_.out ?_
            refine takeQ 4 127 HT_.out HW_.out hHeld ?_
            refine takeQ 7 130 HT_.out HW_.out hHeld ?_
            refine pureQ 8 131 HT_.out ?_
            refine takeQ 9 132 HT_.out HW_.out hHeld ?_
            refine oneQ 10 133 HT_.out (fun K hK => ?_)
            refine goesQ Try.func14 #[.agg #[.int .i64 la.f0, .int .i64 la.f1, .int .i64 la.f2, .int .i64 la.f3, .int .i64 la.f4], .agg #[.int .i64 lb.f0, .int .i64 lb.f1, .int .i64 lb.f2, .int .i64 lb.f3, .int .i64 lb.f4]] ?_
            refine (refAdd_c la lb r hr _).mono ?_
            rintro e w' ⟨rfl, hb⟩
            refine ⟨_, rfl, ?_⟩
            replace BK := bbw BK hb
            replace BX := bbw BX hb
            replace HB := bst HB hb
            clear hb
            refine hK.out _ _ (hS _ BK.out HB.out) (fun hHeld => ?_)
            clear hK K
            refine normQ (N := 133) ?_
            refine pureQ 11 134 HT_.out ?_
            refine pureQ 12 135 HT_.out ?_
            refine one_ (i := 13) (N := none) #[true, true, true, true, true, true, true, true, true, true, true, true, true, true, false] rfl rfl (one_of HT_.out (by kernel_rfl)) (by decide) (fun K hK => ?_)
            obtain ⟨wz, hwz⟩ : ∃ wz, wz = (((((w').setCell ⟨gx, 0, none⟩ (.int .i64 r.1.f0)).setCell ⟨gx, 1, none⟩ (.int .i64 r.1.f1)).setCell ⟨gx, 2, none⟩ (.int .i64 r.1.f2)).setCell ⟨gx, 3, none⟩ (.int .i64 r.1.f3)).setCell ⟨gx, 4, none⟩ (.int .i64 r.1.f4) := ⟨_, rfl⟩
            obtain ⟨z1, z2, z3⟩ := set5 BX.out _ _ _ _ _ wz hwz
            have hfx := hcf5 BX
            obtain ⟨_, _, _, _, _, _, _, _, _, _⟩ := hfx
            refine skip_ (w1 := wz) (by rfl) rfl (by rw [hwz]; go_simp) ?_
            clear hwz
            replace BK := Aside0.mk (z2 _ _ NX.out BK.out)
            replace HB := Aside0.mk (z3 _ GX.out HB.out)
            clear BX
            have BX := Aside0.mk z1
            clear z1 z2 z3
            refine hK.out _ _ (hS _ BK.out HB.out) (fun hHeld => ?_)
            clear hK K
            refine pureQ 14 7 HT_.out ?_
            refine done_ (done_of HT_.out (by kernel_rfl)) ?_
            clear hHeld HT_ HW_ hS
            go_wp2
            refine bodyPost_ret (results_ct rfl _ _ gx 23 _ (0, 0) _ rfl (pkA BX).out Try.underlying23 rfl (by kernel_rfl)) rfl ?_
            exact ⟨rfl, (bpk HB).out⟩
          · have e4 : (y.f0 == 4) = false := beq_eq_false_iff_ne.mpr h3
            have h5 : y.f0 = 5 := by omega
            have e5 : (y.f0 == 5) = true := beq_iff_eq.mpr h5
            obtain ⟨r, hr⟩ : ∃ r, subS la lb = r := ⟨_, rfl⟩
            rw [show ofV y.f0 y.f4 la true lb true = r from (if_neg h).trans ((if_neg h2).trans ((if_neg h4).trans ((if_neg h3).trans ((if_pos h5).trans ((if_pos ⟨rfl, rfl⟩).trans hr)))))]
            clear h h2 h6 h4 h3 h5
            go_enter Try.func43, Try.ntmps43
            go_upto_region 23 with (first | ((with_reducible refine gate_dst (N := 5) rfl ?_); refine boxQ 5 #[.int .i64 y.f0, .int .i64 y.f1, .int .i64 y.f2, .int .i64 y.f3, .int .i64 y.f4, .int .i64 y.f5, .int .i64 y.f6.f0, .int .i64 y.f6.f1] 64 HB ?_; clear HB; intro gb w1 _ GW BK _ HB; have hcf := hcf8 BK; obtain ⟨_, _, _, _, _, _, _, _, _, _, _, _, _, _, _, _⟩ := hcf) | ((with_reducible refine gate_dst (N := 6) rfl ?_); refine boxQ 6 #[.int .i64 0, .int .i64 0, .int .i64 0, .int .i64 0, .int .i64 0] 23 HB ?_; intro gx wx eg GX BX hb HX; have NX := bn1 BK eg.out; have NX2 := bn2 BK eg.out; replace BK := bbw BK hb.out; clear HB hb eg; have HB := HX; clear HX; have hcf := hcf8 BK; obtain ⟨_, _, _, _, _, _, _, _, _, _, _, _, _, _, _, _⟩ := hcf; have hcf := hcf5 BX; obtain ⟨_, _, _, _, _, _, _, _, _, _⟩ := hcf; have hnx := NX.out; have hnx2 := NX2.out; replace xa_5 := (HB.out.cell (World.block_lt_of_cell? w _ xa_5)).trans xa_5; replace xb_5 := (HB.out.cell (World.block_lt_of_cell? w _ xb_5)).trans xb_5))
            have hS : ∀ w' : World, w'.heap[gb]? = some (.cells #[.int .i64 y.f0, .int .i64 y.f1, .int .i64 y.f2, .int .i64 y.f3, .int .i64 y.f4, .int .i64 y.f5, .int .i64 y.f6.f0, .int .i64 y.f6.f1] 64 (0, 0)) → Below w.heap.size w w' → (w'.cell? (adA.add (y.f2.toNat * 5)) = some (.int .i64 la.f0) ∧ w'.cell? ⟨(adA.add (y.f2.toNat * 5)).block, (adA.add (y.f2.toNat * 5)).off + 1, none⟩ = some (.int .i64 la.f1) ∧ w'.cell? ⟨(adA.add (y.f2.toNat * 5)).block, (adA.add (y.f2.toNat * 5)).off + 2, none⟩ = some (.int .i64 la.f2) ∧ w'.cell? ⟨(adA.add (y.f2.toNat * 5)).block, (adA.add (y.f2.toNat * 5)).off + 3, none⟩ = some (.int .i64 la.f3) ∧ w'.cell? ⟨(adA.add (y.f2.toNat * 5)).block, (adA.add (y.f2.toNat * 5)).off + 4, none⟩ = some (.int .i64 la.f4) ∧ w'.cell? (adA.add (y.f3.toNat * 5)) = some (.int .i64 lb.f0) ∧ w'.cell? ⟨(adA.add (y.f3.toNat * 5)).block, (adA.add (y.f3.toNat * 5)).off + 1, none⟩ = some (.int .i64 lb.f1) ∧ w'.cell? ⟨(adA.add (y.f3.toNat * 5)).block, (adA.add (y.f3.toNat * 5)).off + 2, none⟩ = some (.int .i64 lb.f2) ∧ w'.cell? ⟨(adA.add (y.f3.toNat * 5)).block, (adA.add (y.f3.toNat * 5)).off + 3, none⟩ = some (.int .i64 lb.f3) ∧ w'.cell? ⟨(adA.add (y.f3.toNat * 5)).block, (adA.add (y.f3.toNat * 5)).off + 4, none⟩ = some (.int .i64 lb.f4) ∧ w'.cell? ⟨gb, 2, none⟩ = some (.int .i64 y.f2) ∧ w'.cell? ⟨gb, 3, none⟩ = some (.int .i64 y.f3)) := fun w' hb hB => ⟨(hB.cell (World.block_lt_of_cell? w _ xa_0)).trans xa_0, (hB.cell (World.block_lt_of_cell? w _ xa_1)).trans xa_1, (hB.cell (World.block_lt_of_cell? w _ xa_2)).trans xa_2, (hB.cell (World.block_lt_of_cell? w _ xa_3)).trans xa_3, (hB.cell (World.block_lt_of_cell? w _ xa_4)).trans xa_4, (hB.cell (World.block_lt_of_cell? w _ xb_0)).trans xb_0, (hB.cell (World.block_lt_of_cell? w _ xb_1)).trans xb_1, (hB.cell (World.block_lt_of_cell? w _ xb_2)).trans xb_2, (hB.cell (World.block_lt_of_cell? w _ xb_3)).trans xb_3, (hB.cell (World.block_lt_of_cell? w _ xb_4)).trans xb_4, hcz ⟨hb⟩ 2, hcz ⟨hb⟩ 3⟩
            refine start_ (n := 15) (S := fun w' => w'.cell? (adA.add (y.f2.toNat * 5)) = some (.int .i64 la.f0) ∧ w'.cell? ⟨(adA.add (y.f2.toNat * 5)).block, (adA.add (y.f2.toNat * 5)).off + 1, none⟩ = some (.int .i64 la.f1) ∧ w'.cell? ⟨(adA.add (y.f2.toNat * 5)).block, (adA.add (y.f2.toNat * 5)).off + 2, none⟩ = some (.int .i64 la.f2) ∧ w'.cell? ⟨(adA.add (y.f2.toNat * 5)).block, (adA.add (y.f2.toNat * 5)).off + 3, none⟩ = some (.int .i64 la.f3) ∧ w'.cell? ⟨(adA.add (y.f2.toNat * 5)).block, (adA.add (y.f2.toNat * 5)).off + 4, none⟩ = some (.int .i64 la.f4) ∧ w'.cell? (adA.add (y.f3.toNat * 5)) = some (.int .i64 lb.f0) ∧ w'.cell? ⟨(adA.add (y.f3.toNat * 5)).block, (adA.add (y.f3.toNat * 5)).off + 1, none⟩ = some (.int .i64 lb.f1) ∧ w'.cell? ⟨(adA.add (y.f3.toNat * 5)).block, (adA.add (y.f3.toNat * 5)).off + 2, none⟩ = some (.int .i64 lb.f2) ∧ w'.cell? ⟨(adA.add (y.f3.toNat * 5)).block, (adA.add (y.f3.toNat * 5)).off + 3, none⟩ = some (.int .i64 lb.f3) ∧ w'.cell? ⟨(adA.add (y.f3.toNat * 5)).block, (adA.add (y.f3.toNat * 5)).off + 4, none⟩ = some (.int .i64 lb.f4) ∧ w'.cell? ⟨gb, 2, none⟩ = some (.int .i64 y.f2) ∧ w'.cell? ⟨gb, 3, none⟩ = some (.int .i64 y.f3)) (ds := []) #[false, false, false, false, false, false, false, false, false, false, false, false, false, false, false] (by kernel_rfl) rfl rfl (hS _ (blk_drew (pkA BK).out) (below_drew1 (bpk HB).out)) (fun hHeld => ?_)
            refine with_tabW Otab23 Obits23 (fun HT_ HW_ => ?_)
            replace BK := Aside0.mk (blk_drew (pkA BK).out)
            replace BX := Aside0.mk (blk_drew (pkA BX).out)
            replace HB := Aside0.mk (below_drew1 (bpk HB).out)
            generalize World.drew _ = wa at BK BX HB hHeld ⊢
            refine pureQ 0 136 HT_.out ?_
            refine pureQ 1 137 HT_.out ?_
            refine pureQ 5 141 HT_.out ?_
            refine pureQ 6 142 HT_.out ?_
            refine takeQ 2 138 HT_.out HW_.out hHeld ?_
            refine pureQ 3 139 HT_.out ?_
            refine takeQ 4 140 HT_.out HW_.out hHeld ?_
            refine takeQ 7 143 HT_.out HW_.out hHeld ?_
            refine pureQ 8 144 HT_.out ?_
            refine takeQ 9 145 HT_.out HW_.out hHeld ?_
            refine oneQ 10 146 HT_.out (fun K hK => ?_)
            refine goesQ Try.func15 #[.agg #[.int .i64 la.f0, .int .i64 la.f1, .int .i64 la.f2, .int .i64 la.f3, .int .i64 la.f4], .agg #[.int .i64 lb.f0, .int .i64 lb.f1, .int .i64 lb.f2, .int .i64 lb.f3, .int .i64 lb.f4]] ?_
            refine (refSub_c la lb r hr _).mono ?_
            rintro e w' ⟨rfl, hb⟩
            refine ⟨_, rfl, ?_⟩
            replace BK := bbw BK hb
            replace BX := bbw BX hb
            replace HB := bst HB hb
            clear hb
            refine hK.out _ _ (hS _ BK.out HB.out) (fun hHeld => ?_)
            clear hK K
            refine normQ (N := 146) ?_
            refine pureQ 11 147 HT_.out ?_
            refine pureQ 12 148 HT_.out ?_
            refine one_ (i := 13) (N := none) #[true, true, true, true, true, true, true, true, true, true, true, true, true, true, false] rfl rfl (one_of HT_.out (by kernel_rfl)) (by decide) (fun K hK => ?_)
            obtain ⟨wz, hwz⟩ : ∃ wz, wz = (((((w').setCell ⟨gx, 0, none⟩ (.int .i64 r.1.f0)).setCell ⟨gx, 1, none⟩ (.int .i64 r.1.f1)).setCell ⟨gx, 2, none⟩ (.int .i64 r.1.f2)).setCell ⟨gx, 3, none⟩ (.int .i64 r.1.f3)).setCell ⟨gx, 4, none⟩ (.int .i64 r.1.f4) := ⟨_, rfl⟩
            obtain ⟨z1, z2, z3⟩ := set5 BX.out _ _ _ _ _ wz hwz
            have hfx := hcf5 BX
            obtain ⟨_, _, _, _, _, _, _, _, _, _⟩ := hfx
            refine skip_ (w1 := wz) (by rfl) rfl (by rw [hwz]; go_simp) ?_
            clear hwz
            replace BK := Aside0.mk (z2 _ _ NX.out BK.out)
            replace HB := Aside0.mk (z3 _ GX.out HB.out)
            clear BX
            have BX := Aside0.mk z1
            clear z1 z2 z3
            refine hK.out _ _ (hS _ BK.out HB.out) (fun hHeld => ?_)
            clear hK K
            refine pureQ 14 7 HT_.out ?_
            refine done_ (done_of HT_.out (by kernel_rfl)) ?_
            clear hHeld HT_ HW_ hS
            go_wp2
            refine bodyPost_ret (results_ct rfl _ _ gx 23 _ (0, 0) _ rfl (pkA BX).out Try.underlying23 rfl (by kernel_rfl)) rfl ?_
            exact ⟨rfl, (bpk HB).out⟩
  · have hV : ofV y.f0 y.f4 (rd_T23 fs y.f2) (oks.getD y.f2.toNat false) (rd_T23 fs y.f3) (oks.getD y.f3.toNat false) = (z23, false) := by
      unfold ofV
      rw [if_neg h, if_neg h2, if_neg (by omega), if_neg (by omega), if_neg (by omega)]
    rw [hV]
    have e1 : (y.f0 == 1) = false := beq_eq_false_iff_ne.mpr (by omega)
    have e2 : (y.f0 == 2) = false := beq_eq_false_iff_ne.mpr (by omega)
    have e6 : (y.f0 == 6) = false := beq_eq_false_iff_ne.mpr (by omega)
    have e4 : (y.f0 == 4) = false := beq_eq_false_iff_ne.mpr (by omega)
    have e5 : (y.f0 == 5) = false := beq_eq_false_iff_ne.mpr (by omega)
    clear hV h h2 h6
    go_enter Try.func43, Try.ntmps43
    go_wp2_with (first | ((with_reducible refine gate_dst (N := 5) rfl ?_); refine boxQ 5 #[.int .i64 y.f0, .int .i64 y.f1, .int .i64 y.f2, .int .i64 y.f3, .int .i64 y.f4, .int .i64 y.f5, .int .i64 y.f6.f0, .int .i64 y.f6.f1] 64 HB ?_; clear HB; intro gb w1 _ GW BK _ HB; have hcf := hcf8 BK; obtain ⟨_, _, _, _, _, _, _, _, _, _, _, _, _, _, _, _⟩ := hcf) | ((with_reducible refine gate_dst (N := 6) rfl ?_); refine boxQ 6 #[.int .i64 0, .int .i64 0, .int .i64 0, .int .i64 0, .int .i64 0] 23 HB ?_; intro gx wx eg GX BX hb HX; have NX := bn1 BK eg.out; have NX2 := bn2 BK eg.out; replace BK := bbw BK hb.out; clear HB hb eg; have HB := HX; clear HX; have hcf := hcf8 BK; obtain ⟨_, _, _, _, _, _, _, _, _, _, _, _, _, _, _, _⟩ := hcf; have hcf := hcf5 BX; obtain ⟨_, _, _, _, _, _, _, _, _, _⟩ := hcf; have hnx := NX.out; have hnx2 := NX2.out) | ((with_reducible refine gate_store (p := 6) (t := 23) rfl ?_); refine store_box rfl rfl rfl gx 23 _ _ (pkA BX).out rfl rfl (by kernel_rfl) rfl (by kernel_rfl) ?_; intro ws hbs hgs; have HS := Aside0.mk (Below_boxed (bpk HB).out (Nat.le_refl _) GX.out hgs); clear HB BX BK hgs; have HB := HS; have BX := Aside0.mk hbs; clear HS hbs))
    refine bodyPost_ret (results_ct rfl _ _ gx 23 _ (0, 0) _ rfl (pkA BX).out Try.underlying23 rfl (by kernel_rfl)) rfl ?_
    exact ⟨rfl, (bpk HB).out⟩
end Go.Proofs.Ytllfopbchdahoaa.P
