/- What the law's proof needs of F14. -/
import Derived.Test.YtllfopbchdahoaaTrFF12
namespace Go.Proofs.Ytllfopbchdahoaa.P
open Go.RowKit Go.Proofs.YtllfopbchdahoaaW.PrintWords Go.Proofs.YtllfopbchdahoaaW.PrintLast Go.Proofs.YtllfopbchdahoaaW.PrintMore Go.Proofs.YtllfopbchdahoaaO
attribute [local go_sem] max2_int min2_int max_two min_two max_three min_three max_four min_four
set_option linter.unusedVariables false
set_option linter.unusedSimpArgs false
theorem numS_small {c : Int} (h0 : -2147483648 ≤ c) (h1 : c ≤ 2147483647) : numS c = (⟨0, 0, 0, 0, c⟩, true) := by
  have hf : M.Fit ⟨0, 0, 0, 0, c⟩ := ⟨by show (-1099511627776 : Int) ≤ c; omega, by show c ≤ 1099511627776; omega, .inl ⟨rfl, rfl, rfl, rfl⟩⟩
  have : M.told [] c = (⟨0, 0, 0, 0, c⟩, true) := by
    show (if M.Fit ⟨0, 0, 0, 0, c⟩ then ((⟨0, 0, 0, 0, c⟩ : M.L5), true) else (M.zero5, false)) = _
    rw [if_pos hf]
  unfold numS r5 s5
  rw [this]
section
variable {P : Program} {ops : Array Oper} {Q : Exit → Act → World → Prop}
/-- A call of a function that lies in a slot. -/
theorem goesD {oi : Oper} {a : Act} {w : World} {K : Act → World → Prop} {N : Option Tmp} {f : FuncId} {fn : Func} {t : Tmp} {xs : Array Operand} {ts : Array TypeId} (hf : P.funcs[f]? = some fn) (args : Array Value)
    (h : Calls P f args w fun e w' => ∃ v, e = .returned v ∧ K (a.put N v) w') (hv : a.eval (.tmp t) = .func (.func f) #[] #[])
    (hname : (fn.name == "runtime.NumGoroutine") = false := by kernel_rfl) (hb : fn.body.isSome = true := by rfl)
    (hw : Region.wanted oi (yielded ops a.tmps) = true := by rfl) (hN : oi.dst = N := by rfl) (hop : oi.op = .call { callee := .value (.tmp t), args := xs, argTypes := ts } := by rfl)
    (hargs : xs.map a.eval = args := by ((try simp only [List.map_toArray, List.map_cons, List.map_nil]); first | done | rfl)) : if Region.wanted oi (yielded ops a.tmps) = true then Oper.wp P oi a w K Q else K (a.put N undef) w := by
  refine call_ f args hw hN ?_ h
  have he := enters_ hf hname hb args w
  unfold execOp
  simp [hop, resolve, Deferred.ofValue, invoke, hv, hargs, he]
end
/-- A table in memory: the box, and what its two lists hold. -/
structure TB (w : World) (gt : Nat) (Af Ao : Option Addr) (n cf co : Nat) (T : List S23 × List Bool) : Prop where
  lf : T.1.length = n
  lo : T.2.length = n
  h0 : w.cell? ⟨gt, 0, none⟩ = some (.slice Af n cf)
  h1 : w.cell? ⟨gt, 1, none⟩ = some (.slice Ao n co)
  rf : Kd.C k23 w Af n T.1
  ro : Kd.C Kd.bool w Ao n T.2
def N39T : Bool × List (List Nat × List Nat) := (true, [([], []), ([0], [0]), ([1], [1]), ([2], [2]), ([], []), ([4], [4]), ([3, 5], [3, 5]), ([6], [6]), ([7], [7]), ([8], [8]), ([8], [8]), ([9, 8, 0, 1, 2, 3, 4, 5, 6, 7, 8, 9, 10], [9]), ([10, 11, 0, 1, 2, 3, 4, 5, 6, 7, 8, 9, 10, 11], [10])])
def N39B : List Nat := [0, 1, 3, 7, 0, 16, 63, 127, 255, 511, 511, 2047, 4095]
theorem N39tab : rtab .any (opsOf Try.f39 3) = N39T := by kernel_rfl
theorem N39bits : waitsOk N39T.2 N39B = true := by kernel_rfl
def N49T : Bool × List (List Nat × List Nat) := (true, [([], []), ([], []), ([1], [1]), ([2], [2]), ([3], [3]), ([], []), ([5], [5]), ([4, 6], [4, 6]), ([7], [7]), ([], []), ([9], [9]), ([10], [10]), ([11], [11]), ([], []), ([13], [13]), ([12, 14], [12, 14]), ([15], [15]), ([0, 8, 16], [0, 8, 16]), ([17], [17]), ([17], [17]), ([18, 17, 0, 1, 2, 3, 4, 5, 6, 7, 8, 9, 10, 11, 12, 13, 14, 15, 16, 17, 18, 19], [18]), ([19, 20, 0, 1, 2, 3, 4, 5, 6, 7, 8, 9, 10, 11, 12, 13, 14, 15, 16, 17, 18, 19, 20], [19])])
def N49B : List Nat := [0, 0, 2, 6, 14, 0, 32, 126, 254, 0, 512, 1536, 3584, 0, 8192, 32256, 65024, 131071, 262143, 262143, 1048575, 2097151]
theorem N49tab : rtab .any (opsOf Try.f49 3) = N49T := by kernel_rfl
theorem N49bits : waitsOk N49T.2 N49B = true := by kernel_rfl
theorem TB.up {w W : World} {gt : Nat} {Af Ao : Option Addr} {n cf co : Nat} {T : List S23 × List Bool} (h : TB w gt Af Ao n cf co T) (hb : Below w.heap.size w W) : TB W gt Af Ao n cf co T :=
  ⟨h.lf, h.lo, (hb.cell (World.block_lt_of_cell? w _ h.h0)).trans h.h0, (hb.cell (World.block_lt_of_cell? w _ h.h1)).trans h.h1, Kd.C_below h.rf hb, Kd.C_below h.ro hb⟩
set_option maxHeartbeats 8000000 in
set_option maxRecDepth 100000 in
theorem const_calls (gt : Nat) (Af Ao : Option Addr) (n cf co : Nat) (T : List S23 × List Bool) (y : S64) (w : World) (hT : TB w gt Af Ao n cf co T) (h : y.f0 = 1) (h0 : -2147483648 ≤ y.f4) (h1 : y.f4 ≤ 2147483647) : Calls Try.prog 38 #[.pointer (some ⟨gt, 0, none⟩), .agg #[.int .i64 y.f0, .int .i64 y.f1, .int .i64 y.f2, .int .i64 y.f3, .int .i64 y.f4, .int .i64 y.f5, .int .i64 y.f6.f0, .int .i64 y.f6.f1]] w (Ret5 (ofV y.f0 y.f4 (rd_T23 T.1 y.f2) (T.2.getD y.f2.toNat false) (rd_T23 T.1 y.f3) (T.2.getD y.f3.toNat false)) w) := by
  have hu64 := Try.underlying64
  have hu23 := Try.underlying23
  have hu74 := Try.underlying74
  have HB := Aside0.mk (Below.refl w.heap.size w)
  have KT := Aside0.mk hT
  have xt_0 := hT.h0
  have xt_1 := hT.h1
  clear hT
  have hV : (ofV y.f0 y.f4 (rd_T23 T.1 y.f2) (T.2.getD y.f2.toNat false) (rd_T23 T.1 y.f3) (T.2.getD y.f3.toNat false)) = (⟨0, 0, 0, 0, y.f4⟩, true) := by unfold ofV; rw [if_pos h]; exact numS_small h0 h1
  rw [hV]
  clear hV h
  go_enter Try.func38, Try.ntmps38
  go_wp2_with (first | ((with_reducible refine gate_dst (N := 3) rfl ?_); refine boxQ 3 #[.int .i64 y.f0, .int .i64 y.f1, .int .i64 y.f2, .int .i64 y.f3, .int .i64 y.f4, .int .i64 y.f5, .int .i64 y.f6.f0, .int .i64 y.f6.f1] 64 HB ?_; clear HB; intro gb w1 _ GW BK _ HB; have hcf := hcf8 BK; obtain ⟨_, _, _, _, _, _, _, _, _, _, _, _, _, _, _, _⟩ := hcf) | ((with_reducible refine gate_dst (N := 4) rfl ?_); refine boxQ 4 #[.int .i64 0, .int .i64 0, .int .i64 0, .int .i64 0, .int .i64 0] 23 HB ?_; intro gx wx eg GX BX hb HX; have NX := bn1 BK eg.out; have NX2 := bn2 BK eg.out; replace BK := bbw BK hb.out; clear HB hb eg; have HB := HX; clear HX; have hcf := hcf8 BK; obtain ⟨_, _, _, _, _, _, _, _, _, _, _, _, _, _, _, _⟩ := hcf; have hcf := hcf5 BX; obtain ⟨_, _, _, _, _, _, _, _, _, _⟩ := hcf; have hnx := NX.out; have hnx2 := NX2.out) | ((with_reducible refine gate_store (p := 4) (t := 23) rfl ?_); refine store_box rfl rfl rfl gx 23 _ _ (pkA BX).out rfl rfl (by kernel_rfl) rfl (by kernel_rfl) ?_; intro ws hbs hgs; have HS := Aside0.mk (Below_boxed (bpk HB).out (Nat.le_refl _) GX.out hgs); clear HB BX BK hgs; have HB := HS; have BX := Aside0.mk hbs; clear HS hbs))
  refine bodyPost_ret (results_ct rfl _ _ gx 23 _ (0, 0) _ rfl (pkA BX).out Try.underlying23 rfl (by kernel_rfl)) rfl ?_
  exact ⟨rfl, (bpk HB).out⟩
set_option maxHeartbeats 8000000 in
set_option maxRecDepth 100000 in
theorem tneg_calls (gt : Nat) (Af Ao : Option Addr) (n cf co : Nat) (T : List S23 × List Bool) (y : S64) (w : World) (hT : TB w gt Af Ao n cf co T) (h : y.f0 = 2) (hA : 0 ≤ y.f2 ∧ y.f2 < (n : Int)) : Calls Try.prog 39 #[.pointer (some ⟨gt, 0, none⟩), .agg #[.int .i64 y.f0, .int .i64 y.f1, .int .i64 y.f2, .int .i64 y.f3, .int .i64 y.f4, .int .i64 y.f5, .int .i64 y.f6.f0, .int .i64 y.f6.f1]] w (Ret5 (ofV y.f0 y.f4 (rd_T23 T.1 y.f2) (T.2.getD y.f2.toNat false) (rd_T23 T.1 y.f3) (T.2.getD y.f3.toNat false)) w) := by
  have hu64 := Try.underlying64
  have hu23 := Try.underlying23
  have hu74 := Try.underlying74
  have HB := Aside0.mk (Below.refl w.heap.size w)
  have KT := Aside0.mk hT
  have xt_0 := hT.h0
  have xt_1 := hT.h1
  clear hT
  have hV : (ofV y.f0 y.f4 (rd_T23 T.1 y.f2) (T.2.getD y.f2.toNat false) (rd_T23 T.1 y.f3) (T.2.getD y.f3.toNat false)) = if T.2.getD y.f2.toNat false = true then negS (rd_T23 T.1 y.f2) else (z23, false) := by unfold ofV; rw [if_neg (by omega), if_pos h]
  rw [hV]
  clear hV h
  obtain ⟨pA, qA⟩ := hA
  obtain ⟨adA, ee, xA_0, xA_1, xA_2, xA_3, xA_4⟩ := at_T23 KT.out.rf y.f2 pA qA
  cases ee
  obtain ⟨aoA, ee, xA_5⟩ := Kd.at_bool KT.out.ro y.f2 pA qA
  cases ee
  replace xA_5 : w.cell? _ = some (.bool (T.2.getD y.f2.toNat false)) := xA_5
  generalize rd_T23 T.1 y.f2 = la at *
  generalize T.2.getD y.f2.toNat false = oa at *
  replace pA := eq_true pA
  replace qA := eq_true qA
  cases oa with
  | false =>
    rw [if_neg (by decide)]
    go_enter Try.func39, Try.ntmps39
    go_upto_region 1 with (first | ((with_reducible refine gate_dst (N := 3) rfl ?_); refine boxQ 3 #[.int .i64 y.f0, .int .i64 y.f1, .int .i64 y.f2, .int .i64 y.f3, .int .i64 y.f4, .int .i64 y.f5, .int .i64 y.f6.f0, .int .i64 y.f6.f1] 64 HB ?_; clear HB; intro gb w1 _ GW BK _ HB; have hcf := hcf8 BK; obtain ⟨_, _, _, _, _, _, _, _, _, _, _, _, _, _, _, _⟩ := hcf) | ((with_reducible refine gate_dst (N := 4) rfl ?_); refine boxQ 4 #[.int .i64 0, .int .i64 0, .int .i64 0, .int .i64 0, .int .i64 0] 23 HB ?_; intro gx wx eg GX BX hb HX; have NX := bn1 BK eg.out; have NX2 := bn2 BK eg.out; replace BK := bbw BK hb.out; clear HB hb eg; have HB := HX; clear HX; have hcf := hcf8 BK; obtain ⟨_, _, _, _, _, _, _, _, _, _, _, _, _, _, _, _⟩ := hcf; have hcf := hcf5 BX; obtain ⟨_, _, _, _, _, _, _, _, _, _⟩ := hcf; have hnx := NX.out; have hnx2 := NX2.out; replace xt_0 := (HB.out.cell (World.block_lt_of_cell? w _ xt_0)).trans xt_0; replace xt_1 := (HB.out.cell (World.block_lt_of_cell? w _ xt_1)).trans xt_1; replace xA_5 := (HB.out.cell (World.block_lt_of_cell? w _ xA_5)).trans xA_5))
    go_quiet (fail)
    go_wp2_with (first | ((with_reducible refine gate_store (p := 4) (t := 23) rfl ?_); refine store_box rfl rfl rfl gx 23 _ _ (pkA BX).out rfl rfl (by kernel_rfl) rfl (by kernel_rfl) ?_; intro ws hbs hgs; have HS := Aside0.mk (Below_boxed (bpk HB).out (Nat.le_refl _) GX.out hgs); clear HB BX BK hgs; have HB := HS; have BX := Aside0.mk hbs; clear HS hbs))
    refine bodyPost_ret (results_ct rfl _ _ gx 23 _ (0, 0) _ rfl (pkA BX).out Try.underlying23 rfl (by kernel_rfl)) rfl ?_
    exact ⟨rfl, (bpk HB).out⟩
  | true =>
    obtain ⟨r, hr⟩ : ∃ r, negS la = r := ⟨_, rfl⟩
    rw [if_pos rfl, hr]
    have xt_1w := xt_1
    go_enter Try.func39, Try.ntmps39
    go_upto_region 1 with (first | ((with_reducible refine gate_dst (N := 3) rfl ?_); refine boxQ 3 #[.int .i64 y.f0, .int .i64 y.f1, .int .i64 y.f2, .int .i64 y.f3, .int .i64 y.f4, .int .i64 y.f5, .int .i64 y.f6.f0, .int .i64 y.f6.f1] 64 HB ?_; clear HB; intro gb w1 _ GW BK _ HB; have hcf := hcf8 BK; obtain ⟨_, _, _, _, _, _, _, _, _, _, _, _, _, _, _, _⟩ := hcf) | ((with_reducible refine gate_dst (N := 4) rfl ?_); refine boxQ 4 #[.int .i64 0, .int .i64 0, .int .i64 0, .int .i64 0, .int .i64 0] 23 HB ?_; intro gx wx eg GX BX hb HX; have NX := bn1 BK eg.out; have NX2 := bn2 BK eg.out; replace BK := bbw BK hb.out; clear HB hb eg; have HB := HX; clear HX; have hcf := hcf8 BK; obtain ⟨_, _, _, _, _, _, _, _, _, _, _, _, _, _, _, _⟩ := hcf; have hcf := hcf5 BX; obtain ⟨_, _, _, _, _, _, _, _, _, _⟩ := hcf; have hnx := NX.out; have hnx2 := NX2.out; replace xt_1 := (HB.out.cell (World.block_lt_of_cell? w _ xt_1)).trans xt_1; replace xA_5 := (HB.out.cell (World.block_lt_of_cell? w _ xA_5)).trans xA_5))
    go_quiet (fail)
    go_upto_region 3 with (fail)
    replace BK : Aside0 ((wx.drewN nq).heap[gb]? = _) := pkA BK
    replace BX : Aside0 ((wx.drewN nq).heap[gx]? = _) := pkA BX
    replace HB : Aside0 (Below w.heap.size w (wx.drewN nq)) := bpk HB
    generalize wx.drewN nq = wx2 at BK BX HB ⊢
    have hS : ∀ w' : World, w'.heap[gb]? = some (.cells #[.int .i64 y.f0, .int .i64 y.f1, .int .i64 y.f2, .int .i64 y.f3, .int .i64 y.f4, .int .i64 y.f5, .int .i64 y.f6.f0, .int .i64 y.f6.f1] 64 (0, 0)) → Below w.heap.size w w' → (w'.cell? ⟨gt, 0, none⟩ = some (.slice (some adA) n cf) ∧ w'.cell? ⟨gb, 2, none⟩ = some (.int .i64 y.f2) ∧ w'.cell? (adA.add (y.f2.toNat * 5)) = some (.int .i64 la.f0) ∧ w'.cell? ⟨(adA.add (y.f2.toNat * 5)).block, (adA.add (y.f2.toNat * 5)).off + 1, none⟩ = some (.int .i64 la.f1) ∧ w'.cell? ⟨(adA.add (y.f2.toNat * 5)).block, (adA.add (y.f2.toNat * 5)).off + 2, none⟩ = some (.int .i64 la.f2) ∧ w'.cell? ⟨(adA.add (y.f2.toNat * 5)).block, (adA.add (y.f2.toNat * 5)).off + 3, none⟩ = some (.int .i64 la.f3) ∧ w'.cell? ⟨(adA.add (y.f2.toNat * 5)).block, (adA.add (y.f2.toNat * 5)).off + 4, none⟩ = some (.int .i64 la.f4)) := fun w' hb hB => ⟨(hB.cell (World.block_lt_of_cell? w _ xt_0)).trans xt_0, hcz ⟨hb⟩ 2, (hB.cell (World.block_lt_of_cell? w _ xA_0)).trans xA_0, (hB.cell (World.block_lt_of_cell? w _ xA_1)).trans xA_1, (hB.cell (World.block_lt_of_cell? w _ xA_2)).trans xA_2, (hB.cell (World.block_lt_of_cell? w _ xA_3)).trans xA_3, (hB.cell (World.block_lt_of_cell? w _ xA_4)).trans xA_4⟩
    refine start_ (n := 13) (S := fun w' => w'.cell? ⟨gt, 0, none⟩ = some (.slice (some adA) n cf) ∧ w'.cell? ⟨gb, 2, none⟩ = some (.int .i64 y.f2) ∧ w'.cell? (adA.add (y.f2.toNat * 5)) = some (.int .i64 la.f0) ∧ w'.cell? ⟨(adA.add (y.f2.toNat * 5)).block, (adA.add (y.f2.toNat * 5)).off + 1, none⟩ = some (.int .i64 la.f1) ∧ w'.cell? ⟨(adA.add (y.f2.toNat * 5)).block, (adA.add (y.f2.toNat * 5)).off + 2, none⟩ = some (.int .i64 la.f2) ∧ w'.cell? ⟨(adA.add (y.f2.toNat * 5)).block, (adA.add (y.f2.toNat * 5)).off + 3, none⟩ = some (.int .i64 la.f3) ∧ w'.cell? ⟨(adA.add (y.f2.toNat * 5)).block, (adA.add (y.f2.toNat * 5)).off + 4, none⟩ = some (.int .i64 la.f4)) (ds := []) #[false, false, false, false, false, false, false, false, false, false, false, false, false] (by kernel_rfl) rfl rfl (hS _ (blk_drew (pkA BK).out) (below_drew1 (bpk HB).out)) (fun hHeld => ?_)
    refine with_tabW N39tab N39bits (fun HT_ HW_ => ?_)
    replace BK := Aside0.mk (blk_drew (pkA BK).out)
    replace BX := Aside0.mk (blk_drew (pkA BX).out)
    replace HB := Aside0.mk (below_drew1 (bpk HB).out)
    generalize World.drew _ = wa at BK BX HB hHeld ⊢
    refine pureQ 0 16 HT_.out ?_
    refine pureQ 1 17 HT_.out ?_
    refine pureQ 2 18 HT_.out ?_
    refine pureQ 4 20 HT_.out ?_
    refine takeQ 3 19 HT_.out HW_.out hHeld ?_
    refine takeQ 5 21 HT_.out HW_.out hHeld ?_
    refine pureQ 6 22 HT_.out ?_
    refine takeQ 7 23 HT_.out HW_.out hHeld ?_
    refine oneQ 8 24 HT_.out (fun K hK => ?_)
    refine goesQ Try.func13 #[.agg #[.int .i64 la.f0, .int .i64 la.f1, .int .i64 la.f2, .int .i64 la.f3, .int .i64 la.f4]] ?_
    refine (neg_c la r hr _).mono ?_
    rintro e w' ⟨rfl, hb⟩
    refine ⟨_, rfl, ?_⟩
    replace BK := bbw BK hb
    replace BX := bbw BX hb
    replace HB := bst HB hb
    clear hb
    refine hK.out _ _ (hS _ BK.out HB.out) (fun hHeld => ?_)
    clear hK K
    refine normQ (N := 24) ?_
    refine pureQ 9 25 HT_.out ?_
    refine pureQ 10 26 HT_.out ?_
    refine one_ (i := 11) (N := none) #[true, true, true, true, true, true, true, true, true, true, true, true, false] rfl rfl (one_of HT_.out (by kernel_rfl)) (by decide) (fun K hK => ?_)
    obtain ⟨wz, hwz⟩ : ∃ wz, wz = (((((w').setCell ⟨gx, 0, none⟩ (.int .i64 r.1.f0)).setCell ⟨gx, 1, none⟩ (.int .i64 r.1.f1)).setCell ⟨gx, 2, none⟩ (.int .i64 r.1.f2)).setCell ⟨gx, 3, none⟩ (.int .i64 r.1.f3)).setCell ⟨gx, 4, none⟩ (.int .i64 r.1.f4) := ⟨_, rfl⟩
    obtain ⟨z1, z2, z3⟩ := set5 BX.out _ _ _ _ _ wz hwz
    have hfx := hcf5 BX
    obtain ⟨_, _, _, _, _, _, _, _, _, _⟩ := hfx
    refine skip_ (w1 := wz) (by rfl) rfl (by rw [hwz]; go_simp) ?_
    clear hwz
    replace BK := Aside0.mk (z2 _ _ NX.out BK.out)
    replace HB := Aside0.mk (z3 _ GX.out HB.out)
    clear BX
    have BX := Aside0.mk z1
    clear z1 z2 z3
    refine hK.out _ _ (hS _ BK.out HB.out) (fun hHeld => ?_)
    clear hK K
    refine pureQ 12 5 HT_.out ?_
    refine done_ (done_of HT_.out (by kernel_rfl)) ?_
    clear hHeld HT_ HW_ hS
    go_wp2
    refine bodyPost_ret (results_ct rfl _ _ gx 23 _ (0, 0) _ rfl (pkA BX).out Try.underlying23 rfl (by kernel_rfl)) rfl ?_
    exact ⟨rfl, (bpk HB).out⟩
set_option maxHeartbeats 8000000 in
set_option maxRecDepth 100000 in
theorem bothAdd_calls (gt : Nat) (Af Ao : Option Addr) (n cf co : Nat) (T : List S23 × List Bool) (y : S64) (w : World) (hT : TB w gt Af Ao n cf co T) (hA : 0 ≤ y.f2 ∧ y.f2 < (n : Int)) (hBB : 0 ≤ y.f3 ∧ y.f3 < (n : Int)) : Calls Try.prog 49 #[.pointer (some ⟨gt, 0, none⟩), .agg #[.int .i64 y.f0, .int .i64 y.f1, .int .i64 y.f2, .int .i64 y.f3, .int .i64 y.f4, .int .i64 y.f5, .int .i64 y.f6.f0, .int .i64 y.f6.f1], .func (.func 11) #[] #[]] w (Ret5 (if T.2.getD y.f2.toNat false = true ∧ T.2.getD y.f3.toNat false = true then addS (rd_T23 T.1 y.f2) (rd_T23 T.1 y.f3) else (z23, false)) w) := by
  have hu64 := Try.underlying64
  have hu23 := Try.underlying23
  have hu74 := Try.underlying74
  have HB := Aside0.mk (Below.refl w.heap.size w)
  have KT := Aside0.mk hT
  have xt_0 := hT.h0
  have xt_1 := hT.h1
  clear hT
  obtain ⟨pA, qA⟩ := hA
  obtain ⟨adA, ee, xA_0, xA_1, xA_2, xA_3, xA_4⟩ := at_T23 KT.out.rf y.f2 pA qA
  cases ee
  obtain ⟨aoA, ee, xA_5⟩ := Kd.at_bool KT.out.ro y.f2 pA qA
  cases ee
  replace xA_5 : w.cell? _ = some (.bool (T.2.getD y.f2.toNat false)) := xA_5
  generalize rd_T23 T.1 y.f2 = la at *
  generalize T.2.getD y.f2.toNat false = oa at *
  replace pA := eq_true pA
  replace qA := eq_true qA
  obtain ⟨pB, qB⟩ := hBB
  obtain ⟨adB, ee, xB_0, xB_1, xB_2, xB_3, xB_4⟩ := at_T23 KT.out.rf y.f3 pB qB
  cases ee
  obtain ⟨aoB, ee, xB_5⟩ := Kd.at_bool KT.out.ro y.f3 pB qB
  cases ee
  replace xB_5 : w.cell? _ = some (.bool (T.2.getD y.f3.toNat false)) := xB_5
  generalize rd_T23 T.1 y.f3 = lb at *
  generalize T.2.getD y.f3.toNat false = ob at *
  replace pB := eq_true pB
  replace qB := eq_true qB
  cases oa with
  | false =>
    rw [if_neg (by simp)]
    go_enter Try.func49, Try.ntmps49
    go_upto_region 1 with (first | ((with_reducible refine gate_dst (N := 4) rfl ?_); refine boxQ 4 #[.int .i64 y.f0, .int .i64 y.f1, .int .i64 y.f2, .int .i64 y.f3, .int .i64 y.f4, .int .i64 y.f5, .int .i64 y.f6.f0, .int .i64 y.f6.f1] 64 HB ?_; clear HB; intro gb w1 _ GW BK _ HB; have hcf := hcf8 BK; obtain ⟨_, _, _, _, _, _, _, _, _, _, _, _, _, _, _, _⟩ := hcf) | ((with_reducible refine gate_dst (N := 6) rfl ?_); refine boxQ 6 #[.int .i64 0, .int .i64 0, .int .i64 0, .int .i64 0, .int .i64 0] 23 HB ?_; intro gx wx eg GX BX hb HX; have NX := bn1 BK eg.out; have NX2 := bn2 BK eg.out; replace BK := bbw BK hb.out; clear HB hb eg; have HB := HX; clear HX; have hcf := hcf8 BK; obtain ⟨_, _, _, _, _, _, _, _, _, _, _, _, _, _, _, _⟩ := hcf; have hcf := hcf5 BX; obtain ⟨_, _, _, _, _, _, _, _, _, _⟩ := hcf; have hnx := NX.out; have hnx2 := NX2.out; replace xt_0 := (HB.out.cell (World.block_lt_of_cell? w _ xt_0)).trans xt_0; replace xt_1 := (HB.out.cell (World.block_lt_of_cell? w _ xt_1)).trans xt_1; replace xA_5 := (HB.out.cell (World.block_lt_of_cell? w _ xA_5)).trans xA_5))
    go_quiet (fail)
    go_wp2_with (first | ((with_reducible refine gate_store (p := 6) (t := 23) rfl ?_); refine store_box rfl rfl rfl gx 23 _ _ (pkA BX).out rfl rfl (by kernel_rfl) rfl (by kernel_rfl) ?_; intro ws hbs hgs; have HS := Aside0.mk (Below_boxed (bpk HB).out (Nat.le_refl _) GX.out hgs); clear HB BX BK hgs; have HB := HS; have BX := Aside0.mk hbs; clear HS hbs))
    refine bodyPost_ret (results_ct rfl _ _ gx 23 _ (0, 0) _ rfl (pkA BX).out Try.underlying23 rfl (by kernel_rfl)) rfl ?_
    exact ⟨rfl, (bpk HB).out⟩
  | true =>
    cases ob with
    | false =>
      rw [if_neg (by simp)]
      go_enter Try.func49, Try.ntmps49
      go_upto_region 1 with (first | ((with_reducible refine gate_dst (N := 4) rfl ?_); refine boxQ 4 #[.int .i64 y.f0, .int .i64 y.f1, .int .i64 y.f2, .int .i64 y.f3, .int .i64 y.f4, .int .i64 y.f5, .int .i64 y.f6.f0, .int .i64 y.f6.f1] 64 HB ?_; clear HB; intro gb w1 _ GW BK _ HB; have hcf := hcf8 BK; obtain ⟨_, _, _, _, _, _, _, _, _, _, _, _, _, _, _, _⟩ := hcf) | ((with_reducible refine gate_dst (N := 6) rfl ?_); refine boxQ 6 #[.int .i64 0, .int .i64 0, .int .i64 0, .int .i64 0, .int .i64 0] 23 HB ?_; intro gx wx eg GX BX hb HX; have NX := bn1 BK eg.out; have NX2 := bn2 BK eg.out; replace BK := bbw BK hb.out; clear HB hb eg; have HB := HX; clear HX; have hcf := hcf8 BK; obtain ⟨_, _, _, _, _, _, _, _, _, _, _, _, _, _, _, _⟩ := hcf; have hcf := hcf5 BX; obtain ⟨_, _, _, _, _, _, _, _, _, _⟩ := hcf; have hnx := NX.out; have hnx2 := NX2.out; replace xt_0 := (HB.out.cell (World.block_lt_of_cell? w _ xt_0)).trans xt_0; replace xt_1 := (HB.out.cell (World.block_lt_of_cell? w _ xt_1)).trans xt_1; replace xA_5 := (HB.out.cell (World.block_lt_of_cell? w _ xA_5)).trans xA_5; replace xB_5 := (HB.out.cell (World.block_lt_of_cell? w _ xB_5)).trans xB_5))
      go_quiet (fail)
      go_wp2_with (first | ((with_reducible refine gate_store (p := 6) (t := 23) rfl ?_); refine store_box rfl rfl rfl gx 23 _ _ (pkA BX).out rfl rfl (by kernel_rfl) rfl (by kernel_rfl) ?_; intro ws hbs hgs; have HS := Aside0.mk (Below_boxed (bpk HB).out (Nat.le_refl _) GX.out hgs); clear HB BX BK hgs; have HB := HS; have BX := Aside0.mk hbs; clear HS hbs))
      refine bodyPost_ret (results_ct rfl _ _ gx 23 _ (0, 0) _ rfl (pkA BX).out Try.underlying23 rfl (by kernel_rfl)) rfl ?_
      exact ⟨rfl, (bpk HB).out⟩
    | true =>
      obtain ⟨r, hr⟩ : ∃ r, addS la lb = r := ⟨_, rfl⟩
      rw [if_pos ⟨rfl, rfl⟩, hr]
      go_enter Try.func49, Try.ntmps49
      go_upto_region 1 with (first | ((with_reducible refine gate_dst (N := 4) rfl ?_); refine boxQ 4 #[.int .i64 y.f0, .int .i64 y.f1, .int .i64 y.f2, .int .i64 y.f3, .int .i64 y.f4, .int .i64 y.f5, .int .i64 y.f6.f0, .int .i64 y.f6.f1] 64 HB ?_; clear HB; intro gb w1 _ GW BK _ HB; have hcf := hcf8 BK; obtain ⟨_, _, _, _, _, _, _, _, _, _, _, _, _, _, _, _⟩ := hcf) | ((with_reducible refine gate_dst (N := 6) rfl ?_); refine boxQ 6 #[.int .i64 0, .int .i64 0, .int .i64 0, .int .i64 0, .int .i64 0] 23 HB ?_; intro gx wx eg GX BX hb HX; have NX := bn1 BK eg.out; have NX2 := bn2 BK eg.out; replace BK := bbw BK hb.out; clear HB hb eg; have HB := HX; clear HX; have hcf := hcf8 BK; obtain ⟨_, _, _, _, _, _, _, _, _, _, _, _, _, _, _, _⟩ := hcf; have hcf := hcf5 BX; obtain ⟨_, _, _, _, _, _, _, _, _, _⟩ := hcf; have hnx := NX.out; have hnx2 := NX2.out; replace xt_1 := (HB.out.cell (World.block_lt_of_cell? w _ xt_1)).trans xt_1; replace xA_5 := (HB.out.cell (World.block_lt_of_cell? w _ xA_5)).trans xA_5; replace xB_5 := (HB.out.cell (World.block_lt_of_cell? w _ xB_5)).trans xB_5))
      go_quiet (fail)
      go_upto_region 3 with (fail)
      replace BK : Aside0 ((wx.drewN nq).heap[gb]? = _) := pkA BK
      replace BX : Aside0 ((wx.drewN nq).heap[gx]? = _) := pkA BX
      replace HB : Aside0 (Below w.heap.size w (wx.drewN nq)) := bpk HB
      generalize wx.drewN nq = wx2 at BK BX HB ⊢
      have hS : ∀ w' : World, w'.heap[gb]? = some (.cells #[.int .i64 y.f0, .int .i64 y.f1, .int .i64 y.f2, .int .i64 y.f3, .int .i64 y.f4, .int .i64 y.f5, .int .i64 y.f6.f0, .int .i64 y.f6.f1] 64 (0, 0)) → Below w.heap.size w w' → (w'.cell? ⟨gt, 0, none⟩ = some (.slice (some adA) n cf) ∧ w'.cell? ⟨gb, 2, none⟩ = some (.int .i64 y.f2) ∧ w'.cell? ⟨gb, 3, none⟩ = some (.int .i64 y.f3) ∧ w'.cell? (adA.add (y.f2.toNat * 5)) = some (.int .i64 la.f0) ∧ w'.cell? ⟨(adA.add (y.f2.toNat * 5)).block, (adA.add (y.f2.toNat * 5)).off + 1, none⟩ = some (.int .i64 la.f1) ∧ w'.cell? ⟨(adA.add (y.f2.toNat * 5)).block, (adA.add (y.f2.toNat * 5)).off + 2, none⟩ = some (.int .i64 la.f2) ∧ w'.cell? ⟨(adA.add (y.f2.toNat * 5)).block, (adA.add (y.f2.toNat * 5)).off + 3, none⟩ = some (.int .i64 la.f3) ∧ w'.cell? ⟨(adA.add (y.f2.toNat * 5)).block, (adA.add (y.f2.toNat * 5)).off + 4, none⟩ = some (.int .i64 la.f4) ∧ w'.cell? (adA.add (y.f3.toNat * 5)) = some (.int .i64 lb.f0) ∧ w'.cell? ⟨(adA.add (y.f3.toNat * 5)).block, (adA.add (y.f3.toNat * 5)).off + 1, none⟩ = some (.int .i64 lb.f1) ∧ w'.cell? ⟨(adA.add (y.f3.toNat * 5)).block, (adA.add (y.f3.toNat * 5)).off + 2, none⟩ = some (.int .i64 lb.f2) ∧ w'.cell? ⟨(adA.add (y.f3.toNat * 5)).block, (adA.add (y.f3.toNat * 5)).off + 3, none⟩ = some (.int .i64 lb.f3) ∧ w'.cell? ⟨(adA.add (y.f3.toNat * 5)).block, (adA.add (y.f3.toNat * 5)).off + 4, none⟩ = some (.int .i64 lb.f4)) := fun w' hb hB => ⟨(hB.cell (World.block_lt_of_cell? w _ xt_0)).trans xt_0, hcz ⟨hb⟩ 2, hcz ⟨hb⟩ 3, (hB.cell (World.block_lt_of_cell? w _ xA_0)).trans xA_0, (hB.cell (World.block_lt_of_cell? w _ xA_1)).trans xA_1, (hB.cell (World.block_lt_of_cell? w _ xA_2)).trans xA_2, (hB.cell (World.block_lt_of_cell? w _ xA_3)).trans xA_3, (hB.cell (World.block_lt_of_cell? w _ xA_4)).trans xA_4, (hB.cell (World.block_lt_of_cell? w _ xB_0)).trans xB_0, (hB.cell (World.block_lt_of_cell? w _ xB_1)).trans xB_1, (hB.cell (World.block_lt_of_cell? w _ xB_2)).trans xB_2, (hB.cell (World.block_lt_of_cell? w _ xB_3)).trans xB_3, (hB.cell (World.block_lt_of_cell? w _ xB_4)).trans xB_4⟩
      refine start_ (n := 22) (S := fun w' => w'.cell? ⟨gt, 0, none⟩ = some (.slice (some adA) n cf) ∧ w'.cell? ⟨gb, 2, none⟩ = some (.int .i64 y.f2) ∧ w'.cell? ⟨gb, 3, none⟩ = some (.int .i64 y.f3) ∧ w'.cell? (adA.add (y.f2.toNat * 5)) = some (.int .i64 la.f0) ∧ w'.cell? ⟨(adA.add (y.f2.toNat * 5)).block, (adA.add (y.f2.toNat * 5)).off + 1, none⟩ = some (.int .i64 la.f1) ∧ w'.cell? ⟨(adA.add (y.f2.toNat * 5)).block, (adA.add (y.f2.toNat * 5)).off + 2, none⟩ = some (.int .i64 la.f2) ∧ w'.cell? ⟨(adA.add (y.f2.toNat * 5)).block, (adA.add (y.f2.toNat * 5)).off + 3, none⟩ = some (.int .i64 la.f3) ∧ w'.cell? ⟨(adA.add (y.f2.toNat * 5)).block, (adA.add (y.f2.toNat * 5)).off + 4, none⟩ = some (.int .i64 la.f4) ∧ w'.cell? (adA.add (y.f3.toNat * 5)) = some (.int .i64 lb.f0) ∧ w'.cell? ⟨(adA.add (y.f3.toNat * 5)).block, (adA.add (y.f3.toNat * 5)).off + 1, none⟩ = some (.int .i64 lb.f1) ∧ w'.cell? ⟨(adA.add (y.f3.toNat * 5)).block, (adA.add (y.f3.toNat * 5)).off + 2, none⟩ = some (.int .i64 lb.f2) ∧ w'.cell? ⟨(adA.add (y.f3.toNat * 5)).block, (adA.add (y.f3.toNat * 5)).off + 3, none⟩ = some (.int .i64 lb.f3) ∧ w'.cell? ⟨(adA.add (y.f3.toNat * 5)).block, (adA.add (y.f3.toNat * 5)).off + 4, none⟩ = some (.int .i64 lb.f4)) (ds := []) #[false, false, false, false, false, false, false, false, false, false, false, false, false, false, false, false, false, false, false, false, false, false] (by kernel_rfl) rfl rfl (hS _ (blk_drew (pkA BK).out) (below_drew1 (bpk HB).out)) (fun hHeld => ?_)
      refine with_tabW N49tab N49bits (fun HT_ HW_ => ?_)
      replace BK := Aside0.mk (blk_drew (pkA BK).out)
      replace BX := Aside0.mk (blk_drew (pkA BX).out)
      replace HB := Aside0.mk (below_drew1 (bpk HB).out)
      generalize World.drew _ = wa at BK BX HB hHeld ⊢
      refine pureQ 0 29 HT_.out ?_
      refine pureQ 1 30 HT_.out ?_
      refine pureQ 2 31 HT_.out ?_
      refine pureQ 3 32 HT_.out ?_
      refine pureQ 5 34 HT_.out ?_
      refine pureQ 9 38 HT_.out ?_
      refine pureQ 10 39 HT_.out ?_
      refine pureQ 11 40 HT_.out ?_
      refine pureQ 13 42 HT_.out ?_
      refine takeQ 4 33 HT_.out HW_.out hHeld ?_
      refine takeQ 6 35 HT_.out HW_.out hHeld ?_
      refine pureQ 7 36 HT_.out ?_
      refine takeQ 8 37 HT_.out HW_.out hHeld ?_
      refine takeQ 12 41 HT_.out HW_.out hHeld ?_
      refine takeQ 14 43 HT_.out HW_.out hHeld ?_
      refine pureQ 15 44 HT_.out ?_
      refine takeQ 16 45 HT_.out HW_.out hHeld ?_
      refine oneQ 17 46 HT_.out (fun K hK => ?_)
      refine goesD (t := 29) Try.func11 #[.agg #[.int .i64 la.f0, .int .i64 la.f1, .int .i64 la.f2, .int .i64 la.f3, .int .i64 la.f4], .agg #[.int .i64 lb.f0, .int .i64 lb.f1, .int .i64 lb.f2, .int .i64 lb.f3, .int .i64 lb.f4]] ?_ rfl
      refine (add_c la lb r hr _).mono ?_
      rintro e w' ⟨rfl, hb⟩
      refine ⟨_, rfl, ?_⟩
      replace BK := bbw BK hb
      replace BX := bbw BX hb
      replace HB := bst HB hb
      clear hb
      refine hK.out _ _ (hS _ BK.out HB.out) (fun hHeld => ?_)
      clear hK K
      refine normQ (N := 46) ?_
      refine pureQ 18 47 HT_.out ?_
      refine pureQ 19 48 HT_.out ?_
      refine one_ (i := 20) (N := none) #[true, true, true, true, true, true, true, true, true, true, true, true, true, true, true, true, true, true, true, true, true, false] rfl rfl (one_of HT_.out (by kernel_rfl)) (by decide) (fun K hK => ?_)
      obtain ⟨wz, hwz⟩ : ∃ wz, wz = (((((w').setCell ⟨gx, 0, none⟩ (.int .i64 r.1.f0)).setCell ⟨gx, 1, none⟩ (.int .i64 r.1.f1)).setCell ⟨gx, 2, none⟩ (.int .i64 r.1.f2)).setCell ⟨gx, 3, none⟩ (.int .i64 r.1.f3)).setCell ⟨gx, 4, none⟩ (.int .i64 r.1.f4) := ⟨_, rfl⟩
      obtain ⟨z1, z2, z3⟩ := set5 BX.out _ _ _ _ _ wz hwz
      have hfx := hcf5 BX
      obtain ⟨_, _, _, _, _, _, _, _, _, _⟩ := hfx
      refine skip_ (w1 := wz) (by rfl) rfl (by rw [hwz]; go_simp) ?_
      clear hwz
      replace BK := Aside0.mk (z2 _ _ NX.out BK.out)
      replace HB := Aside0.mk (z3 _ GX.out HB.out)
      clear BX
      have BX := Aside0.mk z1
      clear z1 z2 z3
      refine hK.out _ _ (hS _ BK.out HB.out) (fun hHeld => ?_)
      clear hK K
      refine pureQ 21 7 HT_.out ?_
      refine done_ (done_of HT_.out (by kernel_rfl)) ?_
      clear hHeld HT_ HW_ hS
      go_wp2
      refine bodyPost_ret (results_ct rfl _ _ gx 23 _ (0, 0) _ rfl (pkA BX).out Try.underlying23 rfl (by kernel_rfl)) rfl ?_
      exact ⟨rfl, (bpk HB).out⟩
set_option maxHeartbeats 8000000 in
set_option maxRecDepth 100000 in
theorem bothSub_calls (gt : Nat) (Af Ao : Option Addr) (n cf co : Nat) (T : List S23 × List Bool) (y : S64) (w : World) (hT : TB w gt Af Ao n cf co T) (hA : 0 ≤ y.f2 ∧ y.f2 < (n : Int)) (hBB : 0 ≤ y.f3 ∧ y.f3 < (n : Int)) : Calls Try.prog 49 #[.pointer (some ⟨gt, 0, none⟩), .agg #[.int .i64 y.f0, .int .i64 y.f1, .int .i64 y.f2, .int .i64 y.f3, .int .i64 y.f4, .int .i64 y.f5, .int .i64 y.f6.f0, .int .i64 y.f6.f1], .func (.func 12) #[] #[]] w (Ret5 (if T.2.getD y.f2.toNat false = true ∧ T.2.getD y.f3.toNat false = true then subS (rd_T23 T.1 y.f2) (rd_T23 T.1 y.f3) else (z23, false)) w) := by
  have hu64 := Try.underlying64
  have hu23 := Try.underlying23
  have hu74 := Try.underlying74
  have HB := Aside0.mk (Below.refl w.heap.size w)
  have KT := Aside0.mk hT
  have xt_0 := hT.h0
  have xt_1 := hT.h1
  clear hT
  obtain ⟨pA, qA⟩ := hA
  obtain ⟨adA, ee, xA_0, xA_1, xA_2, xA_3, xA_4⟩ := at_T23 KT.out.rf y.f2 pA qA
  cases ee
  obtain ⟨aoA, ee, xA_5⟩ := Kd.at_bool KT.out.ro y.f2 pA qA
  cases ee
  replace xA_5 : w.cell? _ = some (.bool (T.2.getD y.f2.toNat false)) := xA_5
  generalize rd_T23 T.1 y.f2 = la at *
  generalize T.2.getD y.f2.toNat false = oa at *
  replace pA := eq_true pA
  replace qA := eq_true qA
  obtain ⟨pB, qB⟩ := hBB
  obtain ⟨adB, ee, xB_0, xB_1, xB_2, xB_3, xB_4⟩ := at_T23 KT.out.rf y.f3 pB qB
  cases ee
  obtain ⟨aoB, ee, xB_5⟩ := Kd.at_bool KT.out.ro y.f3 pB qB
  cases ee
  replace xB_5 : w.cell? _ = some (.bool (T.2.getD y.f3.toNat false)) := xB_5
  generalize rd_T23 T.1 y.f3 = lb at *
  generalize T.2.getD y.f3.toNat false = ob at *
  replace pB := eq_true pB
  replace qB := eq_true qB
  cases oa with
  | false =>
    rw [if_neg (by simp)]
    go_enter Try.func49, Try.ntmps49
    go_upto_region 1 with (first | ((with_reducible refine gate_dst (N := 4) rfl ?_); refine boxQ 4 #[.int .i64 y.f0, .int .i64 y.f1, .int .i64 y.f2, .int .i64 y.f3, .int .i64 y.f4, .int .i64 y.f5, .int .i64 y.f6.f0, .int .i64 y.f6.f1] 64 HB ?_; clear HB; intro gb w1 _ GW BK _ HB; have hcf := hcf8 BK; obtain ⟨_, _, _, _, _, _, _, _, _, _, _, _, _, _, _, _⟩ := hcf) | ((with_reducible refine gate_dst (N := 6) rfl ?_); refine boxQ 6 #[.int .i64 0, .int .i64 0, .int .i64 0, .int .i64 0, .int .i64 0] 23 HB ?_; intro gx wx eg GX BX hb HX; have NX := bn1 BK eg.out; have NX2 := bn2 BK eg.out; replace BK := bbw BK hb.out; clear HB hb eg; have HB := HX; clear HX; have hcf := hcf8 BK; obtain ⟨_, _, _, _, _, _, _, _, _, _, _, _, _, _, _, _⟩ := hcf; have hcf := hcf5 BX; obtain ⟨_, _, _, _, _, _, _, _, _, _⟩ := hcf; have hnx := NX.out; have hnx2 := NX2.out; replace xt_0 := (HB.out.cell (World.block_lt_of_cell? w _ xt_0)).trans xt_0; replace xt_1 := (HB.out.cell (World.block_lt_of_cell? w _ xt_1)).trans xt_1; replace xA_5 := (HB.out.cell (World.block_lt_of_cell? w _ xA_5)).trans xA_5))
    go_quiet (fail)
    go_wp2_with (first | ((with_reducible refine gate_store (p := 6) (t := 23) rfl ?_); refine store_box rfl rfl rfl gx 23 _ _ (pkA BX).out rfl rfl (by kernel_rfl) rfl (by kernel_rfl) ?_; intro ws hbs hgs; have HS := Aside0.mk (Below_boxed (bpk HB).out (Nat.le_refl _) GX.out hgs); clear HB BX BK hgs; have HB := HS; have BX := Aside0.mk hbs; clear HS hbs))
    refine bodyPost_ret (results_ct rfl _ _ gx 23 _ (0, 0) _ rfl (pkA BX).out Try.underlying23 rfl (by kernel_rfl)) rfl ?_
    exact ⟨rfl, (bpk HB).out⟩
  | true =>
    cases ob with
    | false =>
      rw [if_neg (by simp)]
      go_enter Try.func49, Try.ntmps49
      go_upto_region 1 with (first | ((with_reducible refine gate_dst (N := 4) rfl ?_); refine boxQ 4 #[.int .i64 y.f0, .int .i64 y.f1, .int .i64 y.f2, .int .i64 y.f3, .int .i64 y.f4, .int .i64 y.f5, .int .i64 y.f6.f0, .int .i64 y.f6.f1] 64 HB ?_; clear HB; intro gb w1 _ GW BK _ HB; have hcf := hcf8 BK; obtain ⟨_, _, _, _, _, _, _, _, _, _, _, _, _, _, _, _⟩ := hcf) | ((with_reducible refine gate_dst (N := 6) rfl ?_); refine boxQ 6 #[.int .i64 0, .int .i64 0, .int .i64 0, .int .i64 0, .int .i64 0] 23 HB ?_; intro gx wx eg GX BX hb HX; have NX := bn1 BK eg.out; have NX2 := bn2 BK eg.out; replace BK := bbw BK hb.out; clear HB hb eg; have HB := HX; clear HX; have hcf := hcf8 BK; obtain ⟨_, _, _, _, _, _, _, _, _, _, _, _, _, _, _, _⟩ := hcf; have hcf := hcf5 BX; obtain ⟨_, _, _, _, _, _, _, _, _, _⟩ := hcf; have hnx := NX.out; have hnx2 := NX2.out; replace xt_0 := (HB.out.cell (World.block_lt_of_cell? w _ xt_0)).trans xt_0; replace xt_1 := (HB.out.cell (World.block_lt_of_cell? w _ xt_1)).trans xt_1; replace xA_5 := (HB.out.cell (World.block_lt_of_cell? w _ xA_5)).trans xA_5; replace xB_5 := (HB.out.cell (World.block_lt_of_cell? w _ xB_5)).trans xB_5))
      go_quiet (fail)
      go_wp2_with (first | ((with_reducible refine gate_store (p := 6) (t := 23) rfl ?_); refine store_box rfl rfl rfl gx 23 _ _ (pkA BX).out rfl rfl (by kernel_rfl) rfl (by kernel_rfl) ?_; intro ws hbs hgs; have HS := Aside0.mk (Below_boxed (bpk HB).out (Nat.le_refl _) GX.out hgs); clear HB BX BK hgs; have HB := HS; have BX := Aside0.mk hbs; clear HS hbs))
      refine bodyPost_ret (results_ct rfl _ _ gx 23 _ (0, 0) _ rfl (pkA BX).out Try.underlying23 rfl (by kernel_rfl)) rfl ?_
      exact ⟨rfl, (bpk HB).out⟩
    | true =>
      obtain ⟨r, hr⟩ : ∃ r, subS la lb = r := ⟨_, rfl⟩
      rw [if_pos ⟨rfl, rfl⟩, hr]
      go_enter Try.func49, Try.ntmps49
      go_upto_region 1 with (first | ((with_reducible refine gate_dst (N := 4) rfl ?_); refine boxQ 4 #[.int .i64 y.f0, .int .i64 y.f1, .int .i64 y.f2, .int .i64 y.f3, .int .i64 y.f4, .int .i64 y.f5, .int .i64 y.f6.f0, .int .i64 y.f6.f1] 64 HB ?_; clear HB; intro gb w1 _ GW BK _ HB; have hcf := hcf8 BK; obtain ⟨_, _, _, _, _, _, _, _, _, _, _, _, _, _, _, _⟩ := hcf) | ((with_reducible refine gate_dst (N := 6) rfl ?_); refine boxQ 6 #[.int .i64 0, .int .i64 0, .int .i64 0, .int .i64 0, .int .i64 0] 23 HB ?_; intro gx wx eg GX BX hb HX; have NX := bn1 BK eg.out; have NX2 := bn2 BK eg.out; replace BK := bbw BK hb.out; clear HB hb eg; have HB := HX; clear HX; have hcf := hcf8 BK; obtain ⟨_, _, _, _, _, _, _, _, _, _, _, _, _, _, _, _⟩ := hcf; have hcf := hcf5 BX; obtain ⟨_, _, _, _, _, _, _, _, _, _⟩ := hcf; have hnx := NX.out; have hnx2 := NX2.out; replace xt_1 := (HB.out.cell (World.block_lt_of_cell? w _ xt_1)).trans xt_1; replace xA_5 := (HB.out.cell (World.block_lt_of_cell? w _ xA_5)).trans xA_5; replace xB_5 := (HB.out.cell (World.block_lt_of_cell? w _ xB_5)).trans xB_5))
      go_quiet (fail)
      go_upto_region 3 with (fail)
      replace BK : Aside0 ((wx.drewN nq).heap[gb]? = _) := pkA BK
      replace BX : Aside0 ((wx.drewN nq).heap[gx]? = _) := pkA BX
      replace HB : Aside0 (Below w.heap.size w (wx.drewN nq)) := bpk HB
      generalize wx.drewN nq = wx2 at BK BX HB ⊢
      have hS : ∀ w' : World, w'.heap[gb]? = some (.cells #[.int .i64 y.f0, .int .i64 y.f1, .int .i64 y.f2, .int .i64 y.f3, .int .i64 y.f4, .int .i64 y.f5, .int .i64 y.f6.f0, .int .i64 y.f6.f1] 64 (0, 0)) → Below w.heap.size w w' → (w'.cell? ⟨gt, 0, none⟩ = some (.slice (some adA) n cf) ∧ w'.cell? ⟨gb, 2, none⟩ = some (.int .i64 y.f2) ∧ w'.cell? ⟨gb, 3, none⟩ = some (.int .i64 y.f3) ∧ w'.cell? (adA.add (y.f2.toNat * 5)) = some (.int .i64 la.f0) ∧ w'.cell? ⟨(adA.add (y.f2.toNat * 5)).block, (adA.add (y.f2.toNat * 5)).off + 1, none⟩ = some (.int .i64 la.f1) ∧ w'.cell? ⟨(adA.add (y.f2.toNat * 5)).block, (adA.add (y.f2.toNat * 5)).off + 2, none⟩ = some (.int .i64 la.f2) ∧ w'.cell? ⟨(adA.add (y.f2.toNat * 5)).block, (adA.add (y.f2.toNat * 5)).off + 3, none⟩ = some (.int .i64 la.f3) ∧ w'.cell? ⟨(adA.add (y.f2.toNat * 5)).block, (adA.add (y.f2.toNat * 5)).off + 4, none⟩ = some (.int .i64 la.f4) ∧ w'.cell? (adA.add (y.f3.toNat * 5)) = some (.int .i64 lb.f0) ∧ w'.cell? ⟨(adA.add (y.f3.toNat * 5)).block, (adA.add (y.f3.toNat * 5)).off + 1, none⟩ = some (.int .i64 lb.f1) ∧ w'.cell? ⟨(adA.add (y.f3.toNat * 5)).block, (adA.add (y.f3.toNat * 5)).off + 2, none⟩ = some (.int .i64 lb.f2) ∧ w'.cell? ⟨(adA.add (y.f3.toNat * 5)).block, (adA.add (y.f3.toNat * 5)).off + 3, none⟩ = some (.int .i64 lb.f3) ∧ w'.cell? ⟨(adA.add (y.f3.toNat * 5)).block, (adA.add (y.f3.toNat * 5)).off + 4, none⟩ = some (.int .i64 lb.f4)) := fun w' hb hB => ⟨(hB.cell (World.block_lt_of_cell? w _ xt_0)).trans xt_0, hcz ⟨hb⟩ 2, hcz ⟨hb⟩ 3, (hB.cell (World.block_lt_of_cell? w _ xA_0)).trans xA_0, (hB.cell (World.block_lt_of_cell? w _ xA_1)).trans xA_1, (hB.cell (World.block_lt_of_cell? w _ xA_2)).trans xA_2, (hB.cell (World.block_lt_of_cell? w _ xA_3)).trans xA_3, (hB.cell (World.block_lt_of_cell? w _ xA_4)).trans xA_4, (hB.cell (World.block_lt_of_cell? w _ xB_0)).trans xB_0, (hB.cell (World.block_lt_of_cell? w _ xB_1)).trans xB_1, (hB.cell (World.block_lt_of_cell? w _ xB_2)).trans xB_2, (hB.cell (World.block_lt_of_cell? w _ xB_3)).trans xB_3, (hB.cell (World.block_lt_of_cell? w _ xB_4)).trans xB_4⟩
      refine start_ (n := 22) (S := fun w' => w'.cell? ⟨gt, 0, none⟩ = some (.slice (some adA) n cf) ∧ w'.cell? ⟨gb, 2, none⟩ = some (.int .i64 y.f2) ∧ w'.cell? ⟨gb, 3, none⟩ = some (.int .i64 y.f3) ∧ w'.cell? (adA.add (y.f2.toNat * 5)) = some (.int .i64 la.f0) ∧ w'.cell? ⟨(adA.add (y.f2.toNat * 5)).block, (adA.add (y.f2.toNat * 5)).off + 1, none⟩ = some (.int .i64 la.f1) ∧ w'.cell? ⟨(adA.add (y.f2.toNat * 5)).block, (adA.add (y.f2.toNat * 5)).off + 2, none⟩ = some (.int .i64 la.f2) ∧ w'.cell? ⟨(adA.add (y.f2.toNat * 5)).block, (adA.add (y.f2.toNat * 5)).off + 3, none⟩ = some (.int .i64 la.f3) ∧ w'.cell? ⟨(adA.add (y.f2.toNat * 5)).block, (adA.add (y.f2.toNat * 5)).off + 4, none⟩ = some (.int .i64 la.f4) ∧ w'.cell? (adA.add (y.f3.toNat * 5)) = some (.int .i64 lb.f0) ∧ w'.cell? ⟨(adA.add (y.f3.toNat * 5)).block, (adA.add (y.f3.toNat * 5)).off + 1, none⟩ = some (.int .i64 lb.f1) ∧ w'.cell? ⟨(adA.add (y.f3.toNat * 5)).block, (adA.add (y.f3.toNat * 5)).off + 2, none⟩ = some (.int .i64 lb.f2) ∧ w'.cell? ⟨(adA.add (y.f3.toNat * 5)).block, (adA.add (y.f3.toNat * 5)).off + 3, none⟩ = some (.int .i64 lb.f3) ∧ w'.cell? ⟨(adA.add (y.f3.toNat * 5)).block, (adA.add (y.f3.toNat * 5)).off + 4, none⟩ = some (.int .i64 lb.f4)) (ds := []) #[false, false, false, false, false, false, false, false, false, false, false, false, false, false, false, false, false, false, false, false, false, false] (by kernel_rfl) rfl rfl (hS _ (blk_drew (pkA BK).out) (below_drew1 (bpk HB).out)) (fun hHeld => ?_)
      refine with_tabW N49tab N49bits (fun HT_ HW_ => ?_)
      replace BK := Aside0.mk (blk_drew (pkA BK).out)
      replace BX := Aside0.mk (blk_drew (pkA BX).out)
      replace HB := Aside0.mk (below_drew1 (bpk HB).out)
      generalize World.drew _ = wa at BK BX HB hHeld ⊢
      refine pureQ 0 29 HT_.out ?_
      refine pureQ 1 30 HT_.out ?_
      refine pureQ 2 31 HT_.out ?_
      refine pureQ 3 32 HT_.out ?_
      refine pureQ 5 34 HT_.out ?_
      refine pureQ 9 38 HT_.out ?_
      refine pureQ 10 39 HT_.out ?_
      refine pureQ 11 40 HT_.out ?_
      refine pureQ 13 42 HT_.out ?_
      refine takeQ 4 33 HT_.out HW_.out hHeld ?_
      refine takeQ 6 35 HT_.out HW_.out hHeld ?_
      refine pureQ 7 36 HT_.out ?_
      refine takeQ 8 37 HT_.out HW_.out hHeld ?_
      refine takeQ 12 41 HT_.out HW_.out hHeld ?_
      refine takeQ 14 43 HT_.out HW_.out hHeld ?_
      refine pureQ 15 44 HT_.out ?_
      refine takeQ 16 45 HT_.out HW_.out hHeld ?_
      refine oneQ 17 46 HT_.out (fun K hK => ?_)
      refine goesD (t := 29) Try.func12 #[.agg #[.int .i64 la.f0, .int .i64 la.f1, .int .i64 la.f2, .int .i64 la.f3, .int .i64 la.f4], .agg #[.int .i64 lb.f0, .int .i64 lb.f1, .int .i64 lb.f2, .int .i64 lb.f3, .int .i64 lb.f4]] ?_ rfl
      refine (sub_c la lb r hr _).mono ?_
      rintro e w' ⟨rfl, hb⟩
      refine ⟨_, rfl, ?_⟩
      replace BK := bbw BK hb
      replace BX := bbw BX hb
      replace HB := bst HB hb
      clear hb
      refine hK.out _ _ (hS _ BK.out HB.out) (fun hHeld => ?_)
      clear hK K
      refine normQ (N := 46) ?_
      refine pureQ 18 47 HT_.out ?_
      refine pureQ 19 48 HT_.out ?_
      refine one_ (i := 20) (N := none) #[true, true, true, true, true, true, true, true, true, true, true, true, true, true, true, true, true, true, true, true, true, false] rfl rfl (one_of HT_.out (by kernel_rfl)) (by decide) (fun K hK => ?_)
      obtain ⟨wz, hwz⟩ : ∃ wz, wz = (((((w').setCell ⟨gx, 0, none⟩ (.int .i64 r.1.f0)).setCell ⟨gx, 1, none⟩ (.int .i64 r.1.f1)).setCell ⟨gx, 2, none⟩ (.int .i64 r.1.f2)).setCell ⟨gx, 3, none⟩ (.int .i64 r.1.f3)).setCell ⟨gx, 4, none⟩ (.int .i64 r.1.f4) := ⟨_, rfl⟩
      obtain ⟨z1, z2, z3⟩ := set5 BX.out _ _ _ _ _ wz hwz
      have hfx := hcf5 BX
      obtain ⟨_, _, _, _, _, _, _, _, _, _⟩ := hfx
      refine skip_ (w1 := wz) (by rfl) rfl (by rw [hwz]; go_simp) ?_
      clear hwz
      replace BK := Aside0.mk (z2 _ _ NX.out BK.out)
      replace HB := Aside0.mk (z3 _ GX.out HB.out)
      clear BX
      have BX := Aside0.mk z1
      clear z1 z2 z3
      refine hK.out _ _ (hS _ BK.out HB.out) (fun hHeld => ?_)
      clear hK K
      refine pureQ 21 7 HT_.out ?_
      refine done_ (done_of HT_.out (by kernel_rfl)) ?_
      clear hHeld HT_ HW_ hS
      go_wp2
      refine bodyPost_ret (results_ct rfl _ _ gx 23 _ (0, 0) _ rfl (pkA BX).out Try.underlying23 rfl (by kernel_rfl)) rfl ?_
      exact ⟨rfl, (bpk HB).out⟩
set_option maxHeartbeats 8000000 in
set_option maxRecDepth 100000 in
theorem tadd_calls (gt : Nat) (Af Ao : Option Addr) (n cf co : Nat) (T : List S23 × List Bool) (y : S64) (w : World) (hT : TB w gt Af Ao n cf co T) (h : y.f0 = 4) (hA : 0 ≤ y.f2 ∧ y.f2 < (n : Int)) (hBB : 0 ≤ y.f3 ∧ y.f3 < (n : Int)) : Calls Try.prog 40 #[.pointer (some ⟨gt, 0, none⟩), .agg #[.int .i64 y.f0, .int .i64 y.f1, .int .i64 y.f2, .int .i64 y.f3, .int .i64 y.f4, .int .i64 y.f5, .int .i64 y.f6.f0, .int .i64 y.f6.f1]] w (Ret5 (ofV y.f0 y.f4 (rd_T23 T.1 y.f2) (T.2.getD y.f2.toNat false) (rd_T23 T.1 y.f3) (T.2.getD y.f3.toNat false)) w) := by
  have hu64 := Try.underlying64
  have hu23 := Try.underlying23
  have hu74 := Try.underlying74
  have HB := Aside0.mk (Below.refl w.heap.size w)
  have KT := Aside0.mk hT
  have xt_0 := hT.h0
  have xt_1 := hT.h1
  clear hT
  obtain ⟨r, hr⟩ : ∃ r, (ofV y.f0 y.f4 (rd_T23 T.1 y.f2) (T.2.getD y.f2.toNat false) (rd_T23 T.1 y.f3) (T.2.getD y.f3.toNat false)) = r := ⟨_, rfl⟩
  rw [hr]
  have hV : (if T.2.getD y.f2.toNat false = true ∧ T.2.getD y.f3.toNat false = true then addS (rd_T23 T.1 y.f2) (rd_T23 T.1 y.f3) else (z23, false)) = r := by
    rw [← hr]
    unfold ofV
    rw [if_neg (show ¬ y.f0 = 1 by omega), if_neg (show ¬ y.f0 = 2 by omega), if_neg (show ¬ y.f0 = 6 by omega), if_pos h]
  have KV := Aside0.mk hV
  clear hV hr h
  go_enter Try.func40, Try.ntmps40
  go_wp2_with (first | ((with_reducible refine gate_dst (N := 3) rfl ?_); refine boxQ 3 #[.int .i64 y.f0, .int .i64 y.f1, .int .i64 y.f2, .int .i64 y.f3, .int .i64 y.f4, .int .i64 y.f5, .int .i64 y.f6.f0, .int .i64 y.f6.f1] 64 HB ?_; clear HB; intro gb w1 _ GW BK _ HB; have hcf := hcf8 BK; obtain ⟨_, _, _, _, _, _, _, _, _, _, _, _, _, _, _, _⟩ := hcf) | ((with_reducible refine gate_dst (N := 4) rfl ?_); refine boxQ 4 #[.int .i64 0, .int .i64 0, .int .i64 0, .int .i64 0, .int .i64 0] 23 HB ?_; intro gx wx eg GX BX hb HX; have NX := bn1 BK eg.out; have NX2 := bn2 BK eg.out; replace BK := bbw BK hb.out; clear HB hb eg; have HB := HX; clear HX; have hcf := hcf8 BK; obtain ⟨_, _, _, _, _, _, _, _, _, _, _, _, _, _, _, _⟩ := hcf; have hcf := hcf5 BX; obtain ⟨_, _, _, _, _, _, _, _, _, _⟩ := hcf; have hnx := NX.out; have hnx2 := NX2.out) | ((with_reducible refine gate_callee (f := 49) rfl ?_); refine goesL_ (some 8) rfl rfl Try.func49 (by kernel_rfl) rfl #[.pointer (some ⟨gt, 0, none⟩), .agg #[.int .i64 y.f0, .int .i64 y.f1, .int .i64 y.f2, .int .i64 y.f3, .int .i64 y.f4, .int .i64 y.f5, .int .i64 y.f6.f0, .int .i64 y.f6.f1], .func (.func 11) #[] #[]] rfl (by (try simp only [List.map_toArray, List.map_cons, List.map_nil]); first | done | rfl) ?_; refine (KV.out ▸ bothAdd_calls gt Af Ao n cf co T y _ (KT.out.up (bpk HB).out) hA hBB).mono ?_; rintro e w' ⟨rfl, hb⟩; replace BK := bbw BK hb; replace BX := bbw BX hb; replace HB := bst HB hb; clear hb; refine ⟨_, rfl, ?_⟩) | ((with_reducible refine gate_store (p := 4) (t := 23) rfl ?_); refine store_box rfl rfl rfl gx 23 _ _ (pkA BX).out rfl rfl (by kernel_rfl) rfl (by kernel_rfl) ?_; intro ws hbs hgs; have HS := Aside0.mk (Below_boxed (bpk HB).out (Nat.le_refl _) GX.out hgs); clear HB BX BK hgs; have HB := HS; have BX := Aside0.mk hbs; clear HS hbs))
  refine bodyPost_ret (results_ct rfl _ _ gx 23 _ (0, 0) _ rfl (pkA BX).out Try.underlying23 rfl (by kernel_rfl)) rfl ?_
  exact ⟨rfl, (bpk HB).out⟩
set_option maxHeartbeats 8000000 in
set_option maxRecDepth 100000 in
theorem tsub_calls (gt : Nat) (Af Ao : Option Addr) (n cf co : Nat) (T : List S23 × List Bool) (y : S64) (w : World) (hT : TB w gt Af Ao n cf co T) (h : y.f0 = 5) (hA : 0 ≤ y.f2 ∧ y.f2 < (n : Int)) (hBB : 0 ≤ y.f3 ∧ y.f3 < (n : Int)) : Calls Try.prog 41 #[.pointer (some ⟨gt, 0, none⟩), .agg #[.int .i64 y.f0, .int .i64 y.f1, .int .i64 y.f2, .int .i64 y.f3, .int .i64 y.f4, .int .i64 y.f5, .int .i64 y.f6.f0, .int .i64 y.f6.f1]] w (Ret5 (ofV y.f0 y.f4 (rd_T23 T.1 y.f2) (T.2.getD y.f2.toNat false) (rd_T23 T.1 y.f3) (T.2.getD y.f3.toNat false)) w) := by
  have hu64 := Try.underlying64
  have hu23 := Try.underlying23
  have hu74 := Try.underlying74
  have HB := Aside0.mk (Below.refl w.heap.size w)
  have KT := Aside0.mk hT
  have xt_0 := hT.h0
  have xt_1 := hT.h1
  clear hT
  obtain ⟨r, hr⟩ : ∃ r, (ofV y.f0 y.f4 (rd_T23 T.1 y.f2) (T.2.getD y.f2.toNat false) (rd_T23 T.1 y.f3) (T.2.getD y.f3.toNat false)) = r := ⟨_, rfl⟩
  rw [hr]
  have hV : (if T.2.getD y.f2.toNat false = true ∧ T.2.getD y.f3.toNat false = true then subS (rd_T23 T.1 y.f2) (rd_T23 T.1 y.f3) else (z23, false)) = r := by
    rw [← hr]
    unfold ofV
    rw [if_neg (show ¬ y.f0 = 1 by omega), if_neg (show ¬ y.f0 = 2 by omega), if_neg (show ¬ y.f0 = 6 by omega), if_neg (show ¬ y.f0 = 4 by omega), if_pos h]
  have KV := Aside0.mk hV
  clear hV hr h
  go_enter Try.func41, Try.ntmps41
  go_wp2_with (first | ((with_reducible refine gate_dst (N := 3) rfl ?_); refine boxQ 3 #[.int .i64 y.f0, .int .i64 y.f1, .int .i64 y.f2, .int .i64 y.f3, .int .i64 y.f4, .int .i64 y.f5, .int .i64 y.f6.f0, .int .i64 y.f6.f1] 64 HB ?_; clear HB; intro gb w1 _ GW BK _ HB; have hcf := hcf8 BK; obtain ⟨_, _, _, _, _, _, _, _, _, _, _, _, _, _, _, _⟩ := hcf) | ((with_reducible refine gate_dst (N := 4) rfl ?_); refine boxQ 4 #[.int .i64 0, .int .i64 0, .int .i64 0, .int .i64 0, .int .i64 0] 23 HB ?_; intro gx wx eg GX BX hb HX; have NX := bn1 BK eg.out; have NX2 := bn2 BK eg.out; replace BK := bbw BK hb.out; clear HB hb eg; have HB := HX; clear HX; have hcf := hcf8 BK; obtain ⟨_, _, _, _, _, _, _, _, _, _, _, _, _, _, _, _⟩ := hcf; have hcf := hcf5 BX; obtain ⟨_, _, _, _, _, _, _, _, _, _⟩ := hcf; have hnx := NX.out; have hnx2 := NX2.out) | ((with_reducible refine gate_callee (f := 49) rfl ?_); refine goesL_ (some 8) rfl rfl Try.func49 (by kernel_rfl) rfl #[.pointer (some ⟨gt, 0, none⟩), .agg #[.int .i64 y.f0, .int .i64 y.f1, .int .i64 y.f2, .int .i64 y.f3, .int .i64 y.f4, .int .i64 y.f5, .int .i64 y.f6.f0, .int .i64 y.f6.f1], .func (.func 12) #[] #[]] rfl (by (try simp only [List.map_toArray, List.map_cons, List.map_nil]); first | done | rfl) ?_; refine (KV.out ▸ bothSub_calls gt Af Ao n cf co T y _ (KT.out.up (bpk HB).out) hA hBB).mono ?_; rintro e w' ⟨rfl, hb⟩; replace BK := bbw BK hb; replace BX := bbw BX hb; replace HB := bst HB hb; clear hb; refine ⟨_, rfl, ?_⟩) | ((with_reducible refine gate_store (p := 4) (t := 23) rfl ?_); refine store_box rfl rfl rfl gx 23 _ _ (pkA BX).out rfl rfl (by kernel_rfl) rfl (by kernel_rfl) ?_; intro ws hbs hgs; have HS := Aside0.mk (Below_boxed (bpk HB).out (Nat.le_refl _) GX.out hgs); clear HB BX BK hgs; have HB := HS; have BX := Aside0.mk hbs; clear HS hbs))
  refine bodyPost_ret (results_ct rfl _ _ gx 23 _ (0, 0) _ rfl (pkA BX).out Try.underlying23 rfl (by kernel_rfl)) rfl ?_
  exact ⟨rfl, (bpk HB).out⟩
end Go.Proofs.Ytllfopbchdahoaa.P
