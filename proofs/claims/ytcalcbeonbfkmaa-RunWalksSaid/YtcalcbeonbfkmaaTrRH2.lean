import Derived.Test.YtcalcbeonbfkmaaTrRG13
/- What the law's proof needs of H1. -/
namespace Go.Proofs.Ytcalcbeonbfkmaa.P
open Go.RowKit Go.Proofs.YtcalcbeonbfkmaaW.PrintWords Go.Proofs.YtcalcbeonbfkmaaW.PrintLast Go.Proofs.YtcalcbeonbfkmaaW.PrintMore Go.Proofs.YtcalcbeonbfkmaaO
attribute [local go_sem] max2_int min2_int max_two min_two max_three min_three max_four min_four
set_option linter.unusedVariables false
set_option linter.unusedSimpArgs false
/-- The document's machine: its twenty cells. -/
abbrev bR (G : Gr) (vs vr va vm : Value) (S : St) : Array Value := #[.slice G.A0 G.l0.length G.c0, .int .i64 G.loop, .int .i64 G.regs, .int .i64 G.ticks, .slice G.A4 G.l4.length G.c4, .slice G.A5 G.l5.length G.c5, .slice G.A6 G.l6.length G.c6, .slice G.A7 G.l7.length G.c7, vs, .int .i64 S.fuel, .int .i64 S.at_, vr, .int .i64 S.en, .int .i64 S.site, .int .i64 S.kind, .int .i64 S.ticks, .int .i64 S.reads, .slice none 0 0, va, vm]
abbrev MR (w W : World) (E : List (Nat × Array Value × Nat)) (G : Gr) (vs : Value) (gb : Nat) (vr va vm : Value) (S : St) : Prop := MB w W E gb 66 (bR G vs vr va vm S) vr va vm S.regs S.arrs S.marks
set_option maxHeartbeats 8000000 in
set_option maxRecDepth 100000 in
theorem rfail_calls {w W : World} {E : List (Nat × Array Value × Nat)} {G : Gr} {vs vr va vm : Value} {gb : Nat} {S : St} (h : MR w W E G vs gb vr va vm S) (y : S52) (k : Int) :
    Calls Try.prog 40 #[.pointer (some ⟨gb, 0, none⟩), .agg #[.int .i64 y.f0, .int .i64 y.f1, .int .i64 y.f2, .int .i64 y.f3, .int .i64 y.f4, .int .i64 y.f5, .int .i64 y.f6.f0, .int .i64 y.f6.f1], .int .i64 k] W fun e W' => e = .returned (.tuple #[]) ∧ MR w W' E G vs gb vr va vm (failS S y k) := by
  have hu52 := Try.underlying52
  have hu66 := Try.underlying66
  have hu36 := Try.underlying36
  have hu28 := Try.underlying28
  have HM := Aside0.mk h
  clear h
  go_enter Try.func40, Try.ntmps40
  go_upto_region 1 with (first | ((with_reducible refine gate_dst (N := 4) rfl ?_); refine boxM 4 #[.int .i64 y.f0, .int .i64 y.f1, .int .i64 y.f2, .int .i64 y.f3, .int .i64 y.f4, .int .i64 y.f5, .int .i64 y.f6.f0, .int .i64 y.f6.f1] 52 HM ?_; clear HM; intro g w1 _ NG BK _ HM; have hcf := hcf8 BK; obtain ⟨_, _, _, _, _, _, _, _, _, _, _, _, _, _, _, _⟩ := hcf))
  have c12 := HM.out.cell 12
  have c13 := HM.out.cell 13
  have c14 := HM.out.cell 14
  have f12 := HM.out.froz 12
  have f13 := HM.out.froz 13
  have f14 := HM.out.froz 14
  go_wp2
  first | go_end0 | ((try simp only [Exit.inBlock, Exit.then]); refine bodyPost_ret (results_none rfl _ _ _) rfl ?_) | refine ⟨_, results_none rfl _ _ _, ?_⟩
  exact ⟨rfl, (((mup HM).out.set 12 (.int .i64 1) rfl).set 13 (.int .i64 y.f5) rfl).set 14 (.int .i64 k) rfl⟩
set_option maxHeartbeats 8000000 in
set_option maxRecDepth 100000 in
theorem rspend_calls {w W : World} {E : List (Nat × Array Value × Nat)} {G : Gr} {vs vr va vm : Value} {gb : Nat} {S : St} (h : MR w W E G vs gb vr va vm S) (hf : -9223372036854775808 ≤ S.fuel ∧ S.fuel ≤ 9223372036854775807) :
    Calls Try.prog 43 #[.pointer (some ⟨gb, 0, none⟩)] W fun e W' => e = .returned (.bool (decide (0 < S.fuel))) ∧ MR w W' E G vs gb vr va vm (spendS S) := by
  have hu66 := Try.underlying66
  have hu36 := Try.underlying36
  have hu28 := Try.underlying28
  have HM := Aside0.mk h
  clear h
  have c9 := HM.out.cell 9
  have f9 := HM.out.froz 9
  have c12 := HM.out.cell 12
  have f12 := HM.out.froz 12
  by_cases c : S.fuel ≤ 0
  · rw [show decide (0 < S.fuel) = false from decide_eq_false (by omega), show spendS S = { S with en := 4 } from if_pos c]
    have cb := eq_true c
    go_enter Try.func43, Try.ntmps43
    go_wp2
    go_ret
    exact ⟨rfl, (mup HM).out.set 12 _ rfl⟩
  · have hw : IntKind.i64.wrap (S.fuel - 1) = S.fuel - 1 := (i64_w _).trans (M.wrap64_in _ (by omega))
    rw [show decide (0 < S.fuel) = true from decide_eq_true (by omega), show spendS S = { S with fuel := S.fuel - 1 } from if_neg c]
    have cb := eq_false c
    go_enter Try.func43, Try.ntmps43
    go_wp2
    go_ret
    exact ⟨rfl, (mup HM).out.set 9 _ rfl⟩
end Go.Proofs.Ytcalcbeonbfkmaa.P
/- What the law's proof needs of H2. -/
namespace Go.Proofs.Ytcalcbeonbfkmaa.P
open Go.RowKit Go.Proofs.YtcalcbeonbfkmaaW.PrintWords Go.Proofs.YtcalcbeonbfkmaaW.PrintLast Go.Proofs.YtcalcbeonbfkmaaW.PrintMore Go.Proofs.YtcalcbeonbfkmaaO
attribute [local go_sem] max2_int min2_int max_two min_two max_three min_three max_four min_four
set_option linter.unusedVariables false
set_option linter.unusedSimpArgs false
set_option maxHeartbeats 8000000 in
set_option maxRecDepth 100000 in
theorem rtest_calls {w W : World} {E : List (Nat × Array Value × Nat)} {G : Gr} {vs vr va vm : Value} {gb : Nat} {S : St} (h : MR w W E G vs gb vr va vm S) (y : S52) (hf2 : 0 ≤ y.f2 ∧ y.f2 < (S.regs.length : Int)) (hf3 : 0 ≤ y.f3 ∧ y.f3 < (S.regs.length : Int)) (h4 : 14 ≤ y.f4 ∧ y.f4 ≤ 19) :
    Calls Try.prog 42 #[.pointer (some ⟨gb, 0, none⟩), .agg #[.int .i64 y.f0, .int .i64 y.f1, .int .i64 y.f2, .int .i64 y.f3, .int .i64 y.f4, .int .i64 y.f5, .int .i64 y.f6.f0, .int .i64 y.f6.f1]] W fun e W' => e = .returned (.bool (testB y.f4 (S.regs.getD y.f2.toNat 0) (S.regs.getD y.f3.toNat 0))) ∧ MR w W' E G vs gb vr va vm S := by
  obtain ⟨gr, cr, rfl⟩ := h.mem.regForm (by omega)
  have hu52 := Try.underlying52
  have hu66 := Try.underlying66
  have hu36 := Try.underlying36
  have hu28 := Try.underlying28
  have HM := Aside0.mk h
  clear h
  have pf2 := eq_true hf2.1
  have qf2 := eq_true hf2.2
  have zf2 : (y.f2.toNat < S.regs.length) = True := eq_true (by omega)
  have pf3 := eq_true hf3.1
  have qf3 := eq_true hf3.2
  have zf3 : (y.f3.toNat < S.regs.length) = True := eq_true (by omega)
  obtain ⟨af2, ea⟩ : ∃ a, S.regs.getD y.f2.toNat 0 = a := ⟨_, rfl⟩
  have Ef2 := Aside0.mk ea
  clear ea
  obtain ⟨af3, ea⟩ : ∃ a, S.regs.getD y.f3.toNat 0 = a := ⟨_, rfl⟩
  have Ef3 := Aside0.mk ea
  clear ea
  obtain ⟨bt, hbt⟩ : ∃ b, testB y.f4 (S.regs.getD y.f2.toNat 0) (S.regs.getD y.f3.toNat 0) = b := ⟨_, rfl⟩
  rw [hbt]
  rw [Ef2.out, Ef3.out] at hbt
  have KT := Aside0.mk hbt
  clear hbt
  rcases (show y.f4 = 14 ∨ y.f4 = 15 ∨ y.f4 = 16 ∨ y.f4 = 17 ∨ y.f4 = 18 ∨ y.f4 = 19 by omega) with e | e | e | e | e | e
  · have KB : Aside0 ((af2 == af3) = bt) := ⟨by rw [← KT.out, e]; rfl⟩
    clear KT
    have k14 : (y.f4 == (14 : Int)) = true := by rw [e]; rfl
    clear e
    go_enter Try.func42, Try.ntmps42
    go_upto_region 1 with (first | ((with_reducible refine gate_dst (N := 3) rfl ?_); refine boxM 3 #[.int .i64 y.f0, .int .i64 y.f1, .int .i64 y.f2, .int .i64 y.f3, .int .i64 y.f4, .int .i64 y.f5, .int .i64 y.f6.f0, .int .i64 y.f6.f1] 52 HM ?_; clear HM; intro g w1 _ NG BK _ HM; have hcf := hcf8 BK; obtain ⟨_, _, _, _, _, _, _, _, _, _, _, _, _, _, _, _⟩ := hcf))
    have b2 := hcz BK 2
    have c11 := HM.out.cell 11
    obtain ⟨xf2, rf2⟩ := HM.out.mem.reg y.f2.toNat (by omega)
    rw [Ef2.out] at xf2
    go_quiet (fail)
    clear b2 c11 xf2 rf2
    replace HM := Aside0.mk (HM.out.drewN nq)
    replace BK := Aside0.mk (blk_drewN BK.out nq)
    generalize w1.drewN nq = w2 at HM BK ⊢
    clear nq
    go_upto_region 2 with (fail)
    have b3 := hcz BK 3
    have c11 := HM.out.cell 11
    obtain ⟨xf3, rf3⟩ := HM.out.mem.reg y.f3.toNat (by omega)
    rw [Ef3.out] at xf3
    go_quiet (fail)
    clear b3 c11 xf3 rf3
    replace HM := Aside0.mk (HM.out.drewN nq)
    replace BK := Aside0.mk (blk_drewN BK.out nq)
    generalize w2.drewN nq = w3 at HM BK ⊢
    clear nq
    have b4 := hcz BK 4
    go_wp2
    all_goals go_ret
    all_goals exact ⟨congrArg (fun b => Ending.returned (Value.bool b)) KB.out, (mup HM).out⟩
  · have KB : Aside0 ((af2 != af3) = bt) := ⟨by rw [← KT.out, e]; rfl⟩
    clear KT
    have k14 : (y.f4 == (14 : Int)) = false := by rw [e]; rfl
    have k15 : (y.f4 == (15 : Int)) = true := by rw [e]; rfl
    clear e
    go_enter Try.func42, Try.ntmps42
    go_upto_region 1 with (first | ((with_reducible refine gate_dst (N := 3) rfl ?_); refine boxM 3 #[.int .i64 y.f0, .int .i64 y.f1, .int .i64 y.f2, .int .i64 y.f3, .int .i64 y.f4, .int .i64 y.f5, .int .i64 y.f6.f0, .int .i64 y.f6.f1] 52 HM ?_; clear HM; intro g w1 _ NG BK _ HM; have hcf := hcf8 BK; obtain ⟨_, _, _, _, _, _, _, _, _, _, _, _, _, _, _, _⟩ := hcf))
    have b2 := hcz BK 2
    have c11 := HM.out.cell 11
    obtain ⟨xf2, rf2⟩ := HM.out.mem.reg y.f2.toNat (by omega)
    rw [Ef2.out] at xf2
    go_quiet (fail)
    clear b2 c11 xf2 rf2
    replace HM := Aside0.mk (HM.out.drewN nq)
    replace BK := Aside0.mk (blk_drewN BK.out nq)
    generalize w1.drewN nq = w2 at HM BK ⊢
    clear nq
    go_upto_region 2 with (fail)
    have b3 := hcz BK 3
    have c11 := HM.out.cell 11
    obtain ⟨xf3, rf3⟩ := HM.out.mem.reg y.f3.toNat (by omega)
    rw [Ef3.out] at xf3
    go_quiet (fail)
    clear b3 c11 xf3 rf3
    replace HM := Aside0.mk (HM.out.drewN nq)
    replace BK := Aside0.mk (blk_drewN BK.out nq)
    generalize w2.drewN nq = w3 at HM BK ⊢
    clear nq
    have b4 := hcz BK 4
    go_wp2
    all_goals go_ret
    all_goals exact ⟨congrArg (fun b => Ending.returned (Value.bool b)) KB.out, (mup HM).out⟩
  · have KB : Aside0 ((decide (af2 < af3)) = bt) := ⟨by rw [← KT.out, e]; rfl⟩
    clear KT
    have k14 : (y.f4 == (14 : Int)) = false := by rw [e]; rfl
    have k15 : (y.f4 == (15 : Int)) = false := by rw [e]; rfl
    have k16 : (y.f4 == (16 : Int)) = true := by rw [e]; rfl
    clear e
    go_enter Try.func42, Try.ntmps42
    go_upto_region 1 with (first | ((with_reducible refine gate_dst (N := 3) rfl ?_); refine boxM 3 #[.int .i64 y.f0, .int .i64 y.f1, .int .i64 y.f2, .int .i64 y.f3, .int .i64 y.f4, .int .i64 y.f5, .int .i64 y.f6.f0, .int .i64 y.f6.f1] 52 HM ?_; clear HM; intro g w1 _ NG BK _ HM; have hcf := hcf8 BK; obtain ⟨_, _, _, _, _, _, _, _, _, _, _, _, _, _, _, _⟩ := hcf))
    have b2 := hcz BK 2
    have c11 := HM.out.cell 11
    obtain ⟨xf2, rf2⟩ := HM.out.mem.reg y.f2.toNat (by omega)
    rw [Ef2.out] at xf2
    go_quiet (fail)
    clear b2 c11 xf2 rf2
    replace HM := Aside0.mk (HM.out.drewN nq)
    replace BK := Aside0.mk (blk_drewN BK.out nq)
    generalize w1.drewN nq = w2 at HM BK ⊢
    clear nq
    go_upto_region 2 with (fail)
    have b3 := hcz BK 3
    have c11 := HM.out.cell 11
    obtain ⟨xf3, rf3⟩ := HM.out.mem.reg y.f3.toNat (by omega)
    rw [Ef3.out] at xf3
    go_quiet (fail)
    clear b3 c11 xf3 rf3
    replace HM := Aside0.mk (HM.out.drewN nq)
    replace BK := Aside0.mk (blk_drewN BK.out nq)
    generalize w2.drewN nq = w3 at HM BK ⊢
    clear nq
    have b4 := hcz BK 4
    go_wp2
    all_goals go_ret
    all_goals exact ⟨congrArg (fun b => Ending.returned (Value.bool b)) KB.out, (mup HM).out⟩
  · have KB : Aside0 ((decide (af2 ≤ af3)) = bt) := ⟨by rw [← KT.out, e]; rfl⟩
    clear KT
    have k14 : (y.f4 == (14 : Int)) = false := by rw [e]; rfl
    have k15 : (y.f4 == (15 : Int)) = false := by rw [e]; rfl
    have k16 : (y.f4 == (16 : Int)) = false := by rw [e]; rfl
    have k17 : (y.f4 == (17 : Int)) = true := by rw [e]; rfl
    clear e
    go_enter Try.func42, Try.ntmps42
    go_upto_region 1 with (first | ((with_reducible refine gate_dst (N := 3) rfl ?_); refine boxM 3 #[.int .i64 y.f0, .int .i64 y.f1, .int .i64 y.f2, .int .i64 y.f3, .int .i64 y.f4, .int .i64 y.f5, .int .i64 y.f6.f0, .int .i64 y.f6.f1] 52 HM ?_; clear HM; intro g w1 _ NG BK _ HM; have hcf := hcf8 BK; obtain ⟨_, _, _, _, _, _, _, _, _, _, _, _, _, _, _, _⟩ := hcf))
    have b2 := hcz BK 2
    have c11 := HM.out.cell 11
    obtain ⟨xf2, rf2⟩ := HM.out.mem.reg y.f2.toNat (by omega)
    rw [Ef2.out] at xf2
    go_quiet (fail)
    clear b2 c11 xf2 rf2
    replace HM := Aside0.mk (HM.out.drewN nq)
    replace BK := Aside0.mk (blk_drewN BK.out nq)
    generalize w1.drewN nq = w2 at HM BK ⊢
    clear nq
    go_upto_region 2 with (fail)
    have b3 := hcz BK 3
    have c11 := HM.out.cell 11
    obtain ⟨xf3, rf3⟩ := HM.out.mem.reg y.f3.toNat (by omega)
    rw [Ef3.out] at xf3
    go_quiet (fail)
    clear b3 c11 xf3 rf3
    replace HM := Aside0.mk (HM.out.drewN nq)
    replace BK := Aside0.mk (blk_drewN BK.out nq)
    generalize w2.drewN nq = w3 at HM BK ⊢
    clear nq
    have b4 := hcz BK 4
    go_wp2
    all_goals go_ret
    all_goals exact ⟨congrArg (fun b => Ending.returned (Value.bool b)) KB.out, (mup HM).out⟩
  · have KB : Aside0 ((decide (af3 < af2)) = bt) := ⟨by rw [← KT.out, e]; rfl⟩
    clear KT
    have k14 : (y.f4 == (14 : Int)) = false := by rw [e]; rfl
    have k15 : (y.f4 == (15 : Int)) = false := by rw [e]; rfl
    have k16 : (y.f4 == (16 : Int)) = false := by rw [e]; rfl
    have k17 : (y.f4 == (17 : Int)) = false := by rw [e]; rfl
    have k18 : (y.f4 == (18 : Int)) = true := by rw [e]; rfl
    clear e
    go_enter Try.func42, Try.ntmps42
    go_upto_region 1 with (first | ((with_reducible refine gate_dst (N := 3) rfl ?_); refine boxM 3 #[.int .i64 y.f0, .int .i64 y.f1, .int .i64 y.f2, .int .i64 y.f3, .int .i64 y.f4, .int .i64 y.f5, .int .i64 y.f6.f0, .int .i64 y.f6.f1] 52 HM ?_; clear HM; intro g w1 _ NG BK _ HM; have hcf := hcf8 BK; obtain ⟨_, _, _, _, _, _, _, _, _, _, _, _, _, _, _, _⟩ := hcf))
    have b2 := hcz BK 2
    have c11 := HM.out.cell 11
    obtain ⟨xf2, rf2⟩ := HM.out.mem.reg y.f2.toNat (by omega)
    rw [Ef2.out] at xf2
    go_quiet (fail)
    clear b2 c11 xf2 rf2
    replace HM := Aside0.mk (HM.out.drewN nq)
    replace BK := Aside0.mk (blk_drewN BK.out nq)
    generalize w1.drewN nq = w2 at HM BK ⊢
    clear nq
    go_upto_region 2 with (fail)
    have b3 := hcz BK 3
    have c11 := HM.out.cell 11
    obtain ⟨xf3, rf3⟩ := HM.out.mem.reg y.f3.toNat (by omega)
    rw [Ef3.out] at xf3
    go_quiet (fail)
    clear b3 c11 xf3 rf3
    replace HM := Aside0.mk (HM.out.drewN nq)
    replace BK := Aside0.mk (blk_drewN BK.out nq)
    generalize w2.drewN nq = w3 at HM BK ⊢
    clear nq
    have b4 := hcz BK 4
    go_wp2
    all_goals go_ret
    all_goals exact ⟨congrArg (fun b => Ending.returned (Value.bool b)) KB.out, (mup HM).out⟩
  · have KB : Aside0 ((decide (af3 ≤ af2)) = bt) := ⟨by rw [← KT.out, e]; rfl⟩
    clear KT
    have k14 : (y.f4 == (14 : Int)) = false := by rw [e]; rfl
    have k15 : (y.f4 == (15 : Int)) = false := by rw [e]; rfl
    have k16 : (y.f4 == (16 : Int)) = false := by rw [e]; rfl
    have k17 : (y.f4 == (17 : Int)) = false := by rw [e]; rfl
    have k18 : (y.f4 == (18 : Int)) = false := by rw [e]; rfl
    clear e
    go_enter Try.func42, Try.ntmps42
    go_upto_region 1 with (first | ((with_reducible refine gate_dst (N := 3) rfl ?_); refine boxM 3 #[.int .i64 y.f0, .int .i64 y.f1, .int .i64 y.f2, .int .i64 y.f3, .int .i64 y.f4, .int .i64 y.f5, .int .i64 y.f6.f0, .int .i64 y.f6.f1] 52 HM ?_; clear HM; intro g w1 _ NG BK _ HM; have hcf := hcf8 BK; obtain ⟨_, _, _, _, _, _, _, _, _, _, _, _, _, _, _, _⟩ := hcf))
    have b2 := hcz BK 2
    have c11 := HM.out.cell 11
    obtain ⟨xf2, rf2⟩ := HM.out.mem.reg y.f2.toNat (by omega)
    rw [Ef2.out] at xf2
    go_quiet (fail)
    clear b2 c11 xf2 rf2
    replace HM := Aside0.mk (HM.out.drewN nq)
    replace BK := Aside0.mk (blk_drewN BK.out nq)
    generalize w1.drewN nq = w2 at HM BK ⊢
    clear nq
    go_upto_region 2 with (fail)
    have b3 := hcz BK 3
    have c11 := HM.out.cell 11
    obtain ⟨xf3, rf3⟩ := HM.out.mem.reg y.f3.toNat (by omega)
    rw [Ef3.out] at xf3
    go_quiet (fail)
    clear b3 c11 xf3 rf3
    replace HM := Aside0.mk (HM.out.drewN nq)
    replace BK := Aside0.mk (blk_drewN BK.out nq)
    generalize w2.drewN nq = w3 at HM BK ⊢
    clear nq
    have b4 := hcz BK 4
    go_wp2
    all_goals go_ret
    all_goals exact ⟨congrArg (fun b => Ending.returned (Value.bool b)) KB.out, (mup HM).out⟩
end Go.Proofs.Ytcalcbeonbfkmaa.P
