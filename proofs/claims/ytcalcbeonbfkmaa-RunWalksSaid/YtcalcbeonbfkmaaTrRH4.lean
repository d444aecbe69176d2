import Derived.Test.YtcalcbeonbfkmaaTrRH2
/- What the law's proof needs of H3. -/
namespace Go.Proofs.Ytcalcbeonbfkmaa.P
open Go.RowKit Go.Proofs.YtcalcbeonbfkmaaW.PrintWords Go.Proofs.YtcalcbeonbfkmaaW.PrintLast Go.Proofs.YtcalcbeonbfkmaaW.PrintMore Go.Proofs.YtcalcbeonbfkmaaO
attribute [local go_sem] max2_int min2_int max_two min_two max_three min_three max_four min_four
set_option linter.unusedVariables false
set_option linter.unusedSimpArgs false
/-- A number, or that there is none. -/
def chkV (v : Int) : Int × Int := if v < -2147483648 ∨ 2147483647 < v then (0, 1) else (v, 0)
/-- What the document's machine reckons. -/
def reckV (op x b : Int) : Int × Int :=
  if op = 2 then chkV (wrap64 (-x)) else if op = 3 then chkV (if x < 0 then wrap64 (-x) else x) else if op = 4 then chkV (wrap64 (x + b)) else if op = 5 then chkV (wrap64 (x - b)) else if op = 6 then chkV (wrap64 (x * b))
  else if op = 7 then (if b = 0 then (0, 2) else if x = -2147483648 ∧ b = -1 then (0, 3) else (wrap64 (x.tdiv b), 0)) else if op = 8 then (if b = 0 then (0, 2) else (x.tmod b, 0))
  else if op = 9 then ((if x < b then x else b), 0) else ((if b < x then x else b), 0)
theorem chkV_lo {v : Int} (h : v < -2147483648) : chkV v = (0, 1) := if_pos (Or.inl h)
theorem chkV_hi {v : Int} (h : 2147483647 < v) : chkV v = (0, 1) := if_pos (Or.inr h)
theorem chkV_in {v : Int} (h1 : ¬ v < -2147483648) (h2 : ¬ 2147483647 < v) : chkV v = (v, 0) := if_neg (fun h => h.elim h1 h2)
set_option maxHeartbeats 8000000 in
set_option maxRecDepth 100000 in
theorem rreckon_calls {w W : World} {E : List (Nat × Array Value × Nat)} {G : Gr} {vs vr va vm : Value} {gb : Nat} {S : St} (h : MR w W E G vs gb vr va vm S) (y : S52) (hf2 : 0 ≤ y.f2 ∧ y.f2 < (S.regs.length : Int)) (hf3 : 0 ≤ y.f3 ∧ y.f3 < (S.regs.length : Int)) (h0 : 2 ≤ y.f0 ∧ y.f0 ≤ 10) :
    Calls Try.prog 45 #[.pointer (some ⟨gb, 0, none⟩), .agg #[.int .i64 y.f0, .int .i64 y.f1, .int .i64 y.f2, .int .i64 y.f3, .int .i64 y.f4, .int .i64 y.f5, .int .i64 y.f6.f0, .int .i64 y.f6.f1]] W fun e W' => e = .returned (.tuple #[.int .i64 (reckV y.f0 (S.regs.getD y.f2.toNat 0) (S.regs.getD y.f3.toNat 0)).1, .int .i64 (reckV y.f0 (S.regs.getD y.f2.toNat 0) (S.regs.getD y.f3.toNat 0)).2]) ∧ MR w W' E G vs gb vr va vm S := by
  obtain ⟨gr, cr, rfl⟩ := h.mem.regForm (by omega)
  have hu52 := Try.underlying52
  have hu66 := Try.underlying66
  have hu36 := Try.underlying36
  have hu28 := Try.underlying28
  have HM := Aside0.mk h
  clear h
  have pf2 := eq_true hf2.1
  have qf2 := eq_true hf2.2
  have zf2 : (y.f2.toNat < S.regs.length) = True := eq_true (by omega)
  have pf3 := eq_true hf3.1
  have qf3 := eq_true hf3.2
  have zf3 : (y.f3.toNat < S.regs.length) = True := eq_true (by omega)
  obtain ⟨af2, ea⟩ : ∃ a, S.regs.getD y.f2.toNat 0 = a := ⟨_, rfl⟩
  have Ef2 := Aside0.mk ea
  clear ea
  obtain ⟨af3, ea⟩ : ∃ a, S.regs.getD y.f3.toNat 0 = a := ⟨_, rfl⟩
  have Ef3 := Aside0.mk ea
  clear ea
  obtain ⟨op, hop⟩ : ∃ o, y.f0 = o := ⟨_, rfl⟩
  have k1 : (y.f0 == (1 : Int)) = false := beq_eq_false_iff_ne.mpr (by omega)
  rcases (show y.f0 = 2 ∨ y.f0 = 3 ∨ y.f0 = 4 ∨ y.f0 = 5 ∨ y.f0 = 6 ∨ y.f0 = 7 ∨ y.f0 = 8 ∨ y.f0 = 9 ∨ y.f0 = 10 by omega) with e | e | e | e | e | e | e | e | e
  · obtain ⟨v, hv⟩ : ∃ v, wrap64 (-af2) = v := ⟨_, rfl⟩
    have hw : IntKind.i64.wrap (-af2) = v := (i64_w _).trans hv
    have KV : reckV y.f0 (S.regs.getD y.f2.toNat 0) (S.regs.getD y.f3.toNat 0) = chkV v := (by rw [Ef2.out, Ef3.out, e, ← hv]; rfl)
    rw [KV]
    clear KV
    have k2 : (y.f0 == (2 : Int)) = true := by rw [e]; rfl
    have k3 : (y.f0 == (3 : Int)) = false := by rw [e]; rfl
    have k4 : (y.f0 == (4 : Int)) = false := by rw [e]; rfl
    have k5 : (y.f0 == (5 : Int)) = false := by rw [e]; rfl
    have k6 : (y.f0 == (6 : Int)) = false := by rw [e]; rfl
    have k7 : (y.f0 == (7 : Int)) = false := by rw [e]; rfl
    have k8 : (y.f0 == (8 : Int)) = false := by rw [e]; rfl
    clear e hop
    by_cases c1 : v < -2147483648
    · rw [chkV_lo c1]
      have c1b := eq_true c1
      go_enter Try.func45, Try.ntmps45
      go_upto_region 1 with (first | ((with_reducible refine gate_dst (N := 3) rfl ?_); refine boxM 3 #[.int .i64 y.f0, .int .i64 y.f1, .int .i64 y.f2, .int .i64 y.f3, .int .i64 y.f4, .int .i64 y.f5, .int .i64 y.f6.f0, .int .i64 y.f6.f1] 52 HM ?_; clear HM; intro g w1 _ NG BK _ HM; have hcf := hcf8 BK; obtain ⟨_, _, _, _, _, _, _, _, _, _, _, _, _, _, _, _⟩ := hcf))
      have b0 := hcz BK 0
      go_upto_region 3 with (fail)
      clear b0
      have b2 := hcz BK 2
      have c11 := HM.out.cell 11
      obtain ⟨xf2, rf2⟩ := HM.out.mem.reg y.f2.toNat (by omega)
      rw [Ef2.out] at xf2
      go_quiet (fail)
      clear b2 c11 xf2 rf2
      replace HM := Aside0.mk (HM.out.drewN nq)
      replace BK := Aside0.mk (blk_drewN BK.out nq)
      generalize w1.drewN nq = w2 at HM BK ⊢
      clear nq
      go_upto_region 4 with (fail)
      have b3 := hcz BK 3
      have c11 := HM.out.cell 11
      obtain ⟨xf3, rf3⟩ := HM.out.mem.reg y.f3.toNat (by omega)
      rw [Ef3.out] at xf3
      go_quiet (fail)
      clear b3 c11 xf3 rf3
      replace HM := Aside0.mk (HM.out.drewN nq)
      replace BK := Aside0.mk (blk_drewN BK.out nq)
      generalize w2.drewN nq = w3 at HM BK ⊢
      clear nq
      have b0 := hcz BK 0
      go_wp2
      all_goals go_ret2
      all_goals exact ⟨rfl, (mup HM).out⟩
    · have c1b := eq_false c1
      by_cases c2 : 2147483647 < v
      · rw [chkV_hi c2]
        have c2b := eq_true c2
        go_enter Try.func45, Try.ntmps45
        go_upto_region 1 with (first | ((with_reducible refine gate_dst (N := 3) rfl ?_); refine boxM 3 #[.int .i64 y.f0, .int .i64 y.f1, .int .i64 y.f2, .int .i64 y.f3, .int .i64 y.f4, .int .i64 y.f5, .int .i64 y.f6.f0, .int .i64 y.f6.f1] 52 HM ?_; clear HM; intro g w1 _ NG BK _ HM; have hcf := hcf8 BK; obtain ⟨_, _, _, _, _, _, _, _, _, _, _, _, _, _, _, _⟩ := hcf))
        have b0 := hcz BK 0
        go_upto_region 3 with (fail)
        clear b0
        have b2 := hcz BK 2
        have c11 := HM.out.cell 11
        obtain ⟨xf2, rf2⟩ := HM.out.mem.reg y.f2.toNat (by omega)
        rw [Ef2.out] at xf2
        go_quiet (fail)
        clear b2 c11 xf2 rf2
        replace HM := Aside0.mk (HM.out.drewN nq)
        replace BK := Aside0.mk (blk_drewN BK.out nq)
        generalize w1.drewN nq = w2 at HM BK ⊢
        clear nq
        go_upto_region 4 with (fail)
        have b3 := hcz BK 3
        have c11 := HM.out.cell 11
        obtain ⟨xf3, rf3⟩ := HM.out.mem.reg y.f3.toNat (by omega)
        rw [Ef3.out] at xf3
        go_quiet (fail)
        clear b3 c11 xf3 rf3
        replace HM := Aside0.mk (HM.out.drewN nq)
        replace BK := Aside0.mk (blk_drewN BK.out nq)
        generalize w2.drewN nq = w3 at HM BK ⊢
        clear nq
        have b0 := hcz BK 0
        go_wp2
        all_goals go_ret2
        all_goals exact ⟨rfl, (mup HM).out⟩
      · rw [chkV_in c1 c2]
        have c2b := eq_false c2
        go_enter Try.func45, Try.ntmps45
        go_upto_region 1 with (first | ((with_reducible refine gate_dst (N := 3) rfl ?_); refine boxM 3 #[.int .i64 y.f0, .int .i64 y.f1, .int .i64 y.f2, .int .i64 y.f3, .int .i64 y.f4, .int .i64 y.f5, .int .i64 y.f6.f0, .int .i64 y.f6.f1] 52 HM ?_; clear HM; intro g w1 _ NG BK _ HM; have hcf := hcf8 BK; obtain ⟨_, _, _, _, _, _, _, _, _, _, _, _, _, _, _, _⟩ := hcf))
        have b0 := hcz BK 0
        go_upto_region 3 with (fail)
        clear b0
        have b2 := hcz BK 2
        have c11 := HM.out.cell 11
        obtain ⟨xf2, rf2⟩ := HM.out.mem.reg y.f2.toNat (by omega)
        rw [Ef2.out] at xf2
        go_quiet (fail)
        clear b2 c11 xf2 rf2
        replace HM := Aside0.mk (HM.out.drewN nq)
        replace BK := Aside0.mk (blk_drewN BK.out nq)
        generalize w1.drewN nq = w2 at HM BK ⊢
        clear nq
        go_upto_region 4 with (fail)
        have b3 := hcz BK 3
        have c11 := HM.out.cell 11
        obtain ⟨xf3, rf3⟩ := HM.out.mem.reg y.f3.toNat (by omega)
        rw [Ef3.out] at xf3
        go_quiet (fail)
        clear b3 c11 xf3 rf3
        replace HM := Aside0.mk (HM.out.drewN nq)
        replace BK := Aside0.mk (blk_drewN BK.out nq)
        generalize w2.drewN nq = w3 at HM BK ⊢
        clear nq
        have b0 := hcz BK 0
        go_wp2
        all_goals go_ret2
        all_goals exact ⟨rfl, (mup HM).out⟩
  · by_cases n0 : af2 < 0
    · have n0b := eq_true n0
      obtain ⟨v, hv⟩ : ∃ v, wrap64 (-af2) = v := ⟨_, rfl⟩
      have hw : IntKind.i64.wrap (-af2) = v := (i64_w _).trans hv
      have KV : reckV y.f0 (S.regs.getD y.f2.toNat 0) (S.regs.getD y.f3.toNat 0) = chkV v := (by rw [Ef2.out, Ef3.out, e, ← hv]; show chkV (if af2 < 0 then wrap64 (-af2) else af2) = _; rw [if_pos n0])
      rw [KV]
      clear KV
      have k2 : (y.f0 == (2 : Int)) = false := by rw [e]; rfl
      have k3 : (y.f0 == (3 : Int)) = true := by rw [e]; rfl
      have k4 : (y.f0 == (4 : Int)) = false := by rw [e]; rfl
      have k5 : (y.f0 == (5 : Int)) = false := by rw [e]; rfl
      have k6 : (y.f0 == (6 : Int)) = false := by rw [e]; rfl
      have k7 : (y.f0 == (7 : Int)) = false := by rw [e]; rfl
      have k8 : (y.f0 == (8 : Int)) = false := by rw [e]; rfl
      clear e hop
      by_cases c1 : v < -2147483648
      · rw [chkV_lo c1]
        have c1b := eq_true c1
        go_enter Try.func45, Try.ntmps45
        go_upto_region 1 with (first | ((with_reducible refine gate_dst (N := 3) rfl ?_); refine boxM 3 #[.int .i64 y.f0, .int .i64 y.f1, .int .i64 y.f2, .int .i64 y.f3, .int .i64 y.f4, .int .i64 y.f5, .int .i64 y.f6.f0, .int .i64 y.f6.f1] 52 HM ?_; clear HM; intro g w1 _ NG BK _ HM; have hcf := hcf8 BK; obtain ⟨_, _, _, _, _, _, _, _, _, _, _, _, _, _, _, _⟩ := hcf))
        have b0 := hcz BK 0
        go_upto_region 3 with (fail)
        clear b0
        have b2 := hcz BK 2
        have c11 := HM.out.cell 11
        obtain ⟨xf2, rf2⟩ := HM.out.mem.reg y.f2.toNat (by omega)
        rw [Ef2.out] at xf2
        go_quiet (fail)
        clear b2 c11 xf2 rf2
        replace HM := Aside0.mk (HM.out.drewN nq)
        replace BK := Aside0.mk (blk_drewN BK.out nq)
        generalize w1.drewN nq = w2 at HM BK ⊢
        clear nq
        go_upto_region 4 with (fail)
        have b3 := hcz BK 3
        have c11 := HM.out.cell 11
        obtain ⟨xf3, rf3⟩ := HM.out.mem.reg y.f3.toNat (by omega)
        rw [Ef3.out] at xf3
        go_quiet (fail)
        clear b3 c11 xf3 rf3
        replace HM := Aside0.mk (HM.out.drewN nq)
        replace BK := Aside0.mk (blk_drewN BK.out nq)
        generalize w2.drewN nq = w3 at HM BK ⊢
        clear nq
        have b0 := hcz BK 0
        go_wp2
        all_goals go_ret2
        all_goals exact ⟨rfl, (mup HM).out⟩
      · have c1b := eq_false c1
        by_cases c2 : 2147483647 < v
        · rw [chkV_hi c2]
          have c2b := eq_true c2
          go_enter Try.func45, Try.ntmps45
          go_upto_region 1 with (first | ((with_reducible refine gate_dst (N := 3) rfl ?_); refine boxM 3 #[.int .i64 y.f0, .int .i64 y.f1, .int .i64 y.f2, .int .i64 y.f3, .int .i64 y.f4, .int .i64 y.f5, .int .i64 y.f6.f0, .int .i64 y.f6.f1] 52 HM ?_; clear HM; intro g w1 _ NG BK _ HM; have hcf := hcf8 BK; obtain ⟨_, _, _, _, _, _, _, _, _, _, _, _, _, _, _, _⟩ := hcf))
          have b0 := hcz BK 0
          go_upto_region 3 with (fail)
          clear b0
          have b2 := hcz BK 2
          have c11 := HM.out.cell 11
          obtain ⟨xf2, rf2⟩ := HM.out.mem.reg y.f2.toNat (by omega)
          rw [Ef2.out] at xf2
          go_quiet (fail)
          clear b2 c11 xf2 rf2
          replace HM := Aside0.mk (HM.out.drewN nq)
          replace BK := Aside0.mk (blk_drewN BK.out nq)
          generalize w1.drewN nq = w2 at HM BK ⊢
          clear nq
          go_upto_region 4 with (fail)
          have b3 := hcz BK 3
          have c11 := HM.out.cell 11
          obtain ⟨xf3, rf3⟩ := HM.out.mem.reg y.f3.toNat (by omega)
          rw [Ef3.out] at xf3
          go_quiet (fail)
          clear b3 c11 xf3 rf3
          replace HM := Aside0.mk (HM.out.drewN nq)
          replace BK := Aside0.mk (blk_drewN BK.out nq)
          generalize w2.drewN nq = w3 at HM BK ⊢
          clear nq
          have b0 := hcz BK 0
          go_wp2
          all_goals go_ret2
          all_goals exact ⟨rfl, (mup HM).out⟩
        · rw [chkV_in c1 c2]
          have c2b := eq_false c2
          go_enter Try.func45, Try.ntmps45
          go_upto_region 1 with (first | ((with_reducible refine gate_dst (N := 3) rfl ?_); refine boxM 3 #[.int .i64 y.f0, .int .i64 y.f1, .int .i64 y.f2, .int .i64 y.f3, .int .i64 y.f4, .int .i64 y.f5, .int .i64 y.f6.f0, .int .i64 y.f6.f1] 52 HM ?_; clear HM; intro g w1 _ NG BK _ HM; have hcf := hcf8 BK; obtain ⟨_, _, _, _, _, _, _, _, _, _, _, _, _, _, _, _⟩ := hcf))
          have b0 := hcz BK 0
          go_upto_region 3 with (fail)
          clear b0
          have b2 := hcz BK 2
          have c11 := HM.out.cell 11
          obtain ⟨xf2, rf2⟩ := HM.out.mem.reg y.f2.toNat (by omega)
          rw [Ef2.out] at xf2
          go_quiet (fail)
          clear b2 c11 xf2 rf2
          replace HM := Aside0.mk (HM.out.drewN nq)
          replace BK := Aside0.mk (blk_drewN BK.out nq)
          generalize w1.drewN nq = w2 at HM BK ⊢
          clear nq
          go_upto_region 4 with (fail)
          have b3 := hcz BK 3
          have c11 := HM.out.cell 11
          obtain ⟨xf3, rf3⟩ := HM.out.mem.reg y.f3.toNat (by omega)
          rw [Ef3.out] at xf3
          go_quiet (fail)
          clear b3 c11 xf3 rf3
          replace HM := Aside0.mk (HM.out.drewN nq)
          replace BK := Aside0.mk (blk_drewN BK.out nq)
          generalize w2.drewN nq = w3 at HM BK ⊢
          clear nq
          have b0 := hcz BK 0
          go_wp2
          all_goals go_ret2
          all_goals exact ⟨rfl, (mup HM).out⟩
    · have n0b := eq_false n0
      have HNF := HM
      have KV : reckV y.f0 (S.regs.getD y.f2.toNat 0) (S.regs.getD y.f3.toNat 0) = chkV af2 := (by rw [Ef2.out, Ef3.out, e]; show chkV (if af2 < 0 then wrap64 (-af2) else af2) = _; rw [if_neg n0])
      rw [KV]
      clear KV
      have k2 : (y.f0 == (2 : Int)) = false := by rw [e]; rfl
      have k3 : (y.f0 == (3 : Int)) = true := by rw [e]; rfl
      have k4 : (y.f0 == (4 : Int)) = false := by rw [e]; rfl
      have k5 : (y.f0 == (5 : Int)) = false := by rw [e]; rfl
      have k6 : (y.f0 == (6 : Int)) = false := by rw [e]; rfl
      have k7 : (y.f0 == (7 : Int)) = false := by rw [e]; rfl
      have k8 : (y.f0 == (8 : Int)) = false := by rw [e]; rfl
      clear e hop
      by_cases c1 : af2 < -2147483648
      · omega
      · have c1b := eq_false c1
        by_cases c2 : 2147483647 < af2
        · rw [chkV_hi c2]
          have c2b := eq_true c2
          go_enter Try.func45, Try.ntmps45
          go_upto_region 1 with (first | ((with_reducible refine gate_dst (N := 3) rfl ?_); refine boxM 3 #[.int .i64 y.f0, .int .i64 y.f1, .int .i64 y.f2, .int .i64 y.f3, .int .i64 y.f4, .int .i64 y.f5, .int .i64 y.f6.f0, .int .i64 y.f6.f1] 52 HM ?_; clear HM; intro g w1 _ NG BK _ HM; have hcf := hcf8 BK; obtain ⟨_, _, _, _, _, _, _, _, _, _, _, _, _, _, _, _⟩ := hcf))
          have b0 := hcz BK 0
          go_upto_region 3 with (fail)
          clear b0
          have b2 := hcz BK 2
          have c11 := HM.out.cell 11
          obtain ⟨xf2, rf2⟩ := HM.out.mem.reg y.f2.toNat (by omega)
          rw [Ef2.out] at xf2
          go_quiet (fail)
          clear b2 c11 xf2 rf2
          replace HM := Aside0.mk (HM.out.drewN nq)
          replace BK := Aside0.mk (blk_drewN BK.out nq)
          generalize w1.drewN nq = w2 at HM BK ⊢
          clear nq
          go_upto_region 4 with (fail)
          have b3 := hcz BK 3
          have c11 := HM.out.cell 11
          obtain ⟨xf3, rf3⟩ := HM.out.mem.reg y.f3.toNat (by omega)
          rw [Ef3.out] at xf3
          go_quiet (fail)
          clear b3 c11 xf3 rf3
          replace HM := Aside0.mk (HM.out.drewN nq)
          replace BK := Aside0.mk (blk_drewN BK.out nq)
          generalize w2.drewN nq = w3 at HM BK ⊢
          clear nq
          have b0 := hcz BK 0
          go_wp2
          all_goals go_ret2
          all_goals exact ⟨rfl, (mup HM).out⟩
        · rw [chkV_in c1 c2]
          have c2b := eq_false c2
          go_enter Try.func45, Try.ntmps45
          go_upto_region 1 with (first | ((with_reducible refine gate_dst (N := 3) rfl ?_); refine boxM 3 #[.int .i64 y.f0, .int .i64 y.f1, .int .i64 y.f2, .int .i64 y.f3, .int .i64 y.f4, .int .i64 y.f5, .int .i64 y.f6.f0, .int .i64 y.f6.f1] 52 HM ?_; clear HM; intro g w1 _ NG BK _ HM; have hcf := hcf8 BK; obtain ⟨_, _, _, _, _, _, _, _, _, _, _, _, _, _, _, _⟩ := hcf))
          have b0 := hcz BK 0
          go_upto_region 3 with (fail)
          clear b0
          have b2 := hcz BK 2
          have c11 := HM.out.cell 11
          obtain ⟨xf2, rf2⟩ := HM.out.mem.reg y.f2.toNat (by omega)
          rw [Ef2.out] at xf2
          go_quiet (fail)
          clear b2 c11 xf2 rf2
          replace HM := Aside0.mk (HM.out.drewN nq)
          replace BK := Aside0.mk (blk_drewN BK.out nq)
          generalize w1.drewN nq = w2 at HM BK ⊢
          clear nq
          go_upto_region 4 with (fail)
          have b3 := hcz BK 3
          have c11 := HM.out.cell 11
          obtain ⟨xf3, rf3⟩ := HM.out.mem.reg y.f3.toNat (by omega)
          rw [Ef3.out] at xf3
          go_quiet (fail)
          clear b3 c11 xf3 rf3
          replace HM := Aside0.mk (HM.out.drewN nq)
          replace BK := Aside0.mk (blk_drewN BK.out nq)
          generalize w2.drewN nq = w3 at HM BK ⊢
          clear nq
          have b0 := hcz BK 0
          go_wp2
          all_goals go_ret2
          all_goals exact ⟨rfl, (mup HM).out⟩
  · obtain ⟨v, hv⟩ : ∃ v, wrap64 (af2 + af3) = v := ⟨_, rfl⟩
    have hw : IntKind.i64.wrap (af2 + af3) = v := (i64_w _).trans hv
    have KV : reckV y.f0 (S.regs.getD y.f2.toNat 0) (S.regs.getD y.f3.toNat 0) = chkV v := (by rw [Ef2.out, Ef3.out, e, ← hv]; rfl)
    rw [KV]
    clear KV
    have k2 : (y.f0 == (2 : Int)) = false := by rw [e]; rfl
    have k3 : (y.f0 == (3 : Int)) = false := by rw [e]; rfl
    have k4 : (y.f0 == (4 : Int)) = true := by rw [e]; rfl
    have k5 : (y.f0 == (5 : Int)) = false := by rw [e]; rfl
    have k6 : (y.f0 == (6 : Int)) = false := by rw [e]; rfl
    have k7 : (y.f0 == (7 : Int)) = false := by rw [e]; rfl
    have k8 : (y.f0 == (8 : Int)) = false := by rw [e]; rfl
    clear e hop
    by_cases c1 : v < -2147483648
    · rw [chkV_lo c1]
      have c1b := eq_true c1
      go_enter Try.func45, Try.ntmps45
      go_upto_region 1 with (first | ((with_reducible refine gate_dst (N := 3) rfl ?_); refine boxM 3 #[.int .i64 y.f0, .int .i64 y.f1, .int .i64 y.f2, .int .i64 y.f3, .int .i64 y.f4, .int .i64 y.f5, .int .i64 y.f6.f0, .int .i64 y.f6.f1] 52 HM ?_; clear HM; intro g w1 _ NG BK _ HM; have hcf := hcf8 BK; obtain ⟨_, _, _, _, _, _, _, _, _, _, _, _, _, _, _, _⟩ := hcf))
      have b0 := hcz BK 0
      go_upto_region 3 with (fail)
      clear b0
      have b2 := hcz BK 2
      have c11 := HM.out.cell 11
      obtain ⟨xf2, rf2⟩ := HM.out.mem.reg y.f2.toNat (by omega)
      rw [Ef2.out] at xf2
      go_quiet (fail)
      clear b2 c11 xf2 rf2
      replace HM := Aside0.mk (HM.out.drewN nq)
      replace BK := Aside0.mk (blk_drewN BK.out nq)
      generalize w1.drewN nq = w2 at HM BK ⊢
      clear nq
      go_upto_region 4 with (fail)
      have b3 := hcz BK 3
      have c11 := HM.out.cell 11
      obtain ⟨xf3, rf3⟩ := HM.out.mem.reg y.f3.toNat (by omega)
      rw [Ef3.out] at xf3
      go_quiet (fail)
      clear b3 c11 xf3 rf3
      replace HM := Aside0.mk (HM.out.drewN nq)
      replace BK := Aside0.mk (blk_drewN BK.out nq)
      generalize w2.drewN nq = w3 at HM BK ⊢
      clear nq
      have b0 := hcz BK 0
      go_wp2
      all_goals go_ret2
      all_goals exact ⟨rfl, (mup HM).out⟩
    · have c1b := eq_false c1
      by_cases c2 : 2147483647 < v
      · rw [chkV_hi c2]
        have c2b := eq_true c2
        go_enter Try.func45, Try.ntmps45
        go_upto_region 1 with (first | ((with_reducible refine gate_dst (N := 3) rfl ?_); refine boxM 3 #[.int .i64 y.f0, .int .i64 y.f1, .int .i64 y.f2, .int .i64 y.f3, .int .i64 y.f4, .int .i64 y.f5, .int .i64 y.f6.f0, .int .i64 y.f6.f1] 52 HM ?_; clear HM; intro g w1 _ NG BK _ HM; have hcf := hcf8 BK; obtain ⟨_, _, _, _, _, _, _, _, _, _, _, _, _, _, _, _⟩ := hcf))
        have b0 := hcz BK 0
        go_upto_region 3 with (fail)
        clear b0
        have b2 := hcz BK 2
        have c11 := HM.out.cell 11
        obtain ⟨xf2, rf2⟩ := HM.out.mem.reg y.f2.toNat (by omega)
        rw [Ef2.out] at xf2
        go_quiet (fail)
        clear b2 c11 xf2 rf2
        replace HM := Aside0.mk (HM.out.drewN nq)
        replace BK := Aside0.mk (blk_drewN BK.out nq)
        generalize w1.drewN nq = w2 at HM BK ⊢
        clear nq
        go_upto_region 4 with (fail)
        have b3 := hcz BK 3
        have c11 := HM.out.cell 11
        obtain ⟨xf3, rf3⟩ := HM.out.mem.reg y.f3.toNat (by omega)
        rw [Ef3.out] at xf3
        go_quiet (fail)
        clear b3 c11 xf3 rf3
        replace HM := Aside0.mk (HM.out.drewN nq)
        replace BK := Aside0.mk (blk_drewN BK.out nq)
        generalize w2.drewN nq = w3 at HM BK ⊢
        clear nq
        have b0 := hcz BK 0
        go_wp2
        all_goals go_ret2
        all_goals exact ⟨rfl, (mup HM).out⟩
      · rw [chkV_in c1 c2]
        have c2b := eq_false c2
        go_enter Try.func45, Try.ntmps45
        go_upto_region 1 with (first | ((with_reducible refine gate_dst (N := 3) rfl ?_); refine boxM 3 #[.int .i64 y.f0, .int .i64 y.f1, .int .i64 y.f2, .int .i64 y.f3, .int .i64 y.f4, .int .i64 y.f5, .int .i64 y.f6.f0, .int .i64 y.f6.f1] 52 HM ?_; clear HM; intro g w1 _ NG BK _ HM; have hcf := hcf8 BK; obtain ⟨_, _, _, _, _, _, _, _, _, _, _, _, _, _, _, _⟩ := hcf))
        have b0 := hcz BK 0
        go_upto_region 3 with (fail)
        clear b0
        have b2 := hcz BK 2
        have c11 := HM.out.cell 11
        obtain ⟨xf2, rf2⟩ := HM.out.mem.reg y.f2.toNat (by omega)
        rw [Ef2.out] at xf2
        go_quiet (fail)
        clear b2 c11 xf2 rf2
        replace HM := Aside0.mk (HM.out.drewN nq)
        replace BK := Aside0.mk (blk_drewN BK.out nq)
        generalize w1.drewN nq = w2 at HM BK ⊢
        clear nq
        go_upto_region 4 with (fail)
        have b3 := hcz BK 3
        have c11 := HM.out.cell 11
        obtain ⟨xf3, rf3⟩ := HM.out.mem.reg y.f3.toNat (by omega)
        rw [Ef3.out] at xf3
        go_quiet (fail)
        clear b3 c11 xf3 rf3
        replace HM := Aside0.mk (HM.out.drewN nq)
        replace BK := Aside0.mk (blk_drewN BK.out nq)
        generalize w2.drewN nq = w3 at HM BK ⊢
        clear nq
        have b0 := hcz BK 0
        go_wp2
        all_goals go_ret2
        all_goals exact ⟨rfl, (mup HM).out⟩
  · obtain ⟨v, hv⟩ : ∃ v, wrap64 (af2 - af3) = v := ⟨_, rfl⟩
    have hw : IntKind.i64.wrap (af2 - af3) = v := (i64_w _).trans hv
    have KV : reckV y.f0 (S.regs.getD y.f2.toNat 0) (S.regs.getD y.f3.toNat 0) = chkV v := (by rw [Ef2.out, Ef3.out, e, ← hv]; rfl)
    rw [KV]
    clear KV
    have k2 : (y.f0 == (2 : Int)) = false := by rw [e]; rfl
    have k3 : (y.f0 == (3 : Int)) = false := by rw [e]; rfl
    have k4 : (y.f0 == (4 : Int)) = false := by rw [e]; rfl
    have k5 : (y.f0 == (5 : Int)) = true := by rw [e]; rfl
    have k6 : (y.f0 == (6 : Int)) = false := by rw [e]; rfl
    have k7 : (y.f0 == (7 : Int)) = false := by rw [e]; rfl
    have k8 : (y.f0 == (8 : Int)) = false := by rw [e]; rfl
    clear e hop
    by_cases c1 : v < -2147483648
    · rw [chkV_lo c1]
      have c1b := eq_true c1
      go_enter Try.func45, Try.ntmps45
      go_upto_region 1 with (first | ((with_reducible refine gate_dst (N := 3) rfl ?_); refine boxM 3 #[.int .i64 y.f0, .int .i64 y.f1, .int .i64 y.f2, .int .i64 y.f3, .int .i64 y.f4, .int .i64 y.f5, .int .i64 y.f6.f0, .int .i64 y.f6.f1] 52 HM ?_; clear HM; intro g w1 _ NG BK _ HM; have hcf := hcf8 BK; obtain ⟨_, _, _, _, _, _, _, _, _, _, _, _, _, _, _, _⟩ := hcf))
      have b0 := hcz BK 0
      go_upto_region 3 with (fail)
      clear b0
      have b2 := hcz BK 2
      have c11 := HM.out.cell 11
      obtain ⟨xf2, rf2⟩ := HM.out.mem.reg y.f2.toNat (by omega)
      rw [Ef2.out] at xf2
      go_quiet (fail)
      clear b2 c11 xf2 rf2
      replace HM := Aside0.mk (HM.out.drewN nq)
      replace BK := Aside0.mk (blk_drewN BK.out nq)
      generalize w1.drewN nq = w2 at HM BK ⊢
      clear nq
      go_upto_region 4 with (fail)
      have b3 := hcz BK 3
      have c11 := HM.out.cell 11
      obtain ⟨xf3, rf3⟩ := HM.out.mem.reg y.f3.toNat (by omega)
      rw [Ef3.out] at xf3
      go_quiet (fail)
      clear b3 c11 xf3 rf3
      replace HM := Aside0.mk (HM.out.drewN nq)
      replace BK := Aside0.mk (blk_drewN BK.out nq)
      generalize w2.drewN nq = w3 at HM BK ⊢
      clear nq
      have b0 := hcz BK 0
      go_wp2
      all_goals go_ret2
      all_goals exact ⟨rfl, (mup HM).out⟩
    · have c1b := eq_false c1
      by_cases c2 : 2147483647 < v
      · rw [chkV_hi c2]
        have c2b := eq_true c2
        go_enter Try.func45, Try.ntmps45
        go_upto_region 1 with (first | ((with_reducible refine gate_dst (N := 3) rfl ?_); refine boxM 3 #[.int .i64 y.f0, .int .i64 y.f1, .int .i64 y.f2, .int .i64 y.f3, .int .i64 y.f4, .int .i64 y.f5, .int .i64 y.f6.f0, .int .i64 y.f6.f1] 52 HM ?_; clear HM; intro g w1 _ NG BK _ HM; have hcf := hcf8 BK; obtain ⟨_, _, _, _, _, _, _, _, _, _, _, _, _, _, _, _⟩ := hcf))
        have b0 := hcz BK 0
        go_upto_region 3 with (fail)
        clear b0
        have b2 := hcz BK 2
        have c11 := HM.out.cell 11
        obtain ⟨xf2, rf2⟩ := HM.out.mem.reg y.f2.toNat (by omega)
        rw [Ef2.out] at xf2
        go_quiet (fail)
        clear b2 c11 xf2 rf2
        replace HM := Aside0.mk (HM.out.drewN nq)
        replace BK := Aside0.mk (blk_drewN BK.out nq)
        generalize w1.drewN nq = w2 at HM BK ⊢
        clear nq
        go_upto_region 4 with (fail)
        have b3 := hcz BK 3
        have c11 := HM.out.cell 11
        obtain ⟨xf3, rf3⟩ := HM.out.mem.reg y.f3.toNat (by omega)
        rw [Ef3.out] at xf3
        go_quiet (fail)
        clear b3 c11 xf3 rf3
        replace HM := Aside0.mk (HM.out.drewN nq)
        replace BK := Aside0.mk (blk_drewN BK.out nq)
        generalize w2.drewN nq = w3 at HM BK ⊢
        clear nq
        have b0 := hcz BK 0
        go_wp2
        all_goals go_ret2
        all_goals exact ⟨rfl, (mup HM).out⟩
      · rw [chkV_in c1 c2]
        have c2b := eq_false c2
        go_enter Try.func45, Try.ntmps45
        go_upto_region 1 with (first | ((with_reducible refine gate_dst (N := 3) rfl ?_); refine boxM 3 #[.int .i64 y.f0, .int .i64 y.f1, .int .i64 y.f2, .int .i64 y.f3, .int .i64 y.f4, .int .i64 y.f5, .int .i64 y.f6.f0, .int .i64 y.f6.f1] 52 HM ?_; clear HM; intro g w1 _ NG BK _ HM; have hcf := hcf8 BK; obtain ⟨_, _, _, _, _, _, _, _, _, _, _, _, _, _, _, _⟩ := hcf))
        have b0 := hcz BK 0
        go_upto_region 3 with (fail)
        clear b0
        have b2 := hcz BK 2
        have c11 := HM.out.cell 11
        obtain ⟨xf2, rf2⟩ := HM.out.mem.reg y.f2.toNat (by omega)
        rw [Ef2.out] at xf2
        go_quiet (fail)
        clear b2 c11 xf2 rf2
        replace HM := Aside0.mk (HM.out.drewN nq)
        replace BK := Aside0.mk (blk_drewN BK.out nq)
        generalize w1.drewN nq = w2 at HM BK ⊢
        clear nq
        go_upto_region 4 with (fail)
        have b3 := hcz BK 3
        have c11 := HM.out.cell 11
        obtain ⟨xf3, rf3⟩ := HM.out.mem.reg y.f3.toNat (by omega)
        rw [Ef3.out] at xf3
        go_quiet (fail)
        clear b3 c11 xf3 rf3
        replace HM := Aside0.mk (HM.out.drewN nq)
        replace BK := Aside0.mk (blk_drewN BK.out nq)
        generalize w2.drewN nq = w3 at HM BK ⊢
        clear nq
        have b0 := hcz BK 0
        go_wp2
        all_goals go_ret2
        all_goals exact ⟨rfl, (mup HM).out⟩
  · obtain ⟨v, hv⟩ : ∃ v, wrap64 (af2 * af3) = v := ⟨_, rfl⟩
    have hw : IntKind.i64.wrap (af2 * af3) = v := (i64_w _).trans hv
    have KV : reckV y.f0 (S.regs.getD y.f2.toNat 0) (S.regs.getD y.f3.toNat 0) = chkV v := (by rw [Ef2.out, Ef3.out, e, ← hv]; rfl)
    rw [KV]
    clear KV
    have k2 : (y.f0 == (2 : Int)) = false := by rw [e]; rfl
    have k3 : (y.f0 == (3 : Int)) = false := by rw [e]; rfl
    have k4 : (y.f0 == (4 : Int)) = false := by rw [e]; rfl
    have k5 : (y.f0 == (5 : Int)) = false := by rw [e]; rfl
    have k6 : (y.f0 == (6 : Int)) = true := by rw [e]; rfl
    have k7 : (y.f0 == (7 : Int)) = false := by rw [e]; rfl
    have k8 : (y.f0 == (8 : Int)) = false := by rw [e]; rfl
    clear e hop
    by_cases c1 : v < -2147483648
    · rw [chkV_lo c1]
      have c1b := eq_true c1
      go_enter Try.func45, Try.ntmps45
      go_upto_region 1 with (first | ((with_reducible refine gate_dst (N := 3) rfl ?_); refine boxM 3 #[.int .i64 y.f0, .int .i64 y.f1, .int .i64 y.f2, .int .i64 y.f3, .int .i64 y.f4, .int .i64 y.f5, .int .i64 y.f6.f0, .int .i64 y.f6.f1] 52 HM ?_; clear HM; intro g w1 _ NG BK _ HM; have hcf := hcf8 BK; obtain ⟨_, _, _, _, _, _, _, _, _, _, _, _, _, _, _, _⟩ := hcf))
      have b0 := hcz BK 0
      go_upto_region 3 with (fail)
      clear b0
      have b2 := hcz BK 2
      have c11 := HM.out.cell 11
      obtain ⟨xf2, rf2⟩ := HM.out.mem.reg y.f2.toNat (by omega)
      rw [Ef2.out] at xf2
      go_quiet (fail)
      clear b2 c11 xf2 rf2
      replace HM := Aside0.mk (HM.out.drewN nq)
      replace BK := Aside0.mk (blk_drewN BK.out nq)
      generalize w1.drewN nq = w2 at HM BK ⊢
      clear nq
      go_upto_region 4 with (fail)
      have b3 := hcz BK 3
      have c11 := HM.out.cell 11
      obtain ⟨xf3, rf3⟩ := HM.out.mem.reg y.f3.toNat (by omega)
      rw [Ef3.out] at xf3
      go_quiet (fail)
      clear b3 c11 xf3 rf3
      replace HM := Aside0.mk (HM.out.drewN nq)
      replace BK := Aside0.mk (blk_drewN BK.out nq)
      generalize w2.drewN nq = w3 at HM BK ⊢
      clear nq
      have b0 := hcz BK 0
      go_wp2
      all_goals go_ret2
      all_goals exact ⟨rfl, (mup HM).out⟩
    · have c1b := eq_false c1
      by_cases c2 : 2147483647 < v
      · rw [chkV_hi c2]
        have c2b := eq_true c2
        go_enter Try.func45, Try.ntmps45
        go_upto_region 1 with (first | ((with_reducible refine gate_dst (N := 3) rfl ?_); refine boxM 3 #[.int .i64 y.f0, .int .i64 y.f1, .int .i64 y.f2, .int .i64 y.f3, .int .i64 y.f4, .int .i64 y.f5, .int .i64 y.f6.f0, .int .i64 y.f6.f1] 52 HM ?_; clear HM; intro g w1 _ NG BK _ HM; have hcf := hcf8 BK; obtain ⟨_, _, _, _, _, _, _, _, _, _, _, _, _, _, _, _⟩ := hcf))
        have b0 := hcz BK 0
        go_upto_region 3 with (fail)
        clear b0
        have b2 := hcz BK 2
        have c11 := HM.out.cell 11
        obtain ⟨xf2, rf2⟩ := HM.out.mem.reg y.f2.toNat (by omega)
        rw [Ef2.out] at xf2
        go_quiet (fail)
        clear b2 c11 xf2 rf2
        replace HM := Aside0.mk (HM.out.drewN nq)
        replace BK := Aside0.mk (blk_drewN BK.out nq)
        generalize w1.drewN nq = w2 at HM BK ⊢
        clear nq
        go_upto_region 4 with (fail)
        have b3 := hcz BK 3
        have c11 := HM.out.cell 11
        obtain ⟨xf3, rf3⟩ := HM.out.mem.reg y.f3.toNat (by omega)
        rw [Ef3.out] at xf3
        go_quiet (fail)
        clear b3 c11 xf3 rf3
        replace HM := Aside0.mk (HM.out.drewN nq)
        replace BK := Aside0.mk (blk_drewN BK.out nq)
        generalize w2.drewN nq = w3 at HM BK ⊢
        clear nq
        have b0 := hcz BK 0
        go_wp2
        all_goals go_ret2
        all_goals exact ⟨rfl, (mup HM).out⟩
      · rw [chkV_in c1 c2]
        have c2b := eq_false c2
        go_enter Try.func45, Try.ntmps45
        go_upto_region 1 with (first | ((with_reducible refine gate_dst (N := 3) rfl ?_); refine boxM 3 #[.int .i64 y.f0, .int .i64 y.f1, .int .i64 y.f2, .int .i64 y.f3, .int .i64 y.f4, .int .i64 y.f5, .int .i64 y.f6.f0, .int .i64 y.f6.f1] 52 HM ?_; clear HM; intro g w1 _ NG BK _ HM; have hcf := hcf8 BK; obtain ⟨_, _, _, _, _, _, _, _, _, _, _, _, _, _, _, _⟩ := hcf))
        have b0 := hcz BK 0
        go_upto_region 3 with (fail)
        clear b0
        have b2 := hcz BK 2
        have c11 := HM.out.cell 11
        obtain ⟨xf2, rf2⟩ := HM.out.mem.reg y.f2.toNat (by omega)
        rw [Ef2.out] at xf2
        go_quiet (fail)
        clear b2 c11 xf2 rf2
        replace HM := Aside0.mk (HM.out.drewN nq)
        replace BK := Aside0.mk (blk_drewN BK.out nq)
        generalize w1.drewN nq = w2 at HM BK ⊢
        clear nq
        go_upto_region 4 with (fail)
        have b3 := hcz BK 3
        have c11 := HM.out.cell 11
        obtain ⟨xf3, rf3⟩ := HM.out.mem.reg y.f3.toNat (by omega)
        rw [Ef3.out] at xf3
        go_quiet (fail)
        clear b3 c11 xf3 rf3
        replace HM := Aside0.mk (HM.out.drewN nq)
        replace BK := Aside0.mk (blk_drewN BK.out nq)
        generalize w2.drewN nq = w3 at HM BK ⊢
        clear nq
        have b0 := hcz BK 0
        go_wp2
        all_goals go_ret2
        all_goals exact ⟨rfl, (mup HM).out⟩
  · by_cases d0 : af3 = 0
    · have d0b : (af3 == 0) = true := beq_iff_eq.mpr d0
      rw [show reckV y.f0 (S.regs.getD y.f2.toNat 0) (S.regs.getD y.f3.toNat 0) = (0, 2) from (by rw [Ef2.out, Ef3.out, e]; show (if af3 = 0 then ((0, 2) : Int × Int) else _) = _; exact if_pos d0)]
      (try clear m3)
      (try clear m2)
      have k2 : (y.f0 == (2 : Int)) = false := by rw [e]; rfl
      have k3 : (y.f0 == (3 : Int)) = false := by rw [e]; rfl
      have k4 : (y.f0 == (4 : Int)) = false := by rw [e]; rfl
      have k5 : (y.f0 == (5 : Int)) = false := by rw [e]; rfl
      have k6 : (y.f0 == (6 : Int)) = false := by rw [e]; rfl
      have k7 : (y.f0 == (7 : Int)) = true := by rw [e]; rfl
      have k8 : (y.f0 == (8 : Int)) = false := by rw [e]; rfl
      clear e hop
      go_enter Try.func45, Try.ntmps45
      go_upto_region 1 with (first | ((with_reducible refine gate_dst (N := 3) rfl ?_); refine boxM 3 #[.int .i64 y.f0, .int .i64 y.f1, .int .i64 y.f2, .int .i64 y.f3, .int .i64 y.f4, .int .i64 y.f5, .int .i64 y.f6.f0, .int .i64 y.f6.f1] 52 HM ?_; clear HM; intro g w1 _ NG BK _ HM; have hcf := hcf8 BK; obtain ⟨_, _, _, _, _, _, _, _, _, _, _, _, _, _, _, _⟩ := hcf))
      have b0 := hcz BK 0
      go_upto_region 3 with (fail)
      clear b0
      have b2 := hcz BK 2
      have c11 := HM.out.cell 11
      obtain ⟨xf2, rf2⟩ := HM.out.mem.reg y.f2.toNat (by omega)
      rw [Ef2.out] at xf2
      go_quiet (fail)
      clear b2 c11 xf2 rf2
      replace HM := Aside0.mk (HM.out.drewN nq)
      replace BK := Aside0.mk (blk_drewN BK.out nq)
      generalize w1.drewN nq = w2 at HM BK ⊢
      clear nq
      go_upto_region 4 with (fail)
      have b3 := hcz BK 3
      have c11 := HM.out.cell 11
      obtain ⟨xf3, rf3⟩ := HM.out.mem.reg y.f3.toNat (by omega)
      rw [Ef3.out] at xf3
      go_quiet (fail)
      clear b3 c11 xf3 rf3
      replace HM := Aside0.mk (HM.out.drewN nq)
      replace BK := Aside0.mk (blk_drewN BK.out nq)
      generalize w2.drewN nq = w3 at HM BK ⊢
      clear nq
      have b0 := hcz BK 0
      go_wp2
      all_goals go_ret2
      all_goals exact ⟨rfl, (mup HM).out⟩
    · have d0b : (af3 == 0) = false := beq_eq_false_iff_ne.mpr d0
      by_cases m2 : af2 = -2147483648
      · have m2b : (af2 == -2147483648) = true := beq_iff_eq.mpr m2
        by_cases m3 : af3 = -1
        · have m3b : (af3 == -1) = true := beq_iff_eq.mpr m3
          rw [show reckV y.f0 (S.regs.getD y.f2.toNat 0) (S.regs.getD y.f3.toNat 0) = (0, 3) from (by rw [Ef2.out, Ef3.out, e]; show (if af3 = 0 then ((0, 2) : Int × Int) else if af2 = -2147483648 ∧ af3 = -1 then (0, 3) else _) = _; rw [if_neg d0, if_pos ⟨m2, m3⟩])]
          (try clear m3)
          (try clear m2)
          have k2 : (y.f0 == (2 : Int)) = false := by rw [e]; rfl
          have k3 : (y.f0 == (3 : Int)) = false := by rw [e]; rfl
          have k4 : (y.f0 == (4 : Int)) = false := by rw [e]; rfl
          have k5 : (y.f0 == (5 : Int)) = false := by rw [e]; rfl
          have k6 : (y.f0 == (6 : Int)) = false := by rw [e]; rfl
          have k7 : (y.f0 == (7 : Int)) = true := by rw [e]; rfl
          have k8 : (y.f0 == (8 : Int)) = false := by rw [e]; rfl
          clear e hop
          go_enter Try.func45, Try.ntmps45
          go_upto_region 1 with (first | ((with_reducible refine gate_dst (N := 3) rfl ?_); refine boxM 3 #[.int .i64 y.f0, .int .i64 y.f1, .int .i64 y.f2, .int .i64 y.f3, .int .i64 y.f4, .int .i64 y.f5, .int .i64 y.f6.f0, .int .i64 y.f6.f1] 52 HM ?_; clear HM; intro g w1 _ NG BK _ HM; have hcf := hcf8 BK; obtain ⟨_, _, _, _, _, _, _, _, _, _, _, _, _, _, _, _⟩ := hcf))
          have b0 := hcz BK 0
          go_upto_region 3 with (fail)
          clear b0
          have b2 := hcz BK 2
          have c11 := HM.out.cell 11
          obtain ⟨xf2, rf2⟩ := HM.out.mem.reg y.f2.toNat (by omega)
          rw [Ef2.out] at xf2
          go_quiet (fail)
          clear b2 c11 xf2 rf2
          replace HM := Aside0.mk (HM.out.drewN nq)
          replace BK := Aside0.mk (blk_drewN BK.out nq)
          generalize w1.drewN nq = w2 at HM BK ⊢
          clear nq
          go_upto_region 4 with (fail)
          have b3 := hcz BK 3
          have c11 := HM.out.cell 11
          obtain ⟨xf3, rf3⟩ := HM.out.mem.reg y.f3.toNat (by omega)
          rw [Ef3.out] at xf3
          go_quiet (fail)
          clear b3 c11 xf3 rf3
          replace HM := Aside0.mk (HM.out.drewN nq)
          replace BK := Aside0.mk (blk_drewN BK.out nq)
          generalize w2.drewN nq = w3 at HM BK ⊢
          clear nq
          have b0 := hcz BK 0
          go_wp2
          all_goals go_ret2
          all_goals exact ⟨rfl, (mup HM).out⟩
        · have m3b : (af3 == -1) = false := beq_eq_false_iff_ne.mpr m3
          rw [show reckV y.f0 (S.regs.getD y.f2.toNat 0) (S.regs.getD y.f3.toNat 0) = (wrap64 (af2.tdiv af3), 0) from (by rw [Ef2.out, Ef3.out, e]; show (if af3 = 0 then ((0, 2) : Int × Int) else if af2 = -2147483648 ∧ af3 = -1 then (0, 3) else _) = _; rw [if_neg d0, if_neg (fun hh => m3 hh.2)])]
          (try clear m3)
          (try clear m2)
          have k2 : (y.f0 == (2 : Int)) = false := by rw [e]; rfl
          have k3 : (y.f0 == (3 : Int)) = false := by rw [e]; rfl
          have k4 : (y.f0 == (4 : Int)) = false := by rw [e]; rfl
          have k5 : (y.f0 == (5 : Int)) = false := by rw [e]; rfl
          have k6 : (y.f0 == (6 : Int)) = false := by rw [e]; rfl
          have k7 : (y.f0 == (7 : Int)) = true := by rw [e]; rfl
          have k8 : (y.f0 == (8 : Int)) = false := by rw [e]; rfl
          clear e hop
          go_enter Try.func45, Try.ntmps45
          go_upto_region 1 with (first | ((with_reducible refine gate_dst (N := 3) rfl ?_); refine boxM 3 #[.int .i64 y.f0, .int .i64 y.f1, .int .i64 y.f2, .int .i64 y.f3, .int .i64 y.f4, .int .i64 y.f5, .int .i64 y.f6.f0, .int .i64 y.f6.f1] 52 HM ?_; clear HM; intro g w1 _ NG BK _ HM; have hcf := hcf8 BK; obtain ⟨_, _, _, _, _, _, _, _, _, _, _, _, _, _, _, _⟩ := hcf))
          have b0 := hcz BK 0
          go_upto_region 3 with (fail)
          clear b0
          have b2 := hcz BK 2
          have c11 := HM.out.cell 11
          obtain ⟨xf2, rf2⟩ := HM.out.mem.reg y.f2.toNat (by omega)
          rw [Ef2.out] at xf2
          go_quiet (fail)
          clear b2 c11 xf2 rf2
          replace HM := Aside0.mk (HM.out.drewN nq)
          replace BK := Aside0.mk (blk_drewN BK.out nq)
          generalize w1.drewN nq = w2 at HM BK ⊢
          clear nq
          go_upto_region 4 with (fail)
          have b3 := hcz BK 3
          have c11 := HM.out.cell 11
          obtain ⟨xf3, rf3⟩ := HM.out.mem.reg y.f3.toNat (by omega)
          rw [Ef3.out] at xf3
          go_quiet (fail)
          clear b3 c11 xf3 rf3
          replace HM := Aside0.mk (HM.out.drewN nq)
          replace BK := Aside0.mk (blk_drewN BK.out nq)
          generalize w2.drewN nq = w3 at HM BK ⊢
          clear nq
          have b0 := hcz BK 0
          go_wp2
          all_goals go_ret2
          all_goals exact ⟨rfl, (mup HM).out⟩
      · have m2b : (af2 == -2147483648) = false := beq_eq_false_iff_ne.mpr m2
        rw [show reckV y.f0 (S.regs.getD y.f2.toNat 0) (S.regs.getD y.f3.toNat 0) = (wrap64 (af2.tdiv af3), 0) from (by rw [Ef2.out, Ef3.out, e]; show (if af3 = 0 then ((0, 2) : Int × Int) else if af2 = -2147483648 ∧ af3 = -1 then (0, 3) else _) = _; rw [if_neg d0, if_neg (fun hh => m2 hh.1)])]
        (try clear m3)
        (try clear m2)
        have k2 : (y.f0 == (2 : Int)) = false := by rw [e]; rfl
        have k3 : (y.f0 == (3 : Int)) = false := by rw [e]; rfl
        have k4 : (y.f0 == (4 : Int)) = false := by rw [e]; rfl
        have k5 : (y.f0 == (5 : Int)) = false := by rw [e]; rfl
        have k6 : (y.f0 == (6 : Int)) = false := by rw [e]; rfl
        have k7 : (y.f0 == (7 : Int)) = true := by rw [e]; rfl
        have k8 : (y.f0 == (8 : Int)) = false := by rw [e]; rfl
        clear e hop
        go_enter Try.func45, Try.ntmps45
        go_upto_region 1 with (first | ((with_reducible refine gate_dst (N := 3) rfl ?_); refine boxM 3 #[.int .i64 y.f0, .int .i64 y.f1, .int .i64 y.f2, .int .i64 y.f3, .int .i64 y.f4, .int .i64 y.f5, .int .i64 y.f6.f0, .int .i64 y.f6.f1] 52 HM ?_; clear HM; intro g w1 _ NG BK _ HM; have hcf := hcf8 BK; obtain ⟨_, _, _, _, _, _, _, _, _, _, _, _, _, _, _, _⟩ := hcf))
        have b0 := hcz BK 0
        go_upto_region 3 with (fail)
        clear b0
        have b2 := hcz BK 2
        have c11 := HM.out.cell 11
        obtain ⟨xf2, rf2⟩ := HM.out.mem.reg y.f2.toNat (by omega)
        rw [Ef2.out] at xf2
        go_quiet (fail)
        clear b2 c11 xf2 rf2
        replace HM := Aside0.mk (HM.out.drewN nq)
        replace BK := Aside0.mk (blk_drewN BK.out nq)
        generalize w1.drewN nq = w2 at HM BK ⊢
        clear nq
        go_upto_region 4 with (fail)
        have b3 := hcz BK 3
        have c11 := HM.out.cell 11
        obtain ⟨xf3, rf3⟩ := HM.out.mem.reg y.f3.toNat (by omega)
        rw [Ef3.out] at xf3
        go_quiet (fail)
        clear b3 c11 xf3 rf3
        replace HM := Aside0.mk (HM.out.drewN nq)
        replace BK := Aside0.mk (blk_drewN BK.out nq)
        generalize w2.drewN nq = w3 at HM BK ⊢
        clear nq
        have b0 := hcz BK 0
        go_wp2
        all_goals go_ret2
        all_goals exact ⟨rfl, (mup HM).out⟩
  · by_cases d0 : af3 = 0
    · have d0b : (af3 == 0) = true := beq_iff_eq.mpr d0
      rw [show reckV y.f0 (S.regs.getD y.f2.toNat 0) (S.regs.getD y.f3.toNat 0) = (0, 2) from (by rw [Ef2.out, Ef3.out, e]; show (if af3 = 0 then ((0, 2) : Int × Int) else _) = _; exact if_pos d0)]
      (try clear m3)
      (try clear m2)
      have k2 : (y.f0 == (2 : Int)) = false := by rw [e]; rfl
      have k3 : (y.f0 == (3 : Int)) = false := by rw [e]; rfl
      have k4 : (y.f0 == (4 : Int)) = false := by rw [e]; rfl
      have k5 : (y.f0 == (5 : Int)) = false := by rw [e]; rfl
      have k6 : (y.f0 == (6 : Int)) = false := by rw [e]; rfl
      have k7 : (y.f0 == (7 : Int)) = false := by rw [e]; rfl
      have k8 : (y.f0 == (8 : Int)) = true := by rw [e]; rfl
      clear e hop
      go_enter Try.func45, Try.ntmps45
      go_upto_region 1 with (first | ((with_reducible refine gate_dst (N := 3) rfl ?_); refine boxM 3 #[.int .i64 y.f0, .int .i64 y.f1, .int .i64 y.f2, .int .i64 y.f3, .int .i64 y.f4, .int .i64 y.f5, .int .i64 y.f6.f0, .int .i64 y.f6.f1] 52 HM ?_; clear HM; intro g w1 _ NG BK _ HM; have hcf := hcf8 BK; obtain ⟨_, _, _, _, _, _, _, _, _, _, _, _, _, _, _, _⟩ := hcf))
      have b0 := hcz BK 0
      go_upto_region 3 with (fail)
      clear b0
      have b2 := hcz BK 2
      have c11 := HM.out.cell 11
      obtain ⟨xf2, rf2⟩ := HM.out.mem.reg y.f2.toNat (by omega)
      rw [Ef2.out] at xf2
      go_quiet (fail)
      clear b2 c11 xf2 rf2
      replace HM := Aside0.mk (HM.out.drewN nq)
      replace BK := Aside0.mk (blk_drewN BK.out nq)
      generalize w1.drewN nq = w2 at HM BK ⊢
      clear nq
      go_upto_region 4 with (fail)
      have b3 := hcz BK 3
      have c11 := HM.out.cell 11
      obtain ⟨xf3, rf3⟩ := HM.out.mem.reg y.f3.toNat (by omega)
      rw [Ef3.out] at xf3
      go_quiet (fail)
      clear b3 c11 xf3 rf3
      replace HM := Aside0.mk (HM.out.drewN nq)
      replace BK := Aside0.mk (blk_drewN BK.out nq)
      generalize w2.drewN nq = w3 at HM BK ⊢
      clear nq
      have b0 := hcz BK 0
      go_wp2
      all_goals go_ret2
      all_goals exact ⟨rfl, (mup HM).out⟩
    · have d0b : (af3 == 0) = false := beq_eq_false_iff_ne.mpr d0
      rw [show reckV y.f0 (S.regs.getD y.f2.toNat 0) (S.regs.getD y.f3.toNat 0) = (af2.tmod af3, 0) from (by rw [Ef2.out, Ef3.out, e]; show (if af3 = 0 then ((0, 2) : Int × Int) else _) = _; exact if_neg d0)]
      (try clear m3)
      (try clear m2)
      have k2 : (y.f0 == (2 : Int)) = false := by rw [e]; rfl
      have k3 : (y.f0 == (3 : Int)) = false := by rw [e]; rfl
      have k4 : (y.f0 == (4 : Int)) = false := by rw [e]; rfl
      have k5 : (y.f0 == (5 : Int)) = false := by rw [e]; rfl
      have k6 : (y.f0 == (6 : Int)) = false := by rw [e]; rfl
      have k7 : (y.f0 == (7 : Int)) = false := by rw [e]; rfl
      have k8 : (y.f0 == (8 : Int)) = true := by rw [e]; rfl
      clear e hop
      go_enter Try.func45, Try.ntmps45
      go_upto_region 1 with (first | ((with_reducible refine gate_dst (N := 3) rfl ?_); refine boxM 3 #[.int .i64 y.f0, .int .i64 y.f1, .int .i64 y.f2, .int .i64 y.f3, .int .i64 y.f4, .int .i64 y.f5, .int .i64 y.f6.f0, .int .i64 y.f6.f1] 52 HM ?_; clear HM; intro g w1 _ NG BK _ HM; have hcf := hcf8 BK; obtain ⟨_, _, _, _, _, _, _, _, _, _, _, _, _, _, _, _⟩ := hcf))
      have b0 := hcz BK 0
      go_upto_region 3 with (fail)
      clear b0
      have b2 := hcz BK 2
      have c11 := HM.out.cell 11
      obtain ⟨xf2, rf2⟩ := HM.out.mem.reg y.f2.toNat (by omega)
      rw [Ef2.out] at xf2
      go_quiet (fail)
      clear b2 c11 xf2 rf2
      replace HM := Aside0.mk (HM.out.drewN nq)
      replace BK := Aside0.mk (blk_drewN BK.out nq)
      generalize w1.drewN nq = w2 at HM BK ⊢
      clear nq
      go_upto_region 4 with (fail)
      have b3 := hcz BK 3
      have c11 := HM.out.cell 11
      obtain ⟨xf3, rf3⟩ := HM.out.mem.reg y.f3.toNat (by omega)
      rw [Ef3.out] at xf3
      go_quiet (fail)
      clear b3 c11 xf3 rf3
      replace HM := Aside0.mk (HM.out.drewN nq)
      replace BK := Aside0.mk (blk_drewN BK.out nq)
      generalize w2.drewN nq = w3 at HM BK ⊢
      clear nq
      have b0 := hcz BK 0
      go_wp2
      all_goals go_ret2
      all_goals exact ⟨rfl, (mup HM).out⟩
  · by_cases c1 : af2 < af3
    · have c1b := eq_true c1
      rw [show reckV y.f0 (S.regs.getD y.f2.toNat 0) (S.regs.getD y.f3.toNat 0) = (af2, 0) from (by rw [Ef2.out, Ef3.out, e]; show ((if af2 < af3 then af2 else af3), (0 : Int)) = _; rw [if_pos c1])]
      (try clear m3)
      (try clear m2)
      have k2 : (y.f0 == (2 : Int)) = false := by rw [e]; rfl
      have k3 : (y.f0 == (3 : Int)) = false := by rw [e]; rfl
      have k4 : (y.f0 == (4 : Int)) = false := by rw [e]; rfl
      have k5 : (y.f0 == (5 : Int)) = false := by rw [e]; rfl
      have k6 : (y.f0 == (6 : Int)) = false := by rw [e]; rfl
      have k7 : (y.f0 == (7 : Int)) = false := by rw [e]; rfl
      have k8 : (y.f0 == (8 : Int)) = false := by rw [e]; rfl
      have k9 : (y.f0 == (9 : Int)) = true := by rw [e]; rfl
      clear e hop
      go_enter Try.func45, Try.ntmps45
      go_upto_region 1 with (first | ((with_reducible refine gate_dst (N := 3) rfl ?_); refine boxM 3 #[.int .i64 y.f0, .int .i64 y.f1, .int .i64 y.f2, .int .i64 y.f3, .int .i64 y.f4, .int .i64 y.f5, .int .i64 y.f6.f0, .int .i64 y.f6.f1] 52 HM ?_; clear HM; intro g w1 _ NG BK _ HM; have hcf := hcf8 BK; obtain ⟨_, _, _, _, _, _, _, _, _, _, _, _, _, _, _, _⟩ := hcf))
      have b0 := hcz BK 0
      go_upto_region 3 with (fail)
      clear b0
      have b2 := hcz BK 2
      have c11 := HM.out.cell 11
      obtain ⟨xf2, rf2⟩ := HM.out.mem.reg y.f2.toNat (by omega)
      rw [Ef2.out] at xf2
      go_quiet (fail)
      clear b2 c11 xf2 rf2
      replace HM := Aside0.mk (HM.out.drewN nq)
      replace BK := Aside0.mk (blk_drewN BK.out nq)
      generalize w1.drewN nq = w2 at HM BK ⊢
      clear nq
      go_upto_region 4 with (fail)
      have b3 := hcz BK 3
      have c11 := HM.out.cell 11
      obtain ⟨xf3, rf3⟩ := HM.out.mem.reg y.f3.toNat (by omega)
      rw [Ef3.out] at xf3
      go_quiet (fail)
      clear b3 c11 xf3 rf3
      replace HM := Aside0.mk (HM.out.drewN nq)
      replace BK := Aside0.mk (blk_drewN BK.out nq)
      generalize w2.drewN nq = w3 at HM BK ⊢
      clear nq
      have b0 := hcz BK 0
      go_wp2
      all_goals go_ret2
      all_goals exact ⟨rfl, (mup HM).out⟩
    · have c1b := eq_false c1
      rw [show reckV y.f0 (S.regs.getD y.f2.toNat 0) (S.regs.getD y.f3.toNat 0) = (af3, 0) from (by rw [Ef2.out, Ef3.out, e]; show ((if af2 < af3 then af2 else af3), (0 : Int)) = _; rw [if_neg c1])]
      (try clear m3)
      (try clear m2)
      have k2 : (y.f0 == (2 : Int)) = false := by rw [e]; rfl
      have k3 : (y.f0 == (3 : Int)) = false := by rw [e]; rfl
      have k4 : (y.f0 == (4 : Int)) = false := by rw [e]; rfl
      have k5 : (y.f0 == (5 : Int)) = false := by rw [e]; rfl
      have k6 : (y.f0 == (6 : Int)) = false := by rw [e]; rfl
      have k7 : (y.f0 == (7 : Int)) = false := by rw [e]; rfl
      have k8 : (y.f0 == (8 : Int)) = false := by rw [e]; rfl
      have k9 : (y.f0 == (9 : Int)) = true := by rw [e]; rfl
      clear e hop
      go_enter Try.func45, Try.ntmps45
      go_upto_region 1 with (first | ((with_reducible refine gate_dst (N := 3) rfl ?_); refine boxM 3 #[.int .i64 y.f0, .int .i64 y.f1, .int .i64 y.f2, .int .i64 y.f3, .int .i64 y.f4, .int .i64 y.f5, .int .i64 y.f6.f0, .int .i64 y.f6.f1] 52 HM ?_; clear HM; intro g w1 _ NG BK _ HM; have hcf := hcf8 BK; obtain ⟨_, _, _, _, _, _, _, _, _, _, _, _, _, _, _, _⟩ := hcf))
      have b0 := hcz BK 0
      go_upto_region 3 with (fail)
      clear b0
      have b2 := hcz BK 2
      have c11 := HM.out.cell 11
      obtain ⟨xf2, rf2⟩ := HM.out.mem.reg y.f2.toNat (by omega)
      rw [Ef2.out] at xf2
      go_quiet (fail)
      clear b2 c11 xf2 rf2
      replace HM := Aside0.mk (HM.out.drewN nq)
      replace BK := Aside0.mk (blk_drewN BK.out nq)
      generalize w1.drewN nq = w2 at HM BK ⊢
      clear nq
      go_upto_region 4 with (fail)
      have b3 := hcz BK 3
      have c11 := HM.out.cell 11
      obtain ⟨xf3, rf3⟩ := HM.out.mem.reg y.f3.toNat (by omega)
      rw [Ef3.out] at xf3
      go_quiet (fail)
      clear b3 c11 xf3 rf3
      replace HM := Aside0.mk (HM.out.drewN nq)
      replace BK := Aside0.mk (blk_drewN BK.out nq)
      generalize w2.drewN nq = w3 at HM BK ⊢
      clear nq
      have b0 := hcz BK 0
      go_wp2
      all_goals go_ret2
      all_goals exact ⟨rfl, (mup HM).out⟩
  · by_cases c1 : af3 < af2
    · have c1b := eq_true c1
      rw [show reckV y.f0 (S.regs.getD y.f2.toNat 0) (S.regs.getD y.f3.toNat 0) = (af2, 0) from (by rw [Ef2.out, Ef3.out, e]; show ((if af3 < af2 then af2 else af3), (0 : Int)) = _; rw [if_pos c1])]
      (try clear m3)
      (try clear m2)
      have k2 : (y.f0 == (2 : Int)) = false := by rw [e]; rfl
      have k3 : (y.f0 == (3 : Int)) = false := by rw [e]; rfl
      have k4 : (y.f0 == (4 : Int)) = false := by rw [e]; rfl
      have k5 : (y.f0 == (5 : Int)) = false := by rw [e]; rfl
      have k6 : (y.f0 == (6 : Int)) = false := by rw [e]; rfl
      have k7 : (y.f0 == (7 : Int)) = false := by rw [e]; rfl
      have k8 : (y.f0 == (8 : Int)) = false := by rw [e]; rfl
      have k9 : (y.f0 == (9 : Int)) = false := by rw [e]; rfl
      have k10 : (y.f0 == (10 : Int)) = true := by rw [e]; rfl
      clear e hop
      go_enter Try.func45, Try.ntmps45
      go_upto_region 1 with (first | ((with_reducible refine gate_dst (N := 3) rfl ?_); refine boxM 3 #[.int .i64 y.f0, .int .i64 y.f1, .int .i64 y.f2, .int .i64 y.f3, .int .i64 y.f4, .int .i64 y.f5, .int .i64 y.f6.f0, .int .i64 y.f6.f1] 52 HM ?_; clear HM; intro g w1 _ NG BK _ HM; have hcf := hcf8 BK; obtain ⟨_, _, _, _, _, _, _, _, _, _, _, _, _, _, _, _⟩ := hcf))
      have b0 := hcz BK 0
      go_upto_region 3 with (fail)
      clear b0
      have b2 := hcz BK 2
      have c11 := HM.out.cell 11
      obtain ⟨xf2, rf2⟩ := HM.out.mem.reg y.f2.toNat (by omega)
      rw [Ef2.out] at xf2
      go_quiet (fail)
      clear b2 c11 xf2 rf2
      replace HM := Aside0.mk (HM.out.drewN nq)
      replace BK := Aside0.mk (blk_drewN BK.out nq)
      generalize w1.drewN nq = w2 at HM BK ⊢
      clear nq
      go_upto_region 4 with (fail)
      have b3 := hcz BK 3
      have c11 := HM.out.cell 11
      obtain ⟨xf3, rf3⟩ := HM.out.mem.reg y.f3.toNat (by omega)
      rw [Ef3.out] at xf3
      go_quiet (fail)
      clear b3 c11 xf3 rf3
      replace HM := Aside0.mk (HM.out.drewN nq)
      replace BK := Aside0.mk (blk_drewN BK.out nq)
      generalize w2.drewN nq = w3 at HM BK ⊢
      clear nq
      have b0 := hcz BK 0
      go_wp2
      all_goals go_ret2
      all_goals exact ⟨rfl, (mup HM).out⟩
    · have c1b := eq_false c1
      rw [show reckV y.f0 (S.regs.getD y.f2.toNat 0) (S.regs.getD y.f3.toNat 0) = (af3, 0) from (by rw [Ef2.out, Ef3.out, e]; show ((if af3 < af2 then af2 else af3), (0 : Int)) = _; rw [if_neg c1])]
      (try clear m3)
      (try clear m2)
      have k2 : (y.f0 == (2 : Int)) = false := by rw [e]; rfl
      have k3 : (y.f0 == (3 : Int)) = false := by rw [e]; rfl
      have k4 : (y.f0 == (4 : Int)) = false := by rw [e]; rfl
      have k5 : (y.f0 == (5 : Int)) = false := by rw [e]; rfl
      have k6 : (y.f0 == (6 : Int)) = false := by rw [e]; rfl
      have k7 : (y.f0 == (7 : Int)) = false := by rw [e]; rfl
      have k8 : (y.f0 == (8 : Int)) = false := by rw [e]; rfl
      have k9 : (y.f0 == (9 : Int)) = false := by rw [e]; rfl
      have k10 : (y.f0 == (10 : Int)) = true := by rw [e]; rfl
      clear e hop
      go_enter Try.func45, Try.ntmps45
      go_upto_region 1 with (first | ((with_reducible refine gate_dst (N := 3) rfl ?_); refine boxM 3 #[.int .i64 y.f0, .int .i64 y.f1, .int .i64 y.f2, .int .i64 y.f3, .int .i64 y.f4, .int .i64 y.f5, .int .i64 y.f6.f0, .int .i64 y.f6.f1] 52 HM ?_; clear HM; intro g w1 _ NG BK _ HM; have hcf := hcf8 BK; obtain ⟨_, _, _, _, _, _, _, _, _, _, _, _, _, _, _, _⟩ := hcf))
      have b0 := hcz BK 0
      go_upto_region 3 with (fail)
      clear b0
      have b2 := hcz BK 2
      have c11 := HM.out.cell 11
      obtain ⟨xf2, rf2⟩ := HM.out.mem.reg y.f2.toNat (by omega)
      rw [Ef2.out] at xf2
      go_quiet (fail)
      clear b2 c11 xf2 rf2
      replace HM := Aside0.mk (HM.out.drewN nq)
      replace BK := Aside0.mk (blk_drewN BK.out nq)
      generalize w1.drewN nq = w2 at HM BK ⊢
      clear nq
      go_upto_region 4 with (fail)
      have b3 := hcz BK 3
      have c11 := HM.out.cell 11
      obtain ⟨xf3, rf3⟩ := HM.out.mem.reg y.f3.toNat (by omega)
      rw [Ef3.out] at xf3
      go_quiet (fail)
      clear b3 c11 xf3 rf3
      replace HM := Aside0.mk (HM.out.drewN nq)
      replace BK := Aside0.mk (blk_drewN BK.out nq)
      generalize w2.drewN nq = w3 at HM BK ⊢
      clear nq
      have b0 := hcz BK 0
      go_wp2
      all_goals go_ret2
      all_goals exact ⟨rfl, (mup HM).out⟩
end Go.Proofs.Ytcalcbeonbfkmaa.P
/- What the law's proof needs of H4. -/
namespace Go.Proofs.Ytcalcbeonbfkmaa.P
open Go.RowKit Go.Proofs.YtcalcbeonbfkmaaW.PrintWords Go.Proofs.YtcalcbeonbfkmaaW.PrintLast Go.Proofs.YtcalcbeonbfkmaaW.PrintMore Go.Proofs.YtcalcbeonbfkmaaO
set_option linter.unusedVariables false
set_option linter.unusedSimpArgs false
/-- What comes of a number that is reckoned. -/
def putV (S : St) (y : S52) (r : Int × Int) : St := if r.2 = 0 then { S with regs := S.regs.set y.f1.toNat r.1 } else failS S y r.2
theorem okB_chk (v : Int) : chkV v = if okB 3 v = false then (0, 1) else (v, 0) := by
  unfold chkV okB
  rw [show LoV 3 = -2147483648 from rfl, show HiV 3 = 2147483647 from rfl]
  by_cases c : -2147483648 ≤ v ∧ v ≤ 2147483647
  · rw [if_neg (by omega), decide_eq_true c, if_neg (by decide)]
  · rw [if_pos (by omega), decide_eq_false c, if_pos rfl]
theorem put_chk (S : St) (y : S52) (f : Nat) (v : Int) (h : rf f (S.regs.getD y.f2.toNat 0) (S.regs.getD y.f3.toNat 0) = v) : reckS S y f true = putV S y (chkV v) := by
  unfold reckS
  rw [h, okB_chk]
  by_cases c : okB 3 v = false
  · rw [if_pos ⟨rfl, c⟩, if_pos c]; rfl
  · rw [if_neg (fun hh => c hh.2), if_neg c]; rfl
theorem put_plain (S : St) (y : S52) (f : Nat) (v : Int) (h : rf f (S.regs.getD y.f2.toNat 0) (S.regs.getD y.f3.toNat 0) = v) : reckS S y f false = putV S y (v, 0) := by
  unfold reckS
  rw [h, if_neg (fun hh => Bool.noConfusion hh.1)]
  rfl
theorem abs_mx (x : Int) : mx x (wrap64 (-x)) = if x < 0 then wrap64 (-x) else x := by
  unfold mx
  have h : -9223372036854775808 ≤ wrap64 (-x) ∧ wrap64 (-x) ≤ 9223372036854775807 := by unfold wrap64; omega
  by_cases c : x < 0
  · rw [if_pos c]
    by_cases d : x < wrap64 (-x)
    · exact if_pos d
    · rw [if_neg d]
      have h2 : -9223372036854775808 ≤ x := by omega
      by_cases e : x = -9223372036854775808
      · subst e; unfold wrap64; omega
      · rw [M.wrap64_in (-x) (by omega)] at d; omega
  · rw [if_neg c]
    by_cases d : x < wrap64 (-x)
    · rw [M.wrap64_in (-x) (by omega)] at d; omega
    · exact if_neg d
theorem mn_lt (x b : Int) : mn x b = if x < b then x else b := by
  unfold mn
  by_cases c : b < x
  · rw [if_pos c, if_neg (by omega)]
  · rw [if_neg c]
    by_cases d : x < b
    · rw [if_pos d]
    · rw [if_neg d]; omega
theorem mx_lt (x b : Int) : mx x b = if b < x then x else b := by
  unfold mx
  by_cases c : x < b
  · rw [if_pos c, if_neg (by omega)]
  · rw [if_neg c]
    by_cases d : b < x
    · rw [if_pos d]
    · rw [if_neg d]; omega
/-- An instruction that reckons, as the document has it. -/
theorem opS_reck (G : Gr) (sc : List Int) (S : St) (y : S52) (h : 2 ≤ y.f0 ∧ y.f0 ≤ 10) : opS G sc S y = putV S y (reckV y.f0 (S.regs.getD y.f2.toNat 0) (S.regs.getD y.f3.toNat 0)) := by
  rcases (show y.f0 = 2 ∨ y.f0 = 3 ∨ y.f0 = 4 ∨ y.f0 = 5 ∨ y.f0 = 6 ∨ y.f0 = 7 ∨ y.f0 = 8 ∨ y.f0 = 9 ∨ y.f0 = 10 by omega) with e | e | e | e | e | e | e | e | e
  · unfold opS; rw [e]; exact put_chk S y 52 _ rfl
  · unfold opS; rw [e]; exact put_chk S y 53 _ (abs_mx _)
  · unfold opS; rw [e]; exact put_chk S y 54 _ rfl
  · unfold opS; rw [e]; exact put_chk S y 55 _ rfl
  · unfold opS; rw [e]; exact put_chk S y 56 _ rfl
  · have e1 : opS G sc S y = divS S y := by unfold opS; rw [e]; rfl
    rw [e1, e]
    unfold divS
    rw [e]
    show _ = putV S y (if S.regs.getD y.f3.toNat 0 = 0 then ((0, 2) : Int × Int) else if S.regs.getD y.f2.toNat 0 = -2147483648 ∧ S.regs.getD y.f3.toNat 0 = -1 then (0, 3) else (wrap64 ((S.regs.getD y.f2.toNat 0).tdiv (S.regs.getD y.f3.toNat 0)), 0))
    rw [if_pos (c := (7 : Int) = 7) rfl]
    split
    · rfl
    · split <;> rfl
  · have e1 : opS G sc S y = divS S y := by unfold opS; rw [e]; rfl
    rw [e1, e]
    unfold divS
    rw [e]
    show _ = putV S y (if S.regs.getD y.f3.toNat 0 = 0 then ((0, 2) : Int × Int) else ((S.regs.getD y.f2.toNat 0).tmod (S.regs.getD y.f3.toNat 0), 0))
    rw [if_neg (c := (8 : Int) = 7) (by decide)]
    split <;> rfl
  · unfold opS; rw [e]; exact put_plain S y 58 _ (mn_lt _ _)
  · unfold opS; rw [e]; exact put_plain S y 59 _ (mx_lt _ _)
end Go.Proofs.Ytcalcbeonbfkmaa.P
