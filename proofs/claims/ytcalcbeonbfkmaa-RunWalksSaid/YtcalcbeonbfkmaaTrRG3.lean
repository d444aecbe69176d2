/- What the law's proof needs of G3. -/
import Derived.Test.YtcalcbeonbfkmaaTrRG2
import Derived.Test.YtcalcbeonbfkmaaTrRWGuard
namespace Go.Proofs.Ytcalcbeonbfkmaa.P
open Go.RowKit Go.Proofs.YtcalcbeonbfkmaaW.PrintWords Go.Proofs.YtcalcbeonbfkmaaW.PrintLast Go.Proofs.YtcalcbeonbfkmaaW.PrintMore Go.Proofs.YtcalcbeonbfkmaaO
attribute [local go_sem] max2_int min2_int max_two min_two max_three min_three max_four min_four
set_option linter.unusedVariables false
set_option linter.unusedSimpArgs false
section
variable {w W : World} {E : List (Nat × Array Value × Nat)} {gb tb : Nat} {cb : Array Value} {vr va vm : Value} {rs : List Int} {ars mks : List (List Int)}
theorem MB.stat (h : MB w W E gb tb cb vr va vm rs ars mks) {g t : Nat} {x : Value} (hz : (g, #[x], t) ∈ E) : W.cell? ⟨g, 0, none⟩ = some x := (blk_cell (h.fx _ hz).1 0).trans rfl
end
theorem within_b {x t : Int} {b : Bool} (ht : 1 ≤ t ∧ t ≤ 3) (hb : okB t x = b) (w : World) : Calls Try.prog 48 #[.int .i64 x, .int .i64 t] w fun e w' => e = .returned (.bool b) ∧ ∃ n, w' = w.drewN n :=
  (within_q x t w ht).mono fun e w' ⟨h1, n, h2⟩ => ⟨h1.trans (by rw [hb]), n, h2⟩
/-- A number is reckoned, of two registers. -/
def reckS (S : St) (y : S52) (f : Nat) (chk : Bool) : St := if chk = true ∧ okB 3 (rf f (S.regs.getD y.f2.toNat 0) (S.regs.getD y.f3.toNat 0)) = false then failS S y 1 else { S with regs := S.regs.set y.f1.toNat (rf f (S.regs.getD y.f2.toNat 0) (S.regs.getD y.f3.toNat 0)) }
def divS (S : St) (y : S52) : St :=
  if S.regs.getD y.f3.toNat 0 = 0 then failS S y 2
  else if y.f0 = 7 then (if S.regs.getD y.f2.toNat 0 = -2147483648 ∧ S.regs.getD y.f3.toNat 0 = -1 then failS S y 3 else { S with regs := S.regs.set y.f1.toNat (wrap64 ((S.regs.getD y.f2.toNat 0).tdiv (S.regs.getD y.f3.toNat 0))) })
  else { S with regs := S.regs.set y.f1.toNat ((S.regs.getD y.f2.toNat 0).tmod (S.regs.getD y.f3.toNat 0)) }
theorem rf_fn {f : Nat} (hf : f = 52 ∨ f = 53 ∨ f = 54 ∨ f = 55 ∨ f = 56 ∨ f = 58 ∨ f = 59) : ∃ fn, Try.prog.funcs[f]? = some fn ∧ (fn.name == "runtime.NumGoroutine") = false ∧ fn.body.isSome = true := by
  rcases hf with rfl | rfl | rfl | rfl | rfl | rfl | rfl
  · exact ⟨_, Try.func52, by kernel_rfl, rfl⟩
  · exact ⟨_, Try.func53, by kernel_rfl, rfl⟩
  · exact ⟨_, Try.func54, by kernel_rfl, rfl⟩
  · exact ⟨_, Try.func55, by kernel_rfl, rfl⟩
  · exact ⟨_, Try.func56, by kernel_rfl, rfl⟩
  · exact ⟨_, Try.func58, by kernel_rfl, rfl⟩
  · exact ⟨_, Try.func59, by kernel_rfl, rfl⟩
set_option maxHeartbeats 8000000 in
set_option maxRecDepth 100000 in
theorem reckon_calls {w W : World} {E : List (Nat × Array Value × Nat)} {G : Gr} {vs vr va vm : Value} {gb : Nat} {S : St} (h : MC w W E G vs gb vr va vm S) (y : S52) (hf1 : 0 ≤ y.f1 ∧ y.f1 < (S.regs.length : Int)) (hf2 : 0 ≤ y.f2 ∧ y.f2 < (S.regs.length : Int)) (hf3 : 0 ≤ y.f3 ∧ y.f3 < (S.regs.length : Int)) {gf gc f : Nat} {chk : Bool} (hf : f = 52 ∨ f = 53 ∨ f = 54 ∨ f = 55 ∨ f = 56 ∨ f = 58 ∨ f = 59) (hgf : (gf, #[.func (.func f) #[] #[]], 94) ∈ E) (hgc : (gc, #[.bool chk], 4) ∈ E) :
    Calls Try.prog 47 #[.pointer (some ⟨gb, 0, none⟩), .agg #[.int .i64 y.f0, .int .i64 y.f1, .int .i64 y.f2, .int .i64 y.f3, .int .i64 y.f4, .int .i64 y.f5, .int .i64 y.f6.f0, .int .i64 y.f6.f1], .pointer (some ⟨gf, 0, none⟩), .pointer (some ⟨gc, 0, none⟩)] W fun e W' => e = .returned (.tuple #[]) ∧ MC w W' E G vs gb vr va vm (reckS S y f chk) := by
  obtain ⟨gr, cr, rfl⟩ := h.mem.regForm (by omega)
  have hu52 := Try.underlying52
  have hu74 := Try.underlying74
  have hu36 := Try.underlying36
  have hu28 := Try.underlying28
  have HM := Aside0.mk h
  clear h
  have pf1 := eq_true hf1.1
  have qf1 := eq_true hf1.2
  have zf1 : (y.f1.toNat < S.regs.length) = True := eq_true (by omega)
  have pf2 := eq_true hf2.1
  have qf2 := eq_true hf2.2
  have zf2 : (y.f2.toNat < S.regs.length) = True := eq_true (by omega)
  have pf3 := eq_true hf3.1
  have qf3 := eq_true hf3.2
  have zf3 : (y.f3.toNat < S.regs.length) = True := eq_true (by omega)
  obtain ⟨af1, ea⟩ : ∃ a, S.regs.getD y.f1.toNat 0 = a := ⟨_, rfl⟩
  have Ef1 := Aside0.mk ea
  clear ea
  obtain ⟨af2, ea⟩ : ∃ a, S.regs.getD y.f2.toNat 0 = a := ⟨_, rfl⟩
  have Ef2 := Aside0.mk ea
  clear ea
  obtain ⟨af3, ea⟩ : ∃ a, S.regs.getD y.f3.toNat 0 = a := ⟨_, rfl⟩
  have Ef3 := Aside0.mk ea
  clear ea
  obtain ⟨x, hx⟩ : ∃ x, rf f af2 af3 = x := ⟨_, rfl⟩
  obtain ⟨b, hb⟩ : ∃ b, okB 3 x = b := ⟨_, rfl⟩
  have hS : reckS S y f chk = if chk = true ∧ b = false then failS S y 1 else { S with regs := S.regs.set y.f1.toNat x } := by unfold reckS; rw [Ef2.out, Ef3.out, hx, hb]
  generalize reckS S y f chk = SP at hS ⊢
  have KX := Aside0.mk hx
  have KB := Aside0.mk hb
  have KS := Aside0.mk hS
  clear hS hx hb
  go_enter Try.func47, Try.ntmps47
  go_upto_region 1 with (first | ((with_reducible refine gate_dst (N := 5) rfl ?_); refine boxM 5 #[.int .i64 y.f0, .int .i64 y.f1, .int .i64 y.f2, .int .i64 y.f3, .int .i64 y.f4, .int .i64 y.f5, .int .i64 y.f6.f0, .int .i64 y.f6.f1] 52 HM ?_; clear HM; intro g w1 _ NG BK _ HM; have hcf := hcf8 BK; obtain ⟨_, _, _, _, _, _, _, _, _, _, _, _, _, _, _, _⟩ := hcf))
  have b2 := hcz BK 2
  have b3 := hcz BK 3
  have c10 := HM.out.cell 10
  obtain ⟨xf2, rf2⟩ := HM.out.mem.reg y.f2.toNat (by omega)
  rw [Ef2.out] at xf2
  obtain ⟨xf3, rf3⟩ := HM.out.mem.reg y.f3.toNat (by omega)
  rw [Ef3.out] at xf3
  have sf := HM.out.stat hgf
  go_still_tail 17, (by kernel_rfl)
  change wpList _ _ _ _ _ w1.drew
  clear b2 b3 c10 xf2 rf2 xf3 rf3 sf
  replace HM := Aside0.mk HM.out.drew
  replace BK := Aside0.mk (blk_drew BK.out)
  generalize w1.drew = wt at HM BK ⊢
  obtain ⟨fn, e1, e2, e3⟩ := rf_fn hf
  go_upto_region 2 with (first | ((with_reducible refine gate_dst (N := 24) rfl ?_); refine goesLD (some 24) rfl rfl e1 #[.int .i64 af2, .int .i64 af3] rfl rfl (by simp [Act.eval]) e2 e3 ?_; refine (KX.out ▸ rf_c f _ _ _ hf).mono ?_; rintro e w' ⟨rfl, hm⟩; replace HM := Aside0.mk ((mup HM).out.below hm); replace BK := bbw BK hm; clear hm; refine ⟨_, rfl, ?_⟩))
  have sc := HM.out.stat hgc
  cases chk
  · go_upto_region 4 with (fail)
    clear sc
    have b1 := hcz BK 1
    have c10 := HM.out.cell 10
    obtain ⟨xf1, rf1⟩ := HM.out.mem.reg y.f1.toNat (by omega)
    rw [Ef1.out] at xf1
    go_still_tail 8, (by kernel_rfl)
    change wpList _ _ _ _ _ w'.drew
    replace HM := Aside0.mk HM.out.drew
    replace BK := Aside0.mk (blk_drew BK.out)
    go_wp2
    first | go_end0 | ((try simp only [Exit.inBlock, Exit.then]); refine bodyPost_ret (results_none rfl _ _ _) rfl ?_) | refine ⟨_, results_none rfl _ _ _, ?_⟩
    refine ⟨rfl, ?_⟩
    rw [KS.out, if_neg (fun hh => nomatch hh.1)]
    exact (HM.out.setReg _ _)
  · cases b
    · go_wp2_with (first | ((with_reducible refine gate_callee (f := 48) rfl ?_); refine gate_guard (by rfl) ?_; refine goesL_ _ rfl rfl Try.func48 (by kernel_rfl) rfl #[.int .i64 x, .int .i64 3] rfl (by (try simp only [List.map_toArray, List.map_cons, List.map_nil]); first | done | rfl) ?_; refine (within_b (by omega) KB.out _).mono ?_; rintro e w'' ⟨rfl, m, rfl⟩; replace HM := Aside0.mk ((mup HM).out.drewN m); replace BK := Aside0.mk (blk_drewN (pkA BK).out m); have hcf := hcf8 BK; obtain ⟨_, _, _, _, _, _, _, _, _, _, _, _, _, _, _, _⟩ := hcf; refine ⟨_, rfl, ?_⟩) | ((with_reducible refine gate_callee (f := 49) rfl ?_); refine goesL_ _ rfl rfl Try.func49 (by kernel_rfl) rfl #[.pointer (some ⟨gb, 0, none⟩), .agg #[.int .i64 y.f0, .int .i64 y.f1, .int .i64 y.f2, .int .i64 y.f3, .int .i64 y.f4, .int .i64 y.f5, .int .i64 y.f6.f0, .int .i64 y.f6.f1], .int .i64 1] rfl (by (try simp only [List.map_toArray, List.map_cons, List.map_nil]); first | done | rfl) ?_; refine (fail_calls (mup HM).out y 1).mono ?_; rintro e w' ⟨rfl, hm⟩; clear HM; have HM := Aside0.mk hm; clear hm; refine ⟨_, rfl, ?_⟩))
      first | go_end0 | ((try simp only [Exit.inBlock, Exit.then]); refine bodyPost_ret (results_none rfl _ _ _) rfl ?_) | refine ⟨_, results_none rfl _ _ _, ?_⟩
      refine ⟨rfl, ?_⟩
      rw [KS.out, if_pos (by simp)]
      exact HM.out
    · go_upto_region 4 with (first | ((with_reducible refine gate_callee (f := 48) rfl ?_); refine gate_guard (by rfl) ?_; refine goesL_ _ rfl rfl Try.func48 (by kernel_rfl) rfl #[.int .i64 x, .int .i64 3] rfl (by (try simp only [List.map_toArray, List.map_cons, List.map_nil]); first | done | rfl) ?_; refine (within_b (by omega) KB.out _).mono ?_; rintro e w'' ⟨rfl, m, rfl⟩; replace HM := Aside0.mk ((mup HM).out.drewN m); replace BK := Aside0.mk (blk_drewN (pkA BK).out m); have hcf := hcf8 BK; obtain ⟨_, _, _, _, _, _, _, _, _, _, _, _, _, _, _, _⟩ := hcf; refine ⟨_, rfl, ?_⟩))
      clear sc
      generalize World.drewN w' m = w2 at HM BK ⊢
      have b1 := hcz BK 1
      have c10 := HM.out.cell 10
      obtain ⟨xf1, rf1⟩ := HM.out.mem.reg y.f1.toNat (by omega)
      rw [Ef1.out] at xf1
      go_still_tail 8, (by kernel_rfl)
      change wpList _ _ _ _ _ w2.drew
      replace HM := Aside0.mk HM.out.drew
      replace BK := Aside0.mk (blk_drew BK.out)
      go_wp2
      first | go_end0 | ((try simp only [Exit.inBlock, Exit.then]); refine bodyPost_ret (results_none rfl _ _ _) rfl ?_) | refine ⟨_, results_none rfl _ _ _, ?_⟩
      refine ⟨rfl, ?_⟩
      rw [KS.out, if_neg (fun hh => nomatch hh.2)]
      exact (HM.out.setReg _ _)
set_option maxHeartbeats 8000000 in
set_option maxRecDepth 100000 in
theorem set_calls {w W : World} {E : List (Nat × Array Value × Nat)} {G : Gr} {vs vr va vm : Value} {gb : Nat} {S : St} (h : MC w W E G vs gb vr va vm S) (y : S52) (hf1 : 0 ≤ y.f1 ∧ y.f1 < (S.regs.length : Int)) (hf2 : 0 ≤ y.f2 ∧ y.f2 < (S.regs.length : Int)) (hG : G.Held w) (hs : 0 ≤ y.f1 ∧ y.f1 < (G.l5.length : Int)) (ht : 1 ≤ (rd_T83 G.l5 y.f1).f1 ∧ (rd_T83 G.l5 y.f1).f1 ≤ 3) :
    Calls Try.prog 62 #[.pointer (some ⟨gb, 0, none⟩), .agg #[.int .i64 y.f0, .int .i64 y.f1, .int .i64 y.f2, .int .i64 y.f3, .int .i64 y.f4, .int .i64 y.f5, .int .i64 y.f6.f0, .int .i64 y.f6.f1]] W fun e W' => e = .returned (.tuple #[]) ∧ MC w W' E G vs gb vr va vm (setS G S y) := by
  obtain ⟨gr, cr, rfl⟩ := h.mem.regForm (by omega)
  have hu52 := Try.underlying52
  have hu74 := Try.underlying74
  have hu36 := Try.underlying36
  have hu28 := Try.underlying28
  have HM := Aside0.mk h
  clear h
  have pf1 := eq_true hf1.1
  have qf1 := eq_true hf1.2
  have zf1 : (y.f1.toNat < S.regs.length) = True := eq_true (by omega)
  have pf2 := eq_true hf2.1
  have qf2 := eq_true hf2.2
  have zf2 : (y.f2.toNat < S.regs.length) = True := eq_true (by omega)
  obtain ⟨af2, ea⟩ : ∃ a, S.regs.getD y.f2.toNat 0 = a := ⟨_, rfl⟩
  have Ef2 := Aside0.mk ea
  clear ea
  have s1 := eq_true hs.1
  have s2 := eq_true hs.2
  have s3 : (y.f1.toNat < G.l5.length) = True := eq_true (by omega)
  obtain ⟨b, hb⟩ : ∃ b, okB (rd_T83 G.l5 y.f1).f1 af2 = b := ⟨_, rfl⟩
  have KB := Aside0.mk hb
  have hS : setS G S y = if b = true then { S with regs := S.regs.set y.f1.toNat af2 } else failS S y 1 := by unfold setS; rw [Ef2.out, hb]
  generalize setS G S y = SP at hS ⊢
  have KS := Aside0.mk hS
  clear hS
  clear hb
  go_enter Try.func62, Try.ntmps62
  go_upto_region 1 with (first | ((with_reducible refine gate_dst (N := 3) rfl ?_); refine boxM 3 #[.int .i64 y.f0, .int .i64 y.f1, .int .i64 y.f2, .int .i64 y.f3, .int .i64 y.f4, .int .i64 y.f5, .int .i64 y.f6.f0, .int .i64 y.f6.f1] 52 HM ?_; clear HM; intro g w1 _ NG BK _ HM; have hcf := hcf8 BK; obtain ⟨_, _, _, _, _, _, _, _, _, _, _, _, _, _, _, _⟩ := hcf))
  have b2 := hcz BK 2
  have c10 := HM.out.cell 10
  obtain ⟨xf2, rf2⟩ := HM.out.mem.reg y.f2.toNat (by omega)
  rw [Ef2.out] at xf2
  go_quiet (fail)
  clear b2 c10 xf2 rf2
  go_upto_region 2 with (fail)
  replace HM := Aside0.mk (HM.out.drewN nq)
  replace BK := Aside0.mk (blk_drewN BK.out nq)
  generalize w1.drewN nq = w2 at HM BK ⊢
  clear nq
  have b1 := hcz BK 1
  obtain ⟨ad5, ee5, y50, y51, y52⟩ := at_T83 ((hG.below HM.out.mem.hb).h5) y.f1 hs.1 hs.2
  have c5 : w2.cell? ⟨gb, 5, none⟩ = some (.slice (some ad5) G.l5.length G.c5) := (HM.out.cell 5).trans (by rw [← ee5]; rfl)
  go_quiet (exact Calls.quiet_of ((within_b ht KB.out _).mono fun e w' ⟨h1, n, h2⟩ => ⟨h1, n, h2⟩))
  clear b1 y50 y51 y52 c5
  replace HM := Aside0.mk (HM.out.drewN nq)
  replace BK := Aside0.mk (blk_drewN BK.out nq)
  generalize w2.drewN nq = w3 at HM BK ⊢
  clear nq
  cases b
  · have hcf := hcf8 BK
    obtain ⟨_, _, _, _, _, _, _, _, _, _, _, _, _, _, _, _⟩ := hcf
    go_wp2_with (first | ((with_reducible refine gate_callee (f := 49) rfl ?_); refine goesL_ _ rfl rfl Try.func49 (by kernel_rfl) rfl #[.pointer (some ⟨gb, 0, none⟩), .agg #[.int .i64 y.f0, .int .i64 y.f1, .int .i64 y.f2, .int .i64 y.f3, .int .i64 y.f4, .int .i64 y.f5, .int .i64 y.f6.f0, .int .i64 y.f6.f1], .int .i64 1] rfl (by (try simp only [List.map_toArray, List.map_cons, List.map_nil]); first | done | rfl) ?_; refine (fail_calls (mup HM).out y 1).mono ?_; rintro e w' ⟨rfl, hm⟩; clear HM; have HM := Aside0.mk hm; clear hm; refine ⟨_, rfl, ?_⟩))
    first | go_end0 | ((try simp only [Exit.inBlock, Exit.then]); refine bodyPost_ret (results_none rfl _ _ _) rfl ?_) | refine ⟨_, results_none rfl _ _ _, ?_⟩
    refine ⟨rfl, ?_⟩
    rw [KS.out, if_neg (by simp)]
    exact HM.out
  · go_upto_region 4 with (fail)
    have b1 := hcz BK 1
    have c10 := HM.out.cell 10
    obtain ⟨xf1, rf1⟩ := HM.out.mem.reg y.f1.toNat (by omega)
    go_still_tail 8, (by kernel_rfl)
    change wpList _ _ _ _ _ w3.drew
    replace HM := Aside0.mk HM.out.drew
    replace BK := Aside0.mk (blk_drew BK.out)
    go_wp2
    first | go_end0 | ((try simp only [Exit.inBlock, Exit.then]); refine bodyPost_ret (results_none rfl _ _ _) rfl ?_) | refine ⟨_, results_none rfl _ _ _, ?_⟩
    refine ⟨rfl, ?_⟩
    rw [KS.out, if_pos (by simp)]
    exact (HM.out.setReg _ _)
set_option maxHeartbeats 8000000 in
set_option maxRecDepth 100000 in
theorem divide_calls {w W : World} {E : List (Nat × Array Value × Nat)} {G : Gr} {vs vr va vm : Value} {gb : Nat} {S : St} (h : MC w W E G vs gb vr va vm S) (y : S52) (hf1 : 0 ≤ y.f1 ∧ y.f1 < (S.regs.length : Int)) (hf2 : 0 ≤ y.f2 ∧ y.f2 < (S.regs.length : Int)) (hf3 : 0 ≤ y.f3 ∧ y.f3 < (S.regs.length : Int)) (h78 : y.f0 = 7 ∨ y.f0 = 8) :
    Calls Try.prog 57 #[.pointer (some ⟨gb, 0, none⟩), .agg #[.int .i64 y.f0, .int .i64 y.f1, .int .i64 y.f2, .int .i64 y.f3, .int .i64 y.f4, .int .i64 y.f5, .int .i64 y.f6.f0, .int .i64 y.f6.f1]] W fun e W' => e = .returned (.tuple #[]) ∧ MC w W' E G vs gb vr va vm (divS S y) := by
  obtain ⟨gr, cr, rfl⟩ := h.mem.regForm (by omega)
  have hu52 := Try.underlying52
  have hu74 := Try.underlying74
  have hu36 := Try.underlying36
  have hu28 := Try.underlying28
  have HM := Aside0.mk h
  clear h
  have pf1 := eq_true hf1.1
  have qf1 := eq_true hf1.2
  have zf1 : (y.f1.toNat < S.regs.length) = True := eq_true (by omega)
  have pf2 := eq_true hf2.1
  have qf2 := eq_true hf2.2
  have zf2 : (y.f2.toNat < S.regs.length) = True := eq_true (by omega)
  have pf3 := eq_true hf3.1
  have qf3 := eq_true hf3.2
  have zf3 : (y.f3.toNat < S.regs.length) = True := eq_true (by omega)
  obtain ⟨af2, ea⟩ : ∃ a, S.regs.getD y.f2.toNat 0 = a := ⟨_, rfl⟩
  have Ef2 := Aside0.mk ea
  clear ea
  obtain ⟨af3, ea⟩ : ∃ a, S.regs.getD y.f3.toNat 0 = a := ⟨_, rfl⟩
  have Ef3 := Aside0.mk ea
  clear ea
  have hS : divS S y = if af3 = 0 then failS S y 2 else if y.f0 = 7 then (if af2 = -2147483648 ∧ af3 = -1 then failS S y 3 else { S with regs := S.regs.set y.f1.toNat (wrap64 (af2.tdiv af3)) }) else { S with regs := S.regs.set y.f1.toNat (af2.tmod af3) } := by unfold divS; rw [Ef2.out, Ef3.out]
  generalize divS S y = SP at hS ⊢
  have KS := Aside0.mk hS
  clear hS
  by_cases d0 : af3 = 0
  · have d0b : (af3 == 0) = true := beq_iff_eq.mpr d0; replace d0 := Aside0.mk d0
    go_enter Try.func57, Try.ntmps57
    go_upto_region 1 with (first | ((with_reducible refine gate_dst (N := 3) rfl ?_); refine boxM 3 #[.int .i64 y.f0, .int .i64 y.f1, .int .i64 y.f2, .int .i64 y.f3, .int .i64 y.f4, .int .i64 y.f5, .int .i64 y.f6.f0, .int .i64 y.f6.f1] 52 HM ?_; clear HM; intro g w1 _ NG BK _ HM; have hcf := hcf8 BK; obtain ⟨_, _, _, _, _, _, _, _, _, _, _, _, _, _, _, _⟩ := hcf))
    have b2 := hcz BK 2
    have b3 := hcz BK 3
    have c10 := HM.out.cell 10
    obtain ⟨xf2, rf2⟩ := HM.out.mem.reg y.f2.toNat (by omega)
    rw [Ef2.out] at xf2
    obtain ⟨xf3, rf3⟩ := HM.out.mem.reg y.f3.toNat (by omega)
    rw [Ef3.out] at xf3
    go_quiet (fail)
    clear b2 b3 c10 xf2 rf2 xf3 rf3
    replace HM := Aside0.mk (HM.out.drewN nq)
    replace BK := Aside0.mk (blk_drewN BK.out nq)
    generalize w1.drewN nq = w2 at HM BK ⊢
    clear nq
    have hcf := hcf8 BK
    obtain ⟨_, _, _, _, _, _, _, _, _, _, _, _, _, _, _, _⟩ := hcf
    go_wp2_with (first | ((with_reducible refine gate_callee (f := 49) rfl ?_); refine goesL_ _ rfl rfl Try.func49 (by kernel_rfl) rfl #[.pointer (some ⟨gb, 0, none⟩), .agg #[.int .i64 y.f0, .int .i64 y.f1, .int .i64 y.f2, .int .i64 y.f3, .int .i64 y.f4, .int .i64 y.f5, .int .i64 y.f6.f0, .int .i64 y.f6.f1], .int .i64 2] rfl (by (try simp only [List.map_toArray, List.map_cons, List.map_nil]); first | done | rfl) ?_; refine (fail_calls (mup HM).out y 2).mono ?_; rintro e w' ⟨rfl, hm⟩; clear HM; have HM := Aside0.mk hm; clear hm; refine ⟨_, rfl, ?_⟩))
    first | go_end0 | ((try simp only [Exit.inBlock, Exit.then]); refine bodyPost_ret (results_none rfl _ _ _) rfl ?_) | refine ⟨_, results_none rfl _ _ _, ?_⟩
    refine ⟨rfl, ?_⟩
    rw [KS.out, if_pos d0.out]
    exact HM.out
  have d0b : (af3 == 0) = false := beq_eq_false_iff_ne.mpr d0; have d0n : ¬ af3 = 0 := d0; replace d0 := Aside0.mk d0
  by_cases e7 : y.f0 = 7
  · have e7b : (y.f0 == 7) = true := beq_iff_eq.mpr e7; replace e7 := Aside0.mk e7
    by_cases m2 : af2 = -2147483648
    · have m2b : (af2 == -2147483648) = true := beq_iff_eq.mpr m2; replace m2 := Aside0.mk m2
      by_cases m3 : af3 = -1
      · have m3b : (af3 == -1) = true := beq_iff_eq.mpr m3; replace m3 := Aside0.mk m3
        go_enter Try.func57, Try.ntmps57
        go_upto_region 1 with (first | ((with_reducible refine gate_dst (N := 3) rfl ?_); refine boxM 3 #[.int .i64 y.f0, .int .i64 y.f1, .int .i64 y.f2, .int .i64 y.f3, .int .i64 y.f4, .int .i64 y.f5, .int .i64 y.f6.f0, .int .i64 y.f6.f1] 52 HM ?_; clear HM; intro g w1 _ NG BK _ HM; have hcf := hcf8 BK; obtain ⟨_, _, _, _, _, _, _, _, _, _, _, _, _, _, _, _⟩ := hcf))
        have b2 := hcz BK 2
        have b3 := hcz BK 3
        have c10 := HM.out.cell 10
        obtain ⟨xf2, rf2⟩ := HM.out.mem.reg y.f2.toNat (by omega)
        rw [Ef2.out] at xf2
        obtain ⟨xf3, rf3⟩ := HM.out.mem.reg y.f3.toNat (by omega)
        rw [Ef3.out] at xf3
        go_quiet (fail)
        clear b2 b3 c10 xf2 rf2 xf3 rf3
        replace HM := Aside0.mk (HM.out.drewN nq)
        replace BK := Aside0.mk (blk_drewN BK.out nq)
        generalize w1.drewN nq = w2 at HM BK ⊢
        clear nq
        have hcf := hcf8 BK
        obtain ⟨_, _, _, _, _, _, _, _, _, _, _, _, _, _, _, _⟩ := hcf
        go_wp2_with (first | ((with_reducible refine gate_callee (f := 49) rfl ?_); refine goesL_ _ rfl rfl Try.func49 (by kernel_rfl) rfl #[.pointer (some ⟨gb, 0, none⟩), .agg #[.int .i64 y.f0, .int .i64 y.f1, .int .i64 y.f2, .int .i64 y.f3, .int .i64 y.f4, .int .i64 y.f5, .int .i64 y.f6.f0, .int .i64 y.f6.f1], .int .i64 3] rfl (by (try simp only [List.map_toArray, List.map_cons, List.map_nil]); first | done | rfl) ?_; refine (fail_calls (mup HM).out y 3).mono ?_; rintro e w' ⟨rfl, hm⟩; clear HM; have HM := Aside0.mk hm; clear hm; refine ⟨_, rfl, ?_⟩))
        first | go_end0 | ((try simp only [Exit.inBlock, Exit.then]); refine bodyPost_ret (results_none rfl _ _ _) rfl ?_) | refine ⟨_, results_none rfl _ _ _, ?_⟩
        refine ⟨rfl, ?_⟩
        rw [KS.out, if_neg d0.out, if_pos e7.out, if_pos ⟨m2.out, m3.out⟩]
        exact HM.out
      · have m3b : (af3 == -1) = false := beq_eq_false_iff_ne.mpr m3; replace m3 := Aside0.mk m3
        go_enter Try.func57, Try.ntmps57
        go_upto_region 1 with (first | ((with_reducible refine gate_dst (N := 3) rfl ?_); refine boxM 3 #[.int .i64 y.f0, .int .i64 y.f1, .int .i64 y.f2, .int .i64 y.f3, .int .i64 y.f4, .int .i64 y.f5, .int .i64 y.f6.f0, .int .i64 y.f6.f1] 52 HM ?_; clear HM; intro g w1 _ NG BK _ HM; have hcf := hcf8 BK; obtain ⟨_, _, _, _, _, _, _, _, _, _, _, _, _, _, _, _⟩ := hcf))
        have b2 := hcz BK 2
        have b3 := hcz BK 3
        have c10 := HM.out.cell 10
        obtain ⟨xf2, rf2⟩ := HM.out.mem.reg y.f2.toNat (by omega)
        rw [Ef2.out] at xf2
        obtain ⟨xf3, rf3⟩ := HM.out.mem.reg y.f3.toNat (by omega)
        rw [Ef3.out] at xf3
        go_quiet (fail)
        clear b2 b3 c10 xf2 rf2 xf3 rf3
        replace HM := Aside0.mk (HM.out.drewN nq)
        replace BK := Aside0.mk (blk_drewN BK.out nq)
        generalize w1.drewN nq = w2 at HM BK ⊢
        clear nq
        have b0 := hcz BK 0
        go_upto_region 11 with (fail)
        clear b0
        have b1 := hcz BK 1
        have c10 := HM.out.cell 10
        obtain ⟨xf1, rf1⟩ := HM.out.mem.reg y.f1.toNat (by omega)
        go_still_tail 8, (by kernel_rfl)
        change wpList _ _ _ _ _ w2.drew
        replace HM := Aside0.mk HM.out.drew
        replace BK := Aside0.mk (blk_drew BK.out)
        go_wp2
        first | go_end0 | ((try simp only [Exit.inBlock, Exit.then]); refine bodyPost_ret (results_none rfl _ _ _) rfl ?_) | refine ⟨_, results_none rfl _ _ _, ?_⟩
        refine ⟨rfl, ?_⟩
        rw [KS.out, if_neg d0.out, if_pos e7.out, if_neg (fun hh => m3.out hh.2)]
        exact (HM.out.setReg _ _)
    · have m2b : (af2 == -2147483648) = false := beq_eq_false_iff_ne.mpr m2; replace m2 := Aside0.mk m2
      go_enter Try.func57, Try.ntmps57
      go_upto_region 1 with (first | ((with_reducible refine gate_dst (N := 3) rfl ?_); refine boxM 3 #[.int .i64 y.f0, .int .i64 y.f1, .int .i64 y.f2, .int .i64 y.f3, .int .i64 y.f4, .int .i64 y.f5, .int .i64 y.f6.f0, .int .i64 y.f6.f1] 52 HM ?_; clear HM; intro g w1 _ NG BK _ HM; have hcf := hcf8 BK; obtain ⟨_, _, _, _, _, _, _, _, _, _, _, _, _, _, _, _⟩ := hcf))
      have b2 := hcz BK 2
      have b3 := hcz BK 3
      have c10 := HM.out.cell 10
      obtain ⟨xf2, rf2⟩ := HM.out.mem.reg y.f2.toNat (by omega)
      rw [Ef2.out] at xf2
      obtain ⟨xf3, rf3⟩ := HM.out.mem.reg y.f3.toNat (by omega)
      rw [Ef3.out] at xf3
      go_quiet (fail)
      clear b2 b3 c10 xf2 rf2 xf3 rf3
      replace HM := Aside0.mk (HM.out.drewN nq)
      replace BK := Aside0.mk (blk_drewN BK.out nq)
      generalize w1.drewN nq = w2 at HM BK ⊢
      clear nq
      have b0 := hcz BK 0
      go_upto_region 11 with (fail)
      clear b0
      have b1 := hcz BK 1
      have c10 := HM.out.cell 10
      obtain ⟨xf1, rf1⟩ := HM.out.mem.reg y.f1.toNat (by omega)
      go_still_tail 8, (by kernel_rfl)
      change wpList _ _ _ _ _ w2.drew
      replace HM := Aside0.mk HM.out.drew
      replace BK := Aside0.mk (blk_drew BK.out)
      go_wp2
      first | go_end0 | ((try simp only [Exit.inBlock, Exit.then]); refine bodyPost_ret (results_none rfl _ _ _) rfl ?_) | refine ⟨_, results_none rfl _ _ _, ?_⟩
      refine ⟨rfl, ?_⟩
      rw [KS.out, if_neg d0.out, if_pos e7.out, if_neg (fun hh => m2.out hh.1)]
      exact (HM.out.setReg _ _)
  · have e7b : (y.f0 == 7) = false := beq_eq_false_iff_ne.mpr e7; replace e7 := Aside0.mk e7
    have e8b : (y.f0 == 8) = true := beq_iff_eq.mpr (by have := e7.out; omega)
    go_enter Try.func57, Try.ntmps57
    go_upto_region 1 with (first | ((with_reducible refine gate_dst (N := 3) rfl ?_); refine boxM 3 #[.int .i64 y.f0, .int .i64 y.f1, .int .i64 y.f2, .int .i64 y.f3, .int .i64 y.f4, .int .i64 y.f5, .int .i64 y.f6.f0, .int .i64 y.f6.f1] 52 HM ?_; clear HM; intro g w1 _ NG BK _ HM; have hcf := hcf8 BK; obtain ⟨_, _, _, _, _, _, _, _, _, _, _, _, _, _, _, _⟩ := hcf))
    have b2 := hcz BK 2
    have b3 := hcz BK 3
    have c10 := HM.out.cell 10
    obtain ⟨xf2, rf2⟩ := HM.out.mem.reg y.f2.toNat (by omega)
    rw [Ef2.out] at xf2
    obtain ⟨xf3, rf3⟩ := HM.out.mem.reg y.f3.toNat (by omega)
    rw [Ef3.out] at xf3
    go_quiet (fail)
    clear b2 b3 c10 xf2 rf2 xf3 rf3
    replace HM := Aside0.mk (HM.out.drewN nq)
    replace BK := Aside0.mk (blk_drewN BK.out nq)
    generalize w1.drewN nq = w2 at HM BK ⊢
    clear nq
    have b0 := hcz BK 0
    go_upto_region 11 with (fail)
    clear b0
    have b1 := hcz BK 1
    have c10 := HM.out.cell 10
    obtain ⟨xf1, rf1⟩ := HM.out.mem.reg y.f1.toNat (by omega)
    go_still_tail 8, (by kernel_rfl)
    change wpList _ _ _ _ _ w2.drew
    replace HM := Aside0.mk HM.out.drew
    replace BK := Aside0.mk (blk_drew BK.out)
    go_wp2
    first | go_end0 | ((try simp only [Exit.inBlock, Exit.then]); refine bodyPost_ret (results_none rfl _ _ _) rfl ?_) | refine ⟨_, results_none rfl _ _ _, ?_⟩
    refine ⟨rfl, ?_⟩
    rw [KS.out, if_neg d0.out, if_neg e7.out]
    exact (HM.out.setReg _ _)
end Go.Proofs.Ytcalcbeonbfkmaa.P
