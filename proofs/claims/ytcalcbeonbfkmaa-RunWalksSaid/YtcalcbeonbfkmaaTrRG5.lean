/- What the law's proof needs of G5. -/
import Derived.Test.YtcalcbeonbfkmaaTrRG4
import Derived.Test.YtcalcbeonbfkmaaTrRF8
namespace Go.Proofs.Ytcalcbeonbfkmaa.P
open Go.RowKit Go.Proofs.YtcalcbeonbfkmaaW.PrintWords Go.Proofs.YtcalcbeonbfkmaaW.PrintLast Go.Proofs.YtcalcbeonbfkmaaW.PrintMore Go.Proofs.YtcalcbeonbfkmaaO
attribute [local go_sem] max2_int min2_int max_two min_two max_three min_three max_four min_four
set_option linter.unusedVariables false
set_option linter.unusedSimpArgs false
set_option maxHeartbeats 8000000 in
set_option maxRecDepth 100000 in
theorem store_calls {w W : World} {E : List (Nat × Array Value × Nat)} {G : Gr} {vs vr va vm : Value} {gb : Nat} {S : St} (h : MC w W E G vs gb vr va vm S) (y : S52) (hf1 : 0 ≤ y.f1 ∧ y.f1 < (S.regs.length : Int)) (hf3 : 0 ≤ y.f3 ∧ y.f3 < (S.regs.length : Int)) {k : Int} {l : List Int} (ek : S.regs.getD y.f3.toNat 0 = k) (el : S.arrs.getD y.f2.toNat [] = l) (hG : G.Held w) (ha : 0 ≤ y.f2 ∧ y.f2 < (G.l6.length : Int)) (hal : S.arrs.length = G.l6.length) (hsz : (l.length : Int) = (rd_T85 G.l6 y.f2).f2) (hs1 : 1 ≤ (rd_T85 G.l6 y.f2).f2) (ht : 1 ≤ (rd_T85 G.l6 y.f2).f1 ∧ (rd_T85 G.l6 y.f2).f1 ≤ 3) :
    Calls Try.prog 63 #[.pointer (some ⟨gb, 0, none⟩), .agg #[.int .i64 y.f0, .int .i64 y.f1, .int .i64 y.f2, .int .i64 y.f3, .int .i64 y.f4, .int .i64 y.f5, .int .i64 y.f6.f0, .int .i64 y.f6.f1]] W fun e W' => e = .returned (.tuple #[]) ∧ MC w W' E G vs gb vr va vm (storeS G S y) := by
  obtain ⟨gr, cr, rfl⟩ := h.mem.regForm (by omega)
  have hu52 := Try.underlying52
  have hu74 := Try.underlying74
  have hu36 := Try.underlying36
  have hu28 := Try.underlying28
  have HM := Aside0.mk h
  clear h
  have hu85 := Try.underlying85
  have EK := Aside0.mk ek
  have EL := Aside0.mk el
  clear ek el
  have HAL := Aside0.mk hal
  clear hal
  have pf1 := eq_true hf1.1
  have qf1 := eq_true hf1.2
  have zf1 : (y.f1.toNat < S.regs.length) = True := eq_true (by omega)
  obtain ⟨af1, ea⟩ : ∃ a, S.regs.getD y.f1.toNat 0 = a := ⟨_, rfl⟩
  have Ef1 := Aside0.mk ea
  clear ea
  obtain ⟨b, hb⟩ : ∃ b, okB (rd_T85 G.l6 y.f2).f1 af1 = b := ⟨_, rfl⟩
  have KB := Aside0.mk hb
  have s1 := eq_true ha.1
  have s2 := eq_true ha.2
  have s3 : (y.f2.toNat < G.l6.length) = True := eq_true (by omega)
  have hS : storeS G S y = if 0 ≤ k ∧ k < (l.length : Int) then (if b = true then { S with arrs := S.arrs.set y.f2.toNat (l.set k.toNat af1) } else failS S y 1) else failS S y 4 := by unfold storeS; rw [EK.out, EL.out, Ef1.out, hb]
  generalize storeS G S y = SP at hS ⊢
  have KS := Aside0.mk hS
  clear hS
  clear hb
  by_cases hk : 0 ≤ k ∧ k < (l.length : Int)
  · have KP := Aside0.mk hk
    go_enter Try.func63, Try.ntmps63
    go_upto_region 3 with (first | ((with_reducible refine gate_dst (N := 3) rfl ?_); refine boxM 3 #[.int .i64 y.f0, .int .i64 y.f1, .int .i64 y.f2, .int .i64 y.f3, .int .i64 y.f4, .int .i64 y.f5, .int .i64 y.f6.f0, .int .i64 y.f6.f1] 52 HM ?_; clear HM; intro g w1 _ NG BK _ HM; have hcf := hcf8 BK; obtain ⟨_, _, _, _, _, _, _, _, _, _, _, _, _, _, _, _⟩ := hcf) | ((with_reducible refine gate_callee (f := 70) rfl ?_); refine goesL_ _ rfl rfl Try.func70 (by kernel_rfl) rfl #[.pointer (some ⟨gb, 0, none⟩), .agg #[.int .i64 y.f0, .int .i64 y.f1, .int .i64 y.f2, .int .i64 y.f3, .int .i64 y.f4, .int .i64 y.f5, .int .i64 y.f6.f0, .int .i64 y.f6.f1]] rfl (by (try simp only [List.map_toArray, List.map_cons, List.map_nil]); first | done | rfl) ?_; refine (place_in ((mup HM).out.cons (pkA BK).out (by decide) (by decide) NG.out) y hf3 EK.out EL.out hG ha HAL.out hsz hs1 hk).mono ?_; rintro e w2 ⟨ga, ca, gi, ci, rfl, xa, rfl, hm⟩; clear HM; have BK := Aside0.mk hm.head; have HM := Aside0.mk hm.tail; clear hm; refine ⟨_, rfl, ?_⟩))
    have XA := Aside0.mk xa
    clear xa
    have b1 := hcz BK 1
    have c10 := HM.out.cell 10
    obtain ⟨xf1, rf1⟩ := HM.out.mem.reg y.f1.toNat (by omega)
    rw [Ef1.out] at xf1
    go_quiet (fail)
    clear b1 c10 xf1 rf1
    go_upto_region 4 with (fail)
    replace HM := Aside0.mk (HM.out.drewN nq)
    replace BK := Aside0.mk (blk_drewN BK.out nq)
    replace XA := Aside0.mk (((pw_below_drewN (Below.refl _ _) nq).cell (World.block_lt_of_cell? _ _ XA.out)).trans XA.out)
    generalize w2.drewN nq = w3 at HM BK XA ⊢
    clear nq
    have b2 := hcz BK 2
    obtain ⟨ad6, ee6, y60, y61, y62, y63⟩ := at_T85 ((hG.below HM.out.mem.hb).h6) y.f2 ha.1 ha.2
    have c6 : w3.cell? ⟨gb, 6, none⟩ = some (.slice (some ad6) G.l6.length G.c6) := (HM.out.cell 6).trans (by rw [← ee6]; rfl)
    go_quiet (exact Calls.quiet_of ((within_b ht KB.out _).mono fun e w' ⟨h1, n, h2⟩ => ⟨h1, n, h2⟩))
    clear b2 y60 y61 y62 y63 c6
    replace HM := Aside0.mk (HM.out.drewN nq)
    replace BK := Aside0.mk (blk_drewN BK.out nq)
    replace XA := Aside0.mk (((pw_below_drewN (Below.refl _ _) nq).cell (World.block_lt_of_cell? _ _ XA.out)).trans XA.out)
    generalize w3.drewN nq = w4 at HM BK XA ⊢
    clear nq
    cases b
    · have hcf := hcf8 BK
      obtain ⟨_, _, _, _, _, _, _, _, _, _, _, _, _, _, _, _⟩ := hcf
      go_wp2_with (first | ((with_reducible refine gate_callee (f := 49) rfl ?_); refine goesL_ _ rfl rfl Try.func49 (by kernel_rfl) rfl #[.pointer (some ⟨gb, 0, none⟩), .agg #[.int .i64 y.f0, .int .i64 y.f1, .int .i64 y.f2, .int .i64 y.f3, .int .i64 y.f4, .int .i64 y.f5, .int .i64 y.f6.f0, .int .i64 y.f6.f1], .int .i64 1] rfl (by (try simp only [List.map_toArray, List.map_cons, List.map_nil]); first | done | rfl) ?_; refine (fail_calls (mup HM).out y 1).mono ?_; rintro e w' ⟨rfl, hm⟩; clear HM; have HM := Aside0.mk hm; clear hm; refine ⟨_, rfl, ?_⟩))
      first | go_end0 | ((try simp only [Exit.inBlock, Exit.then]); refine bodyPost_ret (results_none rfl _ _ _) rfl ?_) | refine ⟨_, results_none rfl _ _ _, ?_⟩
      refine ⟨rfl, ?_⟩
      rw [KS.out, if_pos KP.out, if_neg (by simp)]
      exact HM.out
    · obtain ⟨e1, e2, ⟨_, e4⟩, e5⟩ := HM.out.mem.at_ y.f2.toNat (by have := HAL.out; omega) XA.out k.toNat (by rw [EL.out]; omega)
      obtain ⟨h1, h2⟩ := e5 af1
      rw [EL.out] at h1
      have HN := Aside0.mk (HM.out.row h1 h2 e4)
      clear h1 h2 e4 hk
      go_wp2
      first | go_end0 | ((try simp only [Exit.inBlock, Exit.then]); refine bodyPost_ret (results_none rfl _ _ _) rfl ?_) | refine ⟨_, results_none rfl _ _ _, ?_⟩
      refine ⟨rfl, ?_⟩
      rw [KS.out, if_pos KP.out, if_pos (by simp)]
      exact HN.out
  · go_enter Try.func63, Try.ntmps63
    go_wp2_with (first | ((with_reducible refine gate_dst (N := 3) rfl ?_); refine boxM 3 #[.int .i64 y.f0, .int .i64 y.f1, .int .i64 y.f2, .int .i64 y.f3, .int .i64 y.f4, .int .i64 y.f5, .int .i64 y.f6.f0, .int .i64 y.f6.f1] 52 HM ?_; clear HM; intro g w1 _ NG BK _ HM; have hcf := hcf8 BK; obtain ⟨_, _, _, _, _, _, _, _, _, _, _, _, _, _, _, _⟩ := hcf) | ((with_reducible refine gate_callee (f := 70) rfl ?_); refine goesL_ _ rfl rfl Try.func70 (by kernel_rfl) rfl #[.pointer (some ⟨gb, 0, none⟩), .agg #[.int .i64 y.f0, .int .i64 y.f1, .int .i64 y.f2, .int .i64 y.f3, .int .i64 y.f4, .int .i64 y.f5, .int .i64 y.f6.f0, .int .i64 y.f6.f1]] rfl (by (try simp only [List.map_toArray, List.map_cons, List.map_nil]); first | done | rfl) ?_; refine (place_out (mup HM).out y hf3 EK.out EL.out hG ha HAL.out hsz hs1 hk).mono ?_; rintro e w2 ⟨rfl, hm⟩; clear HM; have HM := Aside0.mk hm; clear hm; refine ⟨_, rfl, ?_⟩))
    first | go_end0 | ((try simp only [Exit.inBlock, Exit.then]); refine bodyPost_ret (results_none rfl _ _ _) rfl ?_) | refine ⟨_, results_none rfl _ _ _, ?_⟩
    refine ⟨rfl, ?_⟩
    rw [KS.out, if_neg hk]
    exact HM.out
set_option maxHeartbeats 8000000 in
set_option maxRecDepth 100000 in
theorem test_calls {w W : World} {E : List (Nat × Array Value × Nat)} {G : Gr} {vs vr va vm : Value} {gb : Nat} {S : St} (h : MC w W E G vs gb vr va vm S) (y : S52) (hf2 : 0 ≤ y.f2 ∧ y.f2 < (S.regs.length : Int)) (hf3 : 0 ≤ y.f3 ∧ y.f3 < (S.regs.length : Int)) (h4 : 14 ≤ y.f4 ∧ y.f4 ≤ 19) :
    Calls Try.prog 64 #[.pointer (some ⟨gb, 0, none⟩), .agg #[.int .i64 y.f0, .int .i64 y.f1, .int .i64 y.f2, .int .i64 y.f3, .int .i64 y.f4, .int .i64 y.f5, .int .i64 y.f6.f0, .int .i64 y.f6.f1]] W fun e W' => e = .returned (.tuple #[]) ∧ MC w W' E G vs gb vr va vm (testS S y) := by
  obtain ⟨gr, cr, rfl⟩ := h.mem.regForm (by omega)
  have hu52 := Try.underlying52
  have hu74 := Try.underlying74
  have hu36 := Try.underlying36
  have hu28 := Try.underlying28
  have HM := Aside0.mk h
  clear h
  have pf2 := eq_true hf2.1
  have qf2 := eq_true hf2.2
  have zf2 : (y.f2.toNat < S.regs.length) = True := eq_true (by omega)
  have pf3 := eq_true hf3.1
  have qf3 := eq_true hf3.2
  have zf3 : (y.f3.toNat < S.regs.length) = True := eq_true (by omega)
  obtain ⟨af2, ea⟩ : ∃ a, S.regs.getD y.f2.toNat 0 = a := ⟨_, rfl⟩
  have Ef2 := Aside0.mk ea
  clear ea
  obtain ⟨af3, ea⟩ : ∃ a, S.regs.getD y.f3.toNat 0 = a := ⟨_, rfl⟩
  have Ef3 := Aside0.mk ea
  clear ea
  have hu103 := Try.underlying103
  rcases (show y.f4 = 14 ∨ y.f4 = 15 ∨ y.f4 = 16 ∨ y.f4 = 17 ∨ y.f4 = 18 ∨ y.f4 = 19 by omega) with e | e | e | e | e | e
  · have KT := Aside0.mk (show testS S y = if (af2 == af3) = true then S else { S with at_ := y.f6.f1 } by unfold testS; rw [Ef2.out, Ef3.out, e]; rfl)
    generalize testS S y = SP at KT ⊢
    have e44 : IntKind.i64.wrap (y.f4 - 14) = 0 := by rw [e]; rfl
    clear e
    go_enter Try.func64, Try.ntmps64
    go_upto_region 1 with (first | ((with_reducible refine gate_dst (N := 3) rfl ?_); refine boxM 3 #[.int .i64 y.f0, .int .i64 y.f1, .int .i64 y.f2, .int .i64 y.f3, .int .i64 y.f4, .int .i64 y.f5, .int .i64 y.f6.f0, .int .i64 y.f6.f1] 52 HM ?_; clear HM; intro g w1 _ NG BK _ HM; have hcf := hcf8 BK; obtain ⟨_, _, _, _, _, _, _, _, _, _, _, _, _, _, _, _⟩ := hcf))
    have b2 := hcz BK 2
    have b3 := hcz BK 3
    have c10 := HM.out.cell 10
    obtain ⟨xf2, rf2⟩ := HM.out.mem.reg y.f2.toNat (by omega)
    rw [Ef2.out] at xf2
    obtain ⟨xf3, rf3⟩ := HM.out.mem.reg y.f3.toNat (by omega)
    rw [Ef3.out] at xf3
    go_quiet (fail)
    clear b2 b3 c10 xf2 rf2 xf3 rf3
    replace HM := Aside0.mk (HM.out.drewN nq)
    replace BK := Aside0.mk (blk_drewN BK.out nq)
    generalize w1.drewN nq = w2 at HM BK ⊢
    clear nq
    go_upto_region 3 with (first | ((with_reducible refine gate_dst (N := 6) rfl ?_); refine boxM 6 #[.bool false, .bool false, .bool false, .bool false, .bool false, .bool false] 103 HM ?_; intro g6 w3 eg NG6 B6 hb HX; have NE := Aside0.mk ((mup HM).out.newE eg.out); have N6 := bn1 BK eg.out; have GE : Aside0 (w.heap.size ≤ g6) := ⟨by rw [eg.out]; exact ((mup HM).out.mem.hb).size⟩; replace BK := bbw BK hb.out; clear HM hb eg; have HM := HX; clear HX) | ((with_reducible refine gate_store (p := 6) (t := 103) rfl ?_); refine store_box rfl rfl rfl g6 103 _ #[.bool (af2 == af3), .bool (af2 != af3), .bool (decide (af2 < af3)), .bool (decide (af2 ≤ af3)), .bool (decide (af3 < af2)), .bool (decide (af3 ≤ af2))] (pkA B6).out rfl rfl (by kernel_rfl) rfl (by kernel_rfl) ?_; intro w4 hbs hgs; replace HM := Aside0.mk ((mup HM).out.side (pkA B6).out (by decide) (by decide) NG6.out NE.out GE.out hgs); replace BK := boxed_other (pkA BK) hgs N6; clear B6 hgs; have B6 := Aside0.mk hbs; clear hbs; have hcf := hcf8 BK; obtain ⟨_, _, _, _, _, _, _, _, _, _, _, _, _, _, _, _⟩ := hcf))
    generalize hb : (af2 == af3) = b at B6 ⊢
    replace hb := Aside0.mk hb
    have hcf := hcf6 B6
    obtain ⟨_, _, _, _, _, _, _, _, _, _, _, _⟩ := hcf
    have f11 := HM.out.froz 11
    have c11 := HM.out.cell 11
    cases b
    · go_wp2
      first | go_end0 | ((try simp only [Exit.inBlock, Exit.then]); refine bodyPost_ret (results_none rfl _ _ _) rfl ?_) | refine ⟨_, results_none rfl _ _ _, ?_⟩
      refine ⟨rfl, ?_⟩
      rw [KT.out, hb.out, if_neg (by simp)]
      exact (mup HM).out.set 11 _ rfl
    · go_wp2
      first | go_end0 | ((try simp only [Exit.inBlock, Exit.then]); refine bodyPost_ret (results_none rfl _ _ _) rfl ?_) | refine ⟨_, results_none rfl _ _ _, ?_⟩
      refine ⟨rfl, ?_⟩
      rw [KT.out, hb.out, if_pos (by simp)]
      exact (mup HM).out
  · have KT := Aside0.mk (show testS S y = if (af2 != af3) = true then S else { S with at_ := y.f6.f1 } by unfold testS; rw [Ef2.out, Ef3.out, e]; rfl)
    generalize testS S y = SP at KT ⊢
    have e44 : IntKind.i64.wrap (y.f4 - 14) = 1 := by rw [e]; rfl
    clear e
    go_enter Try.func64, Try.ntmps64
    go_upto_region 1 with (first | ((with_reducible refine gate_dst (N := 3) rfl ?_); refine boxM 3 #[.int .i64 y.f0, .int .i64 y.f1, .int .i64 y.f2, .int .i64 y.f3, .int .i64 y.f4, .int .i64 y.f5, .int .i64 y.f6.f0, .int .i64 y.f6.f1] 52 HM ?_; clear HM; intro g w1 _ NG BK _ HM; have hcf := hcf8 BK; obtain ⟨_, _, _, _, _, _, _, _, _, _, _, _, _, _, _, _⟩ := hcf))
    have b2 := hcz BK 2
    have b3 := hcz BK 3
    have c10 := HM.out.cell 10
    obtain ⟨xf2, rf2⟩ := HM.out.mem.reg y.f2.toNat (by omega)
    rw [Ef2.out] at xf2
    obtain ⟨xf3, rf3⟩ := HM.out.mem.reg y.f3.toNat (by omega)
    rw [Ef3.out] at xf3
    go_quiet (fail)
    clear b2 b3 c10 xf2 rf2 xf3 rf3
    replace HM := Aside0.mk (HM.out.drewN nq)
    replace BK := Aside0.mk (blk_drewN BK.out nq)
    generalize w1.drewN nq = w2 at HM BK ⊢
    clear nq
    go_upto_region 3 with (first | ((with_reducible refine gate_dst (N := 6) rfl ?_); refine boxM 6 #[.bool false, .bool false, .bool false, .bool false, .bool false, .bool false] 103 HM ?_; intro g6 w3 eg NG6 B6 hb HX; have NE := Aside0.mk ((mup HM).out.newE eg.out); have N6 := bn1 BK eg.out; have GE : Aside0 (w.heap.size ≤ g6) := ⟨by rw [eg.out]; exact ((mup HM).out.mem.hb).size⟩; replace BK := bbw BK hb.out; clear HM hb eg; have HM := HX; clear HX) | ((with_reducible refine gate_store (p := 6) (t := 103) rfl ?_); refine store_box rfl rfl rfl g6 103 _ #[.bool (af2 == af3), .bool (af2 != af3), .bool (decide (af2 < af3)), .bool (decide (af2 ≤ af3)), .bool (decide (af3 < af2)), .bool (decide (af3 ≤ af2))] (pkA B6).out rfl rfl (by kernel_rfl) rfl (by kernel_rfl) ?_; intro w4 hbs hgs; replace HM := Aside0.mk ((mup HM).out.side (pkA B6).out (by decide) (by decide) NG6.out NE.out GE.out hgs); replace BK := boxed_other (pkA BK) hgs N6; clear B6 hgs; have B6 := Aside0.mk hbs; clear hbs; have hcf := hcf8 BK; obtain ⟨_, _, _, _, _, _, _, _, _, _, _, _, _, _, _, _⟩ := hcf))
    generalize hb : (af2 != af3) = b at B6 ⊢
    replace hb := Aside0.mk hb
    have hcf := hcf6 B6
    obtain ⟨_, _, _, _, _, _, _, _, _, _, _, _⟩ := hcf
    have f11 := HM.out.froz 11
    have c11 := HM.out.cell 11
    cases b
    · go_wp2
      first | go_end0 | ((try simp only [Exit.inBlock, Exit.then]); refine bodyPost_ret (results_none rfl _ _ _) rfl ?_) | refine ⟨_, results_none rfl _ _ _, ?_⟩
      refine ⟨rfl, ?_⟩
      rw [KT.out, hb.out, if_neg (by simp)]
      exact (mup HM).out.set 11 _ rfl
    · go_wp2
      first | go_end0 | ((try simp only [Exit.inBlock, Exit.then]); refine bodyPost_ret (results_none rfl _ _ _) rfl ?_) | refine ⟨_, results_none rfl _ _ _, ?_⟩
      refine ⟨rfl, ?_⟩
      rw [KT.out, hb.out, if_pos (by simp)]
      exact (mup HM).out
  · have KT := Aside0.mk (show testS S y = if (decide (af2 < af3)) = true then S else { S with at_ := y.f6.f1 } by unfold testS; rw [Ef2.out, Ef3.out, e]; rfl)
    generalize testS S y = SP at KT ⊢
    have e44 : IntKind.i64.wrap (y.f4 - 14) = 2 := by rw [e]; rfl
    clear e
    go_enter Try.func64, Try.ntmps64
    go_upto_region 1 with (first | ((with_reducible refine gate_dst (N := 3) rfl ?_); refine boxM 3 #[.int .i64 y.f0, .int .i64 y.f1, .int .i64 y.f2, .int .i64 y.f3, .int .i64 y.f4, .int .i64 y.f5, .int .i64 y.f6.f0, .int .i64 y.f6.f1] 52 HM ?_; clear HM; intro g w1 _ NG BK _ HM; have hcf := hcf8 BK; obtain ⟨_, _, _, _, _, _, _, _, _, _, _, _, _, _, _, _⟩ := hcf))
    have b2 := hcz BK 2
    have b3 := hcz BK 3
    have c10 := HM.out.cell 10
    obtain ⟨xf2, rf2⟩ := HM.out.mem.reg y.f2.toNat (by omega)
    rw [Ef2.out] at xf2
    obtain ⟨xf3, rf3⟩ := HM.out.mem.reg y.f3.toNat (by omega)
    rw [Ef3.out] at xf3
    go_quiet (fail)
    clear b2 b3 c10 xf2 rf2 xf3 rf3
    replace HM := Aside0.mk (HM.out.drewN nq)
    replace BK := Aside0.mk (blk_drewN BK.out nq)
    generalize w1.drewN nq = w2 at HM BK ⊢
    clear nq
    go_upto_region 3 with (first | ((with_reducible refine gate_dst (N := 6) rfl ?_); refine boxM 6 #[.bool false, .bool false, .bool false, .bool false, .bool false, .bool false] 103 HM ?_; intro g6 w3 eg NG6 B6 hb HX; have NE := Aside0.mk ((mup HM).out.newE eg.out); have N6 := bn1 BK eg.out; have GE : Aside0 (w.heap.size ≤ g6) := ⟨by rw [eg.out]; exact ((mup HM).out.mem.hb).size⟩; replace BK := bbw BK hb.out; clear HM hb eg; have HM := HX; clear HX) | ((with_reducible refine gate_store (p := 6) (t := 103) rfl ?_); refine store_box rfl rfl rfl g6 103 _ #[.bool (af2 == af3), .bool (af2 != af3), .bool (decide (af2 < af3)), .bool (decide (af2 ≤ af3)), .bool (decide (af3 < af2)), .bool (decide (af3 ≤ af2))] (pkA B6).out rfl rfl (by kernel_rfl) rfl (by kernel_rfl) ?_; intro w4 hbs hgs; replace HM := Aside0.mk ((mup HM).out.side (pkA B6).out (by decide) (by decide) NG6.out NE.out GE.out hgs); replace BK := boxed_other (pkA BK) hgs N6; clear B6 hgs; have B6 := Aside0.mk hbs; clear hbs; have hcf := hcf8 BK; obtain ⟨_, _, _, _, _, _, _, _, _, _, _, _, _, _, _, _⟩ := hcf))
    generalize hb : (decide (af2 < af3)) = b at B6 ⊢
    replace hb := Aside0.mk hb
    have hcf := hcf6 B6
    obtain ⟨_, _, _, _, _, _, _, _, _, _, _, _⟩ := hcf
    have f11 := HM.out.froz 11
    have c11 := HM.out.cell 11
    cases b
    · go_wp2
      first | go_end0 | ((try simp only [Exit.inBlock, Exit.then]); refine bodyPost_ret (results_none rfl _ _ _) rfl ?_) | refine ⟨_, results_none rfl _ _ _, ?_⟩
      refine ⟨rfl, ?_⟩
      rw [KT.out, hb.out, if_neg (by simp)]
      exact (mup HM).out.set 11 _ rfl
    · go_wp2
      first | go_end0 | ((try simp only [Exit.inBlock, Exit.then]); refine bodyPost_ret (results_none rfl _ _ _) rfl ?_) | refine ⟨_, results_none rfl _ _ _, ?_⟩
      refine ⟨rfl, ?_⟩
      rw [KT.out, hb.out, if_pos (by simp)]
      exact (mup HM).out
  · have KT := Aside0.mk (show testS S y = if (decide (af2 ≤ af3)) = true then S else { S with at_ := y.f6.f1 } by unfold testS; rw [Ef2.out, Ef3.out, e]; rfl)
    generalize testS S y = SP at KT ⊢
    have e44 : IntKind.i64.wrap (y.f4 - 14) = 3 := by rw [e]; rfl
    clear e
    go_enter Try.func64, Try.ntmps64
    go_upto_region 1 with (first | ((with_reducible refine gate_dst (N := 3) rfl ?_); refine boxM 3 #[.int .i64 y.f0, .int .i64 y.f1, .int .i64 y.f2, .int .i64 y.f3, .int .i64 y.f4, .int .i64 y.f5, .int .i64 y.f6.f0, .int .i64 y.f6.f1] 52 HM ?_; clear HM; intro g w1 _ NG BK _ HM; have hcf := hcf8 BK; obtain ⟨_, _, _, _, _, _, _, _, _, _, _, _, _, _, _, _⟩ := hcf))
    have b2 := hcz BK 2
    have b3 := hcz BK 3
    have c10 := HM.out.cell 10
    obtain ⟨xf2, rf2⟩ := HM.out.mem.reg y.f2.toNat (by omega)
    rw [Ef2.out] at xf2
    obtain ⟨xf3, rf3⟩ := HM.out.mem.reg y.f3.toNat (by omega)
    rw [Ef3.out] at xf3
    go_quiet (fail)
    clear b2 b3 c10 xf2 rf2 xf3 rf3
    replace HM := Aside0.mk (HM.out.drewN nq)
    replace BK := Aside0.mk (blk_drewN BK.out nq)
    generalize w1.drewN nq = w2 at HM BK ⊢
    clear nq
    go_upto_region 3 with (first | ((with_reducible refine gate_dst (N := 6) rfl ?_); refine boxM 6 #[.bool false, .bool false, .bool false, .bool false, .bool false, .bool false] 103 HM ?_; intro g6 w3 eg NG6 B6 hb HX; have NE := Aside0.mk ((mup HM).out.newE eg.out); have N6 := bn1 BK eg.out; have GE : Aside0 (w.heap.size ≤ g6) := ⟨by rw [eg.out]; exact ((mup HM).out.mem.hb).size⟩; replace BK := bbw BK hb.out; clear HM hb eg; have HM := HX; clear HX) | ((with_reducible refine gate_store (p := 6) (t := 103) rfl ?_); refine store_box rfl rfl rfl g6 103 _ #[.bool (af2 == af3), .bool (af2 != af3), .bool (decide (af2 < af3)), .bool (decide (af2 ≤ af3)), .bool (decide (af3 < af2)), .bool (decide (af3 ≤ af2))] (pkA B6).out rfl rfl (by kernel_rfl) rfl (by kernel_rfl) ?_; intro w4 hbs hgs; replace HM := Aside0.mk ((mup HM).out.side (pkA B6).out (by decide) (by decide) NG6.out NE.out GE.out hgs); replace BK := boxed_other (pkA BK) hgs N6; clear B6 hgs; have B6 := Aside0.mk hbs; clear hbs; have hcf := hcf8 BK; obtain ⟨_, _, _, _, _, _, _, _, _, _, _, _, _, _, _, _⟩ := hcf))
    generalize hb : (decide (af2 ≤ af3)) = b at B6 ⊢
    replace hb := Aside0.mk hb
    have hcf := hcf6 B6
    obtain ⟨_, _, _, _, _, _, _, _, _, _, _, _⟩ := hcf
    have f11 := HM.out.froz 11
    have c11 := HM.out.cell 11
    cases b
    · go_wp2
      first | go_end0 | ((try simp only [Exit.inBlock, Exit.then]); refine bodyPost_ret (results_none rfl _ _ _) rfl ?_) | refine ⟨_, results_none rfl _ _ _, ?_⟩
      refine ⟨rfl, ?_⟩
      rw [KT.out, hb.out, if_neg (by simp)]
      exact (mup HM).out.set 11 _ rfl
    · go_wp2
      first | go_end0 | ((try simp only [Exit.inBlock, Exit.then]); refine bodyPost_ret (results_none rfl _ _ _) rfl ?_) | refine ⟨_, results_none rfl _ _ _, ?_⟩
      refine ⟨rfl, ?_⟩
      rw [KT.out, hb.out, if_pos (by simp)]
      exact (mup HM).out
  · have KT := Aside0.mk (show testS S y = if (decide (af3 < af2)) = true then S else { S with at_ := y.f6.f1 } by unfold testS; rw [Ef2.out, Ef3.out, e]; rfl)
    generalize testS S y = SP at KT ⊢
    have e44 : IntKind.i64.wrap (y.f4 - 14) = 4 := by rw [e]; rfl
    clear e
    go_enter Try.func64, Try.ntmps64
    go_upto_region 1 with (first | ((with_reducible refine gate_dst (N := 3) rfl ?_); refine boxM 3 #[.int .i64 y.f0, .int .i64 y.f1, .int .i64 y.f2, .int .i64 y.f3, .int .i64 y.f4, .int .i64 y.f5, .int .i64 y.f6.f0, .int .i64 y.f6.f1] 52 HM ?_; clear HM; intro g w1 _ NG BK _ HM; have hcf := hcf8 BK; obtain ⟨_, _, _, _, _, _, _, _, _, _, _, _, _, _, _, _⟩ := hcf))
    have b2 := hcz BK 2
    have b3 := hcz BK 3
    have c10 := HM.out.cell 10
    obtain ⟨xf2, rf2⟩ := HM.out.mem.reg y.f2.toNat (by omega)
    rw [Ef2.out] at xf2
    obtain ⟨xf3, rf3⟩ := HM.out.mem.reg y.f3.toNat (by omega)
    rw [Ef3.out] at xf3
    go_quiet (fail)
    clear b2 b3 c10 xf2 rf2 xf3 rf3
    replace HM := Aside0.mk (HM.out.drewN nq)
    replace BK := Aside0.mk (blk_drewN BK.out nq)
    generalize w1.drewN nq = w2 at HM BK ⊢
    clear nq
    go_upto_region 3 with (first | ((with_reducible refine gate_dst (N := 6) rfl ?_); refine boxM 6 #[.bool false, .bool false, .bool false, .bool false, .bool false, .bool false] 103 HM ?_; intro g6 w3 eg NG6 B6 hb HX; have NE := Aside0.mk ((mup HM).out.newE eg.out); have N6 := bn1 BK eg.out; have GE : Aside0 (w.heap.size ≤ g6) := ⟨by rw [eg.out]; exact ((mup HM).out.mem.hb).size⟩; replace BK := bbw BK hb.out; clear HM hb eg; have HM := HX; clear HX) | ((with_reducible refine gate_store (p := 6) (t := 103) rfl ?_); refine store_box rfl rfl rfl g6 103 _ #[.bool (af2 == af3), .bool (af2 != af3), .bool (decide (af2 < af3)), .bool (decide (af2 ≤ af3)), .bool (decide (af3 < af2)), .bool (decide (af3 ≤ af2))] (pkA B6).out rfl rfl (by kernel_rfl) rfl (by kernel_rfl) ?_; intro w4 hbs hgs; replace HM := Aside0.mk ((mup HM).out.side (pkA B6).out (by decide) (by decide) NG6.out NE.out GE.out hgs); replace BK := boxed_other (pkA BK) hgs N6; clear B6 hgs; have B6 := Aside0.mk hbs; clear hbs; have hcf := hcf8 BK; obtain ⟨_, _, _, _, _, _, _, _, _, _, _, _, _, _, _, _⟩ := hcf))
    generalize hb : (decide (af3 < af2)) = b at B6 ⊢
    replace hb := Aside0.mk hb
    have hcf := hcf6 B6
    obtain ⟨_, _, _, _, _, _, _, _, _, _, _, _⟩ := hcf
    have f11 := HM.out.froz 11
    have c11 := HM.out.cell 11
    cases b
    · go_wp2
      first | go_end0 | ((try simp only [Exit.inBlock, Exit.then]); refine bodyPost_ret (results_none rfl _ _ _) rfl ?_) | refine ⟨_, results_none rfl _ _ _, ?_⟩
      refine ⟨rfl, ?_⟩
      rw [KT.out, hb.out, if_neg (by simp)]
      exact (mup HM).out.set 11 _ rfl
    · go_wp2
      first | go_end0 | ((try simp only [Exit.inBlock, Exit.then]); refine bodyPost_ret (results_none rfl _ _ _) rfl ?_) | refine ⟨_, results_none rfl _ _ _, ?_⟩
      refine ⟨rfl, ?_⟩
      rw [KT.out, hb.out, if_pos (by simp)]
      exact (mup HM).out
  · have KT := Aside0.mk (show testS S y = if (decide (af3 ≤ af2)) = true then S else { S with at_ := y.f6.f1 } by unfold testS; rw [Ef2.out, Ef3.out, e]; rfl)
    generalize testS S y = SP at KT ⊢
    have e44 : IntKind.i64.wrap (y.f4 - 14) = 5 := by rw [e]; rfl
    clear e
    go_enter Try.func64, Try.ntmps64
    go_upto_region 1 with (first | ((with_reducible refine gate_dst (N := 3) rfl ?_); refine boxM 3 #[.int .i64 y.f0, .int .i64 y.f1, .int .i64 y.f2, .int .i64 y.f3, .int .i64 y.f4, .int .i64 y.f5, .int .i64 y.f6.f0, .int .i64 y.f6.f1] 52 HM ?_; clear HM; intro g w1 _ NG BK _ HM; have hcf := hcf8 BK; obtain ⟨_, _, _, _, _, _, _, _, _, _, _, _, _, _, _, _⟩ := hcf))
    have b2 := hcz BK 2
    have b3 := hcz BK 3
    have c10 := HM.out.cell 10
    obtain ⟨xf2, rf2⟩ := HM.out.mem.reg y.f2.toNat (by omega)
    rw [Ef2.out] at xf2
    obtain ⟨xf3, rf3⟩ := HM.out.mem.reg y.f3.toNat (by omega)
    rw [Ef3.out] at xf3
    go_quiet (fail)
    clear b2 b3 c10 xf2 rf2 xf3 rf3
    replace HM := Aside0.mk (HM.out.drewN nq)
    replace BK := Aside0.mk (blk_drewN BK.out nq)
    generalize w1.drewN nq = w2 at HM BK ⊢
    clear nq
    go_upto_region 3 with (first | ((with_reducible refine gate_dst (N := 6) rfl ?_); refine boxM 6 #[.bool false, .bool false, .bool false, .bool false, .bool false, .bool false] 103 HM ?_; intro g6 w3 eg NG6 B6 hb HX; have NE := Aside0.mk ((mup HM).out.newE eg.out); have N6 := bn1 BK eg.out; have GE : Aside0 (w.heap.size ≤ g6) := ⟨by rw [eg.out]; exact ((mup HM).out.mem.hb).size⟩; replace BK := bbw BK hb.out; clear HM hb eg; have HM := HX; clear HX) | ((with_reducible refine gate_store (p := 6) (t := 103) rfl ?_); refine store_box rfl rfl rfl g6 103 _ #[.bool (af2 == af3), .bool (af2 != af3), .bool (decide (af2 < af3)), .bool (decide (af2 ≤ af3)), .bool (decide (af3 < af2)), .bool (decide (af3 ≤ af2))] (pkA B6).out rfl rfl (by kernel_rfl) rfl (by kernel_rfl) ?_; intro w4 hbs hgs; replace HM := Aside0.mk ((mup HM).out.side (pkA B6).out (by decide) (by decide) NG6.out NE.out GE.out hgs); replace BK := boxed_other (pkA BK) hgs N6; clear B6 hgs; have B6 := Aside0.mk hbs; clear hbs; have hcf := hcf8 BK; obtain ⟨_, _, _, _, _, _, _, _, _, _, _, _, _, _, _, _⟩ := hcf))
    generalize hb : (decide (af3 ≤ af2)) = b at B6 ⊢
    replace hb := Aside0.mk hb
    have hcf := hcf6 B6
    obtain ⟨_, _, _, _, _, _, _, _, _, _, _, _⟩ := hcf
    have f11 := HM.out.froz 11
    have c11 := HM.out.cell 11
    cases b
    · go_wp2
      first | go_end0 | ((try simp only [Exit.inBlock, Exit.then]); refine bodyPost_ret (results_none rfl _ _ _) rfl ?_) | refine ⟨_, results_none rfl _ _ _, ?_⟩
      refine ⟨rfl, ?_⟩
      rw [KT.out, hb.out, if_neg (by simp)]
      exact (mup HM).out.set 11 _ rfl
    · go_wp2
      first | go_end0 | ((try simp only [Exit.inBlock, Exit.then]); refine bodyPost_ret (results_none rfl _ _ _) rfl ?_) | refine ⟨_, results_none rfl _ _ _, ?_⟩
      refine ⟨rfl, ?_⟩
      rw [KT.out, hb.out, if_pos (by simp)]
      exact (mup HM).out
end Go.Proofs.Ytcalcbeonbfkmaa.P
