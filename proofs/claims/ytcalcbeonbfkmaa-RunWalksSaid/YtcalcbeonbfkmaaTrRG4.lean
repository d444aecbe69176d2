/- What the law's proof needs of G4. -/
import Derived.Test.YtcalcbeonbfkmaaTrRG3
namespace Go.Proofs.Ytcalcbeonbfkmaa.P
open Go.RowKit Go.Proofs.YtcalcbeonbfkmaaW.PrintWords Go.Proofs.YtcalcbeonbfkmaaW.PrintLast Go.Proofs.YtcalcbeonbfkmaaW.PrintMore Go.Proofs.YtcalcbeonbfkmaaO
attribute [local go_sem] max2_int min2_int max_two min_two max_three min_three max_four min_four
set_option linter.unusedVariables false
set_option linter.unusedSimpArgs false
section
variable {w W W1 : World} {E : List (Nat × Array Value × Nat)} {gb tb : Nat} {cb : Array Value} {vr va vm : Value} {rs : List Int} {ars mks : List (List Int)} {g t : Nat} {c : Array Value}
theorem MB.cons (h : MB w W E gb tb cb vr va vm rs ars mks) (hc : W.heap[g]? = some (.cells c t (0, 0))) (t2 : 2 ≠ t) (t29 : 29 ≠ t) (hne : gb ≠ g) : MB w W ((g, c, t) :: E) gb tb cb vr va vm rs ars mks :=
  ⟨h.mem.cons hc t2 t29, h.bx, h.gw, h.t2, h.t29, fun z hz => by
    rcases List.mem_cons.1 hz with rfl | hz
    · exact ⟨hc, trivial, trivial, fun e => hne e.symm⟩
    · exact h.fx z hz⟩
theorem MB.head (h : MB w W ((g, c, t) :: E) gb tb cb vr va vm rs ars mks) : W.heap[g]? = some (.cells c t (0, 0)) := (h.fx _ List.mem_cons_self).1
theorem MB.tail (h : MB w W ((g, c, t) :: E) gb tb cb vr va vm rs ars mks) : MB w W E gb tb cb vr va vm rs ars mks := ⟨h.mem.sub (fun _ => List.mem_cons_of_mem _), h.bx, h.gw, h.t2, h.t29, fun z hz => h.fx z (List.mem_cons_of_mem _ hz)⟩
theorem MB.newE (h : MB w W E gb tb cb vr va vm rs ars mks) (hg : g = W.heap.size) : ∀ z ∈ E, z.1 ≠ g := fun z hz => by
  rw [hg]; exact Nat.ne_of_lt (blk_lt (h.fx z hz).1)
/-- A box beside the machine is written. -/
theorem MB.side (h : MB w W E gb tb cb vr va vm rs ars mks) (hc : W.heap[g]? = some (.cells c t (0, 0))) (t2 : 2 ≠ t) (t29 : 29 ≠ t) (hne : gb ≠ g) (hE : ∀ z ∈ E, z.1 ≠ g) (hge : w.heap.size ≤ g) (hg : W.grownBy W1 (some g)) : MB w W1 E gb tb cb vr va vm rs ars mks :=
  ⟨h.mem.box hc t2 t29 hg hge, (hg.block gb (blk_lt h.bx) (fun e => hne (Option.some.inj e))).trans h.bx, h.gw, h.t2, h.t29, fun z hz => ⟨(hg.block z.1 (blk_lt (h.fx z hz).1) (fun e => hE z hz (Option.some.inj e))).trans (h.fx z hz).1, (h.fx z hz).2⟩⟩
end
/-- What a place of an array holds, by the pointer to it. -/
theorem Mem.at_ {w W : World} {E : List (Nat × Array Value × Nat)} {vr vm : Value} {rs : List Int} {ars mks : List (List Int)} {ga n ca gi m ci : Nat} (h : Mem w W E vr (.slice (some ⟨ga, 0, none⟩) n ca) vm rs ars mks) (i : Nat) (hi : i < n) (hx : W.cell? ⟨ga, i, none⟩ = some (.slice (some ⟨gi, 0, none⟩) m ci)) (k : Nat) (hk : k < (ars.getD i []).length) :
    W.cell? ⟨gi, k, none⟩ = some (.int .i64 ((ars.getD i []).getD k 0)) ∧ W.frozen? ⟨gi, k, none⟩ = false ∧ (∃ c, W.heap[gi]? = some (.cells c 2 (0, 0)) ∧ ∀ z ∈ E, z.1 ≠ gi) ∧
    ∀ x : Int, Mem w (W.setCell ⟨gi, k, none⟩ (.int .i64 x)) E vr (.slice (some ⟨ga, 0, none⟩) n ca) vm rs (ars.set i ((ars.getD i []).set k x)) mks ∧ W.grownBy (W.setCell ⟨gi, k, none⟩ (.int .i64 x)) (some gi) := by
  obtain ⟨g2, c2, xa, ht, hel⟩ := h.arr i hi (by omega)
  rw [hx] at xa
  injection xa with xa
  injection xa with xa _ _
  injection xa with xa
  injection xa with xa _ _
  subst xa
  obtain ⟨h1, h2, h3⟩ := hel k hk
  exact ⟨h1, h2, ht, h3⟩
def loadS (S : St) (y : S52) : St := if 0 ≤ S.regs.getD y.f3.toNat 0 ∧ S.regs.getD y.f3.toNat 0 < ((S.arrs.getD y.f2.toNat []).length : Int) then { S with regs := S.regs.set y.f1.toNat ((S.arrs.getD y.f2.toNat []).getD (S.regs.getD y.f3.toNat 0).toNat 0) } else failS S y 4
def storeS (G : Gr) (S : St) (y : S52) : St := if 0 ≤ S.regs.getD y.f3.toNat 0 ∧ S.regs.getD y.f3.toNat 0 < ((S.arrs.getD y.f2.toNat []).length : Int) then (if okB (rd_T85 G.l6 y.f2).f1 (S.regs.getD y.f1.toNat 0) = true then { S with arrs := S.arrs.set y.f2.toNat ((S.arrs.getD y.f2.toNat []).set (S.regs.getD y.f3.toNat 0).toNat (S.regs.getD y.f1.toNat 0)) } else failS S y 1) else failS S y 4
def testB (t a b : Int) : Bool := if t = 14 then a == b else if t = 15 then a != b else if t = 16 then decide (a < b) else if t = 17 then decide (a ≤ b) else if t = 18 then decide (b < a) else decide (b ≤ a)
def testS (S : St) (y : S52) : St := if testB y.f4 (S.regs.getD y.f2.toNat 0) (S.regs.getD y.f3.toNat 0) = true then S else { S with at_ := y.f6.f1 }
set_option maxHeartbeats 8000000 in
set_option maxRecDepth 100000 in
theorem place_out {w W : World} {E : List (Nat × Array Value × Nat)} {G : Gr} {vs vr va vm : Value} {gb : Nat} {S : St} (h : MC w W E G vs gb vr va vm S) (y : S52) (hf3 : 0 ≤ y.f3 ∧ y.f3 < (S.regs.length : Int)) {k : Int} {l : List Int} (ek : S.regs.getD y.f3.toNat 0 = k) (el : S.arrs.getD y.f2.toNat [] = l) (hG : G.Held w) (ha : 0 ≤ y.f2 ∧ y.f2 < (G.l6.length : Int)) (hal : S.arrs.length = G.l6.length) (hsz : (l.length : Int) = (rd_T85 G.l6 y.f2).f2) (hs1 : 1 ≤ (rd_T85 G.l6 y.f2).f2) (hk : ¬ (0 ≤ k ∧ k < (l.length : Int))) :
    Calls Try.prog 70 #[.pointer (some ⟨gb, 0, none⟩), .agg #[.int .i64 y.f0, .int .i64 y.f1, .int .i64 y.f2, .int .i64 y.f3, .int .i64 y.f4, .int .i64 y.f5, .int .i64 y.f6.f0, .int .i64 y.f6.f1]] W fun e W' => e = .returned (.tuple #[.pointer none, .bool false]) ∧ MC w W' E G vs gb vr va vm (failS S y 4) := by
  obtain ⟨gr, cr, rfl⟩ := h.mem.regForm (by omega)
  have hu52 := Try.underlying52
  have hu74 := Try.underlying74
  have hu36 := Try.underlying36
  have hu28 := Try.underlying28
  have HM := Aside0.mk h
  clear h
  have hu85 := Try.underlying85
  have pf3 := eq_true hf3.1
  have qf3 := eq_true hf3.2
  have zf3 : (y.f3.toNat < S.regs.length) = True := eq_true (by omega)
  have Ef3 := Aside0.mk ek
  have El := Aside0.mk el
  clear ek el
  have s1 := eq_true ha.1
  have s2 := eq_true ha.2
  have s3 : (y.f2.toNat < G.l6.length) = True := eq_true (by omega)
  by_cases c : k < 0
  · have cb : decide (k < 0) = true := decide_eq_true c
    go_enter Try.func70, Try.ntmps70
    go_upto_region 1 with (first | ((with_reducible refine gate_dst (N := 3) rfl ?_); refine boxM 3 #[.int .i64 y.f0, .int .i64 y.f1, .int .i64 y.f2, .int .i64 y.f3, .int .i64 y.f4, .int .i64 y.f5, .int .i64 y.f6.f0, .int .i64 y.f6.f1] 52 HM ?_; clear HM; intro g w1 _ NG BK _ HM; have hcf := hcf8 BK; obtain ⟨_, _, _, _, _, _, _, _, _, _, _, _, _, _, _, _⟩ := hcf))
    have b3 := hcz BK 3
    have c10 := HM.out.cell 10
    obtain ⟨xf3, rf3⟩ := HM.out.mem.reg y.f3.toNat (by omega)
    rw [Ef3.out] at xf3
    go_quiet (fail)
    clear b3 c10 xf3 rf3
    go_upto_region 2 with (fail)
    replace HM := Aside0.mk (HM.out.drewN nq)
    replace BK := Aside0.mk (blk_drewN BK.out nq)
    generalize w1.drewN nq = w2 at HM BK ⊢
    clear nq
    go_quiet (fail)
    replace HM := Aside0.mk (HM.out.drewN nq)
    replace BK := Aside0.mk (blk_drewN BK.out nq)
    generalize w2.drewN nq = w3 at HM BK ⊢
    clear nq
    have hcf := hcf8 BK
    obtain ⟨_, _, _, _, _, _, _, _, _, _, _, _, _, _, _, _⟩ := hcf
    go_wp2_with (first | ((with_reducible refine gate_callee (f := 49) rfl ?_); refine goesL_ _ rfl rfl Try.func49 (by kernel_rfl) rfl #[.pointer (some ⟨gb, 0, none⟩), .agg #[.int .i64 y.f0, .int .i64 y.f1, .int .i64 y.f2, .int .i64 y.f3, .int .i64 y.f4, .int .i64 y.f5, .int .i64 y.f6.f0, .int .i64 y.f6.f1], .int .i64 4] rfl (by (try simp only [List.map_toArray, List.map_cons, List.map_nil]); first | done | rfl) ?_; refine (fail_calls (mup HM).out y 4).mono ?_; rintro e w' ⟨rfl, hm⟩; clear HM; have HM := Aside0.mk hm; clear hm; refine ⟨_, rfl, ?_⟩))
    first | go_ret2 | go_ret
    exact ⟨rfl, HM.out⟩
  · have cb : decide (k < 0) = false := decide_eq_false c
    have cb2 : decide ((rd_T85 G.l6 y.f2).f2 ≤ k) = true := decide_eq_true (by omega)
    go_enter Try.func70, Try.ntmps70
    go_upto_region 1 with (first | ((with_reducible refine gate_dst (N := 3) rfl ?_); refine boxM 3 #[.int .i64 y.f0, .int .i64 y.f1, .int .i64 y.f2, .int .i64 y.f3, .int .i64 y.f4, .int .i64 y.f5, .int .i64 y.f6.f0, .int .i64 y.f6.f1] 52 HM ?_; clear HM; intro g w1 _ NG BK _ HM; have hcf := hcf8 BK; obtain ⟨_, _, _, _, _, _, _, _, _, _, _, _, _, _, _, _⟩ := hcf))
    have b3 := hcz BK 3
    have c10 := HM.out.cell 10
    obtain ⟨xf3, rf3⟩ := HM.out.mem.reg y.f3.toNat (by omega)
    rw [Ef3.out] at xf3
    go_quiet (fail)
    clear b3 c10 xf3 rf3
    go_upto_region 2 with (fail)
    replace HM := Aside0.mk (HM.out.drewN nq)
    replace BK := Aside0.mk (blk_drewN BK.out nq)
    generalize w1.drewN nq = w2 at HM BK ⊢
    clear nq
    have b2 := hcz BK 2
    obtain ⟨ad6, ee6, y60, y61, y62, y63⟩ := at_T85 ((hG.below HM.out.mem.hb).h6) y.f2 ha.1 ha.2
    have c6 : w2.cell? ⟨gb, 6, none⟩ = some (.slice (some ad6) G.l6.length G.c6) := (HM.out.cell 6).trans (by rw [← ee6]; rfl)
    go_quiet (fail)
    clear b2 y60 y61 y62 y63 c6
    replace HM := Aside0.mk (HM.out.drewN nq)
    replace BK := Aside0.mk (blk_drewN BK.out nq)
    generalize w2.drewN nq = w3 at HM BK ⊢
    clear nq
    have hcf := hcf8 BK
    obtain ⟨_, _, _, _, _, _, _, _, _, _, _, _, _, _, _, _⟩ := hcf
    go_wp2_with (first | ((with_reducible refine gate_callee (f := 49) rfl ?_); refine goesL_ _ rfl rfl Try.func49 (by kernel_rfl) rfl #[.pointer (some ⟨gb, 0, none⟩), .agg #[.int .i64 y.f0, .int .i64 y.f1, .int .i64 y.f2, .int .i64 y.f3, .int .i64 y.f4, .int .i64 y.f5, .int .i64 y.f6.f0, .int .i64 y.f6.f1], .int .i64 4] rfl (by (try simp only [List.map_toArray, List.map_cons, List.map_nil]); first | done | rfl) ?_; refine (fail_calls (mup HM).out y 4).mono ?_; rintro e w' ⟨rfl, hm⟩; clear HM; have HM := Aside0.mk hm; clear hm; refine ⟨_, rfl, ?_⟩))
    first | go_ret2 | go_ret
    exact ⟨rfl, HM.out⟩
set_option maxHeartbeats 8000000 in
set_option maxRecDepth 100000 in
theorem place_in {w W : World} {E : List (Nat × Array Value × Nat)} {G : Gr} {vs vr va vm : Value} {gb : Nat} {S : St} (h : MC w W E G vs gb vr va vm S) (y : S52) (hf3 : 0 ≤ y.f3 ∧ y.f3 < (S.regs.length : Int)) {k : Int} {l : List Int} (ek : S.regs.getD y.f3.toNat 0 = k) (el : S.arrs.getD y.f2.toNat [] = l) (hG : G.Held w) (ha : 0 ≤ y.f2 ∧ y.f2 < (G.l6.length : Int)) (hal : S.arrs.length = G.l6.length) (hsz : (l.length : Int) = (rd_T85 G.l6 y.f2).f2) (hs1 : 1 ≤ (rd_T85 G.l6 y.f2).f2) (hk : 0 ≤ k ∧ k < (l.length : Int)) :
    Calls Try.prog 70 #[.pointer (some ⟨gb, 0, none⟩), .agg #[.int .i64 y.f0, .int .i64 y.f1, .int .i64 y.f2, .int .i64 y.f3, .int .i64 y.f4, .int .i64 y.f5, .int .i64 y.f6.f0, .int .i64 y.f6.f1]] W fun e W' => ∃ ga ca gi ci, va = .slice (some ⟨ga, 0, none⟩) S.arrs.length ca ∧ W'.cell? ⟨ga, y.f2.toNat, none⟩ = some (.slice (some ⟨gi, 0, none⟩) l.length ci) ∧ e = .returned (.tuple #[.pointer (some ⟨gi, k.toNat, none⟩), .bool true]) ∧ MC w W' E G vs gb vr va vm S := by
  obtain ⟨ga, ca, rfl⟩ := h.mem.arrForm (by omega)
  obtain ⟨gr, cr, rfl⟩ := h.mem.regForm (by omega)
  have hu52 := Try.underlying52
  have hu74 := Try.underlying74
  have hu36 := Try.underlying36
  have hu28 := Try.underlying28
  have HM := Aside0.mk h
  clear h
  have hu85 := Try.underlying85
  have pf3 := eq_true hf3.1
  have qf3 := eq_true hf3.2
  have zf3 : (y.f3.toNat < S.regs.length) = True := eq_true (by omega)
  have Ef3 := Aside0.mk ek
  have El := Aside0.mk el
  clear ek el
  have s1 := eq_true ha.1
  have s2 := eq_true ha.2
  have s3 : (y.f2.toNat < G.l6.length) = True := eq_true (by omega)
  have cb : decide (k < 0) = false := decide_eq_false (by omega)
  have cb2 : decide ((rd_T85 G.l6 y.f2).f2 ≤ k) = false := decide_eq_false (by omega)
  go_enter Try.func70, Try.ntmps70
  go_upto_region 1 with (first | ((with_reducible refine gate_dst (N := 3) rfl ?_); refine boxM 3 #[.int .i64 y.f0, .int .i64 y.f1, .int .i64 y.f2, .int .i64 y.f3, .int .i64 y.f4, .int .i64 y.f5, .int .i64 y.f6.f0, .int .i64 y.f6.f1] 52 HM ?_; clear HM; intro g w1 _ NG BK _ HM; have hcf := hcf8 BK; obtain ⟨_, _, _, _, _, _, _, _, _, _, _, _, _, _, _, _⟩ := hcf))
  have b3 := hcz BK 3
  have c10 := HM.out.cell 10
  obtain ⟨xf3, rf3⟩ := HM.out.mem.reg y.f3.toNat (by omega)
  rw [Ef3.out] at xf3
  go_quiet (fail)
  clear b3 c10 xf3 rf3
  go_upto_region 2 with (fail)
  replace HM := Aside0.mk (HM.out.drewN nq)
  replace BK := Aside0.mk (blk_drewN BK.out nq)
  generalize w1.drewN nq = w2 at HM BK ⊢
  clear nq
  have b2 := hcz BK 2
  obtain ⟨ad6, ee6, y60, y61, y62, y63⟩ := at_T85 ((hG.below HM.out.mem.hb).h6) y.f2 ha.1 ha.2
  have c6 : w2.cell? ⟨gb, 6, none⟩ = some (.slice (some ad6) G.l6.length G.c6) := (HM.out.cell 6).trans (by rw [← ee6]; rfl)
  go_quiet (fail)
  clear b2 y60 y61 y62 y63 c6
  go_upto_region 5 with (fail)
  replace HM := Aside0.mk (HM.out.drewN nq)
  replace BK := Aside0.mk (blk_drewN BK.out nq)
  generalize w2.drewN nq = w3 at HM BK ⊢
  clear nq
  obtain ⟨n, hn⟩ : ∃ n, S.arrs.length = n := ⟨_, rfl⟩
  obtain ⟨m, hm⟩ : ∃ m, l.length = m := ⟨_, rfl⟩
  obtain ⟨gi, ci, xa, _, _⟩ := HM.out.mem.arr y.f2.toNat (by omega) (by rw [El.out]; omega)
  rw [El.out, hm] at xa
  have t1 : (y.f2 < (S.arrs.length : Int)) = True := eq_true (by omega)
  have t2 : (y.f2.toNat < S.arrs.length) = True := eq_true (by omega)
  have t3 : ((0 : Int) ≤ k) = True := eq_true hk.1
  have t4 : (k < (m : Int)) = True := eq_true (by omega)
  have t5 : (k.toNat < m) = True := eq_true (by omega)
  have b2 := hcz BK 2
  have c18 := HM.out.cell 18
  go_quiet (fail)
  have xb := ((pw_below_drewN (Below.refl w3.heap.size w3) nq).cell (World.block_lt_of_cell? _ _ xa)).trans xa
  go_wp2
  go_ret2
  exact ⟨ga, ca, gi, ci, rfl, by rw [hm]; exact xb, rfl, HM.out.drewN nq⟩
set_option maxHeartbeats 8000000 in
set_option maxRecDepth 100000 in
theorem load_calls {w W : World} {E : List (Nat × Array Value × Nat)} {G : Gr} {vs vr va vm : Value} {gb : Nat} {S : St} (h : MC w W E G vs gb vr va vm S) (y : S52) (hf1 : 0 ≤ y.f1 ∧ y.f1 < (S.regs.length : Int)) (hf3 : 0 ≤ y.f3 ∧ y.f3 < (S.regs.length : Int)) {k : Int} {l : List Int} (ek : S.regs.getD y.f3.toNat 0 = k) (el : S.arrs.getD y.f2.toNat [] = l) (hG : G.Held w) (ha : 0 ≤ y.f2 ∧ y.f2 < (G.l6.length : Int)) (hal : S.arrs.length = G.l6.length) (hsz : (l.length : Int) = (rd_T85 G.l6 y.f2).f2) (hs1 : 1 ≤ (rd_T85 G.l6 y.f2).f2) :
    Calls Try.prog 60 #[.pointer (some ⟨gb, 0, none⟩), .agg #[.int .i64 y.f0, .int .i64 y.f1, .int .i64 y.f2, .int .i64 y.f3, .int .i64 y.f4, .int .i64 y.f5, .int .i64 y.f6.f0, .int .i64 y.f6.f1]] W fun e W' => e = .returned (.tuple #[]) ∧ MC w W' E G vs gb vr va vm (loadS S y) := by
  obtain ⟨gr, cr, rfl⟩ := h.mem.regForm (by omega)
  have hu52 := Try.underlying52
  have hu74 := Try.underlying74
  have hu36 := Try.underlying36
  have hu28 := Try.underlying28
  have HM := Aside0.mk h
  clear h
  have hu85 := Try.underlying85
  have EK := Aside0.mk ek
  have EL := Aside0.mk el
  clear ek el
  have pf1 := eq_true hf1.1
  have qf1 := eq_true hf1.2
  have zf1 : (y.f1.toNat < S.regs.length) = True := eq_true (by omega)
  have hS : loadS S y = if 0 ≤ k ∧ k < (l.length : Int) then { S with regs := S.regs.set y.f1.toNat (l.getD k.toNat 0) } else failS S y 4 := by unfold loadS; rw [EK.out, EL.out]
  generalize loadS S y = SP at hS ⊢
  have KS := Aside0.mk hS
  clear hS
  by_cases hk : 0 ≤ k ∧ k < (l.length : Int)
  · have KP := Aside0.mk hk
    go_enter Try.func60, Try.ntmps60
    go_upto_region 3 with (first | ((with_reducible refine gate_dst (N := 3) rfl ?_); refine boxM 3 #[.int .i64 y.f0, .int .i64 y.f1, .int .i64 y.f2, .int .i64 y.f3, .int .i64 y.f4, .int .i64 y.f5, .int .i64 y.f6.f0, .int .i64 y.f6.f1] 52 HM ?_; clear HM; intro g w1 _ NG BK _ HM; have hcf := hcf8 BK; obtain ⟨_, _, _, _, _, _, _, _, _, _, _, _, _, _, _, _⟩ := hcf) | ((with_reducible refine gate_callee (f := 70) rfl ?_); refine goesL_ _ rfl rfl Try.func70 (by kernel_rfl) rfl #[.pointer (some ⟨gb, 0, none⟩), .agg #[.int .i64 y.f0, .int .i64 y.f1, .int .i64 y.f2, .int .i64 y.f3, .int .i64 y.f4, .int .i64 y.f5, .int .i64 y.f6.f0, .int .i64 y.f6.f1]] rfl (by (try simp only [List.map_toArray, List.map_cons, List.map_nil]); first | done | rfl) ?_; refine (place_in ((mup HM).out.cons (pkA BK).out (by decide) (by decide) NG.out) y hf3 EK.out EL.out hG ha hal hsz hs1 hk).mono ?_; rintro e w2 ⟨ga, ca, gi, ci, rfl, xa, rfl, hm⟩; clear HM; have BK := Aside0.mk hm.head; have HM := Aside0.mk hm.tail; clear hm; refine ⟨_, rfl, ?_⟩))
    obtain ⟨e1, e2, ⟨_, e4⟩, _⟩ := HM.out.mem.at_ y.f2.toNat (by omega) xa k.toNat (by rw [EL.out]; omega)
    rw [EL.out] at e1
    obtain ⟨x, hx⟩ : ∃ x, l.getD k.toNat 0 = x := ⟨_, rfl⟩
    rw [hx] at e1
    replace hx := Aside0.mk hx
    clear hk
    have b1 := hcz BK 1
    have c10 := HM.out.cell 10
    obtain ⟨xf1, rf1⟩ := HM.out.mem.reg y.f1.toNat (by omega)
    go_still_tail 10, (by kernel_rfl)
    change wpList _ _ _ _ _ w2.drew
    replace HM := Aside0.mk HM.out.drew
    replace BK := Aside0.mk (blk_drew BK.out)
    go_wp2
    first | go_end0 | ((try simp only [Exit.inBlock, Exit.then]); refine bodyPost_ret (results_none rfl _ _ _) rfl ?_) | refine ⟨_, results_none rfl _ _ _, ?_⟩
    refine ⟨rfl, ?_⟩
    rw [KS.out, if_pos KP.out, hx.out]
    exact (HM.out.setReg _ _)
  · go_enter Try.func60, Try.ntmps60
    go_wp2_with (first | ((with_reducible refine gate_dst (N := 3) rfl ?_); refine boxM 3 #[.int .i64 y.f0, .int .i64 y.f1, .int .i64 y.f2, .int .i64 y.f3, .int .i64 y.f4, .int .i64 y.f5, .int .i64 y.f6.f0, .int .i64 y.f6.f1] 52 HM ?_; clear HM; intro g w1 _ NG BK _ HM; have hcf := hcf8 BK; obtain ⟨_, _, _, _, _, _, _, _, _, _, _, _, _, _, _, _⟩ := hcf) | ((with_reducible refine gate_callee (f := 70) rfl ?_); refine goesL_ _ rfl rfl Try.func70 (by kernel_rfl) rfl #[.pointer (some ⟨gb, 0, none⟩), .agg #[.int .i64 y.f0, .int .i64 y.f1, .int .i64 y.f2, .int .i64 y.f3, .int .i64 y.f4, .int .i64 y.f5, .int .i64 y.f6.f0, .int .i64 y.f6.f1]] rfl (by (try simp only [List.map_toArray, List.map_cons, List.map_nil]); first | done | rfl) ?_; refine (place_out (mup HM).out y hf3 EK.out EL.out hG ha hal hsz hs1 hk).mono ?_; rintro e w2 ⟨rfl, hm⟩; clear HM; have HM := Aside0.mk hm; clear hm; refine ⟨_, rfl, ?_⟩))
    first | go_end0 | ((try simp only [Exit.inBlock, Exit.then]); refine bodyPost_ret (results_none rfl _ _ _) rfl ?_) | refine ⟨_, results_none rfl _ _ _, ?_⟩
    refine ⟨rfl, ?_⟩
    rw [KS.out, if_neg hk]
    exact HM.out
end Go.Proofs.Ytcalcbeonbfkmaa.P
