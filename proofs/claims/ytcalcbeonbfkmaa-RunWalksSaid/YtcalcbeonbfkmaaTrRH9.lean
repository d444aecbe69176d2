/- What the law's proof needs of H9. -/
import Derived.Test.YtcalcbeonbfkmaaTrRH8
namespace Go.Proofs.Ytcalcbeonbfkmaa.P
open Go.RowKit Go.Proofs.YtcalcbeonbfkmaaW.PrintWords Go.Proofs.YtcalcbeonbfkmaaW.PrintLast Go.Proofs.YtcalcbeonbfkmaaW.PrintMore Go.Proofs.YtcalcbeonbfkmaaO
attribute [local go_sem] max2_int min2_int max_two min_two max_three min_three max_four min_four
set_option linter.unusedVariables false
set_option linter.unusedSimpArgs false
set_option maxHeartbeats 8000000 in
set_option maxRecDepth 100000 in
theorem step_set {w W : World} {E : List (Nat × Array Value × Nat)} {G : Gr} {vs vr va vm : Value} {gb : Nat} {S : St} (h : MR w W E G vs gb vr va vm S) {y : S52} (hy : rd_T52 G.l0 S.at_ = y) (hG : G.Held w) (ha : 0 ≤ S.at_ ∧ S.at_ < (G.l0.length : Int)) (he : S.en = 0) (e : y.f0 = 13) (hf1 : 0 ≤ y.f1 ∧ y.f1 < (S.regs.length : Int)) (hf2 : 0 ≤ y.f2 ∧ y.f2 < (S.regs.length : Int)) (hs : 0 ≤ y.f1 ∧ y.f1 < (G.l5.length : Int)) (ht : 1 ≤ (rd_T83 G.l5 y.f1).f1 ∧ (rd_T83 G.l5 y.f1).f1 ≤ 3) :
    Calls Try.prog 30 #[.pointer (some ⟨gb, 0, none⟩)] W fun e W' => e = .returned (.tuple #[]) ∧ ∃ v, MR w W' E G vs gb vr va v (finS S y (setS G S y)) := by
  obtain ⟨gr, cr, rfl⟩ := h.mem.regForm (by omega)
  have hu52 := Try.underlying52
  have hu66 := Try.underlying66
  have hu36 := Try.underlying36
  have hu28 := Try.underlying28
  have hu50 := Try.underlying50
  have HM := Aside0.mk h
  clear h
  have n15 : y.f0 ≠ 15 := by omega
  have hu83 := Try.underlying83
  have k11 : (y.f0 == (11 : Int)) = false := by rw [e]; rfl
  have k12 : (y.f0 == (12 : Int)) = false := by rw [e]; rfl
  have k13 : (y.f0 == (13 : Int)) = true := by rw [e]; rfl
  clear e
  have pf1 := eq_true hf1.1
  have qf1 := eq_true hf1.2
  have zf1 : (y.f1.toNat < S.regs.length) = True := eq_true (by omega)
  have pf2 := eq_true hf2.1
  have qf2 := eq_true hf2.2
  have zf2 : (y.f2.toNat < S.regs.length) = True := eq_true (by omega)
  obtain ⟨af2, ea⟩ : ∃ a, S.regs.getD y.f2.toNat 0 = a := ⟨_, rfl⟩
  have Ef2 := Aside0.mk ea
  clear ea
  have s1 := eq_true hs.1
  have s2 := eq_true hs.2
  have s3 : (y.f1.toNat < G.l5.length) = True := eq_true (by omega)
  obtain ⟨b, hb⟩ : ∃ b, okB (rd_T83 G.l5 y.f1).f1 af2 = b := ⟨_, rfl⟩
  have KB := Aside0.mk hb
  clear hb
  have p1 := eq_true ha.1
  have q1 := eq_true ha.2
  have q2 : (S.at_.toNat < G.l0.length) = True := eq_true (by omega)
  go_enter Try.func30, Try.ntmps30
  go_upto_region 0 with (fail)
  obtain ⟨ad0, ee0, _⟩ := at_T52 ((hG.below HM.out.mem.hb).h0) S.at_ ha.1 ha.2
  have hS : ∀ w' : World, MR w w' E G vs gb (.slice (some ⟨gr, 0, none⟩) S.regs.length cr) va vm S → (w'.cell? ⟨gb, 0, none⟩ = some (.slice (some ad0) G.l0.length G.c0) ∧ w'.cell? ⟨gb, 10, none⟩ = some (.int .i64 S.at_) ∧ w'.cell? (ad0.add (S.at_.toNat * 8)) = some (.int .i64 y.f0) ∧ w'.cell? ⟨(ad0.add (S.at_.toNat * 8)).block, (ad0.add (S.at_.toNat * 8)).off + 1, none⟩ = some (.int .i64 y.f1) ∧ w'.cell? ⟨(ad0.add (S.at_.toNat * 8)).block, (ad0.add (S.at_.toNat * 8)).off + 2, none⟩ = some (.int .i64 y.f2) ∧ w'.cell? ⟨(ad0.add (S.at_.toNat * 8)).block, (ad0.add (S.at_.toNat * 8)).off + 3, none⟩ = some (.int .i64 y.f3) ∧ w'.cell? ⟨(ad0.add (S.at_.toNat * 8)).block, (ad0.add (S.at_.toNat * 8)).off + 4, none⟩ = some (.int .i64 y.f4) ∧ w'.cell? ⟨(ad0.add (S.at_.toNat * 8)).block, (ad0.add (S.at_.toNat * 8)).off + 5, none⟩ = some (.int .i64 y.f5) ∧ w'.cell? ⟨(ad0.add (S.at_.toNat * 8)).block, (ad0.add (S.at_.toNat * 8)).off + 6, none⟩ = some (.int .i64 y.f6.f0) ∧ w'.cell? ⟨(ad0.add (S.at_.toNat * 8)).block, (ad0.add (S.at_.toNat * 8)).off + 7, none⟩ = some (.int .i64 y.f6.f1)) := fun w' hm => ⟨(hm.cell 0).trans (by rw [← ee0]; rfl), hm.cell 10, hm.code hG ha ee0 hy⟩
  refine start_ (n := 13) (S := fun w' => w'.cell? ⟨gb, 0, none⟩ = some (.slice (some ad0) G.l0.length G.c0) ∧ w'.cell? ⟨gb, 10, none⟩ = some (.int .i64 S.at_) ∧ w'.cell? (ad0.add (S.at_.toNat * 8)) = some (.int .i64 y.f0) ∧ w'.cell? ⟨(ad0.add (S.at_.toNat * 8)).block, (ad0.add (S.at_.toNat * 8)).off + 1, none⟩ = some (.int .i64 y.f1) ∧ w'.cell? ⟨(ad0.add (S.at_.toNat * 8)).block, (ad0.add (S.at_.toNat * 8)).off + 2, none⟩ = some (.int .i64 y.f2) ∧ w'.cell? ⟨(ad0.add (S.at_.toNat * 8)).block, (ad0.add (S.at_.toNat * 8)).off + 3, none⟩ = some (.int .i64 y.f3) ∧ w'.cell? ⟨(ad0.add (S.at_.toNat * 8)).block, (ad0.add (S.at_.toNat * 8)).off + 4, none⟩ = some (.int .i64 y.f4) ∧ w'.cell? ⟨(ad0.add (S.at_.toNat * 8)).block, (ad0.add (S.at_.toNat * 8)).off + 5, none⟩ = some (.int .i64 y.f5) ∧ w'.cell? ⟨(ad0.add (S.at_.toNat * 8)).block, (ad0.add (S.at_.toNat * 8)).off + 6, none⟩ = some (.int .i64 y.f6.f0) ∧ w'.cell? ⟨(ad0.add (S.at_.toNat * 8)).block, (ad0.add (S.at_.toNat * 8)).off + 7, none⟩ = some (.int .i64 y.f6.f1)) (ds := []) #[false, false, false, false, false, false, false, false, false, false, false, false, false] (by kernel_rfl) rfl rfl (hS _ HM.out.drew) (fun hHeld => ?_)
  refine with_tabW N30tab N30bits (fun HT_ HW_ => ?_)
  replace HM := Aside0.mk HM.out.drew
  generalize World.drew _ = wa at HM hHeld ⊢
  refine pureQ 0 11 HT_.out ?_
  refine pureQ 1 12 HT_.out ?_
  refine pureQ 2 13 HT_.out ?_
  refine pureQ 3 14 HT_.out ?_
  refine takeQ 4 15 HT_.out HW_.out hHeld ?_
  refine pureQ 5 16 HT_.out ?_
  refine pureQ 6 17 HT_.out ?_
  refine pureQ 7 18 HT_.out ?_
  refine takeQ 8 19 HT_.out HW_.out hHeld ?_
  refine pureQ 9 20 HT_.out ?_
  refine takeQ 10 21 HT_.out HW_.out hHeld ?_
  refine oneQ 11 2 HT_.out (fun K hK => ?_)
  refine box_step ?hg (N := 2) ?hd (cs := #[.int .i64 0, .int .i64 0, .int .i64 0, .int .i64 0, .int .i64 0, .int .i64 0, .int .i64 0, .int .i64 0]) (t := 52) ?hr ?_; (case hd => rfl); (case hg => rfl); (case hr => first | (go_simp; done) | (go_simp; rfl))
  intro g hg w6' hbox hb
  have NG := Aside0.mk (HM.out.new hg)
  have NE := Aside0.mk (HM.out.newE hg)
  have GE : Aside0 (w.heap.size ≤ g) := ⟨by rw [hg]; exact HM.out.mem.hb.size⟩
  replace HM := Aside0.mk (HM.out.below hb)
  have BK := Aside0.mk hbox
  clear hb hbox hg
  refine hK.out _ _ (hS _ HM.out) (fun hHeld => ?_)
  clear hK K
  refine normQ (N := 2) ?_
  refine one_ (i := 12) (N := none) #[true, true, true, true, true, true, true, true, true, true, true, true, true] rfl rfl (one_of HT_.out (by kernel_rfl)) (by decide) (fun K hK => ?_)
  obtain ⟨w1, hwz⟩ : ∃ wz, wz = ((((((((w6').setCell ⟨g, 0, none⟩ (.int .i64 y.f0)).setCell ⟨g, 1, none⟩ (.int .i64 y.f1)).setCell ⟨g, 2, none⟩ (.int .i64 y.f2)).setCell ⟨g, 3, none⟩ (.int .i64 y.f3)).setCell ⟨g, 4, none⟩ (.int .i64 y.f4)).setCell ⟨g, 5, none⟩ (.int .i64 y.f5)).setCell ⟨g, 6, none⟩ (.int .i64 y.f6.f0)).setCell ⟨g, 7, none⟩ (.int .i64 y.f6.f1) := ⟨_, rfl⟩
  obtain ⟨z1, z2⟩ := set8g BK.out _ _ _ _ _ _ _ _ w1 hwz
  have hcf := hcf8 BK
  obtain ⟨_, _, _, _, _, _, _, _, _, _, _, _, _, _, _, _⟩ := hcf
  refine skip_ (w1 := w1) (by rfl) rfl (by rw [hwz]; go_simp) ?_
  clear hwz
  replace HM := Aside0.mk (HM.out.side BK.out (by decide) (by decide) NG.out NE.out GE.out z2)
  clear BK
  have BK := Aside0.mk z1
  clear z1 z2
  refine hK.out _ _ (hS _ HM.out) (fun hHeld => ?_)
  clear hK K
  refine done_ (done_of HT_.out (by kernel_rfl)) ?_
  clear hHeld HT_ HW_
  clear hS NE GE p1 q1 q2 ee0
  have b0 := hcz BK 0
  have b6 := hcz BK 6
  go_upto_region 22 with (fail)
  clear b0 b6
  have b1 := hcz BK 1
  have b2 := hcz BK 2
  have c11 := HM.out.cell 11
  obtain ⟨xf2, rf2⟩ := HM.out.mem.reg y.f2.toNat (by omega)
  rw [Ef2.out] at xf2
  obtain ⟨ad5, ee5, y50, y51, y52⟩ := at_T83 ((hG.below HM.out.mem.hb).h5) y.f1 hs.1 hs.2
  have c5 : w1.cell? ⟨gb, 5, none⟩ = some (.slice (some ad5) G.l5.length G.c5) := (HM.out.cell 5).trans (by rw [← ee5]; rfl)
  go_quiet (exact Calls.quiet_of ((of_q _ _ KB.out _ ht).mono fun e w' ⟨h1, n, h2⟩ => ⟨h1, n, h2⟩))
  clear b1 b2 c11 xf2 rf2 y50 y51 y52 c5
  replace HM := Aside0.mk (HM.out.drewN nq)
  replace BK := Aside0.mk (blk_drewN BK.out nq)
  generalize w1.drewN nq = w2 at HM BK ⊢
  clear nq
  have KS := Aside0.mk (show setS G S y = if b = true then { S with regs := S.regs.set y.f1.toNat af2 } else failS S y 1 from (by unfold setS; rw [Ef2.out, KB.out]))
  cases b
  · have hcf := hcf8 BK
    obtain ⟨_, _, _, _, _, _, _, _, _, _, _, _, _, _, _, _⟩ := hcf
    go_wp2_with (first | ((with_reducible refine gate_callee (f := 40) rfl ?_); refine goesL_ _ rfl rfl Try.func40 (by kernel_rfl) rfl #[.pointer (some ⟨gb, 0, none⟩), .agg #[.int .i64 y.f0, .int .i64 y.f1, .int .i64 y.f2, .int .i64 y.f3, .int .i64 y.f4, .int .i64 y.f5, .int .i64 y.f6.f0, .int .i64 y.f6.f1], .int .i64 1] rfl (by (try simp only [List.map_toArray, List.map_cons, List.map_nil]); first | done | rfl) ?_; refine (rfail_calls (mup HM).out y 1).mono ?_; rintro e w' ⟨rfl, hm⟩; clear HM; have HM := Aside0.mk hm; clear hm; refine ⟨_, rfl, ?_⟩))
    first | go_end0 | ((try simp only [Exit.inBlock, Exit.then]); refine bodyPost_ret (results_none rfl _ _ _) rfl ?_) | refine ⟨_, results_none rfl _ _ _, ?_⟩
    refine ⟨rfl, vm, ?_⟩
    rw [KS.out, if_neg (by simp), fin_stop (show (1 : Int) ≠ 0 by decide)]
    exact HM.out
  · go_upto_region 24 with (fail)
    have b2 := hcz BK 2
    obtain ⟨xf2, rf2⟩ := HM.out.mem.reg y.f2.toNat (by omega)
    rw [Ef2.out] at xf2
    have b1 := hcz BK 1
    have c11 := HM.out.cell 11
    obtain ⟨xf1, rf1⟩ := HM.out.mem.reg y.f1.toNat (by omega)
    go_still_tail 15, (by kernel_rfl)
    change wpList _ _ _ _ _ w2.drew
    replace HM := Aside0.mk HM.out.drew
    go_upto_region 50 with (first | ((with_reducible refine gate_store (p := 202) (t := 2) rfl ?_); refine store_event (t := 2) (p := 202) (v := ?vf7) (w1 := World.setCell w2.drew ⟨gr, y.f1.toNat, none⟩ (.int .i64 (af2))) ?hg ?ho ?hn ?hr ?_; (case ho => rfl); (case hg => rfl); (case hn => rfl); (case hr => first | (go_simp; done) | (go_simp; rfl)); intro w9 hw; have hm := HM.out.setReg y.f1.toNat (af2); rw [← hw] at hm; clear HM hw; have HM := Aside0.mk hm; clear hm; have c10 := HM.out.cell 10; have f10 := HM.out.froz 10))
    go_wp2
    first | go_end0 | ((try simp only [Exit.inBlock, Exit.then]); refine bodyPost_ret (results_none rfl _ _ _) rfl ?_) | refine ⟨_, results_none rfl _ _ _, ?_⟩
    refine ⟨rfl, vm, ?_⟩
    rw [KS.out, if_pos (by simp), fin_go (by exact he) n15]
    exact HM.out.set 10 _ rfl
set_option maxHeartbeats 8000000 in
set_option maxRecDepth 100000 in
theorem step_read {w W : World} {E : List (Nat × Array Value × Nat)} {G : Gr} {vs vr va vm : Value} {gb : Nat} {S : St} (h : MR w W E G vs gb vr va vm S) {y : S52} (hy : rd_T52 G.l0 S.at_ = y) (hG : G.Held w) (ha : 0 ≤ S.at_ ∧ S.at_ < (G.l0.length : Int)) (he : S.en = 0) (e : y.f0 = 12) (hf1 : 0 ≤ y.f1 ∧ y.f1 < (S.regs.length : Int)) {As : Option Addr} {sc : List Int} {cs : Nat} (hvs : vs = .slice As sc.length cs) (hsc : Kd.C (Kd.int .i64) w As sc.length sc) (hr : 0 ≤ S.reads ∧ S.reads ≤ (sc.length : Int)) (hl : sc.length ≤ 9223372036854775807) (hi : 0 ≤ y.f2 ∧ y.f2 < (G.l4.length : Int)) :
    Calls Try.prog 30 #[.pointer (some ⟨gb, 0, none⟩)] W fun e W' => e = .returned (.tuple #[]) ∧ ∃ v, MR w W' E G vs gb vr va v (finS S y (readS G sc S y)) := by
  subst hvs
  obtain ⟨gr, cr, rfl⟩ := h.mem.regForm (by omega)
  have hu52 := Try.underlying52
  have hu66 := Try.underlying66
  have hu36 := Try.underlying36
  have hu28 := Try.underlying28
  have hu50 := Try.underlying50
  have HM := Aside0.mk h
  clear h
  have n15 : y.f0 ≠ 15 := by omega
  have hu79 := Try.underlying79
  have k11 : (y.f0 == (11 : Int)) = false := by rw [e]; rfl
  have k12 : (y.f0 == (12 : Int)) = true := by rw [e]; rfl
  clear e
  have pf1 := eq_true hf1.1
  have qf1 := eq_true hf1.2
  have zf1 : (y.f1.toNat < S.regs.length) = True := eq_true (by omega)
  by_cases hq : S.reads = (sc.length : Int)
  · have eqb : ((sc.length : Int) ≤ S.reads) = True := eq_true (by omega)
    have KQ := Aside0.mk hq
    clear hq
    have p1 := eq_true ha.1
    have q1 := eq_true ha.2
    have q2 : (S.at_.toNat < G.l0.length) = True := eq_true (by omega)
    go_enter Try.func30, Try.ntmps30
    go_upto_region 0 with (fail)
    obtain ⟨ad0, ee0, _⟩ := at_T52 ((hG.below HM.out.mem.hb).h0) S.at_ ha.1 ha.2
    have hS : ∀ w' : World, MR w w' E G (.slice As sc.length cs) gb (.slice (some ⟨gr, 0, none⟩) S.regs.length cr) va vm S → (w'.cell? ⟨gb, 0, none⟩ = some (.slice (some ad0) G.l0.length G.c0) ∧ w'.cell? ⟨gb, 10, none⟩ = some (.int .i64 S.at_) ∧ w'.cell? (ad0.add (S.at_.toNat * 8)) = some (.int .i64 y.f0) ∧ w'.cell? ⟨(ad0.add (S.at_.toNat * 8)).block, (ad0.add (S.at_.toNat * 8)).off + 1, none⟩ = some (.int .i64 y.f1) ∧ w'.cell? ⟨(ad0.add (S.at_.toNat * 8)).block, (ad0.add (S.at_.toNat * 8)).off + 2, none⟩ = some (.int .i64 y.f2) ∧ w'.cell? ⟨(ad0.add (S.at_.toNat * 8)).block, (ad0.add (S.at_.toNat * 8)).off + 3, none⟩ = some (.int .i64 y.f3) ∧ w'.cell? ⟨(ad0.add (S.at_.toNat * 8)).block, (ad0.add (S.at_.toNat * 8)).off + 4, none⟩ = some (.int .i64 y.f4) ∧ w'.cell? ⟨(ad0.add (S.at_.toNat * 8)).block, (ad0.add (S.at_.toNat * 8)).off + 5, none⟩ = some (.int .i64 y.f5) ∧ w'.cell? ⟨(ad0.add (S.at_.toNat * 8)).block, (ad0.add (S.at_.toNat * 8)).off + 6, none⟩ = some (.int .i64 y.f6.f0) ∧ w'.cell? ⟨(ad0.add (S.at_.toNat * 8)).block, (ad0.add (S.at_.toNat * 8)).off + 7, none⟩ = some (.int .i64 y.f6.f1)) := fun w' hm => ⟨(hm.cell 0).trans (by rw [← ee0]; rfl), hm.cell 10, hm.code hG ha ee0 hy⟩
    refine start_ (n := 13) (S := fun w' => w'.cell? ⟨gb, 0, none⟩ = some (.slice (some ad0) G.l0.length G.c0) ∧ w'.cell? ⟨gb, 10, none⟩ = some (.int .i64 S.at_) ∧ w'.cell? (ad0.add (S.at_.toNat * 8)) = some (.int .i64 y.f0) ∧ w'.cell? ⟨(ad0.add (S.at_.toNat * 8)).block, (ad0.add (S.at_.toNat * 8)).off + 1, none⟩ = some (.int .i64 y.f1) ∧ w'.cell? ⟨(ad0.add (S.at_.toNat * 8)).block, (ad0.add (S.at_.toNat * 8)).off + 2, none⟩ = some (.int .i64 y.f2) ∧ w'.cell? ⟨(ad0.add (S.at_.toNat * 8)).block, (ad0.add (S.at_.toNat * 8)).off + 3, none⟩ = some (.int .i64 y.f3) ∧ w'.cell? ⟨(ad0.add (S.at_.toNat * 8)).block, (ad0.add (S.at_.toNat * 8)).off + 4, none⟩ = some (.int .i64 y.f4) ∧ w'.cell? ⟨(ad0.add (S.at_.toNat * 8)).block, (ad0.add (S.at_.toNat * 8)).off + 5, none⟩ = some (.int .i64 y.f5) ∧ w'.cell? ⟨(ad0.add (S.at_.toNat * 8)).block, (ad0.add (S.at_.toNat * 8)).off + 6, none⟩ = some (.int .i64 y.f6.f0) ∧ w'.cell? ⟨(ad0.add (S.at_.toNat * 8)).block, (ad0.add (S.at_.toNat * 8)).off + 7, none⟩ = some (.int .i64 y.f6.f1)) (ds := []) #[false, false, false, false, false, false, false, false, false, false, false, false, false] (by kernel_rfl) rfl rfl (hS _ HM.out.drew) (fun hHeld => ?_)
    refine with_tabW N30tab N30bits (fun HT_ HW_ => ?_)
    replace HM := Aside0.mk HM.out.drew
    generalize World.drew _ = wa at HM hHeld ⊢
    refine pureQ 0 11 HT_.out ?_
    refine pureQ 1 12 HT_.out ?_
    refine pureQ 2 13 HT_.out ?_
    refine pureQ 3 14 HT_.out ?_
    refine takeQ 4 15 HT_.out HW_.out hHeld ?_
    refine pureQ 5 16 HT_.out ?_
    refine pureQ 6 17 HT_.out ?_
    refine pureQ 7 18 HT_.out ?_
    refine takeQ 8 19 HT_.out HW_.out hHeld ?_
    refine pureQ 9 20 HT_.out ?_
    refine takeQ 10 21 HT_.out HW_.out hHeld ?_
    refine oneQ 11 2 HT_.out (fun K hK => ?_)
    refine box_step ?hg (N := 2) ?hd (cs := #[.int .i64 0, .int .i64 0, .int .i64 0, .int .i64 0, .int .i64 0, .int .i64 0, .int .i64 0, .int .i64 0]) (t := 52) ?hr ?_; (case hd => rfl); (case hg => rfl); (case hr => first | (go_simp; done) | (go_simp; rfl))
    intro g hg w6' hbox hb
    have NG := Aside0.mk (HM.out.new hg)
    have NE := Aside0.mk (HM.out.newE hg)
    have GE : Aside0 (w.heap.size ≤ g) := ⟨by rw [hg]; exact HM.out.mem.hb.size⟩
    replace HM := Aside0.mk (HM.out.below hb)
    have BK := Aside0.mk hbox
    clear hb hbox hg
    refine hK.out _ _ (hS _ HM.out) (fun hHeld => ?_)
    clear hK K
    refine normQ (N := 2) ?_
    refine one_ (i := 12) (N := none) #[true, true, true, true, true, true, true, true, true, true, true, true, true] rfl rfl (one_of HT_.out (by kernel_rfl)) (by decide) (fun K hK => ?_)
    obtain ⟨w1, hwz⟩ : ∃ wz, wz = ((((((((w6').setCell ⟨g, 0, none⟩ (.int .i64 y.f0)).setCell ⟨g, 1, none⟩ (.int .i64 y.f1)).setCell ⟨g, 2, none⟩ (.int .i64 y.f2)).setCell ⟨g, 3, none⟩ (.int .i64 y.f3)).setCell ⟨g, 4, none⟩ (.int .i64 y.f4)).setCell ⟨g, 5, none⟩ (.int .i64 y.f5)).setCell ⟨g, 6, none⟩ (.int .i64 y.f6.f0)).setCell ⟨g, 7, none⟩ (.int .i64 y.f6.f1) := ⟨_, rfl⟩
    obtain ⟨z1, z2⟩ := set8g BK.out _ _ _ _ _ _ _ _ w1 hwz
    have hcf := hcf8 BK
    obtain ⟨_, _, _, _, _, _, _, _, _, _, _, _, _, _, _, _⟩ := hcf
    refine skip_ (w1 := w1) (by rfl) rfl (by rw [hwz]; go_simp) ?_
    clear hwz
    replace HM := Aside0.mk (HM.out.side BK.out (by decide) (by decide) NG.out NE.out GE.out z2)
    clear BK
    have BK := Aside0.mk z1
    clear z1 z2
    refine hK.out _ _ (hS _ HM.out) (fun hHeld => ?_)
    clear hK K
    refine done_ (done_of HT_.out (by kernel_rfl)) ?_
    clear hHeld HT_ HW_
    clear hS NE GE p1 q1 q2 ee0
    have b0 := hcz BK 0
    have b6 := hcz BK 6
    go_upto_region 14 with (fail)
    clear b0 b6
    have c8 := HM.out.cell 8
    have c16 := HM.out.cell 16
    go_quiet (fail)
    clear c8 c16
    go_upto_region 15 with (fail)
    replace HM := Aside0.mk (HM.out.drewN nq)
    replace BK := Aside0.mk (blk_drewN BK.out nq)
    generalize w1.drewN nq = w2 at HM BK ⊢
    clear nq
    have c12 := HM.out.cell 12
    have f12 := HM.out.froz 12
    go_wp2
    first | go_end0 | ((try simp only [Exit.inBlock, Exit.then]); refine bodyPost_ret (results_none rfl _ _ _) rfl ?_) | refine ⟨_, results_none rfl _ _ _, ?_⟩
    refine ⟨rfl, vm, ?_⟩
    rw [show readS G sc S y = { S with en := 2 } from if_pos KQ.out, fin_stop (show (2 : Int) ≠ 0 by decide)]
    exact HM.out.set 12 _ rfl
  · have eqb : ((sc.length : Int) ≤ S.reads) = False := eq_false (by omega)
    obtain ⟨x, hx⟩ : ∃ x, rd sc S.reads = x := ⟨_, rfl⟩
    have i1 : ((0 : Int) ≤ S.reads) = True := eq_true hr.1
    have i2 : (S.reads < (sc.length : Int)) = True := eq_true (by omega)
    have i3 : (S.reads.toNat < sc.length) = True := eq_true (by omega)
    have hwr : IntKind.i64.wrap (S.reads + 1) = S.reads + 1 := (i64_w _).trans (M.wrap64_in _ (by omega))
    obtain ⟨z, hz⟩ : ∃ z, rd_T79 G.l4 y.f2 = z := ⟨_, rfl⟩
    have KS := Aside0.mk (show readS G sc S y = if x < z.f2 then { S with reads := S.reads + 1, en := 5 } else if z.f3 < x then { S with reads := S.reads + 1, en := 5 } else { S with reads := S.reads + 1, regs := S.regs.set y.f1.toNat x } by unfold readS; rw [if_neg hq, hx, hz])
    clear hq
    obtain ⟨ads, es, _⟩ := Kd.at_int hsc S.reads (by have := of_eq_true i1; omega) (by have := of_eq_true i2; omega)
    subst es
    have j1 : ((0 : Int) ≤ y.f2) = True := eq_true hi.1
    have j2 : (y.f2 < (G.l4.length : Int)) = True := eq_true hi.2
    have j3 : (y.f2.toNat < G.l4.length) = True := eq_true (by omega)
    have p1 := eq_true ha.1
    have q1 := eq_true ha.2
    have q2 : (S.at_.toNat < G.l0.length) = True := eq_true (by omega)
    go_enter Try.func30, Try.ntmps30
    go_upto_region 0 with (fail)
    obtain ⟨ad0, ee0, _⟩ := at_T52 ((hG.below HM.out.mem.hb).h0) S.at_ ha.1 ha.2
    have hS : ∀ w' : World, MR w w' E G (.slice (some ads) sc.length cs) gb (.slice (some ⟨gr, 0, none⟩) S.regs.length cr) va vm S → (w'.cell? ⟨gb, 0, none⟩ = some (.slice (some ad0) G.l0.length G.c0) ∧ w'.cell? ⟨gb, 10, none⟩ = some (.int .i64 S.at_) ∧ w'.cell? (ad0.add (S.at_.toNat * 8)) = some (.int .i64 y.f0) ∧ w'.cell? ⟨(ad0.add (S.at_.toNat * 8)).block, (ad0.add (S.at_.toNat * 8)).off + 1, none⟩ = some (.int .i64 y.f1) ∧ w'.cell? ⟨(ad0.add (S.at_.toNat * 8)).block, (ad0.add (S.at_.toNat * 8)).off + 2, none⟩ = some (.int .i64 y.f2) ∧ w'.cell? ⟨(ad0.add (S.at_.toNat * 8)).block, (ad0.add (S.at_.toNat * 8)).off + 3, none⟩ = some (.int .i64 y.f3) ∧ w'.cell? ⟨(ad0.add (S.at_.toNat * 8)).block, (ad0.add (S.at_.toNat * 8)).off + 4, none⟩ = some (.int .i64 y.f4) ∧ w'.cell? ⟨(ad0.add (S.at_.toNat * 8)).block, (ad0.add (S.at_.toNat * 8)).off + 5, none⟩ = some (.int .i64 y.f5) ∧ w'.cell? ⟨(ad0.add (S.at_.toNat * 8)).block, (ad0.add (S.at_.toNat * 8)).off + 6, none⟩ = some (.int .i64 y.f6.f0) ∧ w'.cell? ⟨(ad0.add (S.at_.toNat * 8)).block, (ad0.add (S.at_.toNat * 8)).off + 7, none⟩ = some (.int .i64 y.f6.f1)) := fun w' hm => ⟨(hm.cell 0).trans (by rw [← ee0]; rfl), hm.cell 10, hm.code hG ha ee0 hy⟩
    refine start_ (n := 13) (S := fun w' => w'.cell? ⟨gb, 0, none⟩ = some (.slice (some ad0) G.l0.length G.c0) ∧ w'.cell? ⟨gb, 10, none⟩ = some (.int .i64 S.at_) ∧ w'.cell? (ad0.add (S.at_.toNat * 8)) = some (.int .i64 y.f0) ∧ w'.cell? ⟨(ad0.add (S.at_.toNat * 8)).block, (ad0.add (S.at_.toNat * 8)).off + 1, none⟩ = some (.int .i64 y.f1) ∧ w'.cell? ⟨(ad0.add (S.at_.toNat * 8)).block, (ad0.add (S.at_.toNat * 8)).off + 2, none⟩ = some (.int .i64 y.f2) ∧ w'.cell? ⟨(ad0.add (S.at_.toNat * 8)).block, (ad0.add (S.at_.toNat * 8)).off + 3, none⟩ = some (.int .i64 y.f3) ∧ w'.cell? ⟨(ad0.add (S.at_.toNat * 8)).block, (ad0.add (S.at_.toNat * 8)).off + 4, none⟩ = some (.int .i64 y.f4) ∧ w'.cell? ⟨(ad0.add (S.at_.toNat * 8)).block, (ad0.add (S.at_.toNat * 8)).off + 5, none⟩ = some (.int .i64 y.f5) ∧ w'.cell? ⟨(ad0.add (S.at_.toNat * 8)).block, (ad0.add (S.at_.toNat * 8)).off + 6, none⟩ = some (.int .i64 y.f6.f0) ∧ w'.cell? ⟨(ad0.add (S.at_.toNat * 8)).block, (ad0.add (S.at_.toNat * 8)).off + 7, none⟩ = some (.int .i64 y.f6.f1)) (ds := []) #[false, false, false, false, false, false, false, false, false, false, false, false, false] (by kernel_rfl) rfl rfl (hS _ HM.out.drew) (fun hHeld => ?_)
    refine with_tabW N30tab N30bits (fun HT_ HW_ => ?_)
    replace HM := Aside0.mk HM.out.drew
    generalize World.drew _ = wa at HM hHeld ⊢
    refine pureQ 0 11 HT_.out ?_
    refine pureQ 1 12 HT_.out ?_
    refine pureQ 2 13 HT_.out ?_
    refine pureQ 3 14 HT_.out ?_
    refine takeQ 4 15 HT_.out HW_.out hHeld ?_
    refine pureQ 5 16 HT_.out ?_
    refine pureQ 6 17 HT_.out ?_
    refine pureQ 7 18 HT_.out ?_
    refine takeQ 8 19 HT_.out HW_.out hHeld ?_
    refine pureQ 9 20 HT_.out ?_
    refine takeQ 10 21 HT_.out HW_.out hHeld ?_
    refine oneQ 11 2 HT_.out (fun K hK => ?_)
    refine box_step ?hg (N := 2) ?hd (cs := #[.int .i64 0, .int .i64 0, .int .i64 0, .int .i64 0, .int .i64 0, .int .i64 0, .int .i64 0, .int .i64 0]) (t := 52) ?hr ?_; (case hd => rfl); (case hg => rfl); (case hr => first | (go_simp; done) | (go_simp; rfl))
    intro g hg w6' hbox hb
    have NG := Aside0.mk (HM.out.new hg)
    have NE := Aside0.mk (HM.out.newE hg)
    have GE : Aside0 (w.heap.size ≤ g) := ⟨by rw [hg]; exact HM.out.mem.hb.size⟩
    replace HM := Aside0.mk (HM.out.below hb)
    have BK := Aside0.mk hbox
    clear hb hbox hg
    refine hK.out _ _ (hS _ HM.out) (fun hHeld => ?_)
    clear hK K
    refine normQ (N := 2) ?_
    refine one_ (i := 12) (N := none) #[true, true, true, true, true, true, true, true, true, true, true, true, true] rfl rfl (one_of HT_.out (by kernel_rfl)) (by decide) (fun K hK => ?_)
    obtain ⟨w1, hwz⟩ : ∃ wz, wz = ((((((((w6').setCell ⟨g, 0, none⟩ (.int .i64 y.f0)).setCell ⟨g, 1, none⟩ (.int .i64 y.f1)).setCell ⟨g, 2, none⟩ (.int .i64 y.f2)).setCell ⟨g, 3, none⟩ (.int .i64 y.f3)).setCell ⟨g, 4, none⟩ (.int .i64 y.f4)).setCell ⟨g, 5, none⟩ (.int .i64 y.f5)).setCell ⟨g, 6, none⟩ (.int .i64 y.f6.f0)).setCell ⟨g, 7, none⟩ (.int .i64 y.f6.f1) := ⟨_, rfl⟩
    obtain ⟨z1, z2⟩ := set8g BK.out _ _ _ _ _ _ _ _ w1 hwz
    have hcf := hcf8 BK
    obtain ⟨_, _, _, _, _, _, _, _, _, _, _, _, _, _, _, _⟩ := hcf
    refine skip_ (w1 := w1) (by rfl) rfl (by rw [hwz]; go_simp) ?_
    clear hwz
    replace HM := Aside0.mk (HM.out.side BK.out (by decide) (by decide) NG.out NE.out GE.out z2)
    clear BK
    have BK := Aside0.mk z1
    clear z1 z2
    refine hK.out _ _ (hS _ HM.out) (fun hHeld => ?_)
    clear hK K
    refine done_ (done_of HT_.out (by kernel_rfl)) ?_
    clear hHeld HT_ HW_
    clear hS NE GE p1 q1 q2 ee0
    have b0 := hcz BK 0
    have b6 := hcz BK 6
    go_upto_region 14 with (fail)
    clear b0 b6
    have c8 := HM.out.cell 8
    have c16 := HM.out.cell 16
    go_quiet (fail)
    clear c8 c16
    go_upto_region 16 with (fail)
    replace HM := Aside0.mk (HM.out.drewN nq)
    replace BK := Aside0.mk (blk_drewN BK.out nq)
    generalize w1.drewN nq = w2 at HM BK ⊢
    clear nq
    have c8 := HM.out.cell 8
    have c16 := HM.out.cell 16
    obtain ⟨_, es, xs⟩ := Kd.at_int (Kd.C_below hsc HM.out.mem.hb) S.reads (of_eq_true i1) (of_eq_true i2)
    cases es
    rw [hx] at xs
    go_quiet (fail)
    clear c8 c16 xs
    go_upto_region 17 with (fail)
    replace HM := Aside0.mk (HM.out.drewN nq)
    replace BK := Aside0.mk (blk_drewN BK.out nq)
    generalize w2.drewN nq = w3 at HM BK ⊢
    clear nq
    have c16 := HM.out.cell 16
    have f16 := HM.out.froz 16
    go_upto_region 18 with (first | ((with_reducible refine gate_store (p := 124) (t := 3) rfl ?_); refine store_event (t := 3) (p := 124) (v := ?vg9) (w1 := World.setCell w3 ⟨gb, 16, none⟩ (.int .i64 (S.reads + 1))) ?hg ?ho ?hn ?hr ?_; (case ho => rfl); (case hg => rfl); (case hn => rfl); (case hr => first | (go_simp; done) | (go_simp; rfl)); intro w4 hw; have hm : MR w _ E G _ gb _ va _ { S with reads := S.reads + 1 } := HM.out.set 16 (.int .i64 (S.reads + 1)) rfl; rw [← hw] at hm; replace BK : Aside0 (w4.heap[g]? = some (.cells #[.int .i64 y.f0, .int .i64 y.f1, .int .i64 y.f2, .int .i64 y.f3, .int .i64 y.f4, .int .i64 y.f5, .int .i64 y.f6.f0, .int .i64 y.f6.f1] 52 (0, 0))) := ⟨by rw [hw]; exact (Below.heap_setCell _ _ _ g (fun e => NG.out e.symm)).trans BK.out⟩; clear HM hw; have HM := Aside0.mk hm; clear hm))
    clear c16 f16
    obtain ⟨ad4, ee4, _⟩ := at_T79 ((hG.below HM.out.mem.hb).h4) y.f2 hi.1 hi.2
    by_cases cl : x < z.f2
    · have clb := eq_true cl
      replace cl := Aside0.mk cl
      have b2 := hcz BK 2
      have c4 := (HM.out.cell 4).trans (show some (Value.slice G.A4 G.l4.length G.c4) = some (.slice (some ad4) G.l4.length G.c4) by rw [← ee4])
      obtain ⟨y40, y41, y42, y43⟩ := HM.out.inp hG hi ee4 hz
      go_quiet (fail)
      clear b2 c4 y40 y41 y42 y43
      go_upto_region 19 with (fail)
      replace HM := Aside0.mk (HM.out.drewN nq)
      replace BK := Aside0.mk (blk_drewN BK.out nq)
      generalize w4.drewN nq = w5 at HM BK ⊢
      clear nq
      have c12 := HM.out.cell 12
      have f12 := HM.out.froz 12
      go_wp2
      first | go_end0 | ((try simp only [Exit.inBlock, Exit.then]); refine bodyPost_ret (results_none rfl _ _ _) rfl ?_) | refine ⟨_, results_none rfl _ _ _, ?_⟩
      refine ⟨rfl, vm, ?_⟩
      rw [KS.out, if_pos cl.out, fin_stop (show (5 : Int) ≠ 0 by decide)]
      exact HM.out.set 12 _ rfl
    · have clb := eq_false cl
      replace cl := Aside0.mk cl
      by_cases ch : z.f3 < x
      · have chb := eq_true ch
        replace ch := Aside0.mk ch
        have b2 := hcz BK 2
        have c4 := (HM.out.cell 4).trans (show some (Value.slice G.A4 G.l4.length G.c4) = some (.slice (some ad4) G.l4.length G.c4) by rw [← ee4])
        obtain ⟨y40, y41, y42, y43⟩ := HM.out.inp hG hi ee4 hz
        go_quiet (fail)
        clear b2 c4 y40 y41 y42 y43
        go_upto_region 19 with (fail)
        replace HM := Aside0.mk (HM.out.drewN nq)
        replace BK := Aside0.mk (blk_drewN BK.out nq)
        generalize w4.drewN nq = w5 at HM BK ⊢
        clear nq
        have c12 := HM.out.cell 12
        have f12 := HM.out.froz 12
        go_wp2
        first | go_end0 | ((try simp only [Exit.inBlock, Exit.then]); refine bodyPost_ret (results_none rfl _ _ _) rfl ?_) | refine ⟨_, results_none rfl _ _ _, ?_⟩
        refine ⟨rfl, vm, ?_⟩
        rw [KS.out, if_neg (by have := cl.out; omega), if_pos ch.out, fin_stop (show (5 : Int) ≠ 0 by decide)]
        exact HM.out.set 12 _ rfl
      · have chb := eq_false ch
        replace ch := Aside0.mk ch
        have b2 := hcz BK 2
        have c4 := (HM.out.cell 4).trans (show some (Value.slice G.A4 G.l4.length G.c4) = some (.slice (some ad4) G.l4.length G.c4) by rw [← ee4])
        obtain ⟨y40, y41, y42, y43⟩ := HM.out.inp hG hi ee4 hz
        go_quiet (fail)
        clear b2 c4 y40 y41 y42 y43
        go_upto_region 20 with (fail)
        replace HM := Aside0.mk (HM.out.drewN nq)
        replace BK := Aside0.mk (blk_drewN BK.out nq)
        generalize w4.drewN nq = w5 at HM BK ⊢
        clear nq
        have b1 := hcz BK 1
        have c11 := HM.out.cell 11
        obtain ⟨xf1, rf1⟩ := HM.out.mem.reg y.f1.toNat (by omega)
        go_still_tail 8, (by kernel_rfl)
        change wpList _ _ _ _ _ w5.drew
        replace HM := Aside0.mk HM.out.drew
        go_upto_region 50 with (first | ((with_reducible refine gate_store (p := 162) (t := 2) rfl ?_); refine store_event (t := 2) (p := 162) (v := ?vf7) (w1 := World.setCell w5.drew ⟨gr, y.f1.toNat, none⟩ (.int .i64 (x))) ?hg ?ho ?hn ?hr ?_; (case ho => rfl); (case hg => rfl); (case hn => rfl); (case hr => first | (go_simp; done) | (go_simp; rfl)); intro w9 hw; have hm := HM.out.setReg y.f1.toNat (x); rw [← hw] at hm; clear HM hw; have HM := Aside0.mk hm; clear hm; have c10 := HM.out.cell 10; have f10 := HM.out.froz 10))
        go_wp2
        first | go_end0 | ((try simp only [Exit.inBlock, Exit.then]); refine bodyPost_ret (results_none rfl _ _ _) rfl ?_) | refine ⟨_, results_none rfl _ _ _, ?_⟩
        refine ⟨rfl, vm, ?_⟩
        rw [KS.out, if_neg (by have := cl.out; omega), if_neg (by have := ch.out; omega), fin_go (by exact he) n15]
        exact HM.out.set 10 _ rfl
set_option maxHeartbeats 8000000 in
set_option maxRecDepth 100000 in
theorem step_store {w W : World} {E : List (Nat × Array Value × Nat)} {G : Gr} {vs vr va vm : Value} {gb : Nat} {S : St} (h : MR w W E G vs gb vr va vm S) {y : S52} (hy : rd_T52 G.l0 S.at_ = y) (hG : G.Held w) (ha : 0 ≤ S.at_ ∧ S.at_ < (G.l0.length : Int)) (he : S.en = 0) (e : y.f0 = 14) (hf1 : 0 ≤ y.f1 ∧ y.f1 < (S.regs.length : Int)) (hf3 : 0 ≤ y.f3 ∧ y.f3 < (S.regs.length : Int)) (hf2 : 0 ≤ y.f2 ∧ y.f2 < (G.l6.length : Int)) (hal : S.arrs.length = G.l6.length) (hsz : 0 < (S.arrs.getD y.f2.toNat []).length) (ht : 1 ≤ (rd_T85 G.l6 y.f2).f1 ∧ (rd_T85 G.l6 y.f2).f1 ≤ 3) :
    Calls Try.prog 30 #[.pointer (some ⟨gb, 0, none⟩)] W fun e W' => e = .returned (.tuple #[]) ∧ ∃ v, MR w W' E G vs gb vr va v (finS S y (storeS G S y)) := by
  obtain ⟨gr, cr, rfl⟩ := h.mem.regForm (by omega)
  obtain ⟨gA, ca, rfl⟩ := h.mem.arrForm (by omega)
  obtain ⟨l, hl⟩ : ∃ l, S.arrs.getD y.f2.toNat [] = l := ⟨_, rfl⟩
  have EL := Aside0.mk hl
  rw [hl] at hsz
  have HAL := Aside0.mk hal
  have pf2 := eq_true hf2.1
  have qf2 : (y.f2 < (S.arrs.length : Int)) = True := eq_true (by omega)
  have zf2 : (y.f2.toNat < S.arrs.length) = True := eq_true (by omega)
  clear hal
  have hu52 := Try.underlying52
  have hu66 := Try.underlying66
  have hu36 := Try.underlying36
  have hu28 := Try.underlying28
  have hu50 := Try.underlying50
  have HM := Aside0.mk h
  clear h
  have n15 : y.f0 ≠ 15 := by omega
  have hu85 := Try.underlying85
  have k11 : (y.f0 == (11 : Int)) = false := by rw [e]; rfl
  have k12 : (y.f0 == (12 : Int)) = false := by rw [e]; rfl
  have k13 : (y.f0 == (13 : Int)) = false := by rw [e]; rfl
  have k14 : (y.f0 == (14 : Int)) = true := by rw [e]; rfl
  clear e
  have pf1 := eq_true hf1.1
  have qf1 := eq_true hf1.2
  have zf1 : (y.f1.toNat < S.regs.length) = True := eq_true (by omega)
  have pf3 := eq_true hf3.1
  have qf3 := eq_true hf3.2
  have zf3 : (y.f3.toNat < S.regs.length) = True := eq_true (by omega)
  obtain ⟨af1, ea⟩ : ∃ a, S.regs.getD y.f1.toNat 0 = a := ⟨_, rfl⟩
  have Ef1 := Aside0.mk ea
  clear ea
  obtain ⟨k, hk⟩ : ∃ k, S.regs.getD y.f3.toNat 0 = k := ⟨_, rfl⟩
  have Ef3 := Aside0.mk hk
  clear hk
  obtain ⟨b, hb⟩ : ∃ b, okB (rd_T85 G.l6 y.f2).f1 af1 = b := ⟨_, rfl⟩
  have KB := Aside0.mk hb
  clear hb
  have s3 : (y.f2.toNat < G.l6.length) = True := eq_true (by have := HAL.out; omega)
  have s2 : (y.f2 < (G.l6.length : Int)) = True := eq_true hf2.2
  have KS := Aside0.mk (show storeS G S y = if 0 ≤ k ∧ k < (l.length : Int) then (if b = true then { S with arrs := S.arrs.set y.f2.toNat (l.set k.toNat af1) } else failS S y 1) else failS S y 4 from (by unfold storeS; rw [Ef3.out, EL.out, Ef1.out, KB.out]))
  by_cases kn : k < 0
  · have knb := eq_true kn
    have p1 := eq_true ha.1
    have q1 := eq_true ha.2
    have q2 : (S.at_.toNat < G.l0.length) = True := eq_true (by omega)
    go_enter Try.func30, Try.ntmps30
    go_upto_region 0 with (fail)
    obtain ⟨ad0, ee0, _⟩ := at_T52 ((hG.below HM.out.mem.hb).h0) S.at_ ha.1 ha.2
    have hS : ∀ w' : World, MR w w' E G vs gb (.slice (some ⟨gr, 0, none⟩) S.regs.length cr) (.slice (some ⟨gA, 0, none⟩) S.arrs.length ca) vm S → (w'.cell? ⟨gb, 0, none⟩ = some (.slice (some ad0) G.l0.length G.c0) ∧ w'.cell? ⟨gb, 10, none⟩ = some (.int .i64 S.at_) ∧ w'.cell? (ad0.add (S.at_.toNat * 8)) = some (.int .i64 y.f0) ∧ w'.cell? ⟨(ad0.add (S.at_.toNat * 8)).block, (ad0.add (S.at_.toNat * 8)).off + 1, none⟩ = some (.int .i64 y.f1) ∧ w'.cell? ⟨(ad0.add (S.at_.toNat * 8)).block, (ad0.add (S.at_.toNat * 8)).off + 2, none⟩ = some (.int .i64 y.f2) ∧ w'.cell? ⟨(ad0.add (S.at_.toNat * 8)).block, (ad0.add (S.at_.toNat * 8)).off + 3, none⟩ = some (.int .i64 y.f3) ∧ w'.cell? ⟨(ad0.add (S.at_.toNat * 8)).block, (ad0.add (S.at_.toNat * 8)).off + 4, none⟩ = some (.int .i64 y.f4) ∧ w'.cell? ⟨(ad0.add (S.at_.toNat * 8)).block, (ad0.add (S.at_.toNat * 8)).off + 5, none⟩ = some (.int .i64 y.f5) ∧ w'.cell? ⟨(ad0.add (S.at_.toNat * 8)).block, (ad0.add (S.at_.toNat * 8)).off + 6, none⟩ = some (.int .i64 y.f6.f0) ∧ w'.cell? ⟨(ad0.add (S.at_.toNat * 8)).block, (ad0.add (S.at_.toNat * 8)).off + 7, none⟩ = some (.int .i64 y.f6.f1)) := fun w' hm => ⟨(hm.cell 0).trans (by rw [← ee0]; rfl), hm.cell 10, hm.code hG ha ee0 hy⟩
    refine start_ (n := 13) (S := fun w' => w'.cell? ⟨gb, 0, none⟩ = some (.slice (some ad0) G.l0.length G.c0) ∧ w'.cell? ⟨gb, 10, none⟩ = some (.int .i64 S.at_) ∧ w'.cell? (ad0.add (S.at_.toNat * 8)) = some (.int .i64 y.f0) ∧ w'.cell? ⟨(ad0.add (S.at_.toNat * 8)).block, (ad0.add (S.at_.toNat * 8)).off + 1, none⟩ = some (.int .i64 y.f1) ∧ w'.cell? ⟨(ad0.add (S.at_.toNat * 8)).block, (ad0.add (S.at_.toNat * 8)).off + 2, none⟩ = some (.int .i64 y.f2) ∧ w'.cell? ⟨(ad0.add (S.at_.toNat * 8)).block, (ad0.add (S.at_.toNat * 8)).off + 3, none⟩ = some (.int .i64 y.f3) ∧ w'.cell? ⟨(ad0.add (S.at_.toNat * 8)).block, (ad0.add (S.at_.toNat * 8)).off + 4, none⟩ = some (.int .i64 y.f4) ∧ w'.cell? ⟨(ad0.add (S.at_.toNat * 8)).block, (ad0.add (S.at_.toNat * 8)).off + 5, none⟩ = some (.int .i64 y.f5) ∧ w'.cell? ⟨(ad0.add (S.at_.toNat * 8)).block, (ad0.add (S.at_.toNat * 8)).off + 6, none⟩ = some (.int .i64 y.f6.f0) ∧ w'.cell? ⟨(ad0.add (S.at_.toNat * 8)).block, (ad0.add (S.at_.toNat * 8)).off + 7, none⟩ = some (.int .i64 y.f6.f1)) (ds := []) #[false, false, false, false, false, false, false, false, false, false, false, false, false] (by kernel_rfl) rfl rfl (hS _ HM.out.drew) (fun hHeld => ?_)
    refine with_tabW N30tab N30bits (fun HT_ HW_ => ?_)
    replace HM := Aside0.mk HM.out.drew
    generalize World.drew _ = wa at HM hHeld ⊢
    refine pureQ 0 11 HT_.out ?_
    refine pureQ 1 12 HT_.out ?_
    refine pureQ 2 13 HT_.out ?_
    refine pureQ 3 14 HT_.out ?_
    refine takeQ 4 15 HT_.out HW_.out hHeld ?_
    refine pureQ 5 16 HT_.out ?_
    refine pureQ 6 17 HT_.out ?_
    refine pureQ 7 18 HT_.out ?_
    refine takeQ 8 19 HT_.out HW_.out hHeld ?_
    refine pureQ 9 20 HT_.out ?_
    refine takeQ 10 21 HT_.out HW_.out hHeld ?_
    refine oneQ 11 2 HT_.out (fun K hK => ?_)
    refine box_step ?hg (N := 2) ?hd (cs := #[.int .i64 0, .int .i64 0, .int .i64 0, .int .i64 0, .int .i64 0, .int .i64 0, .int .i64 0, .int .i64 0]) (t := 52) ?hr ?_; (case hd => rfl); (case hg => rfl); (case hr => first | (go_simp; done) | (go_simp; rfl))
    intro g hg w6' hbox hb
    have NG := Aside0.mk (HM.out.new hg)
    have NE := Aside0.mk (HM.out.newE hg)
    have GE : Aside0 (w.heap.size ≤ g) := ⟨by rw [hg]; exact HM.out.mem.hb.size⟩
    replace HM := Aside0.mk (HM.out.below hb)
    have BK := Aside0.mk hbox
    clear hb hbox hg
    refine hK.out _ _ (hS _ HM.out) (fun hHeld => ?_)
    clear hK K
    refine normQ (N := 2) ?_
    refine one_ (i := 12) (N := none) #[true, true, true, true, true, true, true, true, true, true, true, true, true] rfl rfl (one_of HT_.out (by kernel_rfl)) (by decide) (fun K hK => ?_)
    obtain ⟨w1, hwz⟩ : ∃ wz, wz = ((((((((w6').setCell ⟨g, 0, none⟩ (.int .i64 y.f0)).setCell ⟨g, 1, none⟩ (.int .i64 y.f1)).setCell ⟨g, 2, none⟩ (.int .i64 y.f2)).setCell ⟨g, 3, none⟩ (.int .i64 y.f3)).setCell ⟨g, 4, none⟩ (.int .i64 y.f4)).setCell ⟨g, 5, none⟩ (.int .i64 y.f5)).setCell ⟨g, 6, none⟩ (.int .i64 y.f6.f0)).setCell ⟨g, 7, none⟩ (.int .i64 y.f6.f1) := ⟨_, rfl⟩
    obtain ⟨z1, z2⟩ := set8g BK.out _ _ _ _ _ _ _ _ w1 hwz
    have hcf := hcf8 BK
    obtain ⟨_, _, _, _, _, _, _, _, _, _, _, _, _, _, _, _⟩ := hcf
    refine skip_ (w1 := w1) (by rfl) rfl (by rw [hwz]; go_simp) ?_
    clear hwz
    replace HM := Aside0.mk (HM.out.side BK.out (by decide) (by decide) NG.out NE.out GE.out z2)
    clear BK
    have BK := Aside0.mk z1
    clear z1 z2
    refine hK.out _ _ (hS _ HM.out) (fun hHeld => ?_)
    clear hK K
    refine done_ (done_of HT_.out (by kernel_rfl)) ?_
    clear hHeld HT_ HW_
    clear hS NE GE p1 q1 q2 ee0
    have b0 := hcz BK 0
    have b6 := hcz BK 6
    go_upto_region 26 with (fail)
    clear b0 b6
    have b3 := hcz BK 3
    have c11 := HM.out.cell 11
    obtain ⟨xf3, rf3⟩ := HM.out.mem.reg y.f3.toNat (by omega)
    rw [Ef3.out] at xf3
    go_quiet (fail)
    clear b3 c11 xf3 rf3
    go_upto_region 27 with (fail)
    replace HM := Aside0.mk (HM.out.drewN nq)
    replace BK := Aside0.mk (blk_drewN BK.out nq)
    generalize w1.drewN nq = w2 at HM BK ⊢
    clear nq
    have b2 := hcz BK 2
    have c18 := HM.out.cell 18
    obtain ⟨gi, ci, xa, _, _⟩ := HM.out.mem.arr y.f2.toNat (of_eq_true zf2) (by rw [EL.out]; omega)
    rw [EL.out] at xa
    have XA := Aside0.mk xa
    go_quiet (fail)
    clear b2 c18 xa
    go_upto_region 28 with (fail)
    replace HM := Aside0.mk (HM.out.drewN nq)
    replace BK := Aside0.mk (blk_drewN BK.out nq)
    replace XA := Aside0.mk (((pw_below_drewN (Below.refl _ _) nq).cell (World.block_lt_of_cell? _ _ XA.out)).trans XA.out)
    generalize w2.drewN nq = w3 at HM BK XA ⊢
    clear nq
    have hcf := hcf8 BK
    obtain ⟨_, _, _, _, _, _, _, _, _, _, _, _, _, _, _, _⟩ := hcf
    go_wp2_with (first | ((with_reducible refine gate_callee (f := 40) rfl ?_); refine goesL_ _ rfl rfl Try.func40 (by kernel_rfl) rfl #[.pointer (some ⟨gb, 0, none⟩), .agg #[.int .i64 y.f0, .int .i64 y.f1, .int .i64 y.f2, .int .i64 y.f3, .int .i64 y.f4, .int .i64 y.f5, .int .i64 y.f6.f0, .int .i64 y.f6.f1], .int .i64 4] rfl (by (try simp only [List.map_toArray, List.map_cons, List.map_nil]); first | done | rfl) ?_; refine (rfail_calls (mup HM).out y 4).mono ?_; rintro e w' ⟨rfl, hm⟩; clear HM; have HM := Aside0.mk hm; clear hm; refine ⟨_, rfl, ?_⟩))
    first | go_end0 | ((try simp only [Exit.inBlock, Exit.then]); refine bodyPost_ret (results_none rfl _ _ _) rfl ?_) | refine ⟨_, results_none rfl _ _ _, ?_⟩
    refine ⟨rfl, vm, ?_⟩
    rw [KS.out, if_neg (fun hh => by omega), fin_stop (show (1 : Int) ≠ 0 by decide)]
    exact HM.out
  · have knb := eq_false kn
    by_cases kl : k < (l.length : Int)
    · have klb : ((l.length : Int) ≤ k) = False := eq_false (by omega)
      have KK : Aside0 (0 ≤ k ∧ k < (l.length : Int)) := ⟨by omega⟩
      have p1 := eq_true ha.1
      have q1 := eq_true ha.2
      have q2 : (S.at_.toNat < G.l0.length) = True := eq_true (by omega)
      go_enter Try.func30, Try.ntmps30
      go_upto_region 0 with (fail)
      obtain ⟨ad0, ee0, _⟩ := at_T52 ((hG.below HM.out.mem.hb).h0) S.at_ ha.1 ha.2
      have hS : ∀ w' : World, MR w w' E G vs gb (.slice (some ⟨gr, 0, none⟩) S.regs.length cr) (.slice (some ⟨gA, 0, none⟩) S.arrs.length ca) vm S → (w'.cell? ⟨gb, 0, none⟩ = some (.slice (some ad0) G.l0.length G.c0) ∧ w'.cell? ⟨gb, 10, none⟩ = some (.int .i64 S.at_) ∧ w'.cell? (ad0.add (S.at_.toNat * 8)) = some (.int .i64 y.f0) ∧ w'.cell? ⟨(ad0.add (S.at_.toNat * 8)).block, (ad0.add (S.at_.toNat * 8)).off + 1, none⟩ = some (.int .i64 y.f1) ∧ w'.cell? ⟨(ad0.add (S.at_.toNat * 8)).block, (ad0.add (S.at_.toNat * 8)).off + 2, none⟩ = some (.int .i64 y.f2) ∧ w'.cell? ⟨(ad0.add (S.at_.toNat * 8)).block, (ad0.add (S.at_.toNat * 8)).off + 3, none⟩ = some (.int .i64 y.f3) ∧ w'.cell? ⟨(ad0.add (S.at_.toNat * 8)).block, (ad0.add (S.at_.toNat * 8)).off + 4, none⟩ = some (.int .i64 y.f4) ∧ w'.cell? ⟨(ad0.add (S.at_.toNat * 8)).block, (ad0.add (S.at_.toNat * 8)).off + 5, none⟩ = some (.int .i64 y.f5) ∧ w'.cell? ⟨(ad0.add (S.at_.toNat * 8)).block, (ad0.add (S.at_.toNat * 8)).off + 6, none⟩ = some (.int .i64 y.f6.f0) ∧ w'.cell? ⟨(ad0.add (S.at_.toNat * 8)).block, (ad0.add (S.at_.toNat * 8)).off + 7, none⟩ = some (.int .i64 y.f6.f1)) := fun w' hm => ⟨(hm.cell 0).trans (by rw [← ee0]; rfl), hm.cell 10, hm.code hG ha ee0 hy⟩
      refine start_ (n := 13) (S := fun w' => w'.cell? ⟨gb, 0, none⟩ = some (.slice (some ad0) G.l0.length G.c0) ∧ w'.cell? ⟨gb, 10, none⟩ = some (.int .i64 S.at_) ∧ w'.cell? (ad0.add (S.at_.toNat * 8)) = some (.int .i64 y.f0) ∧ w'.cell? ⟨(ad0.add (S.at_.toNat * 8)).block, (ad0.add (S.at_.toNat * 8)).off + 1, none⟩ = some (.int .i64 y.f1) ∧ w'.cell? ⟨(ad0.add (S.at_.toNat * 8)).block, (ad0.add (S.at_.toNat * 8)).off + 2, none⟩ = some (.int .i64 y.f2) ∧ w'.cell? ⟨(ad0.add (S.at_.toNat * 8)).block, (ad0.add (S.at_.toNat * 8)).off + 3, none⟩ = some (.int .i64 y.f3) ∧ w'.cell? ⟨(ad0.add (S.at_.toNat * 8)).block, (ad0.add (S.at_.toNat * 8)).off + 4, none⟩ = some (.int .i64 y.f4) ∧ w'.cell? ⟨(ad0.add (S.at_.toNat * 8)).block, (ad0.add (S.at_.toNat * 8)).off + 5, none⟩ = some (.int .i64 y.f5) ∧ w'.cell? ⟨(ad0.add (S.at_.toNat * 8)).block, (ad0.add (S.at_.toNat * 8)).off + 6, none⟩ = some (.int .i64 y.f6.f0) ∧ w'.cell? ⟨(ad0.add (S.at_.toNat * 8)).block, (ad0.add (S.at_.toNat * 8)).off + 7, none⟩ = some (.int .i64 y.f6.f1)) (ds := []) #[false, false, false, false, false, false, false, false, false, false, false, false, false] (by kernel_rfl) rfl rfl (hS _ HM.out.drew) (fun hHeld => ?_)
      refine with_tabW N30tab N30bits (fun HT_ HW_ => ?_)
      replace HM := Aside0.mk HM.out.drew
      generalize World.drew _ = wa at HM hHeld ⊢
      refine pureQ 0 11 HT_.out ?_
      refine pureQ 1 12 HT_.out ?_
      refine pureQ 2 13 HT_.out ?_
      refine pureQ 3 14 HT_.out ?_
      refine takeQ 4 15 HT_.out HW_.out hHeld ?_
      refine pureQ 5 16 HT_.out ?_
      refine pureQ 6 17 HT_.out ?_
      refine pureQ 7 18 HT_.out ?_
      refine takeQ 8 19 HT_.out HW_.out hHeld ?_
      refine pureQ 9 20 HT_.out ?_
      refine takeQ 10 21 HT_.out HW_.out hHeld ?_
      refine oneQ 11 2 HT_.out (fun K hK => ?_)
      refine box_step ?hg (N := 2) ?hd (cs := #[.int .i64 0, .int .i64 0, .int .i64 0, .int .i64 0, .int .i64 0, .int .i64 0, .int .i64 0, .int .i64 0]) (t := 52) ?hr ?_; (case hd => rfl); (case hg => rfl); (case hr => first | (go_simp; done) | (go_simp; rfl))
      intro g hg w6' hbox hb
      have NG := Aside0.mk (HM.out.new hg)
      have NE := Aside0.mk (HM.out.newE hg)
      have GE : Aside0 (w.heap.size ≤ g) := ⟨by rw [hg]; exact HM.out.mem.hb.size⟩
      replace HM := Aside0.mk (HM.out.below hb)
      have BK := Aside0.mk hbox
      clear hb hbox hg
      refine hK.out _ _ (hS _ HM.out) (fun hHeld => ?_)
      clear hK K
      refine normQ (N := 2) ?_
      refine one_ (i := 12) (N := none) #[true, true, true, true, true, true, true, true, true, true, true, true, true] rfl rfl (one_of HT_.out (by kernel_rfl)) (by decide) (fun K hK => ?_)
      obtain ⟨w1, hwz⟩ : ∃ wz, wz = ((((((((w6').setCell ⟨g, 0, none⟩ (.int .i64 y.f0)).setCell ⟨g, 1, none⟩ (.int .i64 y.f1)).setCell ⟨g, 2, none⟩ (.int .i64 y.f2)).setCell ⟨g, 3, none⟩ (.int .i64 y.f3)).setCell ⟨g, 4, none⟩ (.int .i64 y.f4)).setCell ⟨g, 5, none⟩ (.int .i64 y.f5)).setCell ⟨g, 6, none⟩ (.int .i64 y.f6.f0)).setCell ⟨g, 7, none⟩ (.int .i64 y.f6.f1) := ⟨_, rfl⟩
      obtain ⟨z1, z2⟩ := set8g BK.out _ _ _ _ _ _ _ _ w1 hwz
      have hcf := hcf8 BK
      obtain ⟨_, _, _, _, _, _, _, _, _, _, _, _, _, _, _, _⟩ := hcf
      refine skip_ (w1 := w1) (by rfl) rfl (by rw [hwz]; go_simp) ?_
      clear hwz
      replace HM := Aside0.mk (HM.out.side BK.out (by decide) (by decide) NG.out NE.out GE.out z2)
      clear BK
      have BK := Aside0.mk z1
      clear z1 z2
      refine hK.out _ _ (hS _ HM.out) (fun hHeld => ?_)
      clear hK K
      refine done_ (done_of HT_.out (by kernel_rfl)) ?_
      clear hHeld HT_ HW_
      clear hS NE GE p1 q1 q2 ee0
      have b0 := hcz BK 0
      have b6 := hcz BK 6
      go_upto_region 26 with (fail)
      clear b0 b6
      have b3 := hcz BK 3
      have c11 := HM.out.cell 11
      obtain ⟨xf3, rf3⟩ := HM.out.mem.reg y.f3.toNat (by omega)
      rw [Ef3.out] at xf3
      go_quiet (fail)
      clear b3 c11 xf3 rf3
      go_upto_region 27 with (fail)
      replace HM := Aside0.mk (HM.out.drewN nq)
      replace BK := Aside0.mk (blk_drewN BK.out nq)
      generalize w1.drewN nq = w2 at HM BK ⊢
      clear nq
      have b2 := hcz BK 2
      have c18 := HM.out.cell 18
      obtain ⟨gi, ci, xa, _, _⟩ := HM.out.mem.arr y.f2.toNat (of_eq_true zf2) (by rw [EL.out]; omega)
      rw [EL.out] at xa
      have XA := Aside0.mk xa
      go_quiet (fail)
      clear b2 c18 xa
      go_upto_region 28 with (fail)
      replace HM := Aside0.mk (HM.out.drewN nq)
      replace BK := Aside0.mk (blk_drewN BK.out nq)
      replace XA := Aside0.mk (((pw_below_drewN (Below.refl _ _) nq).cell (World.block_lt_of_cell? _ _ XA.out)).trans XA.out)
      generalize w2.drewN nq = w3 at HM BK XA ⊢
      clear nq
      go_upto_region 30 with (fail)
      have b1 := hcz BK 1
      have b2 := hcz BK 2
      have c11 := HM.out.cell 11
      obtain ⟨xf1, rf1⟩ := HM.out.mem.reg y.f1.toNat (by omega)
      rw [Ef1.out] at xf1
      obtain ⟨ad6, ee6, y60, y61, y62, y63⟩ := at_T85 ((hG.below HM.out.mem.hb).h6) y.f2 hf2.1 hf2.2
      have c6 : w3.cell? ⟨gb, 6, none⟩ = some (.slice (some ad6) G.l6.length G.c6) := (HM.out.cell 6).trans (by rw [← ee6]; rfl)
      go_quiet (exact Calls.quiet_of ((of_q _ _ KB.out _ ht).mono fun e w' ⟨h1, n, h2⟩ => ⟨h1, n, h2⟩))
      clear b1 b2 c11 xf1 rf1 y60 y61 y62 y63 c6
      replace HM := Aside0.mk (HM.out.drewN nq)
      replace BK := Aside0.mk (blk_drewN BK.out nq)
      replace XA := Aside0.mk (((pw_below_drewN (Below.refl _ _) nq).cell (World.block_lt_of_cell? _ _ XA.out)).trans XA.out)
      generalize w3.drewN nq = w4 at HM BK XA ⊢
      clear nq
      cases b
      · have hcf := hcf8 BK
        obtain ⟨_, _, _, _, _, _, _, _, _, _, _, _, _, _, _, _⟩ := hcf
        go_wp2_with (first | ((with_reducible refine gate_callee (f := 40) rfl ?_); refine goesL_ _ rfl rfl Try.func40 (by kernel_rfl) rfl #[.pointer (some ⟨gb, 0, none⟩), .agg #[.int .i64 y.f0, .int .i64 y.f1, .int .i64 y.f2, .int .i64 y.f3, .int .i64 y.f4, .int .i64 y.f5, .int .i64 y.f6.f0, .int .i64 y.f6.f1], .int .i64 1] rfl (by (try simp only [List.map_toArray, List.map_cons, List.map_nil]); first | done | rfl) ?_; refine (rfail_calls (mup HM).out y 1).mono ?_; rintro e w' ⟨rfl, hm⟩; clear HM; have HM := Aside0.mk hm; clear hm; refine ⟨_, rfl, ?_⟩))
        first | go_end0 | ((try simp only [Exit.inBlock, Exit.then]); refine bodyPost_ret (results_none rfl _ _ _) rfl ?_) | refine ⟨_, results_none rfl _ _ _, ?_⟩
        refine ⟨rfl, vm, ?_⟩
        rw [KS.out, if_pos KK.out, if_neg (by simp), fin_stop (show (1 : Int) ≠ 0 by decide)]
        exact HM.out
      · go_upto_region 32 with (fail)
        obtain ⟨e1, e2, ⟨_, e4⟩, e5⟩ := HM.out.drew.mem.at_ y.f2.toNat (of_eq_true zf2) (show (World.drew _).cell? _ = _ from XA.out) k.toNat (by rw [EL.out]; have := KK.out; omega)
        obtain ⟨h1, h2⟩ := e5 af1
        rw [EL.out] at h1
        have HN := Aside0.mk (HM.out.drew.row h1 h2 e4)
        clear h1 h2 e4 e5
        have e1 : w4.cell? _ = _ := e1
        have e2 : w4.frozen? _ = _ := e2
        rw [EL.out] at e1
        generalize l.getD k.toNat 0 = xo at e1
        have kp : ((0 : Int) ≤ k) = True := eq_true KK.out.1
        have kq : (k < (l.length : Int)) = True := eq_true KK.out.2
        have kz : (k.toNat < l.length) = True := eq_true (by have := KK.out; omega)
        have b1 := hcz BK 1
        have c11 := HM.out.cell 11
        obtain ⟨xf1, rf1⟩ := HM.out.mem.reg y.f1.toNat (by omega)
        rw [Ef1.out] at xf1
        go_still_tail 11, (by kernel_rfl)
        change wpList _ _ _ _ _ w4.drew
        go_upto_region 50 with (first | ((with_reducible refine gate_store (p := 266) (t := 2) rfl ?_); refine store_event (t := 2) (p := 266) (v := ?vf7) (w1 := World.setCell w4.drew ⟨gi, k.toNat, none⟩ (.int .i64 af1)) ?hg ?ho ?hn ?hr ?_; (case ho => rfl); (case hg => rfl); (case hn => rfl); (case hr => first | (go_simp; done) | (go_simp; rfl)); intro w9 hw; rw [← hw] at HN; clear HM hw; have HM := Aside0.mk HN.out; clear HN; have c10 := HM.out.cell 10; have f10 := HM.out.froz 10))
        go_wp2
        first | go_end0 | ((try simp only [Exit.inBlock, Exit.then]); refine bodyPost_ret (results_none rfl _ _ _) rfl ?_) | refine ⟨_, results_none rfl _ _ _, ?_⟩
        refine ⟨rfl, vm, ?_⟩
        rw [KS.out, if_pos KK.out, if_pos (by simp), fin_go (by exact he) n15]
        exact HM.out.set 10 _ rfl
    · have klb : ((l.length : Int) ≤ k) = True := eq_true (by omega)
      have p1 := eq_true ha.1
      have q1 := eq_true ha.2
      have q2 : (S.at_.toNat < G.l0.length) = True := eq_true (by omega)
      go_enter Try.func30, Try.ntmps30
      go_upto_region 0 with (fail)
      obtain ⟨ad0, ee0, _⟩ := at_T52 ((hG.below HM.out.mem.hb).h0) S.at_ ha.1 ha.2
      have hS : ∀ w' : World, MR w w' E G vs gb (.slice (some ⟨gr, 0, none⟩) S.regs.length cr) (.slice (some ⟨gA, 0, none⟩) S.arrs.length ca) vm S → (w'.cell? ⟨gb, 0, none⟩ = some (.slice (some ad0) G.l0.length G.c0) ∧ w'.cell? ⟨gb, 10, none⟩ = some (.int .i64 S.at_) ∧ w'.cell? (ad0.add (S.at_.toNat * 8)) = some (.int .i64 y.f0) ∧ w'.cell? ⟨(ad0.add (S.at_.toNat * 8)).block, (ad0.add (S.at_.toNat * 8)).off + 1, none⟩ = some (.int .i64 y.f1) ∧ w'.cell? ⟨(ad0.add (S.at_.toNat * 8)).block, (ad0.add (S.at_.toNat * 8)).off + 2, none⟩ = some (.int .i64 y.f2) ∧ w'.cell? ⟨(ad0.add (S.at_.toNat * 8)).block, (ad0.add (S.at_.toNat * 8)).off + 3, none⟩ = some (.int .i64 y.f3) ∧ w'.cell? ⟨(ad0.add (S.at_.toNat * 8)).block, (ad0.add (S.at_.toNat * 8)).off + 4, none⟩ = some (.int .i64 y.f4) ∧ w'.cell? ⟨(ad0.add (S.at_.toNat * 8)).block, (ad0.add (S.at_.toNat * 8)).off + 5, none⟩ = some (.int .i64 y.f5) ∧ w'.cell? ⟨(ad0.add (S.at_.toNat * 8)).block, (ad0.add (S.at_.toNat * 8)).off + 6, none⟩ = some (.int .i64 y.f6.f0) ∧ w'.cell? ⟨(ad0.add (S.at_.toNat * 8)).block, (ad0.add (S.at_.toNat * 8)).off + 7, none⟩ = some (.int .i64 y.f6.f1)) := fun w' hm => ⟨(hm.cell 0).trans (by rw [← ee0]; rfl), hm.cell 10, hm.code hG ha ee0 hy⟩
      refine start_ (n := 13) (S := fun w' => w'.cell? ⟨gb, 0, none⟩ = some (.slice (some ad0) G.l0.length G.c0) ∧ w'.cell? ⟨gb, 10, none⟩ = some (.int .i64 S.at_) ∧ w'.cell? (ad0.add (S.at_.toNat * 8)) = some (.int .i64 y.f0) ∧ w'.cell? ⟨(ad0.add (S.at_.toNat * 8)).block, (ad0.add (S.at_.toNat * 8)).off + 1, none⟩ = some (.int .i64 y.f1) ∧ w'.cell? ⟨(ad0.add (S.at_.toNat * 8)).block, (ad0.add (S.at_.toNat * 8)).off + 2, none⟩ = some (.int .i64 y.f2) ∧ w'.cell? ⟨(ad0.add (S.at_.toNat * 8)).block, (ad0.add (S.at_.toNat * 8)).off + 3, none⟩ = some (.int .i64 y.f3) ∧ w'.cell? ⟨(ad0.add (S.at_.toNat * 8)).block, (ad0.add (S.at_.toNat * 8)).off + 4, none⟩ = some (.int .i64 y.f4) ∧ w'.cell? ⟨(ad0.add (S.at_.toNat * 8)).block, (ad0.add (S.at_.toNat * 8)).off + 5, none⟩ = some (.int .i64 y.f5) ∧ w'.cell? ⟨(ad0.add (S.at_.toNat * 8)).block, (ad0.add (S.at_.toNat * 8)).off + 6, none⟩ = some (.int .i64 y.f6.f0) ∧ w'.cell? ⟨(ad0.add (S.at_.toNat * 8)).block, (ad0.add (S.at_.toNat * 8)).off + 7, none⟩ = some (.int .i64 y.f6.f1)) (ds := []) #[false, false, false, false, false, false, false, false, false, false, false, false, false] (by kernel_rfl) rfl rfl (hS _ HM.out.drew) (fun hHeld => ?_)
      refine with_tabW N30tab N30bits (fun HT_ HW_ => ?_)
      replace HM := Aside0.mk HM.out.drew
      generalize World.drew _ = wa at HM hHeld ⊢
      refine pureQ 0 11 HT_.out ?_
      refine pureQ 1 12 HT_.out ?_
      refine pureQ 2 13 HT_.out ?_
      refine pureQ 3 14 HT_.out ?_
      refine takeQ 4 15 HT_.out HW_.out hHeld ?_
      refine pureQ 5 16 HT_.out ?_
      refine pureQ 6 17 HT_.out ?_
      refine pureQ 7 18 HT_.out ?_
      refine takeQ 8 19 HT_.out HW_.out hHeld ?_
      refine pureQ 9 20 HT_.out ?_
      refine takeQ 10 21 HT_.out HW_.out hHeld ?_
      refine oneQ 11 2 HT_.out (fun K hK => ?_)
      refine box_step ?hg (N := 2) ?hd (cs := #[.int .i64 0, .int .i64 0, .int .i64 0, .int .i64 0, .int .i64 0, .int .i64 0, .int .i64 0, .int .i64 0]) (t := 52) ?hr ?_; (case hd => rfl); (case hg => rfl); (case hr => first | (go_simp; done) | (go_simp; rfl))
      intro g hg w6' hbox hb
      have NG := Aside0.mk (HM.out.new hg)
      have NE := Aside0.mk (HM.out.newE hg)
      have GE : Aside0 (w.heap.size ≤ g) := ⟨by rw [hg]; exact HM.out.mem.hb.size⟩
      replace HM := Aside0.mk (HM.out.below hb)
      have BK := Aside0.mk hbox
      clear hb hbox hg
      refine hK.out _ _ (hS _ HM.out) (fun hHeld => ?_)
      clear hK K
      refine normQ (N := 2) ?_
      refine one_ (i := 12) (N := none) #[true, true, true, true, true, true, true, true, true, true, true, true, true] rfl rfl (one_of HT_.out (by kernel_rfl)) (by decide) (fun K hK => ?_)
      obtain ⟨w1, hwz⟩ : ∃ wz, wz = ((((((((w6').setCell ⟨g, 0, none⟩ (.int .i64 y.f0)).setCell ⟨g, 1, none⟩ (.int .i64 y.f1)).setCell ⟨g, 2, none⟩ (.int .i64 y.f2)).setCell ⟨g, 3, none⟩ (.int .i64 y.f3)).setCell ⟨g, 4, none⟩ (.int .i64 y.f4)).setCell ⟨g, 5, none⟩ (.int .i64 y.f5)).setCell ⟨g, 6, none⟩ (.int .i64 y.f6.f0)).setCell ⟨g, 7, none⟩ (.int .i64 y.f6.f1) := ⟨_, rfl⟩
      obtain ⟨z1, z2⟩ := set8g BK.out _ _ _ _ _ _ _ _ w1 hwz
      have hcf := hcf8 BK
      obtain ⟨_, _, _, _, _, _, _, _, _, _, _, _, _, _, _, _⟩ := hcf
      refine skip_ (w1 := w1) (by rfl) rfl (by rw [hwz]; go_simp) ?_
      clear hwz
      replace HM := Aside0.mk (HM.out.side BK.out (by decide) (by decide) NG.out NE.out GE.out z2)
      clear BK
      have BK := Aside0.mk z1
      clear z1 z2
      refine hK.out _ _ (hS _ HM.out) (fun hHeld => ?_)
      clear hK K
      refine done_ (done_of HT_.out (by kernel_rfl)) ?_
      clear hHeld HT_ HW_
      clear hS NE GE p1 q1 q2 ee0
      have b0 := hcz BK 0
      have b6 := hcz BK 6
      go_upto_region 26 with (fail)
      clear b0 b6
      have b3 := hcz BK 3
      have c11 := HM.out.cell 11
      obtain ⟨xf3, rf3⟩ := HM.out.mem.reg y.f3.toNat (by omega)
      rw [Ef3.out] at xf3
      go_quiet (fail)
      clear b3 c11 xf3 rf3
      go_upto_region 27 with (fail)
      replace HM := Aside0.mk (HM.out.drewN nq)
      replace BK := Aside0.mk (blk_drewN BK.out nq)
      generalize w1.drewN nq = w2 at HM BK ⊢
      clear nq
      have b2 := hcz BK 2
      have c18 := HM.out.cell 18
      obtain ⟨gi, ci, xa, _, _⟩ := HM.out.mem.arr y.f2.toNat (of_eq_true zf2) (by rw [EL.out]; omega)
      rw [EL.out] at xa
      have XA := Aside0.mk xa
      go_quiet (fail)
      clear b2 c18 xa
      go_upto_region 28 with (fail)
      replace HM := Aside0.mk (HM.out.drewN nq)
      replace BK := Aside0.mk (blk_drewN BK.out nq)
      replace XA := Aside0.mk (((pw_below_drewN (Below.refl _ _) nq).cell (World.block_lt_of_cell? _ _ XA.out)).trans XA.out)
      generalize w2.drewN nq = w3 at HM BK XA ⊢
      clear nq
      have hcf := hcf8 BK
      obtain ⟨_, _, _, _, _, _, _, _, _, _, _, _, _, _, _, _⟩ := hcf
      go_wp2_with (first | ((with_reducible refine gate_callee (f := 40) rfl ?_); refine goesL_ _ rfl rfl Try.func40 (by kernel_rfl) rfl #[.pointer (some ⟨gb, 0, none⟩), .agg #[.int .i64 y.f0, .int .i64 y.f1, .int .i64 y.f2, .int .i64 y.f3, .int .i64 y.f4, .int .i64 y.f5, .int .i64 y.f6.f0, .int .i64 y.f6.f1], .int .i64 4] rfl (by (try simp only [List.map_toArray, List.map_cons, List.map_nil]); first | done | rfl) ?_; refine (rfail_calls (mup HM).out y 4).mono ?_; rintro e w' ⟨rfl, hm⟩; clear HM; have HM := Aside0.mk hm; clear hm; refine ⟨_, rfl, ?_⟩))
      first | go_end0 | ((try simp only [Exit.inBlock, Exit.then]); refine bodyPost_ret (results_none rfl _ _ _) rfl ?_) | refine ⟨_, results_none rfl _ _ _, ?_⟩
      refine ⟨rfl, vm, ?_⟩
      rw [KS.out, if_neg (fun hh => by omega), fin_stop (show (1 : Int) ≠ 0 by decide)]
      exact HM.out
def N30bT : Bool × List (List Nat × List Nat) := (true, [([], []), ([], []), ([1], [1]), ([2], [2]), ([3], [3]), ([4], [4]), ([], []), ([6], [6]), ([7], [7]), ([5, 8, 7], [5, 8]), ([0, 0, 1, 2, 3, 4, 5, 6, 7, 8, 9], [0]), ([10, 0, 1, 2, 3, 4, 5, 6, 7, 8, 9], [10]), ([11, 0, 1, 2, 3, 4, 5, 6, 7, 8, 9], [11]), ([12, 9, 9, 0, 1, 2, 3, 4, 5, 6, 7, 8, 9], [9, 12])])
def N30bB : List Nat := [0, 0, 2, 6, 14, 30, 0, 64, 192, 510, 1023, 2047, 4095, 8191]
theorem N30btab : rtab .any (opsOf Try.f30 43) = N30bT := by kernel_rfl
theorem N30bbits : waitsOk N30bT.2 N30bB = true := by kernel_rfl
set_option maxHeartbeats 8000000 in
set_option maxRecDepth 100000 in
theorem step_loop {w W : World} {E : List (Nat × Array Value × Nat)} {G : Gr} {vs vr va vm : Value} {gb : Nat} {S : St} (h : MR w W E G vs gb vr va vm S) {y : S52} (hy : rd_T52 G.l0 S.at_ = y) (hG : G.Held w) (ha : 0 ≤ S.at_ ∧ S.at_ < (G.l0.length : Int)) (he : S.en = 0) (e : y.f0 = 17) (h5 : G.l5.length ≤ S.regs.length) (h0 : ∃ gr cr, vr = .slice (some ⟨gr, 0, none⟩) S.regs.length cr) (hl : S.regs.length ≤ 100000) (hf : -9223372036854775808 ≤ S.fuel ∧ S.fuel ≤ 9223372036854775807) :
    Calls Try.prog 30 #[.pointer (some ⟨gb, 0, none⟩)] W fun e W' => e = .returned (.tuple #[]) ∧ ∃ v, MR w W' E G vs gb vr va v (finS S y (loopS G S)) := by
  obtain ⟨Am, cm, rfl⟩ := h.mem.markForm
  have hu52 := Try.underlying52
  have hu66 := Try.underlying66
  have hu36 := Try.underlying36
  have hu28 := Try.underlying28
  have hu50 := Try.underlying50
  have HM := Aside0.mk h
  clear h
  have n15 : y.f0 ≠ 15 := by omega
  have k11 : (y.f0 == (11 : Int)) = false := by rw [e]; rfl
  have k12 : (y.f0 == (12 : Int)) = false := by rw [e]; rfl
  have k13 : (y.f0 == (13 : Int)) = false := by rw [e]; rfl
  have k14 : (y.f0 == (14 : Int)) = false := by rw [e]; rfl
  have k15 : (y.f0 == (15 : Int)) = false := by rw [e]; rfl
  have k16 : (y.f0 == (16 : Int)) = false := by rw [e]; rfl
  have k19 : (y.f0 == (19 : Int)) = false := by rw [e]; rfl
  have k17 : (y.f0 == (17 : Int)) = true := by rw [e]; rfl
  clear e
  have K5 := Aside0.mk (And.intro h5 (And.intro h0 hl))
  clear h5 h0 hl
  obtain ⟨c, hc⟩ : ∃ c : Bool, decide (G.ticks ≠ 0 ∧ S.ticks = G.ticks) = c := ⟨_, rfl⟩
  have KC := Aside0.mk hc
  clear hc
  have p1 := eq_true ha.1
  have q1 := eq_true ha.2
  have q2 : (S.at_.toNat < G.l0.length) = True := eq_true (by omega)
  go_enter Try.func30, Try.ntmps30
  go_upto_region 0 with (fail)
  obtain ⟨ad0, ee0, _⟩ := at_T52 ((hG.below HM.out.mem.hb).h0) S.at_ ha.1 ha.2
  have hS : ∀ w' : World, MR w w' E G vs gb vr va (.slice Am S.marks.length cm) S → (w'.cell? ⟨gb, 0, none⟩ = some (.slice (some ad0) G.l0.length G.c0) ∧ w'.cell? ⟨gb, 10, none⟩ = some (.int .i64 S.at_) ∧ w'.cell? (ad0.add (S.at_.toNat * 8)) = some (.int .i64 y.f0) ∧ w'.cell? ⟨(ad0.add (S.at_.toNat * 8)).block, (ad0.add (S.at_.toNat * 8)).off + 1, none⟩ = some (.int .i64 y.f1) ∧ w'.cell? ⟨(ad0.add (S.at_.toNat * 8)).block, (ad0.add (S.at_.toNat * 8)).off + 2, none⟩ = some (.int .i64 y.f2) ∧ w'.cell? ⟨(ad0.add (S.at_.toNat * 8)).block, (ad0.add (S.at_.toNat * 8)).off + 3, none⟩ = some (.int .i64 y.f3) ∧ w'.cell? ⟨(ad0.add (S.at_.toNat * 8)).block, (ad0.add (S.at_.toNat * 8)).off + 4, none⟩ = some (.int .i64 y.f4) ∧ w'.cell? ⟨(ad0.add (S.at_.toNat * 8)).block, (ad0.add (S.at_.toNat * 8)).off + 5, none⟩ = some (.int .i64 y.f5) ∧ w'.cell? ⟨(ad0.add (S.at_.toNat * 8)).block, (ad0.add (S.at_.toNat * 8)).off + 6, none⟩ = some (.int .i64 y.f6.f0) ∧ w'.cell? ⟨(ad0.add (S.at_.toNat * 8)).block, (ad0.add (S.at_.toNat * 8)).off + 7, none⟩ = some (.int .i64 y.f6.f1)) := fun w' hm => ⟨(hm.cell 0).trans (by rw [← ee0]; rfl), hm.cell 10, hm.code hG ha ee0 hy⟩
  refine start_ (n := 13) (S := fun w' => w'.cell? ⟨gb, 0, none⟩ = some (.slice (some ad0) G.l0.length G.c0) ∧ w'.cell? ⟨gb, 10, none⟩ = some (.int .i64 S.at_) ∧ w'.cell? (ad0.add (S.at_.toNat * 8)) = some (.int .i64 y.f0) ∧ w'.cell? ⟨(ad0.add (S.at_.toNat * 8)).block, (ad0.add (S.at_.toNat * 8)).off + 1, none⟩ = some (.int .i64 y.f1) ∧ w'.cell? ⟨(ad0.add (S.at_.toNat * 8)).block, (ad0.add (S.at_.toNat * 8)).off + 2, none⟩ = some (.int .i64 y.f2) ∧ w'.cell? ⟨(ad0.add (S.at_.toNat * 8)).block, (ad0.add (S.at_.toNat * 8)).off + 3, none⟩ = some (.int .i64 y.f3) ∧ w'.cell? ⟨(ad0.add (S.at_.toNat * 8)).block, (ad0.add (S.at_.toNat * 8)).off + 4, none⟩ = some (.int .i64 y.f4) ∧ w'.cell? ⟨(ad0.add (S.at_.toNat * 8)).block, (ad0.add (S.at_.toNat * 8)).off + 5, none⟩ = some (.int .i64 y.f5) ∧ w'.cell? ⟨(ad0.add (S.at_.toNat * 8)).block, (ad0.add (S.at_.toNat * 8)).off + 6, none⟩ = some (.int .i64 y.f6.f0) ∧ w'.cell? ⟨(ad0.add (S.at_.toNat * 8)).block, (ad0.add (S.at_.toNat * 8)).off + 7, none⟩ = some (.int .i64 y.f6.f1)) (ds := []) #[false, false, false, false, false, false, false, false, false, false, false, false, false] (by kernel_rfl) rfl rfl (hS _ HM.out.drew) (fun hHeld => ?_)
  refine with_tabW N30tab N30bits (fun HT_ HW_ => ?_)
  replace HM := Aside0.mk HM.out.drew
  generalize World.drew _ = wa at HM hHeld ⊢
  refine pureQ 0 11 HT_.out ?_
  refine pureQ 1 12 HT_.out ?_
  refine pureQ 2 13 HT_.out ?_
  refine pureQ 3 14 HT_.out ?_
  refine takeQ 4 15 HT_.out HW_.out hHeld ?_
  refine pureQ 5 16 HT_.out ?_
  refine pureQ 6 17 HT_.out ?_
  refine pureQ 7 18 HT_.out ?_
  refine takeQ 8 19 HT_.out HW_.out hHeld ?_
  refine pureQ 9 20 HT_.out ?_
  refine takeQ 10 21 HT_.out HW_.out hHeld ?_
  refine oneQ 11 2 HT_.out (fun K hK => ?_)
  refine box_step ?hg (N := 2) ?hd (cs := #[.int .i64 0, .int .i64 0, .int .i64 0, .int .i64 0, .int .i64 0, .int .i64 0, .int .i64 0, .int .i64 0]) (t := 52) ?hr ?_; (case hd => rfl); (case hg => rfl); (case hr => first | (go_simp; done) | (go_simp; rfl))
  intro g hg w6' hbox hb
  have NG := Aside0.mk (HM.out.new hg)
  have NE := Aside0.mk (HM.out.newE hg)
  have GE : Aside0 (w.heap.size ≤ g) := ⟨by rw [hg]; exact HM.out.mem.hb.size⟩
  replace HM := Aside0.mk (HM.out.below hb)
  have BK := Aside0.mk hbox
  clear hb hbox hg
  refine hK.out _ _ (hS _ HM.out) (fun hHeld => ?_)
  clear hK K
  refine normQ (N := 2) ?_
  refine one_ (i := 12) (N := none) #[true, true, true, true, true, true, true, true, true, true, true, true, true] rfl rfl (one_of HT_.out (by kernel_rfl)) (by decide) (fun K hK => ?_)
  obtain ⟨w1, hwz⟩ : ∃ wz, wz = ((((((((w6').setCell ⟨g, 0, none⟩ (.int .i64 y.f0)).setCell ⟨g, 1, none⟩ (.int .i64 y.f1)).setCell ⟨g, 2, none⟩ (.int .i64 y.f2)).setCell ⟨g, 3, none⟩ (.int .i64 y.f3)).setCell ⟨g, 4, none⟩ (.int .i64 y.f4)).setCell ⟨g, 5, none⟩ (.int .i64 y.f5)).setCell ⟨g, 6, none⟩ (.int .i64 y.f6.f0)).setCell ⟨g, 7, none⟩ (.int .i64 y.f6.f1) := ⟨_, rfl⟩
  obtain ⟨z1, z2⟩ := set8g BK.out _ _ _ _ _ _ _ _ w1 hwz
  have hcf := hcf8 BK
  obtain ⟨_, _, _, _, _, _, _, _, _, _, _, _, _, _, _, _⟩ := hcf
  refine skip_ (w1 := w1) (by rfl) rfl (by rw [hwz]; go_simp) ?_
  clear hwz
  replace HM := Aside0.mk (HM.out.side BK.out (by decide) (by decide) NG.out NE.out GE.out z2)
  clear BK
  have BK := Aside0.mk z1
  clear z1 z2
  refine hK.out _ _ (hS _ HM.out) (fun hHeld => ?_)
  clear hK K
  refine done_ (done_of HT_.out (by kernel_rfl)) ?_
  clear hHeld HT_ HW_
  clear hS NE GE p1 q1 q2 ee0
  have b0 := hcz BK 0
  have b6 := hcz BK 6
  go_upto_region 39 with (fail)
  clear b0
  (try simp only [Act.put, List.setIfInBounds_toArray, List.set_cons_zero, List.set_cons_succ])
  go_cut [299] (fun v22 wc => v22 = .bool c ∧ Aside0 (MR w wc E G vs gb vr va (.slice Am S.marks.length cm) S))
  case first =>
   clear BK
   by_cases t0 : G.ticks = 0
   · have t0b : (G.ticks != 0) = false := bne_eq_false_iff_eq.mpr t0
     have hcc : c = false := KC.out.symm.trans (decide_eq_false (fun hh => hh.1 t0))
     clear KC t0
     subst hcc
     have c3 := HM.out.cell 3
     have c15 := HM.out.cell 15
     go_quiet (fail)
     clear c3 c15
     replace HM := Aside0.mk (HM.out.drewN nq)
     generalize w1.drewN nq = w2 at HM ⊢
     clear nq
     try go_wp2
     go_meet
     case rel => exact ⟨rfl, HM⟩
   · have t0b : (G.ticks != 0) = true := bne_iff_ne.mpr t0
     by_cases t1 : S.ticks = G.ticks
     · have t1b : (S.ticks == G.ticks) = true := beq_iff_eq.mpr t1
       have hcc : c = true := KC.out.symm.trans (decide_eq_true ⟨t0, t1⟩)
       clear KC t0 t1
       subst hcc
       have c3 := HM.out.cell 3
       have c15 := HM.out.cell 15
       go_quiet (fail)
       clear c3 c15
       replace HM := Aside0.mk (HM.out.drewN nq)
       generalize w1.drewN nq = w2 at HM ⊢
       clear nq
       try go_wp2
       go_meet
       case rel => exact ⟨rfl, HM⟩
     · have t1b : (S.ticks == G.ticks) = false := beq_eq_false_iff_ne.mpr t1
       have hcc : c = false := KC.out.symm.trans (decide_eq_false (fun hh => t1 hh.2))
       clear KC t0 t1
       subst hcc
       have c3 := HM.out.cell 3
       have c15 := HM.out.cell 15
       go_quiet (fail)
       clear c3 c15
       replace HM := Aside0.mk (HM.out.drewN nq)
       generalize w1.drewN nq = w2 at HM ⊢
       clear nq
       try go_wp2
       go_meet
       case rel => exact ⟨rfl, HM⟩
  case rest =>
   clear HM BK
   obtain ⟨rfl, HM⟩ := hcut
   cases c
   · have hn : Aside0 (¬ (G.ticks ≠ 0 ∧ S.ticks = G.ticks)) := ⟨of_decide_eq_false KC.out⟩
     by_cases f0 : S.fuel ≤ 0
     · have f0b : decide (0 < S.fuel) = false := decide_eq_false (by omega)
       have KF : Aside0 (spendS S = { S with en := 4 }) := ⟨if_pos f0⟩
       replace f0 := Aside0.mk f0
       go_wp2_with (first | ((with_reducible refine gate_callee (f := 43) rfl ?_); refine goesL_ _ rfl rfl Try.func43 (by kernel_rfl) rfl #[.pointer (some ⟨gb, 0, none⟩)] rfl (by (try simp only [List.map_toArray, List.map_cons, List.map_nil]); first | done | rfl) ?_; refine (rspend_calls (mup HM).out hf).mono ?_; rintro e w3 ⟨rfl, hm⟩; clear HM; rw [KF.out] at hm; have HM := Aside0.mk hm; clear hm; have c19 := HM.out.cell 19; refine ⟨_, rfl, ?_⟩))
       first | go_end0 | ((try simp only [Exit.inBlock, Exit.then]); refine bodyPost_ret (results_none rfl _ _ _) rfl ?_) | refine ⟨_, results_none rfl _ _ _, ?_⟩
       refine ⟨rfl, .slice Am S.marks.length cm, ?_⟩
       rw [show loopS G S = _ from (if_neg hn.out).trans (if_pos f0.out), fin_stop (show (4 : Int) ≠ 0 by decide)]
       exact HM.out
     · have f0b : decide (0 < S.fuel) = true := decide_eq_true (by omega)
       have KF : Aside0 (spendS S = { S with fuel := S.fuel - 1 }) := ⟨if_neg f0⟩
       replace f0 := Aside0.mk f0
       by_cases m0 : S.marks.length < 64
       · have m0b : decide ((S.marks.length : Int) < 64) = true := decide_eq_true (by omega)
         go_upto_region 43 with (first | ((with_reducible refine gate_callee (f := 43) rfl ?_); refine goesL_ _ rfl rfl Try.func43 (by kernel_rfl) rfl #[.pointer (some ⟨gb, 0, none⟩)] rfl (by (try simp only [List.map_toArray, List.map_cons, List.map_nil]); first | done | rfl) ?_; refine (rspend_calls (mup HM).out hf).mono ?_; rintro e w3 ⟨rfl, hm⟩; clear HM; rw [KF.out] at hm; have HM := Aside0.mk hm; clear hm; have c19 := HM.out.cell 19; refine ⟨_, rfl, ?_⟩))
         clear c19
         have hS : ∀ (w' : World) (W1 : World), MR w w' E G vs gb vr va (.slice Am S.marks.length cm) { S with fuel := S.fuel - 1 } → (w'.cell? ⟨gb, 19, none⟩ = some (.slice Am S.marks.length cm)) := fun w' _ hm => hm.cell 19
         refine start_ (n := 14) (S := fun w' => w'.cell? ⟨gb, 19, none⟩ = some (.slice Am S.marks.length cm)) (ds := [13]) #[false, false, false, false, false, false, false, false, false, false, false, false, false, false] (by kernel_rfl) rfl rfl (hS _ W HM.out.drew) (fun hHeld => ?_)
         refine with_tabW N30btab N30bbits (fun HT_ HW_ => ?_)
         replace HM := Aside0.mk HM.out.drew
         generalize World.drew _ = wa at HM hHeld ⊢
         refine pureQ 0 314 HT_.out ?_
         refine pureQ 1 315 HT_.out ?_
         refine pureQ 2 316 HT_.out ?_
         refine pureQ 3 317 HT_.out ?_
         refine pureQ 4 318 HT_.out ?_
         refine takeQ 5 319 HT_.out HW_.out hHeld ?_
         refine pureQ 6 320 HT_.out ?_
         refine oneQ 7 321 HT_.out (fun K hK => ?_)
         refine goesQ Try.func44 #[.pointer (some ⟨gb, 0, none⟩)] ?_
         refine (rscalars_calls HM.out K5.out.1 K5.out.2.1 K5.out.2.2).mono ?_
         rintro e w5 ⟨v, rfl, ho, hm, hb⟩
         change Kd.R _ _ _ _ _ v (S.regs.take G.l5.length) at ho
         obtain ⟨row, er⟩ : ∃ r, S.regs.take G.l5.length = r := ⟨_, rfl⟩
         rw [er] at ho
         have ER := Aside0.mk er
         clear er
         obtain ⟨Av, cv, ev⟩ := Kd.R_slice ho
         subst ev
         refine ⟨_, rfl, ?_⟩
         have HM0 := HM
         clear HM
         have HM := Aside0.mk hm
         have HO := Aside0.mk ho
         have HB := Aside0.mk hb
         clear hm ho hb
         refine hK.out _ _ (hS _ W HM.out) (fun hHeld => ?_)
         clear hK K
         refine normQ (N := 321) ?_
         refine oneQ 8 322 HT_.out (fun K hK => ?_)
         refine value_ (w1 := ?_) (v := ?_) (by rfl) rfl ?_ ?_
         rotate_left 2
         · go_simp
           constructor
           · rfl
           · rfl
         refine hK.out _ _ (hS _ W (HM.out.alloc _)) (fun hHeld => ?_)
         clear hK K
         refine normQ (N := 322) ?_
         refine oneQ 9 323 HT_.out (fun K hK => ?_)
         refine HM0.out.push_step HB.out HO.out (.tmp 319) (.tmp 322) rfl rfl rfl (show S.marks.length < 1000 by omega) ?_
         intro v1 w6 hm
         obtain ⟨Aw, cw, ew⟩ := hm.mem.markForm
         obtain ⟨nm, hnm⟩ : ∃ n, (({ S with fuel := S.fuel - 1 } : St).marks ++ [row]).length = n := ⟨_, rfl⟩
         rw [hnm] at ew
         subst ew
         clear hnm
         clear HM HM0 HO HB
         have HM := Aside0.mk hm
         clear hm
         refine hK.out _ _ ((HM.out.cell 19).trans rfl) (fun hHeld => ?_)
         clear hK K
         refine normQ (N := 323) ?_
         refine pureQ 10 324 HT_.out ?_
         refine pureQ 11 325 HT_.out ?_
         refine pureQ 12 326 HT_.out ?_
         refine last_ (i := 13) (N := none) #[true, true, true, true, true, true, true, true, true, true, true, true, true, true] rfl rfl (one_of HT_.out (by kernel_rfl)) (by decide) (fun K hK => ?_)
         have cc := HM.out.cell 19
         have ff := HM.out.froz 19
         obtain ⟨wy, hwz⟩ : ∃ wz, wz = World.setCell w6 ⟨gb, 19, none⟩ (.slice Aw nm cw) := ⟨_, rfl⟩
         refine skip_ (w1 := wy) (by rfl) rfl (by rw [hwz] <;> go_simp) ?_
         clear cc ff
         have hm : MR w _ E G vs gb vr va (.slice Aw nm cw) { S with fuel := S.fuel - 1, marks := S.marks ++ [row] } := HM.out.set 19 (.slice Aw nm cw) rfl
         rw [← hwz] at hm
         clear HM hwz
         have HM := Aside0.mk hm
         clear hm
         refine hK.out _ _ ?_
         clear hK K
         refine done_ (done_of HT_.out (by kernel_rfl)) ?_
         clear hHeld HT_ HW_
         clear hS
         have c10 := HM.out.cell 10
         have f10 := HM.out.froz 10
         try go_wp2
         first | go_end0 | ((try simp only [Exit.inBlock, Exit.then]); refine bodyPost_ret (results_none rfl _ _ _) rfl ?_) | refine ⟨_, results_none rfl _ _ _, ?_⟩
         refine ⟨rfl, .slice Aw nm cw, ?_⟩
         rw [show loopS G S = _ from (if_neg hn.out).trans ((if_neg (by have := f0.out; omega)).trans (if_pos m0)), ER.out, fin_go (by exact he) n15]
         exact HM.out.set 10 _ rfl
       · have m0b : decide ((S.marks.length : Int) < 64) = false := decide_eq_false (by omega)
         go_upto_region 50 with (first | ((with_reducible refine gate_callee (f := 43) rfl ?_); refine goesL_ _ rfl rfl Try.func43 (by kernel_rfl) rfl #[.pointer (some ⟨gb, 0, none⟩)] rfl (by (try simp only [List.map_toArray, List.map_cons, List.map_nil]); first | done | rfl) ?_; refine (rspend_calls (mup HM).out hf).mono ?_; rintro e w3 ⟨rfl, hm⟩; clear HM; rw [KF.out] at hm; have HM := Aside0.mk hm; clear hm; have c19 := HM.out.cell 19; refine ⟨_, rfl, ?_⟩))
         clear c19
         have c10 := HM.out.cell 10
         have f10 := HM.out.froz 10
         go_wp2
         first | go_end0 | ((try simp only [Exit.inBlock, Exit.then]); refine bodyPost_ret (results_none rfl _ _ _) rfl ?_) | refine ⟨_, results_none rfl _ _ _, ?_⟩
         refine ⟨rfl, .slice Am S.marks.length cm, ?_⟩
         rw [show loopS G S = _ from (if_neg hn.out).trans ((if_neg (by have := f0.out; omega)).trans (if_neg m0)), fin_go (by exact he) n15]
         exact HM.out.set 10 _ rfl
   · have hy : Aside0 (G.ticks ≠ 0 ∧ S.ticks = G.ticks) := ⟨of_decide_eq_true KC.out⟩
     have c12 := HM.out.cell 12
     have f12 := HM.out.froz 12
     go_wp2
     first | go_end0 | ((try simp only [Exit.inBlock, Exit.then]); refine bodyPost_ret (results_none rfl _ _ _) rfl ?_) | refine ⟨_, results_none rfl _ _ _, ?_⟩
     refine ⟨rfl, .slice Am S.marks.length cm, ?_⟩
     rw [show loopS G S = _ from if_pos hy.out, fin_stop (show (3 : Int) ≠ 0 by decide)]
     exact HM.out.set 12 _ rfl
end Go.Proofs.Ytcalcbeonbfkmaa.P
