/- What the law's proof needs of H8. -/
import Derived.Test.YtcalcbeonbfkmaaTrRH4
import Derived.Test.YtcalcbeonbfkmaaTrRH5
import Derived.Test.YtcalcbeonbfkmaaTrRPx22
namespace Go.Proofs.Ytcalcbeonbfkmaa.P
open Go.RowKit Go.Proofs.YtcalcbeonbfkmaaW.PrintWords Go.Proofs.YtcalcbeonbfkmaaW.PrintLast Go.Proofs.YtcalcbeonbfkmaaW.PrintMore Go.Proofs.YtcalcbeonbfkmaaO
attribute [local go_sem] max2_int min2_int max_two min_two max_three min_three max_four min_four
set_option linter.unusedVariables false
set_option linter.unusedSimpArgs false
/-- Where a run goes on. -/
def nxtY (S : St) (y : S52) : Int := if y.f0 = 15 ∧ testB y.f4 (S.regs.getD y.f2.toNat 0) (S.regs.getD y.f3.toNat 0) = false then y.f6.f1 else y.f6.f0
/-- The end of a step: over, or at the next place. -/
def finS (S : St) (y : S52) (T : St) : St := if T.en = 0 then { T with at_ := nxtY S y } else T
theorem fin_go {S T : St} {y : S52} (h : T.en = 0) (h15 : y.f0 ≠ 15) : finS S y T = { T with at_ := y.f6.f0 } := by
  unfold finS nxtY
  rw [if_pos h, if_neg (fun hh => h15 hh.1)]
theorem fin_stop {S T : St} {y : S52} (h : T.en ≠ 0) : finS S y T = T := if_neg h
theorem of_q (x t : Int) {b : Bool} (hb : okB t x = b) (w : World) (ht : 1 ≤ t ∧ t ≤ 3) : Calls Try.prog 41 #[.int .i64 t, .int .i64 x] w fun e w' => e = .returned (.bool b) ∧ Drawn0 w w' :=
  gimbalref08_of.calls t x _ w (by
    rw [← hb]
    have key : ∀ L H : Int, (if x ≥ L then some (decide (x < H)) else some false) = some (decide (L ≤ x ∧ x ≤ H - 1)) := fun L H => by
      by_cases c : x ≥ L
      · rw [if_pos c]; congr 1; exact decide_eq_decide.mpr ⟨fun h => ⟨c, by omega⟩, fun h => by omega⟩
      · rw [if_neg c]; congr 1; exact (decide_eq_false (fun h => c h.1)).symm
    have ht2 : t = 1 ∨ t = 2 ∨ t = 3 := by omega
    unfold gimbalref08_of.f okB
    rcases ht2 with rfl | rfl | rfl
    · rw [if_pos rfl, show LoV 1 = -128 from rfl, show HiV 1 = 127 from rfl]; exact key _ _
    · rw [if_neg (by decide), if_pos rfl, show LoV 2 = -32768 from rfl, show HiV 2 = 32767 from rfl]; exact key _ _
    · rw [if_neg (by decide), if_neg (by decide), show LoV 3 = -2147483648 from rfl, show HiV 3 = 2147483647 from rfl]
      by_cases c : x ≥ -2147483648
      · rw [if_pos c]; congr 1; exact decide_eq_decide.mpr ⟨fun h => ⟨c, h⟩, fun h => h.2⟩
      · rw [if_neg c]; congr 1; exact (decide_eq_false (fun h => c h.1)).symm)
def N30T : Bool × List (List Nat × List Nat) := (true, [([], []), ([0], [0]), ([1], [1]), ([2], [2]), ([3], [3]), ([], []), ([5], [5]), ([6], [6]), ([7], [7]), ([4, 8], [4, 8]), ([9], [9]), ([], []), ([11, 10, 0, 1, 2, 3, 4, 5, 6, 7, 8, 9, 10, 11], [10, 11])])
def N30B : List Nat := [0, 1, 3, 7, 15, 0, 32, 96, 224, 511, 1023, 0, 4095]
theorem N30tab : rtab .any (opsOf Try.f30 0) = N30T := by kernel_rfl
theorem N30bits : waitsOk N30T.2 N30B = true := by kernel_rfl
set_option maxHeartbeats 8000000 in
set_option maxRecDepth 100000 in
theorem step_reck {w W : World} {E : List (Nat × Array Value × Nat)} {G : Gr} {vs vr va vm : Value} {gb : Nat} {S : St} (h : MR w W E G vs gb vr va vm S) {y : S52} (hy : rd_T52 G.l0 S.at_ = y) (hG : G.Held w) (ha : 0 ≤ S.at_ ∧ S.at_ < (G.l0.length : Int)) (he : S.en = 0) (h0 : 1 ≤ y.f0 ∧ y.f0 ≤ 10) (hf1 : 0 ≤ y.f1 ∧ y.f1 < (S.regs.length : Int)) {r1 r2 : Int} (hr : ∀ (E' : List (Nat × Array Value × Nat)) (W' : World), MR w W' E' G vs gb vr va vm S → Calls Try.prog 45 #[.pointer (some ⟨gb, 0, none⟩), .agg #[.int .i64 y.f0, .int .i64 y.f1, .int .i64 y.f2, .int .i64 y.f3, .int .i64 y.f4, .int .i64 y.f5, .int .i64 y.f6.f0, .int .i64 y.f6.f1]] W' fun e W2 => e = .returned (.tuple #[.int .i64 r1, .int .i64 r2]) ∧ MR w W2 E' G vs gb vr va vm S) :
    Calls Try.prog 30 #[.pointer (some ⟨gb, 0, none⟩)] W fun e W' => e = .returned (.tuple #[]) ∧ ∃ v, MR w W' E G vs gb vr va v (finS S y (putV S y (r1, r2))) := by
  obtain ⟨gr, cr, rfl⟩ := h.mem.regForm (by omega)
  have hu52 := Try.underlying52
  have hu66 := Try.underlying66
  have hu36 := Try.underlying36
  have hu28 := Try.underlying28
  have hu50 := Try.underlying50
  have HM := Aside0.mk h
  clear h
  have n15 : y.f0 ≠ 15 := by omega
  have k11 : (y.f0 == (11 : Int)) = false := beq_eq_false_iff_ne.mpr (by omega)
  have k12 : (y.f0 == (12 : Int)) = false := beq_eq_false_iff_ne.mpr (by omega)
  have k13 : (y.f0 == (13 : Int)) = false := beq_eq_false_iff_ne.mpr (by omega)
  have k14 : (y.f0 == (14 : Int)) = false := beq_eq_false_iff_ne.mpr (by omega)
  have k15 : (y.f0 == (15 : Int)) = false := beq_eq_false_iff_ne.mpr (by omega)
  have k16 : (y.f0 == (16 : Int)) = false := beq_eq_false_iff_ne.mpr (by omega)
  have k19 : (y.f0 == (19 : Int)) = false := beq_eq_false_iff_ne.mpr (by omega)
  have k17 : (y.f0 == (17 : Int)) = false := beq_eq_false_iff_ne.mpr (by omega)
  have k18 : (y.f0 == (18 : Int)) = false := beq_eq_false_iff_ne.mpr (by omega)
  have k20 : (y.f0 == (20 : Int)) = false := beq_eq_false_iff_ne.mpr (by omega)
  have k21 : (y.f0 == (21 : Int)) = false := beq_eq_false_iff_ne.mpr (by omega)
  clear h0
  have pf1 := eq_true hf1.1
  have qf1 := eq_true hf1.2
  have zf1 : (y.f1.toNat < S.regs.length) = True := eq_true (by omega)
  have p1 := eq_true ha.1
  have q1 := eq_true ha.2
  have q2 : (S.at_.toNat < G.l0.length) = True := eq_true (by omega)
  go_enter Try.func30, Try.ntmps30
  go_upto_region 0 with (fail)
  obtain ⟨ad0, ee0, _⟩ := at_T52 ((hG.below HM.out.mem.hb).h0) S.at_ ha.1 ha.2
  have hS : ∀ w' : World, MR w w' E G vs gb (.slice (some ⟨gr, 0, none⟩) S.regs.length cr) va vm S → (w'.cell? ⟨gb, 0, none⟩ = some (.slice (some ad0) G.l0.length G.c0) ∧ w'.cell? ⟨gb, 10, none⟩ = some (.int .i64 S.at_) ∧ w'.cell? (ad0.add (S.at_.toNat * 8)) = some (.int .i64 y.f0) ∧ w'.cell? ⟨(ad0.add (S.at_.toNat * 8)).block, (ad0.add (S.at_.toNat * 8)).off + 1, none⟩ = some (.int .i64 y.f1) ∧ w'.cell? ⟨(ad0.add (S.at_.toNat * 8)).block, (ad0.add (S.at_.toNat * 8)).off + 2, none⟩ = some (.int .i64 y.f2) ∧ w'.cell? ⟨(ad0.add (S.at_.toNat * 8)).block, (ad0.add (S.at_.toNat * 8)).off + 3, none⟩ = some (.int .i64 y.f3) ∧ w'.cell? ⟨(ad0.add (S.at_.toNat * 8)).block, (ad0.add (S.at_.toNat * 8)).off + 4, none⟩ = some (.int .i64 y.f4) ∧ w'.cell? ⟨(ad0.add (S.at_.toNat * 8)).block, (ad0.add (S.at_.toNat * 8)).off + 5, none⟩ = some (.int .i64 y.f5) ∧ w'.cell? ⟨(ad0.add (S.at_.toNat * 8)).block, (ad0.add (S.at_.toNat * 8)).off + 6, none⟩ = some (.int .i64 y.f6.f0) ∧ w'.cell? ⟨(ad0.add (S.at_.toNat * 8)).block, (ad0.add (S.at_.toNat * 8)).off + 7, none⟩ = some (.int .i64 y.f6.f1)) := fun w' hm => ⟨(hm.cell 0).trans (by rw [← ee0]; rfl), hm.cell 10, hm.code hG ha ee0 hy⟩
  refine start_ (n := 13) (S := fun w' => w'.cell? ⟨gb, 0, none⟩ = some (.slice (some ad0) G.l0.length G.c0) ∧ w'.cell? ⟨gb, 10, none⟩ = some (.int .i64 S.at_) ∧ w'.cell? (ad0.add (S.at_.toNat * 8)) = some (.int .i64 y.f0) ∧ w'.cell? ⟨(ad0.add (S.at_.toNat * 8)).block, (ad0.add (S.at_.toNat * 8)).off + 1, none⟩ = some (.int .i64 y.f1) ∧ w'.cell? ⟨(ad0.add (S.at_.toNat * 8)).block, (ad0.add (S.at_.toNat * 8)).off + 2, none⟩ = some (.int .i64 y.f2) ∧ w'.cell? ⟨(ad0.add (S.at_.toNat * 8)).block, (ad0.add (S.at_.toNat * 8)).off + 3, none⟩ = some (.int .i64 y.f3) ∧ w'.cell? ⟨(ad0.add (S.at_.toNat * 8)).block, (ad0.add (S.at_.toNat * 8)).off + 4, none⟩ = some (.int .i64 y.f4) ∧ w'.cell? ⟨(ad0.add (S.at_.toNat * 8)).block, (ad0.add (S.at_.toNat * 8)).off + 5, none⟩ = some (.int .i64 y.f5) ∧ w'.cell? ⟨(ad0.add (S.at_.toNat * 8)).block, (ad0.add (S.at_.toNat * 8)).off + 6, none⟩ = some (.int .i64 y.f6.f0) ∧ w'.cell? ⟨(ad0.add (S.at_.toNat * 8)).block, (ad0.add (S.at_.toNat * 8)).off + 7, none⟩ = some (.int .i64 y.f6.f1)) (ds := []) #[false, false, false, false, false, false, false, false, false, false, false, false, false] (by kernel_rfl) rfl rfl (hS _ HM.out.drew) (fun hHeld => ?_)
  refine with_tabW N30tab N30bits (fun HT_ HW_ => ?_)
  replace HM := Aside0.mk HM.out.drew
  generalize World.drew _ = wa at HM hHeld ⊢
  refine pureQ 0 11 HT_.out ?_
  refine pureQ 1 12 HT_.out ?_
  refine pureQ 2 13 HT_.out ?_
  refine pureQ 3 14 HT_.out ?_
  refine takeQ 4 15 HT_.out HW_.out hHeld ?_
  refine pureQ 5 16 HT_.out ?_
  refine pureQ 6 17 HT_.out ?_
  refine pureQ 7 18 HT_.out ?_
  refine takeQ 8 19 HT_.out HW_.out hHeld ?_
  refine pureQ 9 20 HT_.out ?_
  refine takeQ 10 21 HT_.out HW_.out hHeld ?_
  refine oneQ 11 2 HT_.out (fun K hK => ?_)
  refine box_step ?hg (N := 2) ?hd (cs := #[.int .i64 0, .int .i64 0, .int .i64 0, .int .i64 0, .int .i64 0, .int .i64 0, .int .i64 0, .int .i64 0]) (t := 52) ?hr ?_; (case hd => rfl); (case hg => rfl); (case hr => first | (go_simp; done) | (go_simp; rfl))
  intro g hg w6' hbox hb
  have NG := Aside0.mk (HM.out.new hg)
  have NE := Aside0.mk (HM.out.newE hg)
  have GE : Aside0 (w.heap.size ≤ g) := ⟨by rw [hg]; exact HM.out.mem.hb.size⟩
  replace HM := Aside0.mk (HM.out.below hb)
  have BK := Aside0.mk hbox
  clear hb hbox hg
  refine hK.out _ _ (hS _ HM.out) (fun hHeld => ?_)
  clear hK K
  refine normQ (N := 2) ?_
  refine one_ (i := 12) (N := none) #[true, true, true, true, true, true, true, true, true, true, true, true, true] rfl rfl (one_of HT_.out (by kernel_rfl)) (by decide) (fun K hK => ?_)
  obtain ⟨w1, hwz⟩ : ∃ wz, wz = ((((((((w6').setCell ⟨g, 0, none⟩ (.int .i64 y.f0)).setCell ⟨g, 1, none⟩ (.int .i64 y.f1)).setCell ⟨g, 2, none⟩ (.int .i64 y.f2)).setCell ⟨g, 3, none⟩ (.int .i64 y.f3)).setCell ⟨g, 4, none⟩ (.int .i64 y.f4)).setCell ⟨g, 5, none⟩ (.int .i64 y.f5)).setCell ⟨g, 6, none⟩ (.int .i64 y.f6.f0)).setCell ⟨g, 7, none⟩ (.int .i64 y.f6.f1) := ⟨_, rfl⟩
  obtain ⟨z1, z2⟩ := set8g BK.out _ _ _ _ _ _ _ _ w1 hwz
  have hcf := hcf8 BK
  obtain ⟨_, _, _, _, _, _, _, _, _, _, _, _, _, _, _, _⟩ := hcf
  refine skip_ (w1 := w1) (by rfl) rfl (by rw [hwz]; go_simp) ?_
  clear hwz
  replace HM := Aside0.mk (HM.out.side BK.out (by decide) (by decide) NG.out NE.out GE.out z2)
  clear BK
  have BK := Aside0.mk z1
  clear z1 z2
  refine hK.out _ _ (hS _ HM.out) (fun hHeld => ?_)
  clear hK K
  refine done_ (done_of HT_.out (by kernel_rfl)) ?_
  clear hHeld HT_ HW_
  clear hS NE GE p1 q1 q2 ee0
  have b0 := hcz BK 0
  have b6 := hcz BK 6
  go_upto_region 3 with (fail)
  clear b0 b6
  have hcf := hcf8 BK
  obtain ⟨_, _, _, _, _, _, _, _, _, _, _, _, _, _, _, _⟩ := hcf
  go_upto_region 4 with (first | ((with_reducible refine gate_callee (f := 45) rfl ?_); refine goesL_ _ rfl rfl Try.func45 (by kernel_rfl) rfl #[.pointer (some ⟨gb, 0, none⟩), .agg #[.int .i64 y.f0, .int .i64 y.f1, .int .i64 y.f2, .int .i64 y.f3, .int .i64 y.f4, .int .i64 y.f5, .int .i64 y.f6.f0, .int .i64 y.f6.f1]] rfl (by (try simp only [List.map_toArray, List.map_cons, List.map_nil]); first | done | rfl) ?_; refine (hr _ _ ((mup HM).out.cons (pkA BK).out (by decide) (by decide) NG.out)).mono ?_; rintro e w2 ⟨rfl, hm⟩; clear HM BK; have BK := Aside0.mk hm.head; have HM := Aside0.mk hm.tail; clear hm; refine ⟨_, rfl, ?_⟩))
  by_cases c : r2 = 0
  · have cb : (r2 != 0) = false := bne_eq_false_iff_eq.mpr c
    have KC := Aside0.mk c
    clear c
    go_upto_region 6 with (fail)
    have b1 := hcz BK 1
    have c11 := HM.out.cell 11
    obtain ⟨xf1, rf1⟩ := HM.out.mem.reg y.f1.toNat (by omega)
    go_still_tail 8, (by kernel_rfl)
    change wpList _ _ _ _ _ w2.drew
    replace HM := Aside0.mk HM.out.drew
    go_upto_region 50 with (first | ((with_reducible refine gate_store (p := 46) (t := 2) rfl ?_); refine store_event (t := 2) (p := 46) (v := ?vf7) (w1 := World.setCell w2.drew ⟨gr, y.f1.toNat, none⟩ (.int .i64 (r1))) ?hg ?ho ?hn ?hr ?_; (case ho => rfl); (case hg => rfl); (case hn => rfl); (case hr => first | (go_simp; done) | (go_simp; rfl)); intro w9 hw; have hm := HM.out.setReg y.f1.toNat (r1); rw [← hw] at hm; clear HM hw; have HM := Aside0.mk hm; clear hm; have c10 := HM.out.cell 10; have f10 := HM.out.froz 10))
    go_wp2
    first | go_end0 | ((try simp only [Exit.inBlock, Exit.then]); refine bodyPost_ret (results_none rfl _ _ _) rfl ?_) | refine ⟨_, results_none rfl _ _ _, ?_⟩
    refine ⟨rfl, vm, ?_⟩
    rw [show putV S y (r1, r2) = _ from if_pos KC.out, fin_go (by exact he) n15]
    exact HM.out.set 10 _ rfl
  · have cb : (r2 != 0) = true := bne_iff_ne.mpr c
    have KC := Aside0.mk c
    clear c
    have hcf := hcf8 BK
    obtain ⟨_, _, _, _, _, _, _, _, _, _, _, _, _, _, _, _⟩ := hcf
    go_wp2_with (first | ((with_reducible refine gate_callee (f := 40) rfl ?_); refine goesL_ _ rfl rfl Try.func40 (by kernel_rfl) rfl #[.pointer (some ⟨gb, 0, none⟩), .agg #[.int .i64 y.f0, .int .i64 y.f1, .int .i64 y.f2, .int .i64 y.f3, .int .i64 y.f4, .int .i64 y.f5, .int .i64 y.f6.f0, .int .i64 y.f6.f1], .int .i64 r2] rfl (by (try simp only [List.map_toArray, List.map_cons, List.map_nil]); first | done | rfl) ?_; refine (rfail_calls (mup HM).out y r2).mono ?_; rintro e w' ⟨rfl, hm⟩; clear HM; have HM := Aside0.mk hm; clear hm; refine ⟨_, rfl, ?_⟩))
    first | go_end0 | ((try simp only [Exit.inBlock, Exit.then]); refine bodyPost_ret (results_none rfl _ _ _) rfl ?_) | refine ⟨_, results_none rfl _ _ _, ?_⟩
    refine ⟨rfl, vm, ?_⟩
    rw [show putV S y (r1, r2) = _ from if_neg KC.out, fin_stop (show (1 : Int) ≠ 0 by decide)]
    exact HM.out
set_option maxHeartbeats 8000000 in
set_option maxRecDepth 100000 in
theorem step_load {w W : World} {E : List (Nat × Array Value × Nat)} {G : Gr} {vs vr va vm : Value} {gb : Nat} {S : St} (h : MR w W E G vs gb vr va vm S) {y : S52} (hy : rd_T52 G.l0 S.at_ = y) (hG : G.Held w) (ha : 0 ≤ S.at_ ∧ S.at_ < (G.l0.length : Int)) (he : S.en = 0) (e : y.f0 = 11) (hf1 : 0 ≤ y.f1 ∧ y.f1 < (S.regs.length : Int)) (hf3 : 0 ≤ y.f3 ∧ y.f3 < (S.regs.length : Int)) (hf2 : 0 ≤ y.f2 ∧ y.f2 < (G.l6.length : Int)) (hal : S.arrs.length = G.l6.length) (hsz : 0 < (S.arrs.getD y.f2.toNat []).length) :
    Calls Try.prog 30 #[.pointer (some ⟨gb, 0, none⟩)] W fun e W' => e = .returned (.tuple #[]) ∧ ∃ v, MR w W' E G vs gb vr va v (finS S y (loadS S y)) := by
  obtain ⟨gr, cr, rfl⟩ := h.mem.regForm (by omega)
  obtain ⟨gA, ca, rfl⟩ := h.mem.arrForm (by omega)
  obtain ⟨l, hl⟩ : ∃ l, S.arrs.getD y.f2.toNat [] = l := ⟨_, rfl⟩
  have EL := Aside0.mk hl
  rw [hl] at hsz
  have HAL := Aside0.mk hal
  have pf2 := eq_true hf2.1
  have qf2 : (y.f2 < (S.arrs.length : Int)) = True := eq_true (by omega)
  have zf2 : (y.f2.toNat < S.arrs.length) = True := eq_true (by omega)
  clear hal
  have hu52 := Try.underlying52
  have hu66 := Try.underlying66
  have hu36 := Try.underlying36
  have hu28 := Try.underlying28
  have hu50 := Try.underlying50
  have HM := Aside0.mk h
  clear h
  have n15 : y.f0 ≠ 15 := by omega
  have k11 : (y.f0 == (11 : Int)) = true := by rw [e]; rfl
  clear e
  have pf1 := eq_true hf1.1
  have qf1 := eq_true hf1.2
  have zf1 : (y.f1.toNat < S.regs.length) = True := eq_true (by omega)
  have pf3 := eq_true hf3.1
  have qf3 := eq_true hf3.2
  have zf3 : (y.f3.toNat < S.regs.length) = True := eq_true (by omega)
  obtain ⟨k, hk⟩ : ∃ k, S.regs.getD y.f3.toNat 0 = k := ⟨_, rfl⟩
  have Ef3 := Aside0.mk hk
  clear hk
  by_cases kn : k < 0
  · have knb := eq_true kn
    have p1 := eq_true ha.1
    have q1 := eq_true ha.2
    have q2 : (S.at_.toNat < G.l0.length) = True := eq_true (by omega)
    go_enter Try.func30, Try.ntmps30
    go_upto_region 0 with (fail)
    obtain ⟨ad0, ee0, _⟩ := at_T52 ((hG.below HM.out.mem.hb).h0) S.at_ ha.1 ha.2
    have hS : ∀ w' : World, MR w w' E G vs gb (.slice (some ⟨gr, 0, none⟩) S.regs.length cr) (.slice (some ⟨gA, 0, none⟩) S.arrs.length ca) vm S → (w'.cell? ⟨gb, 0, none⟩ = some (.slice (some ad0) G.l0.length G.c0) ∧ w'.cell? ⟨gb, 10, none⟩ = some (.int .i64 S.at_) ∧ w'.cell? (ad0.add (S.at_.toNat * 8)) = some (.int .i64 y.f0) ∧ w'.cell? ⟨(ad0.add (S.at_.toNat * 8)).block, (ad0.add (S.at_.toNat * 8)).off + 1, none⟩ = some (.int .i64 y.f1) ∧ w'.cell? ⟨(ad0.add (S.at_.toNat * 8)).block, (ad0.add (S.at_.toNat * 8)).off + 2, none⟩ = some (.int .i64 y.f2) ∧ w'.cell? ⟨(ad0.add (S.at_.toNat * 8)).block, (ad0.add (S.at_.toNat * 8)).off + 3, none⟩ = some (.int .i64 y.f3) ∧ w'.cell? ⟨(ad0.add (S.at_.toNat * 8)).block, (ad0.add (S.at_.toNat * 8)).off + 4, none⟩ = some (.int .i64 y.f4) ∧ w'.cell? ⟨(ad0.add (S.at_.toNat * 8)).block, (ad0.add (S.at_.toNat * 8)).off + 5, none⟩ = some (.int .i64 y.f5) ∧ w'.cell? ⟨(ad0.add (S.at_.toNat * 8)).block, (ad0.add (S.at_.toNat * 8)).off + 6, none⟩ = some (.int .i64 y.f6.f0) ∧ w'.cell? ⟨(ad0.add (S.at_.toNat * 8)).block, (ad0.add (S.at_.toNat * 8)).off + 7, none⟩ = some (.int .i64 y.f6.f1)) := fun w' hm => ⟨(hm.cell 0).trans (by rw [← ee0]; rfl), hm.cell 10, hm.code hG ha ee0 hy⟩
    refine start_ (n := 13) (S := fun w' => w'.cell? ⟨gb, 0, none⟩ = some (.slice (some ad0) G.l0.length G.c0) ∧ w'.cell? ⟨gb, 10, none⟩ = some (.int .i64 S.at_) ∧ w'.cell? (ad0.add (S.at_.toNat * 8)) = some (.int .i64 y.f0) ∧ w'.cell? ⟨(ad0.add (S.at_.toNat * 8)).block, (ad0.add (S.at_.toNat * 8)).off + 1, none⟩ = some (.int .i64 y.f1) ∧ w'.cell? ⟨(ad0.add (S.at_.toNat * 8)).block, (ad0.add (S.at_.toNat * 8)).off + 2, none⟩ = some (.int .i64 y.f2) ∧ w'.cell? ⟨(ad0.add (S.at_.toNat * 8)).block, (ad0.add (S.at_.toNat * 8)).off + 3, none⟩ = some (.int .i64 y.f3) ∧ w'.cell? ⟨(ad0.add (S.at_.toNat * 8)).block, (ad0.add (S.at_.toNat * 8)).off + 4, none⟩ = some (.int .i64 y.f4) ∧ w'.cell? ⟨(ad0.add (S.at_.toNat * 8)).block, (ad0.add (S.at_.toNat * 8)).off + 5, none⟩ = some (.int .i64 y.f5) ∧ w'.cell? ⟨(ad0.add (S.at_.toNat * 8)).block, (ad0.add (S.at_.toNat * 8)).off + 6, none⟩ = some (.int .i64 y.f6.f0) ∧ w'.cell? ⟨(ad0.add (S.at_.toNat * 8)).block, (ad0.add (S.at_.toNat * 8)).off + 7, none⟩ = some (.int .i64 y.f6.f1)) (ds := []) #[false, false, false, false, false, false, false, false, false, false, false, false, false] (by kernel_rfl) rfl rfl (hS _ HM.out.drew) (fun hHeld => ?_)
    refine with_tabW N30tab N30bits (fun HT_ HW_ => ?_)
    replace HM := Aside0.mk HM.out.drew
    generalize World.drew _ = wa at HM hHeld ⊢
    refine pureQ 0 11 HT_.out ?_
    refine pureQ 1 12 HT_.out ?_
    refine pureQ 2 13 HT_.out ?_
    refine pureQ 3 14 HT_.out ?_
    refine takeQ 4 15 HT_.out HW_.out hHeld ?_
    refine pureQ 5 16 HT_.out ?_
    refine pureQ 6 17 HT_.out ?_
    refine pureQ 7 18 HT_.out ?_
    refine takeQ 8 19 HT_.out HW_.out hHeld ?_
    refine pureQ 9 20 HT_.out ?_
    refine takeQ 10 21 HT_.out HW_.out hHeld ?_
    refine oneQ 11 2 HT_.out (fun K hK => ?_)
    refine box_step ?hg (N := 2) ?hd (cs := #[.int .i64 0, .int .i64 0, .int .i64 0, .int .i64 0, .int .i64 0, .int .i64 0, .int .i64 0, .int .i64 0]) (t := 52) ?hr ?_; (case hd => rfl); (case hg => rfl); (case hr => first | (go_simp; done) | (go_simp; rfl))
    intro g hg w6' hbox hb
    have NG := Aside0.mk (HM.out.new hg)
    have NE := Aside0.mk (HM.out.newE hg)
    have GE : Aside0 (w.heap.size ≤ g) := ⟨by rw [hg]; exact HM.out.mem.hb.size⟩
    replace HM := Aside0.mk (HM.out.below hb)
    have BK := Aside0.mk hbox
    clear hb hbox hg
    refine hK.out _ _ (hS _ HM.out) (fun hHeld => ?_)
    clear hK K
    refine normQ (N := 2) ?_
    refine one_ (i := 12) (N := none) #[true, true, true, true, true, true, true, true, true, true, true, true, true] rfl rfl (one_of HT_.out (by kernel_rfl)) (by decide) (fun K hK => ?_)
    obtain ⟨w1, hwz⟩ : ∃ wz, wz = ((((((((w6').setCell ⟨g, 0, none⟩ (.int .i64 y.f0)).setCell ⟨g, 1, none⟩ (.int .i64 y.f1)).setCell ⟨g, 2, none⟩ (.int .i64 y.f2)).setCell ⟨g, 3, none⟩ (.int .i64 y.f3)).setCell ⟨g, 4, none⟩ (.int .i64 y.f4)).setCell ⟨g, 5, none⟩ (.int .i64 y.f5)).setCell ⟨g, 6, none⟩ (.int .i64 y.f6.f0)).setCell ⟨g, 7, none⟩ (.int .i64 y.f6.f1) := ⟨_, rfl⟩
    obtain ⟨z1, z2⟩ := set8g BK.out _ _ _ _ _ _ _ _ w1 hwz
    have hcf := hcf8 BK
    obtain ⟨_, _, _, _, _, _, _, _, _, _, _, _, _, _, _, _⟩ := hcf
    refine skip_ (w1 := w1) (by rfl) rfl (by rw [hwz]; go_simp) ?_
    clear hwz
    replace HM := Aside0.mk (HM.out.side BK.out (by decide) (by decide) NG.out NE.out GE.out z2)
    clear BK
    have BK := Aside0.mk z1
    clear z1 z2
    refine hK.out _ _ (hS _ HM.out) (fun hHeld => ?_)
    clear hK K
    refine done_ (done_of HT_.out (by kernel_rfl)) ?_
    clear hHeld HT_ HW_
    clear hS NE GE p1 q1 q2 ee0
    have b0 := hcz BK 0
    have b6 := hcz BK 6
    go_upto_region 8 with (fail)
    clear b0 b6
    have b3 := hcz BK 3
    have c11 := HM.out.cell 11
    obtain ⟨xf3, rf3⟩ := HM.out.mem.reg y.f3.toNat (by omega)
    rw [Ef3.out] at xf3
    go_quiet (fail)
    clear b3 c11 xf3 rf3
    go_upto_region 9 with (fail)
    replace HM := Aside0.mk (HM.out.drewN nq)
    replace BK := Aside0.mk (blk_drewN BK.out nq)
    generalize w1.drewN nq = w2 at HM BK ⊢
    clear nq
    have b2 := hcz BK 2
    have c18 := HM.out.cell 18
    obtain ⟨gi, ci, xa, _, _⟩ := HM.out.mem.arr y.f2.toNat (of_eq_true zf2) (by rw [EL.out]; omega)
    rw [EL.out] at xa
    have XA := Aside0.mk xa
    go_quiet (fail)
    clear b2 c18 xa
    go_upto_region 10 with (fail)
    replace HM := Aside0.mk (HM.out.drewN nq)
    replace BK := Aside0.mk (blk_drewN BK.out nq)
    replace XA := Aside0.mk (((pw_below_drewN (Below.refl _ _) nq).cell (World.block_lt_of_cell? _ _ XA.out)).trans XA.out)
    generalize w2.drewN nq = w3 at HM BK XA ⊢
    clear nq
    have hcf := hcf8 BK
    obtain ⟨_, _, _, _, _, _, _, _, _, _, _, _, _, _, _, _⟩ := hcf
    go_wp2_with (first | ((with_reducible refine gate_callee (f := 40) rfl ?_); refine goesL_ _ rfl rfl Try.func40 (by kernel_rfl) rfl #[.pointer (some ⟨gb, 0, none⟩), .agg #[.int .i64 y.f0, .int .i64 y.f1, .int .i64 y.f2, .int .i64 y.f3, .int .i64 y.f4, .int .i64 y.f5, .int .i64 y.f6.f0, .int .i64 y.f6.f1], .int .i64 4] rfl (by (try simp only [List.map_toArray, List.map_cons, List.map_nil]); first | done | rfl) ?_; refine (rfail_calls (mup HM).out y 4).mono ?_; rintro e w' ⟨rfl, hm⟩; clear HM; have HM := Aside0.mk hm; clear hm; refine ⟨_, rfl, ?_⟩))
    first | go_end0 | ((try simp only [Exit.inBlock, Exit.then]); refine bodyPost_ret (results_none rfl _ _ _) rfl ?_) | refine ⟨_, results_none rfl _ _ _, ?_⟩
    refine ⟨rfl, vm, ?_⟩
    rw [show loadS S y = if 0 ≤ k ∧ k < (l.length : Int) then { S with regs := S.regs.set y.f1.toNat (l.getD k.toNat 0) } else failS S y 4 from (by unfold loadS; rw [Ef3.out, EL.out]), if_neg (fun hh => by omega), fin_stop (show (1 : Int) ≠ 0 by decide)]
    exact HM.out
  · have knb := eq_false kn
    by_cases kl : k < (l.length : Int)
    · have klb : ((l.length : Int) ≤ k) = False := eq_false (by omega)
      have KK : Aside0 (0 ≤ k ∧ k < (l.length : Int)) := ⟨by omega⟩
      have p1 := eq_true ha.1
      have q1 := eq_true ha.2
      have q2 : (S.at_.toNat < G.l0.length) = True := eq_true (by omega)
      go_enter Try.func30, Try.ntmps30
      go_upto_region 0 with (fail)
      obtain ⟨ad0, ee0, _⟩ := at_T52 ((hG.below HM.out.mem.hb).h0) S.at_ ha.1 ha.2
      have hS : ∀ w' : World, MR w w' E G vs gb (.slice (some ⟨gr, 0, none⟩) S.regs.length cr) (.slice (some ⟨gA, 0, none⟩) S.arrs.length ca) vm S → (w'.cell? ⟨gb, 0, none⟩ = some (.slice (some ad0) G.l0.length G.c0) ∧ w'.cell? ⟨gb, 10, none⟩ = some (.int .i64 S.at_) ∧ w'.cell? (ad0.add (S.at_.toNat * 8)) = some (.int .i64 y.f0) ∧ w'.cell? ⟨(ad0.add (S.at_.toNat * 8)).block, (ad0.add (S.at_.toNat * 8)).off + 1, none⟩ = some (.int .i64 y.f1) ∧ w'.cell? ⟨(ad0.add (S.at_.toNat * 8)).block, (ad0.add (S.at_.toNat * 8)).off + 2, none⟩ = some (.int .i64 y.f2) ∧ w'.cell? ⟨(ad0.add (S.at_.toNat * 8)).block, (ad0.add (S.at_.toNat * 8)).off + 3, none⟩ = some (.int .i64 y.f3) ∧ w'.cell? ⟨(ad0.add (S.at_.toNat * 8)).block, (ad0.add (S.at_.toNat * 8)).off + 4, none⟩ = some (.int .i64 y.f4) ∧ w'.cell? ⟨(ad0.add (S.at_.toNat * 8)).block, (ad0.add (S.at_.toNat * 8)).off + 5, none⟩ = some (.int .i64 y.f5) ∧ w'.cell? ⟨(ad0.add (S.at_.toNat * 8)).block, (ad0.add (S.at_.toNat * 8)).off + 6, none⟩ = some (.int .i64 y.f6.f0) ∧ w'.cell? ⟨(ad0.add (S.at_.toNat * 8)).block, (ad0.add (S.at_.toNat * 8)).off + 7, none⟩ = some (.int .i64 y.f6.f1)) := fun w' hm => ⟨(hm.cell 0).trans (by rw [← ee0]; rfl), hm.cell 10, hm.code hG ha ee0 hy⟩
      refine start_ (n := 13) (S := fun w' => w'.cell? ⟨gb, 0, none⟩ = some (.slice (some ad0) G.l0.length G.c0) ∧ w'.cell? ⟨gb, 10, none⟩ = some (.int .i64 S.at_) ∧ w'.cell? (ad0.add (S.at_.toNat * 8)) = some (.int .i64 y.f0) ∧ w'.cell? ⟨(ad0.add (S.at_.toNat * 8)).block, (ad0.add (S.at_.toNat * 8)).off + 1, none⟩ = some (.int .i64 y.f1) ∧ w'.cell? ⟨(ad0.add (S.at_.toNat * 8)).block, (ad0.add (S.at_.toNat * 8)).off + 2, none⟩ = some (.int .i64 y.f2) ∧ w'.cell? ⟨(ad0.add (S.at_.toNat * 8)).block, (ad0.add (S.at_.toNat * 8)).off + 3, none⟩ = some (.int .i64 y.f3) ∧ w'.cell? ⟨(ad0.add (S.at_.toNat * 8)).block, (ad0.add (S.at_.toNat * 8)).off + 4, none⟩ = some (.int .i64 y.f4) ∧ w'.cell? ⟨(ad0.add (S.at_.toNat * 8)).block, (ad0.add (S.at_.toNat * 8)).off + 5, none⟩ = some (.int .i64 y.f5) ∧ w'.cell? ⟨(ad0.add (S.at_.toNat * 8)).block, (ad0.add (S.at_.toNat * 8)).off + 6, none⟩ = some (.int .i64 y.f6.f0) ∧ w'.cell? ⟨(ad0.add (S.at_.toNat * 8)).block, (ad0.add (S.at_.toNat * 8)).off + 7, none⟩ = some (.int .i64 y.f6.f1)) (ds := []) #[false, false, false, false, false, false, false, false, false, false, false, false, false] (by kernel_rfl) rfl rfl (hS _ HM.out.drew) (fun hHeld => ?_)
      refine with_tabW N30tab N30bits (fun HT_ HW_ => ?_)
      replace HM := Aside0.mk HM.out.drew
      generalize World.drew _ = wa at HM hHeld ⊢
      refine pureQ 0 11 HT_.out ?_
      refine pureQ 1 12 HT_.out ?_
      refine pureQ 2 13 HT_.out ?_
      refine pureQ 3 14 HT_.out ?_
      refine takeQ 4 15 HT_.out HW_.out hHeld ?_
      refine pureQ 5 16 HT_.out ?_
      refine pureQ 6 17 HT_.out ?_
      refine pureQ 7 18 HT_.out ?_
      refine takeQ 8 19 HT_.out HW_.out hHeld ?_
      refine pureQ 9 20 HT_.out ?_
      refine takeQ 10 21 HT_.out HW_.out hHeld ?_
      refine oneQ 11 2 HT_.out (fun K hK => ?_)
      refine box_step ?hg (N := 2) ?hd (cs := #[.int .i64 0, .int .i64 0, .int .i64 0, .int .i64 0, .int .i64 0, .int .i64 0, .int .i64 0, .int .i64 0]) (t := 52) ?hr ?_; (case hd => rfl); (case hg => rfl); (case hr => first | (go_simp; done) | (go_simp; rfl))
      intro g hg w6' hbox hb
      have NG := Aside0.mk (HM.out.new hg)
      have NE := Aside0.mk (HM.out.newE hg)
      have GE : Aside0 (w.heap.size ≤ g) := ⟨by rw [hg]; exact HM.out.mem.hb.size⟩
      replace HM := Aside0.mk (HM.out.below hb)
      have BK := Aside0.mk hbox
      clear hb hbox hg
      refine hK.out _ _ (hS _ HM.out) (fun hHeld => ?_)
      clear hK K
      refine normQ (N := 2) ?_
      refine one_ (i := 12) (N := none) #[true, true, true, true, true, true, true, true, true, true, true, true, true] rfl rfl (one_of HT_.out (by kernel_rfl)) (by decide) (fun K hK => ?_)
      obtain ⟨w1, hwz⟩ : ∃ wz, wz = ((((((((w6').setCell ⟨g, 0, none⟩ (.int .i64 y.f0)).setCell ⟨g, 1, none⟩ (.int .i64 y.f1)).setCell ⟨g, 2, none⟩ (.int .i64 y.f2)).setCell ⟨g, 3, none⟩ (.int .i64 y.f3)).setCell ⟨g, 4, none⟩ (.int .i64 y.f4)).setCell ⟨g, 5, none⟩ (.int .i64 y.f5)).setCell ⟨g, 6, none⟩ (.int .i64 y.f6.f0)).setCell ⟨g, 7, none⟩ (.int .i64 y.f6.f1) := ⟨_, rfl⟩
      obtain ⟨z1, z2⟩ := set8g BK.out _ _ _ _ _ _ _ _ w1 hwz
      have hcf := hcf8 BK
      obtain ⟨_, _, _, _, _, _, _, _, _, _, _, _, _, _, _, _⟩ := hcf
      refine skip_ (w1 := w1) (by rfl) rfl (by rw [hwz]; go_simp) ?_
      clear hwz
      replace HM := Aside0.mk (HM.out.side BK.out (by decide) (by decide) NG.out NE.out GE.out z2)
      clear BK
      have BK := Aside0.mk z1
      clear z1 z2
      refine hK.out _ _ (hS _ HM.out) (fun hHeld => ?_)
      clear hK K
      refine done_ (done_of HT_.out (by kernel_rfl)) ?_
      clear hHeld HT_ HW_
      clear hS NE GE p1 q1 q2 ee0
      have b0 := hcz BK 0
      have b6 := hcz BK 6
      go_upto_region 8 with (fail)
      clear b0 b6
      have b3 := hcz BK 3
      have c11 := HM.out.cell 11
      obtain ⟨xf3, rf3⟩ := HM.out.mem.reg y.f3.toNat (by omega)
      rw [Ef3.out] at xf3
      go_quiet (fail)
      clear b3 c11 xf3 rf3
      go_upto_region 9 with (fail)
      replace HM := Aside0.mk (HM.out.drewN nq)
      replace BK := Aside0.mk (blk_drewN BK.out nq)
      generalize w1.drewN nq = w2 at HM BK ⊢
      clear nq
      have b2 := hcz BK 2
      have c18 := HM.out.cell 18
      obtain ⟨gi, ci, xa, _, _⟩ := HM.out.mem.arr y.f2.toNat (of_eq_true zf2) (by rw [EL.out]; omega)
      rw [EL.out] at xa
      have XA := Aside0.mk xa
      go_quiet (fail)
      clear b2 c18 xa
      go_upto_region 10 with (fail)
      replace HM := Aside0.mk (HM.out.drewN nq)
      replace BK := Aside0.mk (blk_drewN BK.out nq)
      replace XA := Aside0.mk (((pw_below_drewN (Below.refl _ _) nq).cell (World.block_lt_of_cell? _ _ XA.out)).trans XA.out)
      generalize w2.drewN nq = w3 at HM BK XA ⊢
      clear nq
      go_upto_region 12 with (fail)
      obtain ⟨e1, e2, _, _⟩ := HM.out.mem.at_ y.f2.toNat (of_eq_true zf2) XA.out k.toNat (by rw [EL.out]; have := KK.out; omega)
      rw [EL.out] at e1
      obtain ⟨x, hx⟩ : ∃ x, l.getD k.toNat 0 = x := ⟨_, rfl⟩
      rw [hx] at e1
      have EX := Aside0.mk hx
      clear hx
      have kp : ((0 : Int) ≤ k) = True := eq_true KK.out.1
      have kq : (k < (l.length : Int)) = True := eq_true KK.out.2
      have kz : (k.toNat < l.length) = True := eq_true (by have := KK.out; omega)
      have b1 := hcz BK 1
      have c11 := HM.out.cell 11
      obtain ⟨xf1, rf1⟩ := HM.out.mem.reg y.f1.toNat (by omega)
      go_still_tail 11, (by kernel_rfl)
      change wpList _ _ _ _ _ w3.drew
      replace HM := Aside0.mk HM.out.drew
      go_upto_region 50 with (first | ((with_reducible refine gate_store (p := 87) (t := 2) rfl ?_); refine store_event (t := 2) (p := 87) (v := ?vf7) (w1 := World.setCell w3.drew ⟨gr, y.f1.toNat, none⟩ (.int .i64 (x))) ?hg ?ho ?hn ?hr ?_; (case ho => rfl); (case hg => rfl); (case hn => rfl); (case hr => first | (go_simp; done) | (go_simp; rfl)); intro w9 hw; have hm := HM.out.setReg y.f1.toNat (x); rw [← hw] at hm; clear HM hw; have HM := Aside0.mk hm; clear hm; have c10 := HM.out.cell 10; have f10 := HM.out.froz 10))
      go_wp2
      first | go_end0 | ((try simp only [Exit.inBlock, Exit.then]); refine bodyPost_ret (results_none rfl _ _ _) rfl ?_) | refine ⟨_, results_none rfl _ _ _, ?_⟩
      refine ⟨rfl, vm, ?_⟩
      rw [show loadS S y = if 0 ≤ k ∧ k < (l.length : Int) then { S with regs := S.regs.set y.f1.toNat (l.getD k.toNat 0) } else failS S y 4 from (by unfold loadS; rw [Ef3.out, EL.out]), if_pos KK.out, EX.out, fin_go (by exact he) n15]
      exact HM.out.set 10 _ rfl
    · have klb : ((l.length : Int) ≤ k) = True := eq_true (by omega)
      have p1 := eq_true ha.1
      have q1 := eq_true ha.2
      have q2 : (S.at_.toNat < G.l0.length) = True := eq_true (by omega)
      go_enter Try.func30, Try.ntmps30
      go_upto_region 0 with (fail)
      obtain ⟨ad0, ee0, _⟩ := at_T52 ((hG.below HM.out.mem.hb).h0) S.at_ ha.1 ha.2
      have hS : ∀ w' : World, MR w w' E G vs gb (.slice (some ⟨gr, 0, none⟩) S.regs.length cr) (.slice (some ⟨gA, 0, none⟩) S.arrs.length ca) vm S → (w'.cell? ⟨gb, 0, none⟩ = some (.slice (some ad0) G.l0.length G.c0) ∧ w'.cell? ⟨gb, 10, none⟩ = some (.int .i64 S.at_) ∧ w'.cell? (ad0.add (S.at_.toNat * 8)) = some (.int .i64 y.f0) ∧ w'.cell? ⟨(ad0.add (S.at_.toNat * 8)).block, (ad0.add (S.at_.toNat * 8)).off + 1, none⟩ = some (.int .i64 y.f1) ∧ w'.cell? ⟨(ad0.add (S.at_.toNat * 8)).block, (ad0.add (S.at_.toNat * 8)).off + 2, none⟩ = some (.int .i64 y.f2) ∧ w'.cell? ⟨(ad0.add (S.at_.toNat * 8)).block, (ad0.add (S.at_.toNat * 8)).off + 3, none⟩ = some (.int .i64 y.f3) ∧ w'.cell? ⟨(ad0.add (S.at_.toNat * 8)).block, (ad0.add (S.at_.toNat * 8)).off + 4, none⟩ = some (.int .i64 y.f4) ∧ w'.cell? ⟨(ad0.add (S.at_.toNat * 8)).block, (ad0.add (S.at_.toNat * 8)).off + 5, none⟩ = some (.int .i64 y.f5) ∧ w'.cell? ⟨(ad0.add (S.at_.toNat * 8)).block, (ad0.add (S.at_.toNat * 8)).off + 6, none⟩ = some (.int .i64 y.f6.f0) ∧ w'.cell? ⟨(ad0.add (S.at_.toNat * 8)).block, (ad0.add (S.at_.toNat * 8)).off + 7, none⟩ = some (.int .i64 y.f6.f1)) := fun w' hm => ⟨(hm.cell 0).trans (by rw [← ee0]; rfl), hm.cell 10, hm.code hG ha ee0 hy⟩
      refine start_ (n := 13) (S := fun w' => w'.cell? ⟨gb, 0, none⟩ = some (.slice (some ad0) G.l0.length G.c0) ∧ w'.cell? ⟨gb, 10, none⟩ = some (.int .i64 S.at_) ∧ w'.cell? (ad0.add (S.at_.toNat * 8)) = some (.int .i64 y.f0) ∧ w'.cell? ⟨(ad0.add (S.at_.toNat * 8)).block, (ad0.add (S.at_.toNat * 8)).off + 1, none⟩ = some (.int .i64 y.f1) ∧ w'.cell? ⟨(ad0.add (S.at_.toNat * 8)).block, (ad0.add (S.at_.toNat * 8)).off + 2, none⟩ = some (.int .i64 y.f2) ∧ w'.cell? ⟨(ad0.add (S.at_.toNat * 8)).block, (ad0.add (S.at_.toNat * 8)).off + 3, none⟩ = some (.int .i64 y.f3) ∧ w'.cell? ⟨(ad0.add (S.at_.toNat * 8)).block, (ad0.add (S.at_.toNat * 8)).off + 4, none⟩ = some (.int .i64 y.f4) ∧ w'.cell? ⟨(ad0.add (S.at_.toNat * 8)).block, (ad0.add (S.at_.toNat * 8)).off + 5, none⟩ = some (.int .i64 y.f5) ∧ w'.cell? ⟨(ad0.add (S.at_.toNat * 8)).block, (ad0.add (S.at_.toNat * 8)).off + 6, none⟩ = some (.int .i64 y.f6.f0) ∧ w'.cell? ⟨(ad0.add (S.at_.toNat * 8)).block, (ad0.add (S.at_.toNat * 8)).off + 7, none⟩ = some (.int .i64 y.f6.f1)) (ds := []) #[false, false, false, false, false, false, false, false, false, false, false, false, false] (by kernel_rfl) rfl rfl (hS _ HM.out.drew) (fun hHeld => ?_)
      refine with_tabW N30tab N30bits (fun HT_ HW_ => ?_)
      replace HM := Aside0.mk HM.out.drew
      generalize World.drew _ = wa at HM hHeld ⊢
      refine pureQ 0 11 HT_.out ?_
      refine pureQ 1 12 HT_.out ?_
      refine pureQ 2 13 HT_.out ?_
      refine pureQ 3 14 HT_.out ?_
      refine takeQ 4 15 HT_.out HW_.out hHeld ?_
      refine pureQ 5 16 HT_.out ?_
      refine pureQ 6 17 HT_.out ?_
      refine pureQ 7 18 HT_.out ?_
      refine takeQ 8 19 HT_.out HW_.out hHeld ?_
      refine pureQ 9 20 HT_.out ?_
      refine takeQ 10 21 HT_.out HW_.out hHeld ?_
      refine oneQ 11 2 HT_.out (fun K hK => ?_)
      refine box_step ?hg (N := 2) ?hd (cs := #[.int .i64 0, .int .i64 0, .int .i64 0, .int .i64 0, .int .i64 0, .int .i64 0, .int .i64 0, .int .i64 0]) (t := 52) ?hr ?_; (case hd => rfl); (case hg => rfl); (case hr => first | (go_simp; done) | (go_simp; rfl))
      intro g hg w6' hbox hb
      have NG := Aside0.mk (HM.out.new hg)
      have NE := Aside0.mk (HM.out.newE hg)
      have GE : Aside0 (w.heap.size ≤ g) := ⟨by rw [hg]; exact HM.out.mem.hb.size⟩
      replace HM := Aside0.mk (HM.out.below hb)
      have BK := Aside0.mk hbox
      clear hb hbox hg
      refine hK.out _ _ (hS _ HM.out) (fun hHeld => ?_)
      clear hK K
      refine normQ (N := 2) ?_
      refine one_ (i := 12) (N := none) #[true, true, true, true, true, true, true, true, true, true, true, true, true] rfl rfl (one_of HT_.out (by kernel_rfl)) (by decide) (fun K hK => ?_)
      obtain ⟨w1, hwz⟩ : ∃ wz, wz = ((((((((w6').setCell ⟨g, 0, none⟩ (.int .i64 y.f0)).setCell ⟨g, 1, none⟩ (.int .i64 y.f1)).setCell ⟨g, 2, none⟩ (.int .i64 y.f2)).setCell ⟨g, 3, none⟩ (.int .i64 y.f3)).setCell ⟨g, 4, none⟩ (.int .i64 y.f4)).setCell ⟨g, 5, none⟩ (.int .i64 y.f5)).setCell ⟨g, 6, none⟩ (.int .i64 y.f6.f0)).setCell ⟨g, 7, none⟩ (.int .i64 y.f6.f1) := ⟨_, rfl⟩
      obtain ⟨z1, z2⟩ := set8g BK.out _ _ _ _ _ _ _ _ w1 hwz
      have hcf := hcf8 BK
      obtain ⟨_, _, _, _, _, _, _, _, _, _, _, _, _, _, _, _⟩ := hcf
      refine skip_ (w1 := w1) (by rfl) rfl (by rw [hwz]; go_simp) ?_
      clear hwz
      replace HM := Aside0.mk (HM.out.side BK.out (by decide) (by decide) NG.out NE.out GE.out z2)
      clear BK
      have BK := Aside0.mk z1
      clear z1 z2
      refine hK.out _ _ (hS _ HM.out) (fun hHeld => ?_)
      clear hK K
      refine done_ (done_of HT_.out (by kernel_rfl)) ?_
      clear hHeld HT_ HW_
      clear hS NE GE p1 q1 q2 ee0
      have b0 := hcz BK 0
      have b6 := hcz BK 6
      go_upto_region 8 with (fail)
      clear b0 b6
      have b3 := hcz BK 3
      have c11 := HM.out.cell 11
      obtain ⟨xf3, rf3⟩ := HM.out.mem.reg y.f3.toNat (by omega)
      rw [Ef3.out] at xf3
      go_quiet (fail)
      clear b3 c11 xf3 rf3
      go_upto_region 9 with (fail)
      replace HM := Aside0.mk (HM.out.drewN nq)
      replace BK := Aside0.mk (blk_drewN BK.out nq)
      generalize w1.drewN nq = w2 at HM BK ⊢
      clear nq
      have b2 := hcz BK 2
      have c18 := HM.out.cell 18
      obtain ⟨gi, ci, xa, _, _⟩ := HM.out.mem.arr y.f2.toNat (of_eq_true zf2) (by rw [EL.out]; omega)
      rw [EL.out] at xa
      have XA := Aside0.mk xa
      go_quiet (fail)
      clear b2 c18 xa
      go_upto_region 10 with (fail)
      replace HM := Aside0.mk (HM.out.drewN nq)
      replace BK := Aside0.mk (blk_drewN BK.out nq)
      replace XA := Aside0.mk (((pw_below_drewN (Below.refl _ _) nq).cell (World.block_lt_of_cell? _ _ XA.out)).trans XA.out)
      generalize w2.drewN nq = w3 at HM BK XA ⊢
      clear nq
      have hcf := hcf8 BK
      obtain ⟨_, _, _, _, _, _, _, _, _, _, _, _, _, _, _, _⟩ := hcf
      go_wp2_with (first | ((with_reducible refine gate_callee (f := 40) rfl ?_); refine goesL_ _ rfl rfl Try.func40 (by kernel_rfl) rfl #[.pointer (some ⟨gb, 0, none⟩), .agg #[.int .i64 y.f0, .int .i64 y.f1, .int .i64 y.f2, .int .i64 y.f3, .int .i64 y.f4, .int .i64 y.f5, .int .i64 y.f6.f0, .int .i64 y.f6.f1], .int .i64 4] rfl (by (try simp only [List.map_toArray, List.map_cons, List.map_nil]); first | done | rfl) ?_; refine (rfail_calls (mup HM).out y 4).mono ?_; rintro e w' ⟨rfl, hm⟩; clear HM; have HM := Aside0.mk hm; clear hm; refine ⟨_, rfl, ?_⟩))
      first | go_end0 | ((try simp only [Exit.inBlock, Exit.then]); refine bodyPost_ret (results_none rfl _ _ _) rfl ?_) | refine ⟨_, results_none rfl _ _ _, ?_⟩
      refine ⟨rfl, vm, ?_⟩
      rw [show loadS S y = if 0 ≤ k ∧ k < (l.length : Int) then { S with regs := S.regs.set y.f1.toNat (l.getD k.toNat 0) } else failS S y 4 from (by unfold loadS; rw [Ef3.out, EL.out]), if_neg (fun hh => by omega), fin_stop (show (1 : Int) ≠ 0 by decide)]
      exact HM.out
set_option maxHeartbeats 8000000 in
set_option maxRecDepth 100000 in
theorem step_on {w W : World} {E : List (Nat × Array Value × Nat)} {G : Gr} {vs vr va vm : Value} {gb : Nat} {S : St} (h : MR w W E G vs gb vr va vm S) {y : S52} (hy : rd_T52 G.l0 S.at_ = y) (hG : G.Held w) (ha : 0 ≤ S.at_ ∧ S.at_ < (G.l0.length : Int)) (he : S.en = 0) (e : y.f0 = 16 ∨ y.f0 = 19) :
    Calls Try.prog 30 #[.pointer (some ⟨gb, 0, none⟩)] W fun e W' => e = .returned (.tuple #[]) ∧ ∃ v, MR w W' E G vs gb vr va v (finS S y (S)) := by
  have hu52 := Try.underlying52
  have hu66 := Try.underlying66
  have hu36 := Try.underlying36
  have hu28 := Try.underlying28
  have hu50 := Try.underlying50
  have HM := Aside0.mk h
  clear h
  have n15 : y.f0 ≠ 15 := by omega
  rcases e with e | e
  · have k11 : (y.f0 == (11 : Int)) = false := by rw [e]; rfl
    have k12 : (y.f0 == (12 : Int)) = false := by rw [e]; rfl
    have k13 : (y.f0 == (13 : Int)) = false := by rw [e]; rfl
    have k14 : (y.f0 == (14 : Int)) = false := by rw [e]; rfl
    have k15 : (y.f0 == (15 : Int)) = false := by rw [e]; rfl
    have k16 : (y.f0 == (16 : Int)) = true := by rw [e]; rfl
    clear e
    have p1 := eq_true ha.1
    have q1 := eq_true ha.2
    have q2 : (S.at_.toNat < G.l0.length) = True := eq_true (by omega)
    go_enter Try.func30, Try.ntmps30
    go_upto_region 0 with (fail)
    obtain ⟨ad0, ee0, _⟩ := at_T52 ((hG.below HM.out.mem.hb).h0) S.at_ ha.1 ha.2
    have hS : ∀ w' : World, MR w w' E G vs gb vr va vm S → (w'.cell? ⟨gb, 0, none⟩ = some (.slice (some ad0) G.l0.length G.c0) ∧ w'.cell? ⟨gb, 10, none⟩ = some (.int .i64 S.at_) ∧ w'.cell? (ad0.add (S.at_.toNat * 8)) = some (.int .i64 y.f0) ∧ w'.cell? ⟨(ad0.add (S.at_.toNat * 8)).block, (ad0.add (S.at_.toNat * 8)).off + 1, none⟩ = some (.int .i64 y.f1) ∧ w'.cell? ⟨(ad0.add (S.at_.toNat * 8)).block, (ad0.add (S.at_.toNat * 8)).off + 2, none⟩ = some (.int .i64 y.f2) ∧ w'.cell? ⟨(ad0.add (S.at_.toNat * 8)).block, (ad0.add (S.at_.toNat * 8)).off + 3, none⟩ = some (.int .i64 y.f3) ∧ w'.cell? ⟨(ad0.add (S.at_.toNat * 8)).block, (ad0.add (S.at_.toNat * 8)).off + 4, none⟩ = some (.int .i64 y.f4) ∧ w'.cell? ⟨(ad0.add (S.at_.toNat * 8)).block, (ad0.add (S.at_.toNat * 8)).off + 5, none⟩ = some (.int .i64 y.f5) ∧ w'.cell? ⟨(ad0.add (S.at_.toNat * 8)).block, (ad0.add (S.at_.toNat * 8)).off + 6, none⟩ = some (.int .i64 y.f6.f0) ∧ w'.cell? ⟨(ad0.add (S.at_.toNat * 8)).block, (ad0.add (S.at_.toNat * 8)).off + 7, none⟩ = some (.int .i64 y.f6.f1)) := fun w' hm => ⟨(hm.cell 0).trans (by rw [← ee0]; rfl), hm.cell 10, hm.code hG ha ee0 hy⟩
    refine start_ (n := 13) (S := fun w' => w'.cell? ⟨gb, 0, none⟩ = some (.slice (some ad0) G.l0.length G.c0) ∧ w'.cell? ⟨gb, 10, none⟩ = some (.int .i64 S.at_) ∧ w'.cell? (ad0.add (S.at_.toNat * 8)) = some (.int .i64 y.f0) ∧ w'.cell? ⟨(ad0.add (S.at_.toNat * 8)).block, (ad0.add (S.at_.toNat * 8)).off + 1, none⟩ = some (.int .i64 y.f1) ∧ w'.cell? ⟨(ad0.add (S.at_.toNat * 8)).block, (ad0.add (S.at_.toNat * 8)).off + 2, none⟩ = some (.int .i64 y.f2) ∧ w'.cell? ⟨(ad0.add (S.at_.toNat * 8)).block, (ad0.add (S.at_.toNat * 8)).off + 3, none⟩ = some (.int .i64 y.f3) ∧ w'.cell? ⟨(ad0.add (S.at_.toNat * 8)).block, (ad0.add (S.at_.toNat * 8)).off + 4, none⟩ = some (.int .i64 y.f4) ∧ w'.cell? ⟨(ad0.add (S.at_.toNat * 8)).block, (ad0.add (S.at_.toNat * 8)).off + 5, none⟩ = some (.int .i64 y.f5) ∧ w'.cell? ⟨(ad0.add (S.at_.toNat * 8)).block, (ad0.add (S.at_.toNat * 8)).off + 6, none⟩ = some (.int .i64 y.f6.f0) ∧ w'.cell? ⟨(ad0.add (S.at_.toNat * 8)).block, (ad0.add (S.at_.toNat * 8)).off + 7, none⟩ = some (.int .i64 y.f6.f1)) (ds := []) #[false, false, false, false, false, false, false, false, false, false, false, false, false] (by kernel_rfl) rfl rfl (hS _ HM.out.drew) (fun hHeld => ?_)
    refine with_tabW N30tab N30bits (fun HT_ HW_ => ?_)
    replace HM := Aside0.mk HM.out.drew
    generalize World.drew _ = wa at HM hHeld ⊢
    refine pureQ 0 11 HT_.out ?_
    refine pureQ 1 12 HT_.out ?_
    refine pureQ 2 13 HT_.out ?_
    refine pureQ 3 14 HT_.out ?_
    refine takeQ 4 15 HT_.out HW_.out hHeld ?_
    refine pureQ 5 16 HT_.out ?_
    refine pureQ 6 17 HT_.out ?_
    refine pureQ 7 18 HT_.out ?_
    refine takeQ 8 19 HT_.out HW_.out hHeld ?_
    refine pureQ 9 20 HT_.out ?_
    refine takeQ 10 21 HT_.out HW_.out hHeld ?_
    refine oneQ 11 2 HT_.out (fun K hK => ?_)
    refine box_step ?hg (N := 2) ?hd (cs := #[.int .i64 0, .int .i64 0, .int .i64 0, .int .i64 0, .int .i64 0, .int .i64 0, .int .i64 0, .int .i64 0]) (t := 52) ?hr ?_; (case hd => rfl); (case hg => rfl); (case hr => first | (go_simp; done) | (go_simp; rfl))
    intro g hg w6' hbox hb
    have NG := Aside0.mk (HM.out.new hg)
    have NE := Aside0.mk (HM.out.newE hg)
    have GE : Aside0 (w.heap.size ≤ g) := ⟨by rw [hg]; exact HM.out.mem.hb.size⟩
    replace HM := Aside0.mk (HM.out.below hb)
    have BK := Aside0.mk hbox
    clear hb hbox hg
    refine hK.out _ _ (hS _ HM.out) (fun hHeld => ?_)
    clear hK K
    refine normQ (N := 2) ?_
    refine one_ (i := 12) (N := none) #[true, true, true, true, true, true, true, true, true, true, true, true, true] rfl rfl (one_of HT_.out (by kernel_rfl)) (by decide) (fun K hK => ?_)
    obtain ⟨w1, hwz⟩ : ∃ wz, wz = ((((((((w6').setCell ⟨g, 0, none⟩ (.int .i64 y.f0)).setCell ⟨g, 1, none⟩ (.int .i64 y.f1)).setCell ⟨g, 2, none⟩ (.int .i64 y.f2)).setCell ⟨g, 3, none⟩ (.int .i64 y.f3)).setCell ⟨g, 4, none⟩ (.int .i64 y.f4)).setCell ⟨g, 5, none⟩ (.int .i64 y.f5)).setCell ⟨g, 6, none⟩ (.int .i64 y.f6.f0)).setCell ⟨g, 7, none⟩ (.int .i64 y.f6.f1) := ⟨_, rfl⟩
    obtain ⟨z1, z2⟩ := set8g BK.out _ _ _ _ _ _ _ _ w1 hwz
    have hcf := hcf8 BK
    obtain ⟨_, _, _, _, _, _, _, _, _, _, _, _, _, _, _, _⟩ := hcf
    refine skip_ (w1 := w1) (by rfl) rfl (by rw [hwz]; go_simp) ?_
    clear hwz
    replace HM := Aside0.mk (HM.out.side BK.out (by decide) (by decide) NG.out NE.out GE.out z2)
    clear BK
    have BK := Aside0.mk z1
    clear z1 z2
    refine hK.out _ _ (hS _ HM.out) (fun hHeld => ?_)
    clear hK K
    refine done_ (done_of HT_.out (by kernel_rfl)) ?_
    clear hHeld HT_ HW_
    clear hS NE GE p1 q1 q2 ee0
    have b0 := hcz BK 0
    have b6 := hcz BK 6
    have c10 := HM.out.cell 10
    have f10 := HM.out.froz 10
    go_wp2
    first | go_end0 | ((try simp only [Exit.inBlock, Exit.then]); refine bodyPost_ret (results_none rfl _ _ _) rfl ?_) | refine ⟨_, results_none rfl _ _ _, ?_⟩
    refine ⟨rfl, vm, ?_⟩
    rw [fin_go (by exact he) n15]
    exact HM.out.set 10 _ rfl
  · have k11 : (y.f0 == (11 : Int)) = false := by rw [e]; rfl
    have k12 : (y.f0 == (12 : Int)) = false := by rw [e]; rfl
    have k13 : (y.f0 == (13 : Int)) = false := by rw [e]; rfl
    have k14 : (y.f0 == (14 : Int)) = false := by rw [e]; rfl
    have k15 : (y.f0 == (15 : Int)) = false := by rw [e]; rfl
    have k16 : (y.f0 == (16 : Int)) = false := by rw [e]; rfl
    have k19 : (y.f0 == (19 : Int)) = true := by rw [e]; rfl
    clear e
    have p1 := eq_true ha.1
    have q1 := eq_true ha.2
    have q2 : (S.at_.toNat < G.l0.length) = True := eq_true (by omega)
    go_enter Try.func30, Try.ntmps30
    go_upto_region 0 with (fail)
    obtain ⟨ad0, ee0, _⟩ := at_T52 ((hG.below HM.out.mem.hb).h0) S.at_ ha.1 ha.2
    have hS : ∀ w' : World, MR w w' E G vs gb vr va vm S → (w'.cell? ⟨gb, 0, none⟩ = some (.slice (some ad0) G.l0.length G.c0) ∧ w'.cell? ⟨gb, 10, none⟩ = some (.int .i64 S.at_) ∧ w'.cell? (ad0.add (S.at_.toNat * 8)) = some (.int .i64 y.f0) ∧ w'.cell? ⟨(ad0.add (S.at_.toNat * 8)).block, (ad0.add (S.at_.toNat * 8)).off + 1, none⟩ = some (.int .i64 y.f1) ∧ w'.cell? ⟨(ad0.add (S.at_.toNat * 8)).block, (ad0.add (S.at_.toNat * 8)).off + 2, none⟩ = some (.int .i64 y.f2) ∧ w'.cell? ⟨(ad0.add (S.at_.toNat * 8)).block, (ad0.add (S.at_.toNat * 8)).off + 3, none⟩ = some (.int .i64 y.f3) ∧ w'.cell? ⟨(ad0.add (S.at_.toNat * 8)).block, (ad0.add (S.at_.toNat * 8)).off + 4, none⟩ = some (.int .i64 y.f4) ∧ w'.cell? ⟨(ad0.add (S.at_.toNat * 8)).block, (ad0.add (S.at_.toNat * 8)).off + 5, none⟩ = some (.int .i64 y.f5) ∧ w'.cell? ⟨(ad0.add (S.at_.toNat * 8)).block, (ad0.add (S.at_.toNat * 8)).off + 6, none⟩ = some (.int .i64 y.f6.f0) ∧ w'.cell? ⟨(ad0.add (S.at_.toNat * 8)).block, (ad0.add (S.at_.toNat * 8)).off + 7, none⟩ = some (.int .i64 y.f6.f1)) := fun w' hm => ⟨(hm.cell 0).trans (by rw [← ee0]; rfl), hm.cell 10, hm.code hG ha ee0 hy⟩
    refine start_ (n := 13) (S := fun w' => w'.cell? ⟨gb, 0, none⟩ = some (.slice (some ad0) G.l0.length G.c0) ∧ w'.cell? ⟨gb, 10, none⟩ = some (.int .i64 S.at_) ∧ w'.cell? (ad0.add (S.at_.toNat * 8)) = some (.int .i64 y.f0) ∧ w'.cell? ⟨(ad0.add (S.at_.toNat * 8)).block, (ad0.add (S.at_.toNat * 8)).off + 1, none⟩ = some (.int .i64 y.f1) ∧ w'.cell? ⟨(ad0.add (S.at_.toNat * 8)).block, (ad0.add (S.at_.toNat * 8)).off + 2, none⟩ = some (.int .i64 y.f2) ∧ w'.cell? ⟨(ad0.add (S.at_.toNat * 8)).block, (ad0.add (S.at_.toNat * 8)).off + 3, none⟩ = some (.int .i64 y.f3) ∧ w'.cell? ⟨(ad0.add (S.at_.toNat * 8)).block, (ad0.add (S.at_.toNat * 8)).off + 4, none⟩ = some (.int .i64 y.f4) ∧ w'.cell? ⟨(ad0.add (S.at_.toNat * 8)).block, (ad0.add (S.at_.toNat * 8)).off + 5, none⟩ = some (.int .i64 y.f5) ∧ w'.cell? ⟨(ad0.add (S.at_.toNat * 8)).block, (ad0.add (S.at_.toNat * 8)).off + 6, none⟩ = some (.int .i64 y.f6.f0) ∧ w'.cell? ⟨(ad0.add (S.at_.toNat * 8)).block, (ad0.add (S.at_.toNat * 8)).off + 7, none⟩ = some (.int .i64 y.f6.f1)) (ds := []) #[false, false, false, false, false, false, false, false, false, false, false, false, false] (by kernel_rfl) rfl rfl (hS _ HM.out.drew) (fun hHeld => ?_)
    refine with_tabW N30tab N30bits (fun HT_ HW_ => ?_)
    replace HM := Aside0.mk HM.out.drew
    generalize World.drew _ = wa at HM hHeld ⊢
    refine pureQ 0 11 HT_.out ?_
    refine pureQ 1 12 HT_.out ?_
    refine pureQ 2 13 HT_.out ?_
    refine pureQ 3 14 HT_.out ?_
    refine takeQ 4 15 HT_.out HW_.out hHeld ?_
    refine pureQ 5 16 HT_.out ?_
    refine pureQ 6 17 HT_.out ?_
    refine pureQ 7 18 HT_.out ?_
    refine takeQ 8 19 HT_.out HW_.out hHeld ?_
    refine pureQ 9 20 HT_.out ?_
    refine takeQ 10 21 HT_.out HW_.out hHeld ?_
    refine oneQ 11 2 HT_.out (fun K hK => ?_)
    refine box_step ?hg (N := 2) ?hd (cs := #[.int .i64 0, .int .i64 0, .int .i64 0, .int .i64 0, .int .i64 0, .int .i64 0, .int .i64 0, .int .i64 0]) (t := 52) ?hr ?_; (case hd => rfl); (case hg => rfl); (case hr => first | (go_simp; done) | (go_simp; rfl))
    intro g hg w6' hbox hb
    have NG := Aside0.mk (HM.out.new hg)
    have NE := Aside0.mk (HM.out.newE hg)
    have GE : Aside0 (w.heap.size ≤ g) := ⟨by rw [hg]; exact HM.out.mem.hb.size⟩
    replace HM := Aside0.mk (HM.out.below hb)
    have BK := Aside0.mk hbox
    clear hb hbox hg
    refine hK.out _ _ (hS _ HM.out) (fun hHeld => ?_)
    clear hK K
    refine normQ (N := 2) ?_
    refine one_ (i := 12) (N := none) #[true, true, true, true, true, true, true, true, true, true, true, true, true] rfl rfl (one_of HT_.out (by kernel_rfl)) (by decide) (fun K hK => ?_)
    obtain ⟨w1, hwz⟩ : ∃ wz, wz = ((((((((w6').setCell ⟨g, 0, none⟩ (.int .i64 y.f0)).setCell ⟨g, 1, none⟩ (.int .i64 y.f1)).setCell ⟨g, 2, none⟩ (.int .i64 y.f2)).setCell ⟨g, 3, none⟩ (.int .i64 y.f3)).setCell ⟨g, 4, none⟩ (.int .i64 y.f4)).setCell ⟨g, 5, none⟩ (.int .i64 y.f5)).setCell ⟨g, 6, none⟩ (.int .i64 y.f6.f0)).setCell ⟨g, 7, none⟩ (.int .i64 y.f6.f1) := ⟨_, rfl⟩
    obtain ⟨z1, z2⟩ := set8g BK.out _ _ _ _ _ _ _ _ w1 hwz
    have hcf := hcf8 BK
    obtain ⟨_, _, _, _, _, _, _, _, _, _, _, _, _, _, _, _⟩ := hcf
    refine skip_ (w1 := w1) (by rfl) rfl (by rw [hwz]; go_simp) ?_
    clear hwz
    replace HM := Aside0.mk (HM.out.side BK.out (by decide) (by decide) NG.out NE.out GE.out z2)
    clear BK
    have BK := Aside0.mk z1
    clear z1 z2
    refine hK.out _ _ (hS _ HM.out) (fun hHeld => ?_)
    clear hK K
    refine done_ (done_of HT_.out (by kernel_rfl)) ?_
    clear hHeld HT_ HW_
    clear hS NE GE p1 q1 q2 ee0
    have b0 := hcz BK 0
    have b6 := hcz BK 6
    have c10 := HM.out.cell 10
    have f10 := HM.out.froz 10
    go_wp2
    first | go_end0 | ((try simp only [Exit.inBlock, Exit.then]); refine bodyPost_ret (results_none rfl _ _ _) rfl ?_) | refine ⟨_, results_none rfl _ _ _, ?_⟩
    refine ⟨rfl, vm, ?_⟩
    rw [fin_go (by exact he) n15]
    exact HM.out.set 10 _ rfl
set_option maxHeartbeats 8000000 in
set_option maxRecDepth 100000 in
theorem step_fail {w W : World} {E : List (Nat × Array Value × Nat)} {G : Gr} {vs vr va vm : Value} {gb : Nat} {S : St} (h : MR w W E G vs gb vr va vm S) {y : S52} (hy : rd_T52 G.l0 S.at_ = y) (hG : G.Held w) (ha : 0 ≤ S.at_ ∧ S.at_ < (G.l0.length : Int)) (he : S.en = 0) (e : y.f0 = 21) :
    Calls Try.prog 30 #[.pointer (some ⟨gb, 0, none⟩)] W fun e W' => e = .returned (.tuple #[]) ∧ ∃ v, MR w W' E G vs gb vr va v (finS S y (failS S y 5)) := by
  have hu52 := Try.underlying52
  have hu66 := Try.underlying66
  have hu36 := Try.underlying36
  have hu28 := Try.underlying28
  have hu50 := Try.underlying50
  have HM := Aside0.mk h
  clear h
  have k11 : (y.f0 == (11 : Int)) = false := by rw [e]; rfl
  have k12 : (y.f0 == (12 : Int)) = false := by rw [e]; rfl
  have k13 : (y.f0 == (13 : Int)) = false := by rw [e]; rfl
  have k14 : (y.f0 == (14 : Int)) = false := by rw [e]; rfl
  have k15 : (y.f0 == (15 : Int)) = false := by rw [e]; rfl
  have k16 : (y.f0 == (16 : Int)) = false := by rw [e]; rfl
  have k19 : (y.f0 == (19 : Int)) = false := by rw [e]; rfl
  have k17 : (y.f0 == (17 : Int)) = false := by rw [e]; rfl
  have k18 : (y.f0 == (18 : Int)) = false := by rw [e]; rfl
  have k20 : (y.f0 == (20 : Int)) = false := by rw [e]; rfl
  have k21 : (y.f0 == (21 : Int)) = true := by rw [e]; rfl
  clear e
  have p1 := eq_true ha.1
  have q1 := eq_true ha.2
  have q2 : (S.at_.toNat < G.l0.length) = True := eq_true (by omega)
  go_enter Try.func30, Try.ntmps30
  go_upto_region 0 with (fail)
  obtain ⟨ad0, ee0, _⟩ := at_T52 ((hG.below HM.out.mem.hb).h0) S.at_ ha.1 ha.2
  have hS : ∀ w' : World, MR w w' E G vs gb vr va vm S → (w'.cell? ⟨gb, 0, none⟩ = some (.slice (some ad0) G.l0.length G.c0) ∧ w'.cell? ⟨gb, 10, none⟩ = some (.int .i64 S.at_) ∧ w'.cell? (ad0.add (S.at_.toNat * 8)) = some (.int .i64 y.f0) ∧ w'.cell? ⟨(ad0.add (S.at_.toNat * 8)).block, (ad0.add (S.at_.toNat * 8)).off + 1, none⟩ = some (.int .i64 y.f1) ∧ w'.cell? ⟨(ad0.add (S.at_.toNat * 8)).block, (ad0.add (S.at_.toNat * 8)).off + 2, none⟩ = some (.int .i64 y.f2) ∧ w'.cell? ⟨(ad0.add (S.at_.toNat * 8)).block, (ad0.add (S.at_.toNat * 8)).off + 3, none⟩ = some (.int .i64 y.f3) ∧ w'.cell? ⟨(ad0.add (S.at_.toNat * 8)).block, (ad0.add (S.at_.toNat * 8)).off + 4, none⟩ = some (.int .i64 y.f4) ∧ w'.cell? ⟨(ad0.add (S.at_.toNat * 8)).block, (ad0.add (S.at_.toNat * 8)).off + 5, none⟩ = some (.int .i64 y.f5) ∧ w'.cell? ⟨(ad0.add (S.at_.toNat * 8)).block, (ad0.add (S.at_.toNat * 8)).off + 6, none⟩ = some (.int .i64 y.f6.f0) ∧ w'.cell? ⟨(ad0.add (S.at_.toNat * 8)).block, (ad0.add (S.at_.toNat * 8)).off + 7, none⟩ = some (.int .i64 y.f6.f1)) := fun w' hm => ⟨(hm.cell 0).trans (by rw [← ee0]; rfl), hm.cell 10, hm.code hG ha ee0 hy⟩
  refine start_ (n := 13) (S := fun w' => w'.cell? ⟨gb, 0, none⟩ = some (.slice (some ad0) G.l0.length G.c0) ∧ w'.cell? ⟨gb, 10, none⟩ = some (.int .i64 S.at_) ∧ w'.cell? (ad0.add (S.at_.toNat * 8)) = some (.int .i64 y.f0) ∧ w'.cell? ⟨(ad0.add (S.at_.toNat * 8)).block, (ad0.add (S.at_.toNat * 8)).off + 1, none⟩ = some (.int .i64 y.f1) ∧ w'.cell? ⟨(ad0.add (S.at_.toNat * 8)).block, (ad0.add (S.at_.toNat * 8)).off + 2, none⟩ = some (.int .i64 y.f2) ∧ w'.cell? ⟨(ad0.add (S.at_.toNat * 8)).block, (ad0.add (S.at_.toNat * 8)).off + 3, none⟩ = some (.int .i64 y.f3) ∧ w'.cell? ⟨(ad0.add (S.at_.toNat * 8)).block, (ad0.add (S.at_.toNat * 8)).off + 4, none⟩ = some (.int .i64 y.f4) ∧ w'.cell? ⟨(ad0.add (S.at_.toNat * 8)).block, (ad0.add (S.at_.toNat * 8)).off + 5, none⟩ = some (.int .i64 y.f5) ∧ w'.cell? ⟨(ad0.add (S.at_.toNat * 8)).block, (ad0.add (S.at_.toNat * 8)).off + 6, none⟩ = some (.int .i64 y.f6.f0) ∧ w'.cell? ⟨(ad0.add (S.at_.toNat * 8)).block, (ad0.add (S.at_.toNat * 8)).off + 7, none⟩ = some (.int .i64 y.f6.f1)) (ds := []) #[false, false, false, false, false, false, false, false, false, false, false, false, false] (by kernel_rfl) rfl rfl (hS _ HM.out.drew) (fun hHeld => ?_)
  refine with_tabW N30tab N30bits (fun HT_ HW_ => ?_)
  replace HM := Aside0.mk HM.out.drew
  generalize World.drew _ = wa at HM hHeld ⊢
  refine pureQ 0 11 HT_.out ?_
  refine pureQ 1 12 HT_.out ?_
  refine pureQ 2 13 HT_.out ?_
  refine pureQ 3 14 HT_.out ?_
  refine takeQ 4 15 HT_.out HW_.out hHeld ?_
  refine pureQ 5 16 HT_.out ?_
  refine pureQ 6 17 HT_.out ?_
  refine pureQ 7 18 HT_.out ?_
  refine takeQ 8 19 HT_.out HW_.out hHeld ?_
  refine pureQ 9 20 HT_.out ?_
  refine takeQ 10 21 HT_.out HW_.out hHeld ?_
  refine oneQ 11 2 HT_.out (fun K hK => ?_)
  refine box_step ?hg (N := 2) ?hd (cs := #[.int .i64 0, .int .i64 0, .int .i64 0, .int .i64 0, .int .i64 0, .int .i64 0, .int .i64 0, .int .i64 0]) (t := 52) ?hr ?_; (case hd => rfl); (case hg => rfl); (case hr => first | (go_simp; done) | (go_simp; rfl))
  intro g hg w6' hbox hb
  have NG := Aside0.mk (HM.out.new hg)
  have NE := Aside0.mk (HM.out.newE hg)
  have GE : Aside0 (w.heap.size ≤ g) := ⟨by rw [hg]; exact HM.out.mem.hb.size⟩
  replace HM := Aside0.mk (HM.out.below hb)
  have BK := Aside0.mk hbox
  clear hb hbox hg
  refine hK.out _ _ (hS _ HM.out) (fun hHeld => ?_)
  clear hK K
  refine normQ (N := 2) ?_
  refine one_ (i := 12) (N := none) #[true, true, true, true, true, true, true, true, true, true, true, true, true] rfl rfl (one_of HT_.out (by kernel_rfl)) (by decide) (fun K hK => ?_)
  obtain ⟨w1, hwz⟩ : ∃ wz, wz = ((((((((w6').setCell ⟨g, 0, none⟩ (.int .i64 y.f0)).setCell ⟨g, 1, none⟩ (.int .i64 y.f1)).setCell ⟨g, 2, none⟩ (.int .i64 y.f2)).setCell ⟨g, 3, none⟩ (.int .i64 y.f3)).setCell ⟨g, 4, none⟩ (.int .i64 y.f4)).setCell ⟨g, 5, none⟩ (.int .i64 y.f5)).setCell ⟨g, 6, none⟩ (.int .i64 y.f6.f0)).setCell ⟨g, 7, none⟩ (.int .i64 y.f6.f1) := ⟨_, rfl⟩
  obtain ⟨z1, z2⟩ := set8g BK.out _ _ _ _ _ _ _ _ w1 hwz
  have hcf := hcf8 BK
  obtain ⟨_, _, _, _, _, _, _, _, _, _, _, _, _, _, _, _⟩ := hcf
  refine skip_ (w1 := w1) (by rfl) rfl (by rw [hwz]; go_simp) ?_
  clear hwz
  replace HM := Aside0.mk (HM.out.side BK.out (by decide) (by decide) NG.out NE.out GE.out z2)
  clear BK
  have BK := Aside0.mk z1
  clear z1 z2
  refine hK.out _ _ (hS _ HM.out) (fun hHeld => ?_)
  clear hK K
  refine done_ (done_of HT_.out (by kernel_rfl)) ?_
  clear hHeld HT_ HW_
  clear hS NE GE p1 q1 q2 ee0
  have b0 := hcz BK 0
  have b6 := hcz BK 6
  have hcf := hcf8 BK
  obtain ⟨_, _, _, _, _, _, _, _, _, _, _, _, _, _, _, _⟩ := hcf
  go_wp2_with (first | ((with_reducible refine gate_callee (f := 40) rfl ?_); refine goesL_ _ rfl rfl Try.func40 (by kernel_rfl) rfl #[.pointer (some ⟨gb, 0, none⟩), .agg #[.int .i64 y.f0, .int .i64 y.f1, .int .i64 y.f2, .int .i64 y.f3, .int .i64 y.f4, .int .i64 y.f5, .int .i64 y.f6.f0, .int .i64 y.f6.f1], .int .i64 5] rfl (by (try simp only [List.map_toArray, List.map_cons, List.map_nil]); first | done | rfl) ?_; refine (rfail_calls (mup HM).out y 5).mono ?_; rintro e w' ⟨rfl, hm⟩; clear HM; have HM := Aside0.mk hm; clear hm; refine ⟨_, rfl, ?_⟩))
  first | go_end0 | ((try simp only [Exit.inBlock, Exit.then]); refine bodyPost_ret (results_none rfl _ _ _) rfl ?_) | refine ⟨_, results_none rfl _ _ _, ?_⟩
  refine ⟨rfl, vm, ?_⟩
  rw [fin_stop (show (1 : Int) ≠ 0 by decide)]
  exact HM.out
set_option maxHeartbeats 8000000 in
set_option maxRecDepth 100000 in
theorem step_tick {w W : World} {E : List (Nat × Array Value × Nat)} {G : Gr} {vs vr va vm : Value} {gb : Nat} {S : St} (h : MR w W E G vs gb vr va vm S) {y : S52} (hy : rd_T52 G.l0 S.at_ = y) (hG : G.Held w) (ha : 0 ≤ S.at_ ∧ S.at_ < (G.l0.length : Int)) (he : S.en = 0) (e : y.f0 = 18) :
    Calls Try.prog 30 #[.pointer (some ⟨gb, 0, none⟩)] W fun e W' => e = .returned (.tuple #[]) ∧ ∃ v, MR w W' E G vs gb vr va v (finS S y ({ S with ticks := wrap64 (S.ticks + 1) })) := by
  have hu52 := Try.underlying52
  have hu66 := Try.underlying66
  have hu36 := Try.underlying36
  have hu28 := Try.underlying28
  have hu50 := Try.underlying50
  have HM := Aside0.mk h
  clear h
  have n15 : y.f0 ≠ 15 := by omega
  have k11 : (y.f0 == (11 : Int)) = false := by rw [e]; rfl
  have k12 : (y.f0 == (12 : Int)) = false := by rw [e]; rfl
  have k13 : (y.f0 == (13 : Int)) = false := by rw [e]; rfl
  have k14 : (y.f0 == (14 : Int)) = false := by rw [e]; rfl
  have k15 : (y.f0 == (15 : Int)) = false := by rw [e]; rfl
  have k16 : (y.f0 == (16 : Int)) = false := by rw [e]; rfl
  have k19 : (y.f0 == (19 : Int)) = false := by rw [e]; rfl
  have k17 : (y.f0 == (17 : Int)) = false := by rw [e]; rfl
  have k18 : (y.f0 == (18 : Int)) = true := by rw [e]; rfl
  clear e
  have hwt : IntKind.i64.wrap (S.ticks + 1) = wrap64 (S.ticks + 1) := i64_w _
  have p1 := eq_true ha.1
  have q1 := eq_true ha.2
  have q2 : (S.at_.toNat < G.l0.length) = True := eq_true (by omega)
  go_enter Try.func30, Try.ntmps30
  go_upto_region 0 with (fail)
  obtain ⟨ad0, ee0, _⟩ := at_T52 ((hG.below HM.out.mem.hb).h0) S.at_ ha.1 ha.2
  have hS : ∀ w' : World, MR w w' E G vs gb vr va vm S → (w'.cell? ⟨gb, 0, none⟩ = some (.slice (some ad0) G.l0.length G.c0) ∧ w'.cell? ⟨gb, 10, none⟩ = some (.int .i64 S.at_) ∧ w'.cell? (ad0.add (S.at_.toNat * 8)) = some (.int .i64 y.f0) ∧ w'.cell? ⟨(ad0.add (S.at_.toNat * 8)).block, (ad0.add (S.at_.toNat * 8)).off + 1, none⟩ = some (.int .i64 y.f1) ∧ w'.cell? ⟨(ad0.add (S.at_.toNat * 8)).block, (ad0.add (S.at_.toNat * 8)).off + 2, none⟩ = some (.int .i64 y.f2) ∧ w'.cell? ⟨(ad0.add (S.at_.toNat * 8)).block, (ad0.add (S.at_.toNat * 8)).off + 3, none⟩ = some (.int .i64 y.f3) ∧ w'.cell? ⟨(ad0.add (S.at_.toNat * 8)).block, (ad0.add (S.at_.toNat * 8)).off + 4, none⟩ = some (.int .i64 y.f4) ∧ w'.cell? ⟨(ad0.add (S.at_.toNat * 8)).block, (ad0.add (S.at_.toNat * 8)).off + 5, none⟩ = some (.int .i64 y.f5) ∧ w'.cell? ⟨(ad0.add (S.at_.toNat * 8)).block, (ad0.add (S.at_.toNat * 8)).off + 6, none⟩ = some (.int .i64 y.f6.f0) ∧ w'.cell? ⟨(ad0.add (S.at_.toNat * 8)).block, (ad0.add (S.at_.toNat * 8)).off + 7, none⟩ = some (.int .i64 y.f6.f1)) := fun w' hm => ⟨(hm.cell 0).trans (by rw [← ee0]; rfl), hm.cell 10, hm.code hG ha ee0 hy⟩
  refine start_ (n := 13) (S := fun w' => w'.cell? ⟨gb, 0, none⟩ = some (.slice (some ad0) G.l0.length G.c0) ∧ w'.cell? ⟨gb, 10, none⟩ = some (.int .i64 S.at_) ∧ w'.cell? (ad0.add (S.at_.toNat * 8)) = some (.int .i64 y.f0) ∧ w'.cell? ⟨(ad0.add (S.at_.toNat * 8)).block, (ad0.add (S.at_.toNat * 8)).off + 1, none⟩ = some (.int .i64 y.f1) ∧ w'.cell? ⟨(ad0.add (S.at_.toNat * 8)).block, (ad0.add (S.at_.toNat * 8)).off + 2, none⟩ = some (.int .i64 y.f2) ∧ w'.cell? ⟨(ad0.add (S.at_.toNat * 8)).block, (ad0.add (S.at_.toNat * 8)).off + 3, none⟩ = some (.int .i64 y.f3) ∧ w'.cell? ⟨(ad0.add (S.at_.toNat * 8)).block, (ad0.add (S.at_.toNat * 8)).off + 4, none⟩ = some (.int .i64 y.f4) ∧ w'.cell? ⟨(ad0.add (S.at_.toNat * 8)).block, (ad0.add (S.at_.toNat * 8)).off + 5, none⟩ = some (.int .i64 y.f5) ∧ w'.cell? ⟨(ad0.add (S.at_.toNat * 8)).block, (ad0.add (S.at_.toNat * 8)).off + 6, none⟩ = some (.int .i64 y.f6.f0) ∧ w'.cell? ⟨(ad0.add (S.at_.toNat * 8)).block, (ad0.add (S.at_.toNat * 8)).off + 7, none⟩ = some (.int .i64 y.f6.f1)) (ds := []) #[false, false, false, false, false, false, false, false, false, false, false, false, false] (by kernel_rfl) rfl rfl (hS _ HM.out.drew) (fun hHeld => ?_)
  refine with_tabW N30tab N30bits (fun HT_ HW_ => ?_)
  replace HM := Aside0.mk HM.out.drew
  generalize World.drew _ = wa at HM hHeld ⊢
  refine pureQ 0 11 HT_.out ?_
  refine pureQ 1 12 HT_.out ?_
  refine pureQ 2 13 HT_.out ?_
  refine pureQ 3 14 HT_.out ?_
  refine takeQ 4 15 HT_.out HW_.out hHeld ?_
  refine pureQ 5 16 HT_.out ?_
  refine pureQ 6 17 HT_.out ?_
  refine pureQ 7 18 HT_.out ?_
  refine takeQ 8 19 HT_.out HW_.out hHeld ?_
  refine pureQ 9 20 HT_.out ?_
  refine takeQ 10 21 HT_.out HW_.out hHeld ?_
  refine oneQ 11 2 HT_.out (fun K hK => ?_)
  refine box_step ?hg (N := 2) ?hd (cs := #[.int .i64 0, .int .i64 0, .int .i64 0, .int .i64 0, .int .i64 0, .int .i64 0, .int .i64 0, .int .i64 0]) (t := 52) ?hr ?_; (case hd => rfl); (case hg => rfl); (case hr => first | (go_simp; done) | (go_simp; rfl))
  intro g hg w6' hbox hb
  have NG := Aside0.mk (HM.out.new hg)
  have NE := Aside0.mk (HM.out.newE hg)
  have GE : Aside0 (w.heap.size ≤ g) := ⟨by rw [hg]; exact HM.out.mem.hb.size⟩
  replace HM := Aside0.mk (HM.out.below hb)
  have BK := Aside0.mk hbox
  clear hb hbox hg
  refine hK.out _ _ (hS _ HM.out) (fun hHeld => ?_)
  clear hK K
  refine normQ (N := 2) ?_
  refine one_ (i := 12) (N := none) #[true, true, true, true, true, true, true, true, true, true, true, true, true] rfl rfl (one_of HT_.out (by kernel_rfl)) (by decide) (fun K hK => ?_)
  obtain ⟨w1, hwz⟩ : ∃ wz, wz = ((((((((w6').setCell ⟨g, 0, none⟩ (.int .i64 y.f0)).setCell ⟨g, 1, none⟩ (.int .i64 y.f1)).setCell ⟨g, 2, none⟩ (.int .i64 y.f2)).setCell ⟨g, 3, none⟩ (.int .i64 y.f3)).setCell ⟨g, 4, none⟩ (.int .i64 y.f4)).setCell ⟨g, 5, none⟩ (.int .i64 y.f5)).setCell ⟨g, 6, none⟩ (.int .i64 y.f6.f0)).setCell ⟨g, 7, none⟩ (.int .i64 y.f6.f1) := ⟨_, rfl⟩
  obtain ⟨z1, z2⟩ := set8g BK.out _ _ _ _ _ _ _ _ w1 hwz
  have hcf := hcf8 BK
  obtain ⟨_, _, _, _, _, _, _, _, _, _, _, _, _, _, _, _⟩ := hcf
  refine skip_ (w1 := w1) (by rfl) rfl (by rw [hwz]; go_simp) ?_
  clear hwz
  replace HM := Aside0.mk (HM.out.side BK.out (by decide) (by decide) NG.out NE.out GE.out z2)
  clear BK
  have BK := Aside0.mk z1
  clear z1 z2
  refine hK.out _ _ (hS _ HM.out) (fun hHeld => ?_)
  clear hK K
  refine done_ (done_of HT_.out (by kernel_rfl)) ?_
  clear hHeld HT_ HW_
  clear hS NE GE p1 q1 q2 ee0
  have b0 := hcz BK 0
  have b6 := hcz BK 6
  have c15 := HM.out.cell 15
  have f15 := HM.out.froz 15
  go_upto_region 50 with (first | ((with_reducible refine gate_store (p := 337) (t := 2) rfl ?_); refine store_event (t := 2) (p := 337) (v := ?vf7) (w1 := World.setCell w1 ⟨gb, 15, none⟩ (.int .i64 (wrap64 (S.ticks + 1)))) ?hg ?ho ?hn ?hr ?_; (case ho => rfl); (case hg => rfl); (case hn => rfl); (case hr => first | (go_simp; done) | (go_simp; rfl)); intro w9 hw; have hm : MR w _ E G vs gb vr va vm { S with ticks := wrap64 (S.ticks + 1) } := HM.out.set 15 (.int .i64 (wrap64 (S.ticks + 1))) rfl; rw [← hw] at hm; clear HM hw; have HM := Aside0.mk hm; clear hm; have c10 := HM.out.cell 10; have f10 := HM.out.froz 10))
  clear c15 f15 b0 b6
  go_wp2
  first | go_end0 | ((try simp only [Exit.inBlock, Exit.then]); refine bodyPost_ret (results_none rfl _ _ _) rfl ?_) | refine ⟨_, results_none rfl _ _ _, ?_⟩
  refine ⟨rfl, vm, ?_⟩
  rw [fin_go (by exact he) n15]
  exact HM.out.set 10 _ rfl
set_option maxHeartbeats 8000000 in
set_option maxRecDepth 100000 in
theorem step_enter {w W : World} {E : List (Nat × Array Value × Nat)} {G : Gr} {vs vr va vm : Value} {gb : Nat} {S : St} (h : MR w W E G vs gb vr va vm S) {y : S52} (hy : rd_T52 G.l0 S.at_ = y) (hG : G.Held w) (ha : 0 ≤ S.at_ ∧ S.at_ < (G.l0.length : Int)) (he : S.en = 0) (e : y.f0 = 20) (hf : -9223372036854775808 ≤ S.fuel ∧ S.fuel ≤ 9223372036854775807) :
    Calls Try.prog 30 #[.pointer (some ⟨gb, 0, none⟩)] W fun e W' => e = .returned (.tuple #[]) ∧ ∃ v, MR w W' E G vs gb vr va v (finS S y (spendS S)) := by
  have hu52 := Try.underlying52
  have hu66 := Try.underlying66
  have hu36 := Try.underlying36
  have hu28 := Try.underlying28
  have hu50 := Try.underlying50
  have HM := Aside0.mk h
  clear h
  have n15 : y.f0 ≠ 15 := by omega
  have k11 : (y.f0 == (11 : Int)) = false := by rw [e]; rfl
  have k12 : (y.f0 == (12 : Int)) = false := by rw [e]; rfl
  have k13 : (y.f0 == (13 : Int)) = false := by rw [e]; rfl
  have k14 : (y.f0 == (14 : Int)) = false := by rw [e]; rfl
  have k15 : (y.f0 == (15 : Int)) = false := by rw [e]; rfl
  have k16 : (y.f0 == (16 : Int)) = false := by rw [e]; rfl
  have k19 : (y.f0 == (19 : Int)) = false := by rw [e]; rfl
  have k17 : (y.f0 == (17 : Int)) = false := by rw [e]; rfl
  have k18 : (y.f0 == (18 : Int)) = false := by rw [e]; rfl
  have k20 : (y.f0 == (20 : Int)) = true := by rw [e]; rfl
  clear e
  by_cases f0 : S.fuel ≤ 0
  · have f0b : decide (0 < S.fuel) = false := decide_eq_false (by omega)
    have F0 := Aside0.mk f0
    clear f0
    have p1 := eq_true ha.1
    have q1 := eq_true ha.2
    have q2 : (S.at_.toNat < G.l0.length) = True := eq_true (by omega)
    go_enter Try.func30, Try.ntmps30
    go_upto_region 0 with (fail)
    obtain ⟨ad0, ee0, _⟩ := at_T52 ((hG.below HM.out.mem.hb).h0) S.at_ ha.1 ha.2
    have hS : ∀ w' : World, MR w w' E G vs gb vr va vm S → (w'.cell? ⟨gb, 0, none⟩ = some (.slice (some ad0) G.l0.length G.c0) ∧ w'.cell? ⟨gb, 10, none⟩ = some (.int .i64 S.at_) ∧ w'.cell? (ad0.add (S.at_.toNat * 8)) = some (.int .i64 y.f0) ∧ w'.cell? ⟨(ad0.add (S.at_.toNat * 8)).block, (ad0.add (S.at_.toNat * 8)).off + 1, none⟩ = some (.int .i64 y.f1) ∧ w'.cell? ⟨(ad0.add (S.at_.toNat * 8)).block, (ad0.add (S.at_.toNat * 8)).off + 2, none⟩ = some (.int .i64 y.f2) ∧ w'.cell? ⟨(ad0.add (S.at_.toNat * 8)).block, (ad0.add (S.at_.toNat * 8)).off + 3, none⟩ = some (.int .i64 y.f3) ∧ w'.cell? ⟨(ad0.add (S.at_.toNat * 8)).block, (ad0.add (S.at_.toNat * 8)).off + 4, none⟩ = some (.int .i64 y.f4) ∧ w'.cell? ⟨(ad0.add (S.at_.toNat * 8)).block, (ad0.add (S.at_.toNat * 8)).off + 5, none⟩ = some (.int .i64 y.f5) ∧ w'.cell? ⟨(ad0.add (S.at_.toNat * 8)).block, (ad0.add (S.at_.toNat * 8)).off + 6, none⟩ = some (.int .i64 y.f6.f0) ∧ w'.cell? ⟨(ad0.add (S.at_.toNat * 8)).block, (ad0.add (S.at_.toNat * 8)).off + 7, none⟩ = some (.int .i64 y.f6.f1)) := fun w' hm => ⟨(hm.cell 0).trans (by rw [← ee0]; rfl), hm.cell 10, hm.code hG ha ee0 hy⟩
    refine start_ (n := 13) (S := fun w' => w'.cell? ⟨gb, 0, none⟩ = some (.slice (some ad0) G.l0.length G.c0) ∧ w'.cell? ⟨gb, 10, none⟩ = some (.int .i64 S.at_) ∧ w'.cell? (ad0.add (S.at_.toNat * 8)) = some (.int .i64 y.f0) ∧ w'.cell? ⟨(ad0.add (S.at_.toNat * 8)).block, (ad0.add (S.at_.toNat * 8)).off + 1, none⟩ = some (.int .i64 y.f1) ∧ w'.cell? ⟨(ad0.add (S.at_.toNat * 8)).block, (ad0.add (S.at_.toNat * 8)).off + 2, none⟩ = some (.int .i64 y.f2) ∧ w'.cell? ⟨(ad0.add (S.at_.toNat * 8)).block, (ad0.add (S.at_.toNat * 8)).off + 3, none⟩ = some (.int .i64 y.f3) ∧ w'.cell? ⟨(ad0.add (S.at_.toNat * 8)).block, (ad0.add (S.at_.toNat * 8)).off + 4, none⟩ = some (.int .i64 y.f4) ∧ w'.cell? ⟨(ad0.add (S.at_.toNat * 8)).block, (ad0.add (S.at_.toNat * 8)).off + 5, none⟩ = some (.int .i64 y.f5) ∧ w'.cell? ⟨(ad0.add (S.at_.toNat * 8)).block, (ad0.add (S.at_.toNat * 8)).off + 6, none⟩ = some (.int .i64 y.f6.f0) ∧ w'.cell? ⟨(ad0.add (S.at_.toNat * 8)).block, (ad0.add (S.at_.toNat * 8)).off + 7, none⟩ = some (.int .i64 y.f6.f1)) (ds := []) #[false, false, false, false, false, false, false, false, false, false, false, false, false] (by kernel_rfl) rfl rfl (hS _ HM.out.drew) (fun hHeld => ?_)
    refine with_tabW N30tab N30bits (fun HT_ HW_ => ?_)
    replace HM := Aside0.mk HM.out.drew
    generalize World.drew _ = wa at HM hHeld ⊢
    refine pureQ 0 11 HT_.out ?_
    refine pureQ 1 12 HT_.out ?_
    refine pureQ 2 13 HT_.out ?_
    refine pureQ 3 14 HT_.out ?_
    refine takeQ 4 15 HT_.out HW_.out hHeld ?_
    refine pureQ 5 16 HT_.out ?_
    refine pureQ 6 17 HT_.out ?_
    refine pureQ 7 18 HT_.out ?_
    refine takeQ 8 19 HT_.out HW_.out hHeld ?_
    refine pureQ 9 20 HT_.out ?_
    refine takeQ 10 21 HT_.out HW_.out hHeld ?_
    refine oneQ 11 2 HT_.out (fun K hK => ?_)
    refine box_step ?hg (N := 2) ?hd (cs := #[.int .i64 0, .int .i64 0, .int .i64 0, .int .i64 0, .int .i64 0, .int .i64 0, .int .i64 0, .int .i64 0]) (t := 52) ?hr ?_; (case hd => rfl); (case hg => rfl); (case hr => first | (go_simp; done) | (go_simp; rfl))
    intro g hg w6' hbox hb
    have NG := Aside0.mk (HM.out.new hg)
    have NE := Aside0.mk (HM.out.newE hg)
    have GE : Aside0 (w.heap.size ≤ g) := ⟨by rw [hg]; exact HM.out.mem.hb.size⟩
    replace HM := Aside0.mk (HM.out.below hb)
    have BK := Aside0.mk hbox
    clear hb hbox hg
    refine hK.out _ _ (hS _ HM.out) (fun hHeld => ?_)
    clear hK K
    refine normQ (N := 2) ?_
    refine one_ (i := 12) (N := none) #[true, true, true, true, true, true, true, true, true, true, true, true, true] rfl rfl (one_of HT_.out (by kernel_rfl)) (by decide) (fun K hK => ?_)
    obtain ⟨w1, hwz⟩ : ∃ wz, wz = ((((((((w6').setCell ⟨g, 0, none⟩ (.int .i64 y.f0)).setCell ⟨g, 1, none⟩ (.int .i64 y.f1)).setCell ⟨g, 2, none⟩ (.int .i64 y.f2)).setCell ⟨g, 3, none⟩ (.int .i64 y.f3)).setCell ⟨g, 4, none⟩ (.int .i64 y.f4)).setCell ⟨g, 5, none⟩ (.int .i64 y.f5)).setCell ⟨g, 6, none⟩ (.int .i64 y.f6.f0)).setCell ⟨g, 7, none⟩ (.int .i64 y.f6.f1) := ⟨_, rfl⟩
    obtain ⟨z1, z2⟩ := set8g BK.out _ _ _ _ _ _ _ _ w1 hwz
    have hcf := hcf8 BK
    obtain ⟨_, _, _, _, _, _, _, _, _, _, _, _, _, _, _, _⟩ := hcf
    refine skip_ (w1 := w1) (by rfl) rfl (by rw [hwz]; go_simp) ?_
    clear hwz
    replace HM := Aside0.mk (HM.out.side BK.out (by decide) (by decide) NG.out NE.out GE.out z2)
    clear BK
    have BK := Aside0.mk z1
    clear z1 z2
    refine hK.out _ _ (hS _ HM.out) (fun hHeld => ?_)
    clear hK K
    refine done_ (done_of HT_.out (by kernel_rfl)) ?_
    clear hHeld HT_ HW_
    clear hS NE GE p1 q1 q2 ee0
    have b0 := hcz BK 0
    have b6 := hcz BK 6
    go_wp2_with (first | ((with_reducible refine gate_callee (f := 43) rfl ?_); refine goesL_ _ rfl rfl Try.func43 (by kernel_rfl) rfl #[.pointer (some ⟨gb, 0, none⟩)] rfl (by (try simp only [List.map_toArray, List.map_cons, List.map_nil]); first | done | rfl) ?_; refine (rspend_calls (mup HM).out hf).mono ?_; rintro e w' ⟨rfl, hm⟩; clear HM; have HM := Aside0.mk hm; clear hm; refine ⟨_, rfl, ?_⟩))
    first | go_end0 | ((try simp only [Exit.inBlock, Exit.then]); refine bodyPost_ret (results_none rfl _ _ _) rfl ?_) | refine ⟨_, results_none rfl _ _ _, ?_⟩
    refine ⟨rfl, vm, ?_⟩
    rw [show spendS S = _ from if_pos F0.out, fin_stop (show (4 : Int) ≠ 0 by decide)]
    have hz := HM.out; rw [show spendS S = _ from if_pos F0.out] at hz; exact hz
  · have f0b : decide (0 < S.fuel) = true := decide_eq_true (by omega)
    have F0 := Aside0.mk f0
    clear f0
    have p1 := eq_true ha.1
    have q1 := eq_true ha.2
    have q2 : (S.at_.toNat < G.l0.length) = True := eq_true (by omega)
    go_enter Try.func30, Try.ntmps30
    go_upto_region 0 with (fail)
    obtain ⟨ad0, ee0, _⟩ := at_T52 ((hG.below HM.out.mem.hb).h0) S.at_ ha.1 ha.2
    have hS : ∀ w' : World, MR w w' E G vs gb vr va vm S → (w'.cell? ⟨gb, 0, none⟩ = some (.slice (some ad0) G.l0.length G.c0) ∧ w'.cell? ⟨gb, 10, none⟩ = some (.int .i64 S.at_) ∧ w'.cell? (ad0.add (S.at_.toNat * 8)) = some (.int .i64 y.f0) ∧ w'.cell? ⟨(ad0.add (S.at_.toNat * 8)).block, (ad0.add (S.at_.toNat * 8)).off + 1, none⟩ = some (.int .i64 y.f1) ∧ w'.cell? ⟨(ad0.add (S.at_.toNat * 8)).block, (ad0.add (S.at_.toNat * 8)).off + 2, none⟩ = some (.int .i64 y.f2) ∧ w'.cell? ⟨(ad0.add (S.at_.toNat * 8)).block, (ad0.add (S.at_.toNat * 8)).off + 3, none⟩ = some (.int .i64 y.f3) ∧ w'.cell? ⟨(ad0.add (S.at_.toNat * 8)).block, (ad0.add (S.at_.toNat * 8)).off + 4, none⟩ = some (.int .i64 y.f4) ∧ w'.cell? ⟨(ad0.add (S.at_.toNat * 8)).block, (ad0.add (S.at_.toNat * 8)).off + 5, none⟩ = some (.int .i64 y.f5) ∧ w'.cell? ⟨(ad0.add (S.at_.toNat * 8)).block, (ad0.add (S.at_.toNat * 8)).off + 6, none⟩ = some (.int .i64 y.f6.f0) ∧ w'.cell? ⟨(ad0.add (S.at_.toNat * 8)).block, (ad0.add (S.at_.toNat * 8)).off + 7, none⟩ = some (.int .i64 y.f6.f1)) := fun w' hm => ⟨(hm.cell 0).trans (by rw [← ee0]; rfl), hm.cell 10, hm.code hG ha ee0 hy⟩
    refine start_ (n := 13) (S := fun w' => w'.cell? ⟨gb, 0, none⟩ = some (.slice (some ad0) G.l0.length G.c0) ∧ w'.cell? ⟨gb, 10, none⟩ = some (.int .i64 S.at_) ∧ w'.cell? (ad0.add (S.at_.toNat * 8)) = some (.int .i64 y.f0) ∧ w'.cell? ⟨(ad0.add (S.at_.toNat * 8)).block, (ad0.add (S.at_.toNat * 8)).off + 1, none⟩ = some (.int .i64 y.f1) ∧ w'.cell? ⟨(ad0.add (S.at_.toNat * 8)).block, (ad0.add (S.at_.toNat * 8)).off + 2, none⟩ = some (.int .i64 y.f2) ∧ w'.cell? ⟨(ad0.add (S.at_.toNat * 8)).block, (ad0.add (S.at_.toNat * 8)).off + 3, none⟩ = some (.int .i64 y.f3) ∧ w'.cell? ⟨(ad0.add (S.at_.toNat * 8)).block, (ad0.add (S.at_.toNat * 8)).off + 4, none⟩ = some (.int .i64 y.f4) ∧ w'.cell? ⟨(ad0.add (S.at_.toNat * 8)).block, (ad0.add (S.at_.toNat * 8)).off + 5, none⟩ = some (.int .i64 y.f5) ∧ w'.cell? ⟨(ad0.add (S.at_.toNat * 8)).block, (ad0.add (S.at_.toNat * 8)).off + 6, none⟩ = some (.int .i64 y.f6.f0) ∧ w'.cell? ⟨(ad0.add (S.at_.toNat * 8)).block, (ad0.add (S.at_.toNat * 8)).off + 7, none⟩ = some (.int .i64 y.f6.f1)) (ds := []) #[false, false, false, false, false, false, false, false, false, false, false, false, false] (by kernel_rfl) rfl rfl (hS _ HM.out.drew) (fun hHeld => ?_)
    refine with_tabW N30tab N30bits (fun HT_ HW_ => ?_)
    replace HM := Aside0.mk HM.out.drew
    generalize World.drew _ = wa at HM hHeld ⊢
    refine pureQ 0 11 HT_.out ?_
    refine pureQ 1 12 HT_.out ?_
    refine pureQ 2 13 HT_.out ?_
    refine pureQ 3 14 HT_.out ?_
    refine takeQ 4 15 HT_.out HW_.out hHeld ?_
    refine pureQ 5 16 HT_.out ?_
    refine pureQ 6 17 HT_.out ?_
    refine pureQ 7 18 HT_.out ?_
    refine takeQ 8 19 HT_.out HW_.out hHeld ?_
    refine pureQ 9 20 HT_.out ?_
    refine takeQ 10 21 HT_.out HW_.out hHeld ?_
    refine oneQ 11 2 HT_.out (fun K hK => ?_)
    refine box_step ?hg (N := 2) ?hd (cs := #[.int .i64 0, .int .i64 0, .int .i64 0, .int .i64 0, .int .i64 0, .int .i64 0, .int .i64 0, .int .i64 0]) (t := 52) ?hr ?_; (case hd => rfl); (case hg => rfl); (case hr => first | (go_simp; done) | (go_simp; rfl))
    intro g hg w6' hbox hb
    have NG := Aside0.mk (HM.out.new hg)
    have NE := Aside0.mk (HM.out.newE hg)
    have GE : Aside0 (w.heap.size ≤ g) := ⟨by rw [hg]; exact HM.out.mem.hb.size⟩
    replace HM := Aside0.mk (HM.out.below hb)
    have BK := Aside0.mk hbox
    clear hb hbox hg
    refine hK.out _ _ (hS _ HM.out) (fun hHeld => ?_)
    clear hK K
    refine normQ (N := 2) ?_
    refine one_ (i := 12) (N := none) #[true, true, true, true, true, true, true, true, true, true, true, true, true] rfl rfl (one_of HT_.out (by kernel_rfl)) (by decide) (fun K hK => ?_)
    obtain ⟨w1, hwz⟩ : ∃ wz, wz = ((((((((w6').setCell ⟨g, 0, none⟩ (.int .i64 y.f0)).setCell ⟨g, 1, none⟩ (.int .i64 y.f1)).setCell ⟨g, 2, none⟩ (.int .i64 y.f2)).setCell ⟨g, 3, none⟩ (.int .i64 y.f3)).setCell ⟨g, 4, none⟩ (.int .i64 y.f4)).setCell ⟨g, 5, none⟩ (.int .i64 y.f5)).setCell ⟨g, 6, none⟩ (.int .i64 y.f6.f0)).setCell ⟨g, 7, none⟩ (.int .i64 y.f6.f1) := ⟨_, rfl⟩
    obtain ⟨z1, z2⟩ := set8g BK.out _ _ _ _ _ _ _ _ w1 hwz
    have hcf := hcf8 BK
    obtain ⟨_, _, _, _, _, _, _, _, _, _, _, _, _, _, _, _⟩ := hcf
    refine skip_ (w1 := w1) (by rfl) rfl (by rw [hwz]; go_simp) ?_
    clear hwz
    replace HM := Aside0.mk (HM.out.side BK.out (by decide) (by decide) NG.out NE.out GE.out z2)
    clear BK
    have BK := Aside0.mk z1
    clear z1 z2
    refine hK.out _ _ (hS _ HM.out) (fun hHeld => ?_)
    clear hK K
    refine done_ (done_of HT_.out (by kernel_rfl)) ?_
    clear hHeld HT_ HW_
    clear hS NE GE p1 q1 q2 ee0
    have b0 := hcz BK 0
    have b6 := hcz BK 6
    go_upto_region 50 with (first | ((with_reducible refine gate_callee (f := 43) rfl ?_); refine goesL_ _ rfl rfl Try.func43 (by kernel_rfl) rfl #[.pointer (some ⟨gb, 0, none⟩)] rfl (by (try simp only [List.map_toArray, List.map_cons, List.map_nil]); first | done | rfl) ?_; refine (rspend_calls (mup HM).out hf).mono ?_; rintro e w' ⟨rfl, hm⟩; clear HM; have HM := Aside0.mk hm; clear hm; refine ⟨_, rfl, ?_⟩))
    have hz := HM.out
    rw [show spendS S = { S with fuel := S.fuel - 1 } from if_neg (by have := F0.out; omega)] at hz
    clear HM
    have HM := Aside0.mk hz
    clear hz
    have c10 := HM.out.cell 10
    have f10 := HM.out.froz 10
    go_wp2
    first | go_end0 | ((try simp only [Exit.inBlock, Exit.then]); refine bodyPost_ret (results_none rfl _ _ _) rfl ?_) | refine ⟨_, results_none rfl _ _ _, ?_⟩
    refine ⟨rfl, vm, ?_⟩
    rw [show spendS S = { S with fuel := S.fuel - 1 } from if_neg (by have := F0.out; omega), fin_go (by exact he) n15]
    exact HM.out.set 10 _ rfl
set_option maxHeartbeats 8000000 in
set_option maxRecDepth 100000 in
theorem step_test {w W : World} {E : List (Nat × Array Value × Nat)} {G : Gr} {vs vr va vm : Value} {gb : Nat} {S : St} (h : MR w W E G vs gb vr va vm S) {y : S52} (hy : rd_T52 G.l0 S.at_ = y) (hG : G.Held w) (ha : 0 ≤ S.at_ ∧ S.at_ < (G.l0.length : Int)) (he : S.en = 0) (e : y.f0 = 15) (hf2 : 0 ≤ y.f2 ∧ y.f2 < (S.regs.length : Int)) (hf3 : 0 ≤ y.f3 ∧ y.f3 < (S.regs.length : Int)) (h4 : 14 ≤ y.f4 ∧ y.f4 ≤ 19) :
    Calls Try.prog 30 #[.pointer (some ⟨gb, 0, none⟩)] W fun e W' => e = .returned (.tuple #[]) ∧ ∃ v, MR w W' E G vs gb vr va v (finS S y (S)) := by
  have hu52 := Try.underlying52
  have hu66 := Try.underlying66
  have hu36 := Try.underlying36
  have hu28 := Try.underlying28
  have hu50 := Try.underlying50
  have HM := Aside0.mk h
  clear h
  have KE := Aside0.mk e
  have k11 : (y.f0 == (11 : Int)) = false := by rw [e]; rfl
  have k12 : (y.f0 == (12 : Int)) = false := by rw [e]; rfl
  have k13 : (y.f0 == (13 : Int)) = false := by rw [e]; rfl
  have k14 : (y.f0 == (14 : Int)) = false := by rw [e]; rfl
  have k15 : (y.f0 == (15 : Int)) = true := by rw [e]; rfl
  clear e
  obtain ⟨bt, hbt⟩ : ∃ b, testB y.f4 (S.regs.getD y.f2.toNat 0) (S.regs.getD y.f3.toNat 0) = b := ⟨_, rfl⟩
  have KT := Aside0.mk hbt
  have p1 := eq_true ha.1
  have q1 := eq_true ha.2
  have q2 : (S.at_.toNat < G.l0.length) = True := eq_true (by omega)
  go_enter Try.func30, Try.ntmps30
  go_upto_region 0 with (fail)
  obtain ⟨ad0, ee0, _⟩ := at_T52 ((hG.below HM.out.mem.hb).h0) S.at_ ha.1 ha.2
  have hS : ∀ w' : World, MR w w' E G vs gb vr va vm S → (w'.cell? ⟨gb, 0, none⟩ = some (.slice (some ad0) G.l0.length G.c0) ∧ w'.cell? ⟨gb, 10, none⟩ = some (.int .i64 S.at_) ∧ w'.cell? (ad0.add (S.at_.toNat * 8)) = some (.int .i64 y.f0) ∧ w'.cell? ⟨(ad0.add (S.at_.toNat * 8)).block, (ad0.add (S.at_.toNat * 8)).off + 1, none⟩ = some (.int .i64 y.f1) ∧ w'.cell? ⟨(ad0.add (S.at_.toNat * 8)).block, (ad0.add (S.at_.toNat * 8)).off + 2, none⟩ = some (.int .i64 y.f2) ∧ w'.cell? ⟨(ad0.add (S.at_.toNat * 8)).block, (ad0.add (S.at_.toNat * 8)).off + 3, none⟩ = some (.int .i64 y.f3) ∧ w'.cell? ⟨(ad0.add (S.at_.toNat * 8)).block, (ad0.add (S.at_.toNat * 8)).off + 4, none⟩ = some (.int .i64 y.f4) ∧ w'.cell? ⟨(ad0.add (S.at_.toNat * 8)).block, (ad0.add (S.at_.toNat * 8)).off + 5, none⟩ = some (.int .i64 y.f5) ∧ w'.cell? ⟨(ad0.add (S.at_.toNat * 8)).block, (ad0.add (S.at_.toNat * 8)).off + 6, none⟩ = some (.int .i64 y.f6.f0) ∧ w'.cell? ⟨(ad0.add (S.at_.toNat * 8)).block, (ad0.add (S.at_.toNat * 8)).off + 7, none⟩ = some (.int .i64 y.f6.f1)) := fun w' hm => ⟨(hm.cell 0).trans (by rw [← ee0]; rfl), hm.cell 10, hm.code hG ha ee0 hy⟩
  refine start_ (n := 13) (S := fun w' => w'.cell? ⟨gb, 0, none⟩ = some (.slice (some ad0) G.l0.length G.c0) ∧ w'.cell? ⟨gb, 10, none⟩ = some (.int .i64 S.at_) ∧ w'.cell? (ad0.add (S.at_.toNat * 8)) = some (.int .i64 y.f0) ∧ w'.cell? ⟨(ad0.add (S.at_.toNat * 8)).block, (ad0.add (S.at_.toNat * 8)).off + 1, none⟩ = some (.int .i64 y.f1) ∧ w'.cell? ⟨(ad0.add (S.at_.toNat * 8)).block, (ad0.add (S.at_.toNat * 8)).off + 2, none⟩ = some (.int .i64 y.f2) ∧ w'.cell? ⟨(ad0.add (S.at_.toNat * 8)).block, (ad0.add (S.at_.toNat * 8)).off + 3, none⟩ = some (.int .i64 y.f3) ∧ w'.cell? ⟨(ad0.add (S.at_.toNat * 8)).block, (ad0.add (S.at_.toNat * 8)).off + 4, none⟩ = some (.int .i64 y.f4) ∧ w'.cell? ⟨(ad0.add (S.at_.toNat * 8)).block, (ad0.add (S.at_.toNat * 8)).off + 5, none⟩ = some (.int .i64 y.f5) ∧ w'.cell? ⟨(ad0.add (S.at_.toNat * 8)).block, (ad0.add (S.at_.toNat * 8)).off + 6, none⟩ = some (.int .i64 y.f6.f0) ∧ w'.cell? ⟨(ad0.add (S.at_.toNat * 8)).block, (ad0.add (S.at_.toNat * 8)).off + 7, none⟩ = some (.int .i64 y.f6.f1)) (ds := []) #[false, false, false, false, false, false, false, false, false, false, false, false, false] (by kernel_rfl) rfl rfl (hS _ HM.out.drew) (fun hHeld => ?_)
  refine with_tabW N30tab N30bits (fun HT_ HW_ => ?_)
  replace HM := Aside0.mk HM.out.drew
  generalize World.drew _ = wa at HM hHeld ⊢
  refine pureQ 0 11 HT_.out ?_
  refine pureQ 1 12 HT_.out ?_
  refine pureQ 2 13 HT_.out ?_
  refine pureQ 3 14 HT_.out ?_
  refine takeQ 4 15 HT_.out HW_.out hHeld ?_
  refine pureQ 5 16 HT_.out ?_
  refine pureQ 6 17 HT_.out ?_
  refine pureQ 7 18 HT_.out ?_
  refine takeQ 8 19 HT_.out HW_.out hHeld ?_
  refine pureQ 9 20 HT_.out ?_
  refine takeQ 10 21 HT_.out HW_.out hHeld ?_
  refine oneQ 11 2 HT_.out (fun K hK => ?_)
  refine box_step ?hg (N := 2) ?hd (cs := #[.int .i64 0, .int .i64 0, .int .i64 0, .int .i64 0, .int .i64 0, .int .i64 0, .int .i64 0, .int .i64 0]) (t := 52) ?hr ?_; (case hd => rfl); (case hg => rfl); (case hr => first | (go_simp; done) | (go_simp; rfl))
  intro g hg w6' hbox hb
  have NG := Aside0.mk (HM.out.new hg)
  have NE := Aside0.mk (HM.out.newE hg)
  have GE : Aside0 (w.heap.size ≤ g) := ⟨by rw [hg]; exact HM.out.mem.hb.size⟩
  replace HM := Aside0.mk (HM.out.below hb)
  have BK := Aside0.mk hbox
  clear hb hbox hg
  refine hK.out _ _ (hS _ HM.out) (fun hHeld => ?_)
  clear hK K
  refine normQ (N := 2) ?_
  refine one_ (i := 12) (N := none) #[true, true, true, true, true, true, true, true, true, true, true, true, true] rfl rfl (one_of HT_.out (by kernel_rfl)) (by decide) (fun K hK => ?_)
  obtain ⟨w1, hwz⟩ : ∃ wz, wz = ((((((((w6').setCell ⟨g, 0, none⟩ (.int .i64 y.f0)).setCell ⟨g, 1, none⟩ (.int .i64 y.f1)).setCell ⟨g, 2, none⟩ (.int .i64 y.f2)).setCell ⟨g, 3, none⟩ (.int .i64 y.f3)).setCell ⟨g, 4, none⟩ (.int .i64 y.f4)).setCell ⟨g, 5, none⟩ (.int .i64 y.f5)).setCell ⟨g, 6, none⟩ (.int .i64 y.f6.f0)).setCell ⟨g, 7, none⟩ (.int .i64 y.f6.f1) := ⟨_, rfl⟩
  obtain ⟨z1, z2⟩ := set8g BK.out _ _ _ _ _ _ _ _ w1 hwz
  have hcf := hcf8 BK
  obtain ⟨_, _, _, _, _, _, _, _, _, _, _, _, _, _, _, _⟩ := hcf
  refine skip_ (w1 := w1) (by rfl) rfl (by rw [hwz]; go_simp) ?_
  clear hwz
  replace HM := Aside0.mk (HM.out.side BK.out (by decide) (by decide) NG.out NE.out GE.out z2)
  clear BK
  have BK := Aside0.mk z1
  clear z1 z2
  refine hK.out _ _ (hS _ HM.out) (fun hHeld => ?_)
  clear hK K
  refine done_ (done_of HT_.out (by kernel_rfl)) ?_
  clear hHeld HT_ HW_
  clear hS NE GE p1 q1 q2 ee0
  have b0 := hcz BK 0
  have b6 := hcz BK 6
  have hcf := hcf8 BK
  obtain ⟨_, _, _, _, _, _, _, _, _, _, _, _, _, _, _, _⟩ := hcf
  go_upto_region 33 with (fail)
  cases bt
  · go_upto_region 35 with (first | ((with_reducible refine gate_callee (f := 42) rfl ?_); refine goesL_ _ rfl rfl Try.func42 (by kernel_rfl) rfl #[.pointer (some ⟨gb, 0, none⟩), .agg #[.int .i64 y.f0, .int .i64 y.f1, .int .i64 y.f2, .int .i64 y.f3, .int .i64 y.f4, .int .i64 y.f5, .int .i64 y.f6.f0, .int .i64 y.f6.f1]] rfl (by (try simp only [List.map_toArray, List.map_cons, List.map_nil]); first | done | rfl) ?_; refine (rtest_calls ((mup HM).out.cons (pkA BK).out (by decide) (by decide) NG.out) y hf2 hf3 h4).mono ?_; rintro e w2 ⟨rfl, hm⟩; rw [hbt]; clear HM BK; have BK := Aside0.mk hm.head; have HM := Aside0.mk hm.tail; clear hm; refine ⟨_, rfl, ?_⟩))
    have b6 := hcz BK 7
    go_upto_region 50 with (fail)
    have c10 := HM.out.cell 10
    have f10 := HM.out.froz 10
    go_wp2
    first | go_end0 | ((try simp only [Exit.inBlock, Exit.then]); refine bodyPost_ret (results_none rfl _ _ _) rfl ?_) | refine ⟨_, results_none rfl _ _ _, ?_⟩
    refine ⟨rfl, vm, ?_⟩
    rw [show finS S y S = { S with at_ := y.f6.f1 } from (by unfold finS nxtY; rw [if_pos he, KT.out]; exact congrArg (fun z => ({ S with at_ := z } : St)) (if_pos ⟨KE.out, rfl⟩))]
    exact HM.out.set 10 _ rfl
  · go_upto_region 50 with (first | ((with_reducible refine gate_callee (f := 42) rfl ?_); refine goesL_ _ rfl rfl Try.func42 (by kernel_rfl) rfl #[.pointer (some ⟨gb, 0, none⟩), .agg #[.int .i64 y.f0, .int .i64 y.f1, .int .i64 y.f2, .int .i64 y.f3, .int .i64 y.f4, .int .i64 y.f5, .int .i64 y.f6.f0, .int .i64 y.f6.f1]] rfl (by (try simp only [List.map_toArray, List.map_cons, List.map_nil]); first | done | rfl) ?_; refine (rtest_calls ((mup HM).out.cons (pkA BK).out (by decide) (by decide) NG.out) y hf2 hf3 h4).mono ?_; rintro e w2 ⟨rfl, hm⟩; rw [hbt]; clear HM BK; have BK := Aside0.mk hm.head; have HM := Aside0.mk hm.tail; clear hm; refine ⟨_, rfl, ?_⟩))
    have c10 := HM.out.cell 10
    have f10 := HM.out.froz 10
    go_wp2
    first | go_end0 | ((try simp only [Exit.inBlock, Exit.then]); refine bodyPost_ret (results_none rfl _ _ _) rfl ?_) | refine ⟨_, results_none rfl _ _ _, ?_⟩
    refine ⟨rfl, vm, ?_⟩
    rw [show finS S y S = { S with at_ := y.f6.f0 } from (by unfold finS nxtY; rw [if_pos he, KT.out]; exact congrArg (fun z => ({ S with at_ := z } : St)) (if_neg (fun hh => nomatch hh.2)))]
    exact HM.out.set 10 _ rfl
end Go.Proofs.Ytcalcbeonbfkmaa.P
