import Derived.Test.YtcalcbeonbfkmaaTrRG5
/- What the law's proof needs of G6. -/
namespace Go.Proofs.Ytcalcbeonbfkmaa.P
open Go.RowKit Go.Proofs.YtcalcbeonbfkmaaW.PrintWords Go.Proofs.YtcalcbeonbfkmaaW.PrintLast Go.Proofs.YtcalcbeonbfkmaaW.PrintMore Go.Proofs.YtcalcbeonbfkmaaO
attribute [local go_sem] max2_int min2_int max_two min_two max_three min_three max_four min_four
set_option linter.unusedVariables false
set_option linter.unusedSimpArgs false
theorem set4 {w : World} {g : Nat} {t : TypeId} {o0 o1 o2 o3 : Value} (h : w.heap[g]? = some (.cells #[o0, o1, o2, o3] t (0, 0))) (x0 x1 x2 x3 : Value) :
    ∀ w1, w1 = (((w.setCell ⟨g, 0, none⟩ x0).setCell ⟨g, 1, none⟩ x1).setCell ⟨g, 2, none⟩ x2).setCell ⟨g, 3, none⟩ x3 → w1.heap[g]? = some (.cells #[x0, x1, x2, x3] t (0, 0)) ∧ w.grownBy w1 (some g) := by
  intro w1 e1
  subst e1
  refine ⟨blk_put (cs := #[x0, x1, x2, o3]) (blk_put (cs := #[x0, x1, o2, o3]) (blk_put (cs := #[x0, o1, o2, o3]) (blk_put h 0 x0 rfl) 1 x1 rfl) 2 x2 rfl) 3 x3 rfl, rfl, rfl, rfl, by simp [World.setCell], fun k _ hne => ?_⟩
  have far : ∀ (w : World) (i : Nat) (v : Value), (w.setCell ⟨g, i, none⟩ v).heap[k]? = w.heap[k]? := fun w i v => Below.heap_setCell w _ v k (fun e => hne (by rw [e]))
  simp only [far]
theorem MB.inp {w W : World} {E : List (Nat × Array Value × Nat)} {gb tb : Nat} {cb : Array Value} {vr va vm : Value} {rs : List Int} {ars mks : List (List Int)} {G : Gr} {i : Int} {ad4 : Addr} {z : S79} (hm : MB w W E gb tb cb vr va vm rs ars mks) (hG : G.Held w) (hi : 0 ≤ i ∧ i < (G.l4.length : Int)) (ee4 : G.A4 = some ad4) (hz : rd_T79 G.l4 i = z) :
    W.cell? (ad4.add (i.toNat * 4)) = some (.string z.f0) ∧ W.cell? ⟨(ad4.add (i.toNat * 4)).block, (ad4.add (i.toNat * 4)).off + 1, none⟩ = some (.int .i64 z.f1) ∧ W.cell? ⟨(ad4.add (i.toNat * 4)).block, (ad4.add (i.toNat * 4)).off + 2, none⟩ = some (.int .i64 z.f2) ∧ W.cell? ⟨(ad4.add (i.toNat * 4)).block, (ad4.add (i.toNat * 4)).off + 3, none⟩ = some (.int .i64 z.f3) := by
  obtain ⟨ad, ee, h0, h1, h2, h3⟩ := at_T79 ((hG.below hm.mem.hb).h4) i hi.1 hi.2
  rw [ee4] at ee
  injection ee with ee
  subst ee
  rw [hz] at h0 h1 h2 h3
  exact ⟨h0, h1, h2, h3⟩
def readS (G : Gr) (sc : List Int) (S : St) (y : S52) : St :=
  if S.reads = (sc.length : Int) then { S with en := 2 }
  else if rd sc S.reads < (rd_T79 G.l4 y.f2).f2 then { S with reads := S.reads + 1, en := 5 }
  else if (rd_T79 G.l4 y.f2).f3 < rd sc S.reads then { S with reads := S.reads + 1, en := 5 }
  else { S with reads := S.reads + 1, regs := S.regs.set y.f1.toNat (rd sc S.reads) }
def N61T : Bool × List (List Nat × List Nat) := (true, [([], []), ([0], [0]), ([1], [1]), ([2], [2]), ([3], [3]), ([], []), ([5], [5]), ([4, 6], [4, 6]), ([7], [7]), ([], []), ([9, 8, 0, 1, 2, 3, 4, 5, 6, 7, 8, 9], [8, 9])])
def N61B : List Nat := [0, 1, 3, 7, 15, 0, 32, 127, 255, 0, 1023]
theorem N61tab : rtab .any (opsOf Try.f61 5) = N61T := by kernel_rfl
theorem N61bits : waitsOk N61T.2 N61B = true := by kernel_rfl
set_option maxHeartbeats 8000000 in
set_option maxRecDepth 100000 in
theorem read_calls {w W : World} {E : List (Nat × Array Value × Nat)} {G : Gr} {vs vr va vm : Value} {gb : Nat} {S : St} (h : MC w W E G vs gb vr va vm S) (y : S52) (hf1 : 0 ≤ y.f1 ∧ y.f1 < (S.regs.length : Int)) {As : Option Addr} {sc : List Int} {cs : Nat} (hvs : vs = .slice As sc.length cs) (hG : G.Held w) (hsc : Kd.C (Kd.int .i64) w As sc.length sc) (hr : 0 ≤ S.reads ∧ S.reads ≤ (sc.length : Int)) (hl : sc.length ≤ 9223372036854775807) (hi : 0 ≤ y.f2 ∧ y.f2 < (G.l4.length : Int)) :
    Calls Try.prog 61 #[.pointer (some ⟨gb, 0, none⟩), .agg #[.int .i64 y.f0, .int .i64 y.f1, .int .i64 y.f2, .int .i64 y.f3, .int .i64 y.f4, .int .i64 y.f5, .int .i64 y.f6.f0, .int .i64 y.f6.f1]] W fun e W' => e = .returned (.tuple #[]) ∧ MC w W' E G vs gb vr va vm (readS G sc S y) := by
  subst hvs
  obtain ⟨gr, cr, rfl⟩ := h.mem.regForm (by omega)
  have hu52 := Try.underlying52
  have hu74 := Try.underlying74
  have hu36 := Try.underlying36
  have hu28 := Try.underlying28
  have HM := Aside0.mk h
  clear h
  have hu79 := Try.underlying79
  have pf1 := eq_true hf1.1
  have qf1 := eq_true hf1.2
  have zf1 : (y.f1.toNat < S.regs.length) = True := eq_true (by omega)
  by_cases hq : S.reads = (sc.length : Int)
  · have eqb : (S.reads == (sc.length : Int)) = true := beq_iff_eq.mpr hq
    have KS := Aside0.mk (show readS G sc S y = { S with en := 2 } from if_pos hq)
    generalize readS G sc S y = SP at KS ⊢
    clear hq
    go_enter Try.func61, Try.ntmps61
    go_upto_region 1 with (first | ((with_reducible refine gate_dst (N := 3) rfl ?_); refine boxM 3 #[.int .i64 y.f0, .int .i64 y.f1, .int .i64 y.f2, .int .i64 y.f3, .int .i64 y.f4, .int .i64 y.f5, .int .i64 y.f6.f0, .int .i64 y.f6.f1] 52 HM ?_; clear HM; intro g w1 _ NG BK _ HM; have hcf := hcf8 BK; obtain ⟨_, _, _, _, _, _, _, _, _, _, _, _, _, _, _, _⟩ := hcf))
    have c8 := HM.out.cell 8
    have c16 := HM.out.cell 16
    go_quiet (fail)
    clear c8 c16
    replace HM := Aside0.mk (HM.out.drewN nq)
    replace BK := Aside0.mk (blk_drewN BK.out nq)
    generalize w1.drewN nq = w2 at HM BK ⊢
    clear nq
    go_wp2_with (first | ((with_reducible refine gate_callee (f := 71) rfl ?_); refine goesL_ _ rfl rfl Try.func71 (by kernel_rfl) rfl #[.pointer (some ⟨gb, 0, none⟩), .int .i64 2] rfl (by (try simp only [List.map_toArray, List.map_cons, List.map_nil]); first | done | rfl) ?_; refine (stop_calls (mup HM).out 2).mono ?_; rintro e w' ⟨rfl, hm⟩; clear HM; have HM := Aside0.mk hm; clear hm; refine ⟨_, rfl, ?_⟩))
    first | go_end0 | ((try simp only [Exit.inBlock, Exit.then]); refine bodyPost_ret (results_none rfl _ _ _) rfl ?_) | refine ⟨_, results_none rfl _ _ _, ?_⟩
    refine ⟨rfl, ?_⟩
    rw [KS.out]
    exact HM.out
  · have eqb : (S.reads == (sc.length : Int)) = false := beq_eq_false_iff_ne.mpr hq
    obtain ⟨x, hx⟩ : ∃ x, rd sc S.reads = x := ⟨_, rfl⟩
    have i1 : ((0 : Int) ≤ S.reads) = True := eq_true hr.1
    have i2 : (S.reads < (sc.length : Int)) = True := eq_true (by omega)
    have i3 : (S.reads.toNat < sc.length) = True := eq_true (by omega)
    have hwr : IntKind.i64.wrap (S.reads + 1) = S.reads + 1 := (i64_w _).trans (M.wrap64_in _ (by omega))
    obtain ⟨z, hz⟩ : ∃ z, rd_T79 G.l4 y.f2 = z := ⟨_, rfl⟩
    have KS := Aside0.mk (show readS G sc S y = if x < z.f2 then { S with reads := S.reads + 1, en := 5 } else if z.f3 < x then { S with reads := S.reads + 1, en := 5 } else { S with reads := S.reads + 1, regs := S.regs.set y.f1.toNat x } by unfold readS; rw [if_neg hq, hx, hz])
    generalize readS G sc S y = SP at KS ⊢
    obtain ⟨ads, es, _⟩ := Kd.at_int hsc S.reads (by omega) (by omega)
    subst es
    have j1 : ((0 : Int) ≤ y.f2) = True := eq_true hi.1
    have j2 : (y.f2 < (G.l4.length : Int)) = True := eq_true hi.2
    have j3 : (y.f2.toNat < G.l4.length) = True := eq_true (by omega)
    go_enter Try.func61, Try.ntmps61
    go_upto_region 1 with (first | ((with_reducible refine gate_dst (N := 3) rfl ?_); refine boxM 3 #[.int .i64 y.f0, .int .i64 y.f1, .int .i64 y.f2, .int .i64 y.f3, .int .i64 y.f4, .int .i64 y.f5, .int .i64 y.f6.f0, .int .i64 y.f6.f1] 52 HM ?_; clear HM; intro g w1 _ NG BK _ HM; have hcf := hcf8 BK; obtain ⟨_, _, _, _, _, _, _, _, _, _, _, _, _, _, _, _⟩ := hcf))
    have c8 := HM.out.cell 8
    have c16 := HM.out.cell 16
    go_quiet (fail)
    clear c8 c16
    go_upto_region 3 with (fail)
    replace HM := Aside0.mk (HM.out.drewN nq)
    replace BK := Aside0.mk (blk_drewN BK.out nq)
    generalize w1.drewN nq = w2 at HM BK ⊢
    clear nq
    have c8 := HM.out.cell 8
    have c16 := HM.out.cell 16
    obtain ⟨_, es, xs⟩ := Kd.at_int (Kd.C_below hsc HM.out.mem.hb) S.reads (by omega) (by omega)
    cases es
    rw [hx] at xs
    go_quiet (fail)
    clear c8 c16 xs
    go_upto_region 4 with (fail)
    replace HM := Aside0.mk (HM.out.drewN nq)
    replace BK := Aside0.mk (blk_drewN BK.out nq)
    generalize w2.drewN nq = w3 at HM BK ⊢
    clear nq
    have c16 := HM.out.cell 16
    have f16 := HM.out.froz 16
    go_upto_region 5 with (first | ((with_reducible refine gate_store (p := 38) (t := 3) rfl ?_); refine store_event (t := 3) (p := 38) (v := ?vf1) (w1 := w3.setCell ⟨gb, 16, none⟩ (.int .i64 (S.reads + 1))) ?hg ?ho ?hn ?hr ?_; (case ho => rfl); (case hg => rfl); (case hn => rfl); (case hr => first | (go_simp; done) | (go_simp; rfl)); intro w4 hw; have hm : MC w _ E G _ gb _ va vm { S with reads := S.reads + 1 } := HM.out.set 16 (.int .i64 (S.reads + 1)) rfl; rw [← hw] at hm; replace BK : Aside0 (w4.heap[g]? = some (.cells #[.int .i64 y.f0, .int .i64 y.f1, .int .i64 y.f2, .int .i64 y.f3, .int .i64 y.f4, .int .i64 y.f5, .int .i64 y.f6.f0, .int .i64 y.f6.f1] 52 (0, 0))) := ⟨by rw [hw]; exact (Below.heap_setCell _ _ _ g (fun e => NG.out e.symm)).trans BK.out⟩; clear HM hw; have HM := Aside0.mk hm; clear hm))
    clear c16 f16
    obtain ⟨ad4, ee4, _⟩ := at_T79 ((hG.below HM.out.mem.hb).h4) y.f2 hi.1 hi.2
    have hS : ∀ w' : World, MC w w' E G (.slice (some ads) sc.length cs) gb (.slice (some ⟨gr, 0, none⟩) S.regs.length cr) va vm { S with reads := S.reads + 1 } → w'.heap[g]? = some (.cells #[.int .i64 y.f0, .int .i64 y.f1, .int .i64 y.f2, .int .i64 y.f3, .int .i64 y.f4, .int .i64 y.f5, .int .i64 y.f6.f0, .int .i64 y.f6.f1] 52 (0, 0)) → (w'.cell? ⟨gb, 4, none⟩ = some (.slice (some ad4) G.l4.length G.c4) ∧ w'.cell? ⟨g, 2, none⟩ = some (.int .i64 y.f2) ∧ w'.cell? (ad4.add (y.f2.toNat * 4)) = some (.string z.f0) ∧ w'.cell? ⟨(ad4.add (y.f2.toNat * 4)).block, (ad4.add (y.f2.toNat * 4)).off + 1, none⟩ = some (.int .i64 z.f1) ∧ w'.cell? ⟨(ad4.add (y.f2.toNat * 4)).block, (ad4.add (y.f2.toNat * 4)).off + 2, none⟩ = some (.int .i64 z.f2) ∧ w'.cell? ⟨(ad4.add (y.f2.toNat * 4)).block, (ad4.add (y.f2.toNat * 4)).off + 3, none⟩ = some (.int .i64 z.f3)) := fun w' hm hb => ⟨(hm.cell 4).trans (by rw [← ee4]; rfl), hcz ⟨hb⟩ 2, hm.inp hG hi ee4 hz⟩
    refine start_ (n := 11) (S := fun w' => w'.cell? ⟨gb, 4, none⟩ = some (.slice (some ad4) G.l4.length G.c4) ∧ w'.cell? ⟨g, 2, none⟩ = some (.int .i64 y.f2) ∧ w'.cell? (ad4.add (y.f2.toNat * 4)) = some (.string z.f0) ∧ w'.cell? ⟨(ad4.add (y.f2.toNat * 4)).block, (ad4.add (y.f2.toNat * 4)).off + 1, none⟩ = some (.int .i64 z.f1) ∧ w'.cell? ⟨(ad4.add (y.f2.toNat * 4)).block, (ad4.add (y.f2.toNat * 4)).off + 2, none⟩ = some (.int .i64 z.f2) ∧ w'.cell? ⟨(ad4.add (y.f2.toNat * 4)).block, (ad4.add (y.f2.toNat * 4)).off + 3, none⟩ = some (.int .i64 z.f3)) (ds := []) #[false, false, false, false, false, false, false, false, false, false, false] (by kernel_rfl) rfl rfl (hS _ HM.out.drew (blk_drew BK.out)) (fun hHeld => ?_)
    refine with_tabW N61tab N61bits (fun HT_ HW_ => ?_)
    replace HM := Aside0.mk HM.out.drew
    replace BK := Aside0.mk (blk_drew BK.out)
    generalize World.drew _ = wa at HM BK hHeld ⊢
    refine pureQ 0 39 HT_.out ?_
    refine pureQ 1 40 HT_.out ?_
    refine pureQ 2 41 HT_.out ?_
    refine pureQ 3 42 HT_.out ?_
    refine takeQ 4 43 HT_.out HW_.out hHeld ?_
    refine pureQ 5 44 HT_.out ?_
    refine takeQ 6 45 HT_.out HW_.out hHeld ?_
    refine pureQ 7 46 HT_.out ?_
    refine takeQ 8 47 HT_.out HW_.out hHeld ?_
    refine oneQ 9 5 HT_.out (fun K hK => ?_)
    refine box_step ?hg (N := 5) ?hd (cs := #[.string ⟨#[]⟩, .int .i64 0, .int .i64 0, .int .i64 0]) (t := 79) ?hr ?_; (case hd => rfl); (case hg => rfl); (case hr => first | (go_simp; done) | (go_simp; rfl))
    intro g5 hg w6 hbox hb
    have NG5 := Aside0.mk (HM.out.new hg)
    have NE := Aside0.mk (HM.out.newE hg)
    have GE : Aside0 (w.heap.size ≤ g5) := ⟨by rw [hg]; exact HM.out.mem.hb.size⟩
    have N5 : Aside0 (g ≠ g5) := ⟨by rw [hg]; exact Nat.ne_of_lt (blk_lt BK.out)⟩
    replace HM := Aside0.mk (HM.out.below hb)
    replace BK := bbw BK hb
    have B5 := Aside0.mk hbox
    clear hb hbox hg
    refine hK.out _ _ (hS _ HM.out BK.out) (fun hHeld => ?_)
    clear hK K
    refine normQ (N := 5) ?_
    refine one_ (i := 10) (N := none) #[true, true, true, true, true, true, true, true, true, true, true] rfl rfl (one_of HT_.out (by kernel_rfl)) (by decide) (fun K hK => ?_)
    obtain ⟨wz, hwz⟩ : ∃ wz, wz = (((w6.setCell ⟨g5, 0, none⟩ (.string z.f0)).setCell ⟨g5, 1, none⟩ (.int .i64 z.f1)).setCell ⟨g5, 2, none⟩ (.int .i64 z.f2)).setCell ⟨g5, 3, none⟩ (.int .i64 z.f3) := ⟨_, rfl⟩
    obtain ⟨z1, z2⟩ := set4 B5.out _ _ _ _ wz hwz
    have hcf := hcf4 B5
    obtain ⟨_, _, _, _, _, _, _, _⟩ := hcf
    refine skip_ (w1 := wz) (by rfl) rfl (by rw [hwz]; go_simp) ?_
    clear hwz
    replace HM := Aside0.mk (HM.out.side B5.out (by decide) (by decide) NG5.out NE.out GE.out z2)
    replace BK := boxed_other BK z2 N5
    clear B5
    have B5 := Aside0.mk z1
    clear z1 z2
    refine hK.out _ _ (hS _ HM.out BK.out) (fun hHeld => ?_)
    clear hK K
    refine done_ (done_of HT_.out (by kernel_rfl)) ?_
    clear hHeld HT_ HW_
    clear hS
    go_upto_region 6 with (fail)
    have hcf := hcf4 B5
    obtain ⟨_, _, _, _, _, _, _, _⟩ := hcf
    by_cases cl : x < z.f2
    · have clb : decide (x < z.f2) = true := decide_eq_true cl
      replace cl := Aside0.mk cl
      go_wp2_with (first | ((with_reducible refine gate_callee (f := 71) rfl ?_); refine goesL_ _ rfl rfl Try.func71 (by kernel_rfl) rfl #[.pointer (some ⟨gb, 0, none⟩), .int .i64 5] rfl (by (try simp only [List.map_toArray, List.map_cons, List.map_nil]); first | done | rfl) ?_; refine (stop_calls (mup HM).out 5).mono ?_; rintro e w' ⟨rfl, hm⟩; clear HM; have HM := Aside0.mk hm; clear hm; refine ⟨_, rfl, ?_⟩))
      first | go_end0 | ((try simp only [Exit.inBlock, Exit.then]); refine bodyPost_ret (results_none rfl _ _ _) rfl ?_) | refine ⟨_, results_none rfl _ _ _, ?_⟩
      refine ⟨rfl, ?_⟩
      rw [KS.out, if_pos cl.out]
      exact HM.out
    · have clb : decide (x < z.f2) = false := decide_eq_false cl
      replace cl := Aside0.mk cl
      by_cases ch : z.f3 < x
      · have chb : decide (z.f3 < x) = true := decide_eq_true ch
        replace ch := Aside0.mk ch
        go_wp2_with (first | ((with_reducible refine gate_callee (f := 71) rfl ?_); refine goesL_ _ rfl rfl Try.func71 (by kernel_rfl) rfl #[.pointer (some ⟨gb, 0, none⟩), .int .i64 5] rfl (by (try simp only [List.map_toArray, List.map_cons, List.map_nil]); first | done | rfl) ?_; refine (stop_calls (mup HM).out 5).mono ?_; rintro e w' ⟨rfl, hm⟩; clear HM; have HM := Aside0.mk hm; clear hm; refine ⟨_, rfl, ?_⟩))
        first | go_end0 | ((try simp only [Exit.inBlock, Exit.then]); refine bodyPost_ret (results_none rfl _ _ _) rfl ?_) | refine ⟨_, results_none rfl _ _ _, ?_⟩
        refine ⟨rfl, ?_⟩
        rw [KS.out, if_neg (by have := cl.out; omega), if_pos ch.out]
        exact HM.out
      · have chb : decide (z.f3 < x) = false := decide_eq_false ch
        replace ch := Aside0.mk ch
        go_upto_region 8 with (fail)
        have b1 := hcz BK 1
        have c10 := HM.out.cell 10
        obtain ⟨xf1, rf1⟩ := HM.out.mem.reg y.f1.toNat (by omega)
        go_still_tail 8, (by kernel_rfl)
        change wpList _ _ _ _ _ wz.drew
        replace HM := Aside0.mk HM.out.drew
        replace BK := Aside0.mk (blk_drew BK.out)
        go_wp2
        first | go_end0 | ((try simp only [Exit.inBlock, Exit.then]); refine bodyPost_ret (results_none rfl _ _ _) rfl ?_) | refine ⟨_, results_none rfl _ _ _, ?_⟩
        refine ⟨rfl, ?_⟩
        rw [KS.out, if_neg (by have := cl.out; omega), if_neg (by have := ch.out; omega)]
        exact HM.out.setReg _ _
end Go.Proofs.Ytcalcbeonbfkmaa.P
/- What the law's proof needs of G7. -/
namespace Go.Proofs.Ytcalcbeonbfkmaa.P
open Go.RowKit Go.Proofs.YtcalcbeonbfkmaaW.PrintWords Go.Proofs.YtcalcbeonbfkmaaW.PrintLast Go.Proofs.YtcalcbeonbfkmaaW.PrintMore Go.Proofs.YtcalcbeonbfkmaaO
attribute [local go_sem] max2_int min2_int max_two min_two max_three min_three max_four min_four
set_option linter.unusedVariables false
set_option linter.unusedSimpArgs false
theorem below_none {w w' : World} (h : w.grownBy w' none) : Below w.heap.size w w' := ⟨h.os, h.tape, h.output, h.size, fun k hk => h.block k hk (by simp)⟩
theorem Mem.regCap {w W : World} {E : List (Nat × Array Value × Nat)} {va vm : Value} {rs : List Int} {ars mks : List (List Int)} {gr n cr : Nat} (h : Mem w W E (.slice (some ⟨gr, 0, none⟩) n cr) va vm rs ars mks) : rs.length ≤ cr := by
  obtain ⟨⟨okR, okA, h1, h2, h3, h4, h5, h7⟩, h6⟩ := h
  have := Kd.R_reads' h1
  omega
theorem Mem.regC {w W : World} {E : List (Nat × Array Value × Nat)} {va vm : Value} {rs : List Int} {ars mks : List (List Int)} {gr n cr : Nat} (h : Mem w W E (.slice (some ⟨gr, 0, none⟩) n cr) va vm rs ars mks) : Kd.C (Kd.int .i64) W (some ⟨gr, 0, none⟩) n rs := by
  obtain ⟨⟨okR, okA, h1, h2, h3, h4, h5, h7⟩, h6⟩ := h
  obtain ⟨e1, _, e3⟩ := Kd.R_reads' h1
  rw [e1]
  exact e3
def N34T : Bool × List (List Nat × List Nat) := (true, [([], []), ([], []), ([1], [1]), ([2], [2]), ([3], [3]), ([], []), ([5], [5]), ([6], [6]), ([7], [7]), ([8], [8]), ([9], [9]), ([4, 10], [4, 10]), ([0, 11], [0, 11]), ([12, 12, 0, 1, 2, 3, 4, 5, 6, 7, 8, 9, 10, 11, 12], [12])])
def N34B : List Nat := [0, 0, 2, 6, 14, 0, 32, 96, 224, 480, 992, 2046, 4095, 8191]
theorem N34tab : rtab .any (opsOf Try.f34 1) = N34T := by kernel_rfl
theorem N34bits : waitsOk N34T.2 N34B = true := by kernel_rfl
set_option maxHeartbeats 8000000 in
set_option maxRecDepth 100000 in
theorem scalars_calls {w W : World} {E : List (Nat × Array Value × Nat)} {G : Gr} {vs vr va vm : Value} {gb : Nat} {S : St} (h : MC w W E G vs gb vr va vm S) (h5 : G.l5.length ≤ S.regs.length) (h0 : ∃ gr cr, vr = .slice (some ⟨gr, 0, none⟩) S.regs.length cr) (hl : S.regs.length ≤ 100000) :
    Calls Try.prog 34 #[.pointer (some ⟨gb, 0, none⟩)] W fun e W' => ∃ v, e = .returned v ∧ Kd.R (Kd.int .i64) 2 W' W.heap.size (fun k => W.heap.size ≤ k) v (S.regs.take G.l5.length) ∧ MC w W' E G vs gb vr va vm S ∧ Below W.heap.size W W' := by
  obtain ⟨gr, cr, rfl⟩ := h0
  have hu52 := Try.underlying52
  have hu74 := Try.underlying74
  have hu36 := Try.underlying36
  have hu28 := Try.underlying28
  have HM := Aside0.mk h
  clear h
  have hu29 := Try.underlying29
  have q5 : ((G.l5.length : Int) ≤ (cr : Int)) = True := eq_true (by have := HM.out.mem.regCap; omega)
  have q6 : (G.l5.length ≤ cr) = True := eq_true (by have := HM.out.mem.regCap; omega)
  have HB := Aside0.mk (Below.refl W.heap.size W)
  have HM0 := HM
  have HL := Aside0.mk (And.intro h5 hl)
  go_enter Try.func34, Try.ntmps34
  go_upto_region 1 with (fail)
  have hS : ∀ w' : World, MC w w' E G vs gb (.slice (some ⟨gr, 0, none⟩) S.regs.length cr) va vm S → (w'.cell? ⟨gb, 10, none⟩ = some (.slice (some ⟨gr, 0, none⟩) S.regs.length cr) ∧ w'.cell? ⟨gb, 5, none⟩ = some (.slice G.A5 G.l5.length G.c5)) := fun w' hm => ⟨hm.cell 10, hm.cell 5⟩
  refine start_ (n := 14) (S := fun w' => w'.cell? ⟨gb, 10, none⟩ = some (.slice (some ⟨gr, 0, none⟩) S.regs.length cr) ∧ w'.cell? ⟨gb, 5, none⟩ = some (.slice G.A5 G.l5.length G.c5)) (ds := []) #[false, false, false, false, false, false, false, false, false, false, false, false, false, false] (by kernel_rfl) rfl rfl (hS _ HM.out.drew) (fun hHeld => ?_)
  refine with_tabW N34tab N34bits (fun HT_ HW_ => ?_)
  replace HM := Aside0.mk HM.out.drew
  replace HB := Aside0.mk (below_drew1 HB.out)
  generalize World.drew _ = wa at HM HB hHeld ⊢
  refine pureQ 1 4 HT_.out ?_
  refine pureQ 2 5 HT_.out ?_
  refine pureQ 3 6 HT_.out ?_
  refine takeQ 4 7 HT_.out HW_.out hHeld ?_
  refine pureQ 5 8 HT_.out ?_
  refine pureQ 6 9 HT_.out ?_
  refine pureQ 7 10 HT_.out ?_
  refine pureQ 8 11 HT_.out ?_
  refine takeQ 9 12 HT_.out HW_.out hHeld ?_
  refine pureQ 10 13 HT_.out ?_
  refine pureQ 11 14 HT_.out ?_
  refine oneQ 0 3 HT_.out (fun K hK => ?_)
  refine Kd.R_lit_step (Kd.int .i64) (w0 := W) W.heap.size 2 rfl (N := 3) rfl (xs := ([] : List Int)) (inner := []) (ok := fun k => W.heap.size ≤ k) (okp := fun _ => False) ?hr (Reps.none _ _) (fun _ hk => hk.elim) HB.out.size HB.out HB.out.size (by simp) ?_; (case hr => first | (go_simp; done) | (go_simp; rfl))
  intro v wo ho hb hg _
  have HO := Aside0.mk ho
  replace HM := Aside0.mk (HM.out.below (below_none hg))
  replace HB := Aside0.mk hb
  clear ho hb hg
  refine hK.out _ _ (hS _ HM.out) (fun hHeld => ?_)
  clear hK K
  refine normQ (N := 3) ?_
  refine oneQ 12 15 HT_.out (fun K hK => ?_)
  refine Kd.R_append_rows_step (Kd.int .i64) (w0 := W) W.heap.size (by rfl) (.tmp 3) (.tmp 14) 29 2 (.int .i64 0) 8 rfl Try.underlying29 info2 rfl (by decide) (by omega) v ([] : List Int) (S.regs.take G.l5.length) _ _ _ (fun k => W.heap.size ≤ k) (fun _ => False) rfl rfl HO.out ?aR (fun _ _ h => h) (fun _ h => h.elim) (fun k hk => Nat.le_trans HB.out.size hk) HB.out HB.out.size ?aL ?_
  case aR => have := Kd.C_take HM.out.mem.regC (m := G.l5.length) HL.out.1; rwa [List.length_take, Nat.min_eq_left HL.out.1] at this
  case aL => have := HL.out; simp; omega
  intro v1 w1 ho hb hg hat
  rw [List.nil_append] at ho
  have HO1 := Aside0.mk ho
  replace HM := Aside0.mk (HM0.out.below hb)
  replace HB := Aside0.mk hb
  clear ho hb hg hat HO
  refine hK.out _ _ (hS _ HM.out) (fun hHeld => ?_)
  clear hK K
  refine normQ (N := 15) ?_
  refine pureQ 13 2 HT_.out ?_
  refine done_ (done_of HT_.out (by kernel_rfl)) ?_
  clear hHeld HT_ HW_
  go_wp2
  go_ret
  exact ⟨v1, rfl, HO1.out, HM.out, HB.out⟩
def N65T : Bool × List (List Nat × List Nat) := (true, [([], []), ([], []), ([1], [1]), ([2], [2]), ([3], [3]), ([4], [4]), ([], []), ([6], [6]), ([7], [7]), ([5, 8, 7], [5, 8]), ([0, 0, 1, 2, 3, 4, 5, 6, 7, 8, 9], [0]), ([10, 0, 1, 2, 3, 4, 5, 6, 7, 8, 9], [10]), ([11, 0, 1, 2, 3, 4, 5, 6, 7, 8, 9], [11]), ([12, 9, 9, 0, 1, 2, 3, 4, 5, 6, 7, 8, 9], [9, 12])])
def N65B : List Nat := [0, 0, 2, 6, 14, 30, 0, 64, 192, 510, 1023, 2047, 4095, 8191]
theorem N65tab : rtab .any (opsOf Try.f65 4) = N65T := by kernel_rfl
theorem N65bits : waitsOk N65T.2 N65B = true := by kernel_rfl
theorem Mem.markForm {w W : World} {E : List (Nat × Array Value × Nat)} {vr va vm : Value} {rs : List Int} {ars mks : List (List Int)} (h : Mem w W E vr va vm rs ars mks) : ∃ A c, vm = .slice A mks.length c := by
  obtain ⟨⟨okR, okA, h1, h2, h3, h4, h5, h7⟩, h6⟩ := h
  exact Kd.R_slice h3
section
variable {ops : Array Oper} {o : Oper} {a : Act} {Q : Exit → Act → World → Prop} {Kc : Act → World → Prop}
/-- A row that is new is appended to the marks. -/
theorem MB.push_step {w W0 W : World} {E : List (Nat × Array Value × Nat)} {gb tb : Nat} {cb : Array Value} {vr va vm v : Value} {rs row : List Int} {ars mks : List (List Int)} (h : MB w W0 E gb tb cb vr va vm rs ars mks) (hb : Below W0.heap.size W0 W) (hv : Kd.R (Kd.int .i64) 2 W W0.heap.size (fun k => W0.heap.size ≤ k) v row)
    (s x : Operand) (ho : o.op = .call { callee := .builtin .append, args := #[s, x], argTypes := #[34, 34] }) (hs : a.eval s = vm) (hx : a.eval x = .slice (some ⟨W.heap.size, 0, none⟩) 1 1) (hl : mks.length < 1000)
    (hk : ∀ v1 w1, MB w w1 E gb tb cb vr va v1 rs ars (mks ++ [row]) → Kc (a.put o.dst v1) w1)
    (hw : Region.wanted o (yielded ops a.tmps) = true := by rfl) :
    if Region.wanted o (yielded ops a.tmps) = true then Oper.wp Try.prog o a (W.alloc (.cells [v].toArray 29)) Kc Q else Kc (a.put o.dst undef) (W.alloc (.cells [v].toArray 29)) := by
  have hW := h.below hb
  obtain ⟨⟨okR, okA, h1, h2, h3, h4, h5, h7⟩, h6⟩ := h.mem
  have hlt := Kd.R_lt h3
  have g1 := Kd.R_below h1 hb
  have g2 := Kd.S_below h2 hb
  have g3 := Kd.R_below h3 hb
  have hsz := hb.size
  refine Kd.R_append_step kL (w0 := w) w.heap.size hw s x 34 29 (.slice none 0 0) 24 ho Try.underlying34 info29 rfl (by decide) (by omega) vm mks row [v] (fun k => ¬ okR k ∧ ¬ okA k) (fun k => W0.heap.size ≤ k) hs hx ⟨v, rfl, Kd.R_lower hv h6.size⟩ (fun k hk => ⟨⟨fun hr => ?_, fun ha => ?_⟩, fun e => ?_⟩) (fun k hk => ⟨fun hr => ?_, fun ha => ?_⟩) g3 hW.mem.hb hW.mem.hb.size (by omega) ?_
  · have := h5 k (.inl hr); omega
  · have := h5 k (.inr ha); omega
  · have := hlt k e.symm; omega
  · have := h5 k (.inl hr); omega
  · have := h5 k (.inr ha); omega
  · intro v1 w1 hR hbw hg hat
    have own : ∀ k, vm.ownBlock = some k → ¬ okR k ∧ ¬ okA k := h3.1
    refine hk v1 w1 ⟨⟨⟨okR, okA, Kd.R_grown g1 hg (fun k hk e => (own k e.symm).1 hk), Kd.S_grown g2 hg (fun k hk e => (own k e.symm).2 hk), hR, h4, fun k hk => Nat.lt_of_lt_of_le (h5 k hk) (Nat.le_trans hsz hg.size), h7⟩, hbw⟩, (hg.block gb (blk_lt hW.bx) (Kd.R_ne g3 hW.bx hW.t29)).trans hW.bx, h.gw, h.t2, h.t29, fun z hz => ⟨(hg.block z.1 (blk_lt (hW.fx z hz).1) (fun e => (own z.1 e.symm).1 (h7 z hz).1)).trans (hW.fx z hz).1, (hW.fx z hz).2⟩⟩
end
def loopS (G : Gr) (S : St) : St :=
  if G.ticks ≠ 0 ∧ S.ticks = G.ticks then { S with en := 3 }
  else if S.fuel ≤ 0 then { S with en := 4 }
  else if S.marks.length < 64 then { S with fuel := S.fuel - 1, marks := S.marks ++ [S.regs.take G.l5.length] } else { S with fuel := S.fuel - 1 }
set_option maxHeartbeats 8000000 in
set_option maxRecDepth 100000 in
theorem loop_calls {w W : World} {E : List (Nat × Array Value × Nat)} {G : Gr} {vs vr va vm : Value} {gb : Nat} {S : St} (h : MC w W E G vs gb vr va vm S) (y : S52) (h5 : G.l5.length ≤ S.regs.length) (h0 : ∃ gr cr, vr = .slice (some ⟨gr, 0, none⟩) S.regs.length cr) (hl : S.regs.length ≤ 100000) (hf : 0 ≤ S.fuel ∧ S.fuel ≤ 9223372036854775807) :
    Calls Try.prog 65 #[.pointer (some ⟨gb, 0, none⟩), .agg #[.int .i64 y.f0, .int .i64 y.f1, .int .i64 y.f2, .int .i64 y.f3, .int .i64 y.f4, .int .i64 y.f5, .int .i64 y.f6.f0, .int .i64 y.f6.f1]] W fun e W' => e = .returned (.tuple #[]) ∧ ∃ v, MC w W' E G vs gb vr va v (loopS G S) := by
  obtain ⟨Am, cm, rfl⟩ := h.mem.markForm
  have hu52 := Try.underlying52
  have hu74 := Try.underlying74
  have hu36 := Try.underlying36
  have hu28 := Try.underlying28
  have HM := Aside0.mk h
  clear h
  generalize hSP : loopS G S = SP
  have KS := Aside0.mk hSP.symm
  clear hSP
  have K5 := Aside0.mk (And.intro h5 (And.intro h0 hl))
  clear h5 h0 hl
  go_enter Try.func65, Try.ntmps65
  go_upto_region 1 with (first | ((with_reducible refine gate_dst (N := 3) rfl ?_); refine boxM 3 #[.int .i64 y.f0, .int .i64 y.f1, .int .i64 y.f2, .int .i64 y.f3, .int .i64 y.f4, .int .i64 y.f5, .int .i64 y.f6.f0, .int .i64 y.f6.f1] 52 HM ?_; clear HM; intro g w1 _ NG BK _ HM; have hcf := hcf8 BK; obtain ⟨_, _, _, _, _, _, _, _, _, _, _, _, _, _, _, _⟩ := hcf))
  obtain ⟨c, hc⟩ : ∃ c : Bool, decide (G.ticks ≠ 0 ∧ S.ticks = G.ticks) = c := ⟨_, rfl⟩
  have KC := Aside0.mk hc
  clear hc
  simp only [Act.put, List.setIfInBounds_toArray, List.set_cons_zero, List.set_cons_succ]
  go_cut [22] (fun v22 wc => v22 = .bool c ∧ Aside0 (MC w wc E G vs gb vr va (.slice Am S.marks.length cm) S))
  case first =>
   by_cases t0 : G.ticks = 0
   · have t0b : (G.ticks != 0) = false := bne_eq_false_iff_eq.mpr t0
     have hcc : c = false := KC.out.symm.trans (decide_eq_false (fun hh => hh.1 t0))
     clear KC t0
     subst hcc
     have c3 := HM.out.cell 3
     have c15 := HM.out.cell 15
     go_quiet (fail)
     clear c3 c15
     replace HM := Aside0.mk (HM.out.drewN nq)
     generalize w1.drewN nq = w2 at HM ⊢
     clear nq
     try go_wp2
     go_meet
     case rel => exact ⟨rfl, HM⟩
   · have t0b : (G.ticks != 0) = true := bne_iff_ne.mpr t0
     by_cases t1 : S.ticks = G.ticks
     · have t1b : (S.ticks == G.ticks) = true := beq_iff_eq.mpr t1
       have hcc : c = true := KC.out.symm.trans (decide_eq_true ⟨t0, t1⟩)
       clear KC t0 t1
       subst hcc
       have c3 := HM.out.cell 3
       have c15 := HM.out.cell 15
       go_quiet (fail)
       clear c3 c15
       replace HM := Aside0.mk (HM.out.drewN nq)
       generalize w1.drewN nq = w2 at HM ⊢
       clear nq
       try go_wp2
       go_meet
       case rel => exact ⟨rfl, HM⟩
     · have t1b : (S.ticks == G.ticks) = false := beq_eq_false_iff_ne.mpr t1
       have hcc : c = false := KC.out.symm.trans (decide_eq_false (fun hh => t1 hh.2))
       clear KC t0 t1
       subst hcc
       have c3 := HM.out.cell 3
       have c15 := HM.out.cell 15
       go_quiet (fail)
       clear c3 c15
       replace HM := Aside0.mk (HM.out.drewN nq)
       generalize w1.drewN nq = w2 at HM ⊢
       clear nq
       try go_wp2
       go_meet
       case rel => exact ⟨rfl, HM⟩
  case rest =>
   clear HM BK
   obtain ⟨rfl, HM⟩ := hcut
   cases c
   · have hn : Aside0 (¬ (G.ticks ≠ 0 ∧ S.ticks = G.ticks)) := ⟨of_decide_eq_false KC.out⟩
     by_cases f0 : S.fuel ≤ 0
     · have f0b : decide (0 < S.fuel) = false := decide_eq_false (by omega)
       have KF : Aside0 (spendS S = { S with en := 4 }) := ⟨if_pos f0⟩
       replace f0 := Aside0.mk f0
       go_wp2_with (first | ((with_reducible refine gate_callee (f := 68) rfl ?_); refine goesL_ _ rfl rfl Try.func68 (by kernel_rfl) rfl #[.pointer (some ⟨gb, 0, none⟩)] rfl (by (try simp only [List.map_toArray, List.map_cons, List.map_nil]); first | done | rfl) ?_; refine (spend_calls (mup HM).out hf).mono ?_; rintro e w3 ⟨rfl, hm⟩; clear HM; rw [KF.out] at hm; have HM := Aside0.mk hm; clear hm; have c19 := HM.out.cell 19; refine ⟨_, rfl, ?_⟩))
       first | go_end0 | ((try simp only [Exit.inBlock, Exit.then]); refine bodyPost_ret (results_none rfl _ _ _) rfl ?_) | refine ⟨_, results_none rfl _ _ _, ?_⟩
       refine ⟨rfl, .slice Am S.marks.length cm, ?_⟩
       rw [KS.out, show loopS G S = _ from (if_neg hn.out).trans (if_pos f0.out)]
       exact HM.out
     · have f0b : decide (0 < S.fuel) = true := decide_eq_true (by omega)
       have KF : Aside0 (spendS S = { S with fuel := S.fuel - 1 }) := ⟨if_neg f0⟩
       replace f0 := Aside0.mk f0
       by_cases m0 : S.marks.length < 64
       · have m0b : decide ((S.marks.length : Int) < 64) = true := decide_eq_true (by omega)
         go_upto_region 4 with (first | ((with_reducible refine gate_callee (f := 68) rfl ?_); refine goesL_ _ rfl rfl Try.func68 (by kernel_rfl) rfl #[.pointer (some ⟨gb, 0, none⟩)] rfl (by (try simp only [List.map_toArray, List.map_cons, List.map_nil]); first | done | rfl) ?_; refine (spend_calls (mup HM).out hf).mono ?_; rintro e w3 ⟨rfl, hm⟩; clear HM; rw [KF.out] at hm; have HM := Aside0.mk hm; clear hm; have c19 := HM.out.cell 19; refine ⟨_, rfl, ?_⟩))
         clear c19
         have hS : ∀ (w' : World) (W1 : World), MC w w' E G vs gb vr va (.slice Am S.marks.length cm) { S with fuel := S.fuel - 1 } → (w'.cell? ⟨gb, 19, none⟩ = some (.slice Am S.marks.length cm)) := fun w' _ hm => hm.cell 19
         refine start_ (n := 14) (S := fun w' => w'.cell? ⟨gb, 19, none⟩ = some (.slice Am S.marks.length cm)) (ds := [13]) #[false, false, false, false, false, false, false, false, false, false, false, false, false, false] (by kernel_rfl) rfl rfl (hS _ W HM.out.drew) (fun hHeld => ?_)
         refine with_tabW N65tab N65bits (fun HT_ HW_ => ?_)
         replace HM := Aside0.mk HM.out.drew
         generalize World.drew _ = wa at HM hHeld ⊢
         refine pureQ 0 36 HT_.out ?_
         refine pureQ 1 37 HT_.out ?_
         refine pureQ 2 38 HT_.out ?_
         refine pureQ 3 39 HT_.out ?_
         refine pureQ 4 40 HT_.out ?_
         refine takeQ 5 41 HT_.out HW_.out hHeld ?_
         refine pureQ 6 42 HT_.out ?_
         refine oneQ 7 43 HT_.out (fun K hK => ?_)
         refine goesQ Try.func34 #[.pointer (some ⟨gb, 0, none⟩)] ?_
         refine (scalars_calls HM.out K5.out.1 K5.out.2.1 K5.out.2.2).mono ?_
         rintro e w5 ⟨v, rfl, ho, hm, hb⟩
         change Kd.R _ _ _ _ _ v (S.regs.take G.l5.length) at ho
         obtain ⟨row, er⟩ : ∃ r, S.regs.take G.l5.length = r := ⟨_, rfl⟩
         rw [er] at ho
         have ER := Aside0.mk er
         clear er
         obtain ⟨Av, cv, ev⟩ := Kd.R_slice ho
         subst ev
         refine ⟨_, rfl, ?_⟩
         have HM0 := HM
         clear HM
         have HM := Aside0.mk hm
         have HO := Aside0.mk ho
         have HB := Aside0.mk hb
         clear hm ho hb
         refine hK.out _ _ (hS _ W HM.out) (fun hHeld => ?_)
         clear hK K
         refine normQ (N := 43) ?_
         refine oneQ 8 44 HT_.out (fun K hK => ?_)
         refine value_ (w1 := ?_) (v := ?_) (by rfl) rfl ?_ ?_
         rotate_left 2
         · go_simp
           constructor
           · rfl
           · rfl
         refine hK.out _ _ (hS _ W (HM.out.alloc _)) (fun hHeld => ?_)
         clear hK K
         refine normQ (N := 44) ?_
         refine oneQ 9 45 HT_.out (fun K hK => ?_)
         refine HM0.out.push_step HB.out HO.out (.tmp 41) (.tmp 44) rfl rfl rfl (show S.marks.length < 1000 by omega) ?_
         intro v1 w6 hm
         obtain ⟨Aw, cw, ew⟩ := hm.mem.markForm
         obtain ⟨nm, hnm⟩ : ∃ n, (({ S with fuel := S.fuel - 1 } : St).marks ++ [row]).length = n := ⟨_, rfl⟩
         rw [hnm] at ew
         subst ew
         clear hnm
         clear HM HM0 HO HB
         have HM := Aside0.mk hm
         clear hm
         refine hK.out _ _ ((HM.out.cell 19).trans rfl) (fun hHeld => ?_)
         clear hK K
         refine normQ (N := 45) ?_
         refine pureQ 10 46 HT_.out ?_
         refine pureQ 11 47 HT_.out ?_
         refine pureQ 12 48 HT_.out ?_
         refine last_ (i := 13) (N := none) #[true, true, true, true, true, true, true, true, true, true, true, true, true, true] rfl rfl (one_of HT_.out (by kernel_rfl)) (by decide) (fun K hK => ?_)
         have cc := HM.out.cell 19
         have ff := HM.out.froz 19
         obtain ⟨wy, hwz⟩ : ∃ wz, wz = World.setCell w6 ⟨gb, 19, none⟩ (.slice Aw nm cw) := ⟨_, rfl⟩
         refine skip_ (w1 := wy) (by rfl) rfl (by rw [hwz] <;> go_simp) ?_
         clear cc ff
         have hm : MC w _ E G vs gb vr va (.slice Aw nm cw) { S with fuel := S.fuel - 1, marks := S.marks ++ [row] } := HM.out.set 19 (.slice Aw nm cw) rfl
         rw [← hwz] at hm
         clear HM hwz
         have HM := Aside0.mk hm
         clear hm
         refine hK.out _ _ ?_
         clear hK K
         refine done_ (done_of HT_.out (by kernel_rfl)) ?_
         clear hHeld HT_ HW_
         clear hS
         try go_wp2
         first | go_end0 | ((try simp only [Exit.inBlock, Exit.then]); refine bodyPost_ret (results_none rfl _ _ _) rfl ?_) | refine ⟨_, results_none rfl _ _ _, ?_⟩
         refine ⟨rfl, .slice Aw nm cw, ?_⟩
         rw [KS.out, show loopS G S = _ from (if_neg hn.out).trans ((if_neg (by have := f0.out; omega)).trans (if_pos m0)), ER.out]
         exact HM.out
       · have m0b : decide ((S.marks.length : Int) < 64) = false := decide_eq_false (by omega)
         go_wp2_with (first | ((with_reducible refine gate_callee (f := 68) rfl ?_); refine goesL_ _ rfl rfl Try.func68 (by kernel_rfl) rfl #[.pointer (some ⟨gb, 0, none⟩)] rfl (by (try simp only [List.map_toArray, List.map_cons, List.map_nil]); first | done | rfl) ?_; refine (spend_calls (mup HM).out hf).mono ?_; rintro e w3 ⟨rfl, hm⟩; clear HM; rw [KF.out] at hm; have HM := Aside0.mk hm; clear hm; have c19 := HM.out.cell 19; refine ⟨_, rfl, ?_⟩))
         first | go_end0 | ((try simp only [Exit.inBlock, Exit.then]); refine bodyPost_ret (results_none rfl _ _ _) rfl ?_) | refine ⟨_, results_none rfl _ _ _, ?_⟩
         refine ⟨rfl, .slice Am S.marks.length cm, ?_⟩
         rw [KS.out, show loopS G S = _ from (if_neg hn.out).trans ((if_neg (by have := f0.out; omega)).trans (if_neg m0))]
         exact HM.out
   · have hy : Aside0 (G.ticks ≠ 0 ∧ S.ticks = G.ticks) := ⟨of_decide_eq_true KC.out⟩
     go_wp2_with (first | ((with_reducible refine gate_callee (f := 71) rfl ?_); refine goesL_ _ rfl rfl Try.func71 (by kernel_rfl) rfl #[.pointer (some ⟨gb, 0, none⟩), .int .i64 3] rfl (by (try simp only [List.map_toArray, List.map_cons, List.map_nil]); first | done | rfl) ?_; refine (stop_calls (mup HM).out 3).mono ?_; rintro e w' ⟨rfl, hm⟩; clear HM; have HM := Aside0.mk hm; clear hm; refine ⟨_, rfl, ?_⟩))
     first | go_end0 | ((try simp only [Exit.inBlock, Exit.then]); refine bodyPost_ret (results_none rfl _ _ _) rfl ?_) | refine ⟨_, results_none rfl _ _ _, ?_⟩
     refine ⟨rfl, .slice Am S.marks.length cm, ?_⟩
     rw [KS.out, show loopS G S = _ from if_pos hy.out]
     exact HM.out
end Go.Proofs.Ytcalcbeonbfkmaa.P
