import Derived.Test.YtcalcbeonbfkmaaTrXX
import Derived.Test.YtcalcbeonbfkmaaTrXG17
/- What the law's proof needs of H12. -/
namespace Go.Proofs.Ytcalcbeonbfkmaa.P
open Go.RowKit Go.Proofs.YtcalcbeonbfkmaaW.PrintWords Go.Proofs.YtcalcbeonbfkmaaW.PrintLast Go.Proofs.YtcalcbeonbfkmaaW.PrintMore Go.Proofs.YtcalcbeonbfkmaaO
attribute [local go_sem] max2_int min2_int max_two min_two max_three min_three max_four min_four
set_option linter.unusedVariables false
set_option linter.unusedSimpArgs false
def N12T : Bool × List (List Nat × List Nat) := (true, [([], []), ([0], [0]), ([1], [1]), ([2], [2]), ([3], [3]), ([4], [4]), ([5], [5]), ([6], [6]), ([6], [6]), ([8, 6], [6, 8]), ([9, 6], [6, 9]), ([10, 6], [6, 10]), ([6], [6]), ([12, 6], [6, 12]), ([13, 6], [6, 13]), ([14, 6], [6, 14]), ([6], [6]), ([16, 6], [6, 16]), ([17, 6], [6, 17]), ([18, 6], [6, 18]), ([19, 6], [6, 19]), ([6], [6]), ([21, 6], [6, 21]), ([22, 6], [6, 22]), ([23, 6], [6, 23]), ([24, 6], [6, 24]), ([7, 11, 15, 20, 25, 6, 6], [6, 7, 11, 15, 20, 25]), ([6, 26], [6, 26])])
def N12B : List Nat := [0, 1, 3, 7, 15, 31, 63, 127, 127, 383, 895, 1919, 127, 4223, 12415, 28799, 127, 65663, 196735, 458879, 983167, 127, 2097279, 6291583, 14680191, 31457407, 67108863, 134217727]
theorem N12tab : rtab .any (opsOf Try.f12 2) = N12T := by kernel_rfl
theorem N12bits : waitsOk N12T.2 N12B = true := by kernel_rfl
section
variable {P : Program} {ops : Array Oper} {oi : Oper} {rest : List Oper} {a : Act} {Q : Exit → Act → World → Prop}
end
theorem Seen.upto {σ : Type} {Rel : σ → Int → List Int → List (List Int) → Int → Bool → σ → Prop} {f : Nat → St} {s0 s : σ} {k N : Nat} (h : Seen Rel f s0 k false s) (hk : k ≤ N) : Seen Rel f s0 N false s := by
  obtain ⟨m, rfl⟩ : ∃ m, N = k + m := ⟨N - k, by omega⟩
  induction m with
  | zero => exact h
  | succ m ih => exact Seen.past (ih (by omega))
theorem good_rowsR {G : Gr} {sc : List Int} {S : St} (hF : FitOK G) (hg : GoodR G sc S) : ∀ i : Int, (rd_L9 S.arrs i).length ≤ 1000 := rd_L9_le (fun r hr => by
  obtain ⟨i, hi, e⟩ := List.getElem_of_mem hr
  have hz := hg.sizes i (by have := hg.arrs; omega)
  rw [List.getD_eq_getElem?_getD, List.getElem?_eq_getElem hi] at hz
  have h2 := (hF.parts.ar i (by have := hg.arrs; omega)).2
  have hz2 : (S.arrs[i].length : Int) = (rd_T85 G.l6 (i : Int)).f2 := hz
  rw [← e]
  omega)
/-- A looker that is handed the machine's own rows. -/
structure LookerR {σ : Type} (wb : σ → World) (L : σ → List (Nat × Array Value × Nat)) (B : Nat) (Rel : σ → Int → List Int → List (List Int) → Int → Bool → σ → Prop) (I : σ → Prop) (fs : Nat) (caps : Array Value) : Prop where
  size : ∀ s, (wb s).heap.size = B
  fn : ∃ fn, Try.prog.funcs[fs]? = some fn ∧ (fn.name == "runtime.NumGoroutine") = false ∧ fn.body.isSome = true
  does : ∀ (s : σ) (W : World) (at_ t : Int) (rs : List Int) (ars : List (List Int)) (A1 : Option Addr) (c1 : Nat) (A2 : Option Addr) (c2 : Nat), I s → rs.length ≤ 100000 → ars.length ≤ 1000 → (∀ i : Int, (rd_L9 ars i).length ≤ 1000) → Below B (wb s) W → (∀ z ∈ L s, W.heap[z.1]? = some (.cells z.2.1 z.2.2 (0, 0))) → (Kd.C (Kd.int .i64) W A1 rs.length rs ∧ rs.length ≤ c1) → (Kd.C kL W A2 ars.length ars ∧ ars.length ≤ c2) →
    Calls Try.prog fs (#[.int .i64 at_, .slice A1 rs.length c1, .slice A2 ars.length c2, .int .i64 t] ++ caps) W fun e W' => ∃ (b : Bool) (s' : σ), e = .returned (.bool b) ∧ Rel s at_ rs ars t b s' ∧ (b = true → I s') ∧ Below B (wb s') W' ∧ W.heap.size ≤ W'.heap.size ∧ (∀ k, B ≤ k → k < W.heap.size → (∀ z ∈ L s, z.1 ≠ k) → W'.heap[k]? = W.heap[k]?) ∧ ∀ z ∈ L s', W'.heap[z.1]? = some (.cells z.2.1 z.2.2 (0, 0)) ∧ (z.1 < B ∨ (∃ z0 ∈ L s, z0.1 = z.1) ∨ W.heap.size ≤ z.1)
def WalkL {σ : Type} (wb : σ → World) (L : σ → List (Nat × Array Value × Nat)) (Rel : σ → Int → List Int → List (List Int) → Int → Bool → σ → Prop) (I : σ → Prop) (G : Gr) (vs : Value) (gb gr cr : Nat) (va : Value) (sc : List Int) (S0 : St) (s0 : σ) (N d : Nat) (wr : World) : Prop :=
  d ≤ N ∧ ∃ (s : σ) (vm : Value), Seen Rel (stepRN G sc S0) s0 (N - d) true s ∧ I s ∧ MR (wb s) wr (L s ++ []) G vs gb (.slice (some ⟨gr, 0, none⟩) G.regs.toNat cr) va vm (stepRN G sc S0 (N - d))
set_option maxHeartbeats 8000000 in
set_option maxRecDepth 100000 in
theorem rwalk_see {σ : Type} {wb : σ → World} {L : σ → List (Nat × Array Value × Nat)} {B : Nat} {Rel : σ → Int → List Int → List (List Int) → Int → Bool → σ → Prop} {I : σ → Prop} {fs : Nat} {caps : Array Value} (hK : LookerR wb L B Rel I fs caps) (s0 : σ) (hI0 : I s0) (G : Gr) (w : World) (hW : Below B (wb s0) w) (hL0 : ∀ z ∈ L s0, w.heap[z.1]? = some (.cells z.2.1 z.2.2 (0, 0))) (hG : ∀ s, G.Held (wb s)) (As : Option Addr) (sc : List Int) (cs : Nat) (f : Int) (hsc : ∀ s, Kd.C (Kd.int .i64) (wb s) As sc.length sc) (hl : sc.length ≤ 9223372036854775807) (hF : FitOK G) {N : Nat} (hR : RunsR G sc (beginS G f G.l5.length G.l6.length) N) :
    Calls Try.prog 12 #[G.v, .slice As sc.length cs, .int .i64 f, .func (.func fs) #[] caps] w fun e w' => (∃ v, e = .returned v) ∧ ∃ flag s, Seen Rel (stepRN G sc (beginS G f G.l5.length G.l6.length)) s0 N flag s ∧ Below B (wb s) w' ∧ w.heap.size ≤ w'.heap.size ∧ ∀ z ∈ L s, w'.heap[z.1]? = some (.cells z.2.1 z.2.2 (0, 0)) := by
  have hu28 := Try.underlying28
  have hu66 := Try.underlying66
  have hu36 := Try.underlying36
  have HB := Aside0.mk (Below.refl w.heap.size w)
  obtain ⟨S0, hS0⟩ : ∃ S, beginS G f G.l5.length G.l6.length = S := ⟨_, rfl⟩
  rw [hS0] at hR ⊢
  have KS0 := Aside0.mk hS0
  have KR := Aside0.mk hR
  have KF := Aside0.mk hF
  have KG := Aside0.mk hG
  have KC := Aside0.mk hsc
  have KK := Aside0.mk hK
  have KW := Aside0.mk hW
  have KL0 := Aside0.mk hL0
  have KI0 := Aside0.mk hI0
  clear hR hF hG hsc hS0 hK hW hL0 hI0
  have KD : Aside0 (0 ≤ G.regs ∧ (G.l5.length : Int) ≤ G.regs ∧ G.regs ≤ 10000) := ⟨by obtain ⟨ds, hD, _⟩ := KF.out.rest; have := hD.regs; have := hD.le; have := KF.out.n2; have := KF.out.parts.n5; omega⟩
  have hB0 : Below (wb s0).heap.size (wb s0) w := by rw [KK.out.size s0]; exact KW.out
  have KB0 := Aside0.mk hB0
  clear hB0
  go_enter Try.func12, Try.ntmps12
  go_wp2_with (first | ((with_reducible refine gate_dst (N := 4) rfl ?_); refine boxQ 4 (gC G) 28 HB ?_; clear HB; intro g4 w1 _ GW4 B4 _ HB; have hcf := hcf8 B4; obtain ⟨_, _, _, _, _, _, _, _, _, _, _, _, _, _, _, _⟩ := hcf) | ((with_reducible refine gate_callee (f := 29) rfl ?_); refine goesL_ _ rfl rfl Try.func29 (by kernel_rfl) rfl #[G.v, .slice As sc.length cs, .int .i64 f] rfl (by (try simp only [List.map_toArray, List.map_cons, List.map_nil]); first | done | rfl) ?_; refine (new_calls G _ ((KG.out s0).below (below_step KB0.out HB.out)) As sc.length cs f KD.out.1 KD.out.2.1 KD.out.2.2 KF.out.parts).mono ?_; rintro e w3 ⟨gb, va, rfl, gr, cr, hm⟩; rw [KS0.out] at hm; have hm2 := hm.lowerE (w := w) (L := L s0) (bpk HB).out (fun z hz => ((bpk HB).out.block z.1 (blk_lt (KL0.out z hz))).trans (KL0.out z hz)); have KGB := Aside0.mk hm2.gw; have HM := Aside0.mk (hm2.lower KB0.out); clear hm hm2 B4 HB; refine ⟨_, rfl, ?_⟩))
  obtain ⟨Pd, hPd⟩ : ∃ P, P = (WalkL wb L Rel I G (.slice As sc.length cs) gb gr cr va sc S0 s0 N) := ⟨_, rfl⟩
  have KPd := Aside0.mk hPd
  have hst : Pd N w3 := by rw [hPd]; exact ⟨Nat.le_refl _, s0, .slice none 0 0, by rw [Nat.sub_self]; exact Seen.start, KI0.out, by rw [Nat.sub_self]; exact HM.out⟩
  have HP := Aside0.mk hst
  clear hst hPd HM
  (try simp only [Act.put, List.setIfInBounds_toArray, List.set_cons_zero, List.set_cons_succ])
  go_loopw [] (fun wr => ∃ d, Aside0 (Pd d wr)) (fun wr => dist Pd wr)
  case atStart => exact ⟨N, HP⟩
  case round =>
   rename World => wl
   clear HP
   obtain ⟨d0, hP0⟩ := hrel
   have hP1 := dist_spec hP0.out
   obtain ⟨d, hd⟩ : ∃ d, dist Pd wl = d := ⟨_, rfl⟩
   rw [hd] at hP1
   have KDd := Aside0.mk hd
   clear hd
   rw [KPd.out] at hP1
   obtain ⟨hdN, s, vm, hs0, hi0, hm⟩ := hP1
   have HM := Aside0.mk hm
   have KS := Aside0.mk hs0
   have KI := Aside0.mk hi0
   clear hm hP0 hs0 hi0
   by_cases hz : d = 0
   · subst hz
     have hs := KR.out.stop
     rw [Nat.sub_zero] at HM KS
     obtain ⟨S, hSN⟩ : ∃ S, stepRN G sc S0 N = S := ⟨_, rfl⟩
     rw [hSN] at HM hs
     have eb : (S.en == 0) = false := beq_eq_false_iff_ne.mpr hs
     clear hs hSN
     go_upto_region 2 with (fail)
     have hS : ∀ (wx w' : World) (E' : List (Nat × Array Value × Nat)), MR wx w' E' G (.slice As sc.length cs) gb (.slice (some ⟨gr, 0, none⟩) G.regs.toNat cr) va vm S → (w'.cell? ⟨gb, 12, none⟩ = some (.int .i64 S.en)) := fun wx w' E' hm => hm.cell 12
     refine start_ (n := 28) (S := fun w' => w'.cell? ⟨gb, 12, none⟩ = some (.int .i64 S.en)) (ds := []) #[false, false, false, false, false, false, false, false, false, false, false, false, false, false, false, false, false, false, false, false, false, false, false, false, false, false, false, false] (by kernel_rfl) rfl rfl (hS _ _ _ HM.out.drew) (fun hHeld => ?_)
     refine with_tabW N12tab N12bits (fun HT_ HW_ => ?_)
     replace HM := Aside0.mk HM.out.drew
     generalize World.drew _ = wa at HM hHeld ⊢
     refine pureQ 0 13 HT_.out ?_
     refine pureQ 1 14 HT_.out ?_
     refine pureQ 2 15 HT_.out ?_
     refine pureQ 3 16 HT_.out ?_
     refine takeQ 4 17 HT_.out HW_.out hHeld ?_
     refine pureQ 5 18 HT_.out ?_
     refine pureQ 6 19 HT_.out ?_
     refine pureU 7 20 HT_.out ?_
     refine pureU 8 21 HT_.out ?_
     refine pureU 9 22 HT_.out ?_
     refine pureU 10 23 HT_.out ?_
     refine pureU 11 24 HT_.out ?_
     refine pureU 12 25 HT_.out ?_
     refine pureU 13 26 HT_.out ?_
     refine pureU 14 27 HT_.out ?_
     refine pureU 15 28 HT_.out ?_
     refine pureU 16 29 HT_.out ?_
     refine pureU 17 30 HT_.out ?_
     refine pureU 18 31 HT_.out ?_
     refine pureU 19 32 HT_.out ?_
     refine pureU 20 33 HT_.out ?_
     refine pureU 21 34 HT_.out ?_
     refine pureU 22 35 HT_.out ?_
     refine pureU 23 36 HT_.out ?_
     refine pureU 24 37 HT_.out ?_
     refine pureU 25 38 HT_.out ?_
     refine pureU 26 39 HT_.out ?_
     refine pureQ 27 40 HT_.out ?_
     refine done_ (done_of HT_.out (by kernel_rfl)) ?_
     clear hHeld HT_ HW_
     go_wp2
     first | go_end0 | ((try simp only [Exit.inBlock, Exit.then]); refine bodyPost_ret (results_none rfl _ _ _) rfl ?_) | refine ⟨_, results_none rfl _ _ _, ?_⟩
     exact ⟨⟨_, rfl⟩, true, s, KS.out, by rw [← KK.out.size s]; exact HM.out.mem.hb, Nat.le_trans KGB.out (Nat.le_of_lt (blk_lt HM.out.bx)), fun z hz => (HM.out.fx z (List.mem_append_left _ hz)).1⟩
   · have hgo := KR.out.go (N - d) (by omega)
     have KGd := Aside0.mk (KR.out.good (N - d) (by omega))
     have hnx : stepRN G sc S0 (N - (d - 1)) = stepR G sc (stepRN G sc S0 (N - d)) := by rw [show N - (d - 1) = (N - d) + 1 by omega]; rfl
     have KNX := Aside0.mk hnx
     clear hnx
     obtain ⟨S, hSd⟩ : ∃ S, stepRN G sc S0 (N - d) = S := ⟨_, rfl⟩
     rw [hSd] at HM hgo KGd KNX
     have KSd := Aside0.mk hSd
     clear hSd
     obtain ⟨ge, ga⟩ := hgo
     have eb : (S.en == 0) = true := beq_iff_eq.mpr ge
     replace ge := Aside0.mk ge
     replace ga := Aside0.mk ga
     have e9 : G.regs.toNat = S.regs.length := by have := KGd.out.regs; omega
     rw [e9] at HM
     have E9 := Aside0.mk e9
     clear e9
     obtain ⟨A2, c2, ea2⟩ := HM.out.mem.arrSlice
     have EA2 := Aside0.mk ea2
     clear ea2
     have hS : ∀ (wx w' : World) (E' : List (Nat × Array Value × Nat)), MR wx w' E' G (.slice As sc.length cs) gb (.slice (some ⟨gr, 0, none⟩) S.regs.length cr) va vm S → (w'.cell? ⟨gb, 12, none⟩ = some (.int .i64 S.en) ∧ w'.cell? ⟨gb, 10, none⟩ = some (.int .i64 S.at_) ∧ w'.cell? ⟨gb, 11, none⟩ = some (.slice (some ⟨gr, 0, none⟩) S.regs.length cr) ∧ w'.cell? ⟨gb, 18, none⟩ = some (.slice A2 S.arrs.length c2) ∧ w'.cell? ⟨gb, 15, none⟩ = some (.int .i64 S.ticks)) := fun wx w' E' hm => ⟨hm.cell 12, hm.cell 10, hm.cell 11, (hm.cell 18).trans (congrArg some EA2.out), hm.cell 15⟩
     go_upto_region 2 with (fail)
     refine start_ (n := 28) (S := fun w' => w'.cell? ⟨gb, 12, none⟩ = some (.int .i64 S.en) ∧ w'.cell? ⟨gb, 10, none⟩ = some (.int .i64 S.at_) ∧ w'.cell? ⟨gb, 11, none⟩ = some (.slice (some ⟨gr, 0, none⟩) S.regs.length cr) ∧ w'.cell? ⟨gb, 18, none⟩ = some (.slice A2 S.arrs.length c2) ∧ w'.cell? ⟨gb, 15, none⟩ = some (.int .i64 S.ticks)) (ds := []) #[false, false, false, false, false, false, false, false, false, false, false, false, false, false, false, false, false, false, false, false, false, false, false, false, false, false, false, false] (by kernel_rfl) rfl rfl (hS _ _ _ HM.out.drew) (fun hHeld => ?_)
     refine with_tabW N12tab N12bits (fun HT_ HW_ => ?_)
     replace HM := Aside0.mk HM.out.drew
     generalize World.drew _ = wa at HM hHeld ⊢
     refine pureQ 0 13 HT_.out ?_
     refine pureQ 1 14 HT_.out ?_
     refine pureQ 2 15 HT_.out ?_
     refine pureQ 3 16 HT_.out ?_
     refine takeQ 4 17 HT_.out HW_.out hHeld ?_
     refine pureQ 5 18 HT_.out ?_
     refine pureQ 6 19 HT_.out ?_
     refine pureQ 7 20 HT_.out ?_
     refine pureQ 8 21 HT_.out ?_
     refine pureQ 9 22 HT_.out ?_
     refine pureQ 10 23 HT_.out ?_
     refine takeQ 11 24 HT_.out HW_.out hHeld ?_
     refine pureQ 12 25 HT_.out ?_
     refine pureQ 13 26 HT_.out ?_
     refine pureQ 14 27 HT_.out ?_
     refine takeQ 15 28 HT_.out HW_.out hHeld ?_
     refine pureQ 16 29 HT_.out ?_
     refine pureQ 17 30 HT_.out ?_
     refine pureQ 18 31 HT_.out ?_
     refine pureQ 19 32 HT_.out ?_
     refine takeQ 20 33 HT_.out HW_.out hHeld ?_
     refine pureQ 21 34 HT_.out ?_
     refine pureQ 22 35 HT_.out ?_
     refine pureQ 23 36 HT_.out ?_
     refine pureQ 24 37 HT_.out ?_
     refine takeQ 25 38 HT_.out HW_.out hHeld ?_
     refine oneQ 26 39 HT_.out (fun K hK => ?_)
     obtain ⟨fn, e1, e2, e3⟩ := KK.out.fn
     refine goesQD e1 (#[.int .i64 S.at_, .slice (some ⟨gr, 0, none⟩) S.regs.length cr, .slice A2 S.arrs.length c2, .int .i64 S.ticks] ++ caps) ?_ e2 e3 rfl (by simp [Act.eval]) rfl
     have HRD : Kd.C kL wa A2 S.arrs.length S.arrs ∧ S.arrs.length ≤ c2 := by obtain ⟨okR, okA, h1, h2, h3⟩ := HM.out.mem.ex; rw [EA2.out] at h2; have h4 := Kd.S_reads' h2; exact ⟨h4.2.2, by have := h4.2.1; omega⟩
     refine (KK.out.does s _ S.at_ S.ticks S.regs S.arrs _ _ _ _ KI.out (by have := KD.out; have := KGd.out.regs; omega) (by have := KGd.out.arrs; have := KF.out.parts.n6; omega) (good_rowsR KF.out KGd.out) (by rw [← KK.out.size s]; exact HM.out.mem.hb) (fun z hz => (HM.out.fx z (List.mem_append_left _ hz)).1) ⟨HM.out.mem.regC, HM.out.mem.regCap⟩ HRD).mono ?_
     clear HRD
     rintro e w7 ⟨b2, s', rfl, hrel2, hI2, hbw, hsz2, hkeep, hL2⟩
     refine ⟨_, rfl, ?_⟩
     have HN := Aside0.mk (HM.out.swapE (w' := wb s') (W' := w7) (L := L s) (L' := L s') (E := []) (by rw [KK.out.size s, KK.out.size s']) (by rw [KK.out.size s']; exact hbw) hsz2 (fun k h1 h2 h3 => hkeep k (by rw [KK.out.size s] at h1; exact h1) h2 h3) (by rw [KK.out.size s]; exact hL2) (fun z hz => nomatch hz))
     have KS2 := Aside0.mk (Seen.see KS.out (by rw [KSd.out]; exact hrel2))
     have KI2 := Aside0.mk hI2
     clear hrel2 hI2 hbw hsz2 hkeep hL2 HM KS KI
     refine hK.out _ _ (hS _ _ _ HN.out) (fun hHeld => ?_)
     clear hK K
     refine normQ (N := 39) ?_
     refine pureQ 27 40 HT_.out ?_
     refine done_ (done_of HT_.out (by kernel_rfl)) ?_
     clear hHeld HT_ HW_
     clear hS eb
     cases b2
     · go_wp2
       first | go_end0 | ((try simp only [Exit.inBlock, Exit.then]); refine bodyPost_ret (results_none rfl _ _ _) rfl ?_) | refine ⟨_, results_none rfl _ _ _, ?_⟩
       exact ⟨⟨_, rfl⟩, false, s', KS2.out.upto (by omega), by rw [← KK.out.size s']; exact HN.out.mem.hb, Nat.le_trans KGB.out (Nat.le_of_lt (blk_lt HN.out.bx)), fun z hz => (HN.out.fx z (List.mem_append_left _ hz)).1⟩
     · go_wp2_with (first | ((with_reducible refine gate_callee (f := 30) rfl ?_); refine goesL_ _ rfl rfl Try.func30 (by kernel_rfl) rfl #[.pointer (some ⟨gb, 0, none⟩)] rfl (by (try simp only [List.map_toArray, List.map_cons, List.map_nil]); first | done | rfl) ?_; refine (step_calls HN.out rfl (KG.out s') (KC.out s') hl KF.out KGd.out ⟨gr, cr, rfl⟩ ge.out ga.out).mono ?_; rintro e w10 ⟨rfl, vm2, hm2⟩; have HX := Aside0.mk hm2; clear HN hm2; refine ⟨_, rfl, ?_⟩))
       have hp : Pd (d - 1) w10 := by rw [KPd.out]; exact ⟨by omega, s', vm2, by rw [show N - (d - 1) = N - d + 1 by omega]; exact KS2.out, (by first | exact KI2.out rfl | exact KI2.out trivial), by rw [KNX.out, E9.out]; exact HX.out⟩
       (try simp only [Act.put, List.setIfInBounds_toArray, List.set_cons_zero, List.set_cons_succ])
       go_roundw
       case measure => show dist Pd w10 < dist Pd wl; exact Nat.lt_of_le_of_lt (dist_le hp) (by rw [KDd.out]; omega)
       case rel => exact ⟨d - 1, ⟨hp⟩⟩
end Go.Proofs.Ytcalcbeonbfkmaa.P
/- What the law's proof needs of Px27. -/
-- PRINTED by print.py (a twelfth state) out of the translation. Not trusted: Lean checks it.
namespace Go.Proofs.Ytcalcbeonbfkmaa.P
open Go.RowKit Go.Proofs.YtcalcbeonbfkmaaW.PrintWords Go.Proofs.YtcalcbeonbfkmaaW.PrintLast Go.Proofs.YtcalcbeonbfkmaaW.PrintMore Go.Proofs.YtcalcbeonbfkmaaO
attribute [local go_sem] max2_int min2_int max_two min_two max_three min_three max_four min_four   -- for this text's walks alone
set_option linter.unusedVariables false
set_option linter.unusedSimpArgs false
def gimballaw08_copied.l0 : Nat → List (List Int) → Int → Int → List Int → List (List Int) → Int → Option (Int × List Int × (List (List Int)) × Int)
  | 0, _, _, _, _, _, _ => none
  | k + 1, x2, x10, x348000, x348001, x348002, x348003 => if x10 < (x2.length : Int) then (if 0 ≤ x10 then (if ([] : List Int).length + (rd_L9 x2 x10).length < 17592186044416 then (if x348002.length < 5864062014805 then (gimballaw08_copied.l0 k x2 (wrap64 (x10 + 1)) x348000 x348001 (x348002 ++ [(([] : List Int) ++ (rd_L9 x2 x10))]) x348003) else (none)) else (none)) else (none)) else (some (x348000, x348001, x348002, x348003))
def gimballaw08_copied.f (k : Nat) (a0 : Int) (l1 : List Int) (l2 : List (List Int)) (a3 : Int) : Option (Int × List Int × (List (List Int)) × Int) := if ([] : List Int).length + l1.length < 17592186044416 then (gimballaw08_copied.l0 k l2 0 a0 (([] : List Int) ++ l1) ([] : List (List Int)) a3) else (none)
def gimballaw08_copied.T7 : Bool × List (List Nat × List Nat) := (true, [([], []), ([0], [0]), ([], []), ([], []), ([], []), ([3, 4], [3, 4]), ([5], [5]), ([2, 6], [2, 6]), ([7], [7]), ([1, 8, 7], [1, 8]), ([0, 1, 2, 3, 4, 5, 6, 7, 8, 9], []), ([10, 9, 9, 0, 1, 2, 3, 4, 5, 6, 7, 8, 9], [9, 10])])
def gimballaw08_copied.B7 : List Nat := [0, 1, 0, 0, 0, 24, 56, 124, 252, 511, 1023, 2047]
theorem gimballaw08_copied.tab7 : rtab .any (opsOf Try.f14 7) = gimballaw08_copied.T7 := by kernel_rfl
theorem gimballaw08_copied.bits7 : waitsOk gimballaw08_copied.T7.2 gimballaw08_copied.B7 = true := by kernel_rfl
set_option maxHeartbeats 8000000 in
set_option maxRecDepth 100000 in
theorem gimballaw08_copied.calls (k : Nat) (a0 : Int) (A1 : Option Addr) (c1 : Nat) (l1 : List Int) (A2 : Option Addr) (c2 : Nat) (l2 : List (List Int)) (a3 : Int) (r1 : Int) (r2 : List Int) (r3 : List (List Int)) (r4 : Int) (w : World) (hr1 : Kd.C (Kd.int .i64) w A1 l1.length l1) (hc1 : l1.length ≤ c1) (hr2 : Kd.C (Kd.slice 2 (Kd.int .i64)) w A2 l2.length l2) (hc2 : l2.length ≤ c2) (h : gimballaw08_copied.f k a0 l1 l2 a3 = some (r1, r2, r3, r4)) :
    Calls Try.prog 14 #[.int .i64 a0, .slice A1 l1.length c1, .slice A2 l2.length c2, .int .i64 a3] w fun e w' => ∃ v1_ v2_ : Value, e = .returned (.agg #[.int .i64 r1, v1_, v2_, .int .i64 r4]) ∧ Kd.R (Kd.int .i64) 2 w' w.heap.size (fun _ => True) v1_ r2 ∧ Kd.S (Kd.slice 2 (Kd.int .i64)) 29 w' w.heap.size (fun k_ => some k_ ≠ (v1_ : Value).ownBlock) v2_ r3 ∧ Below w.heap.size w w' := by
  have hu43 := Try.underlying43
  have HR1 := Aside0.mk hr1; have HC1 := Aside0.mk hc1; clear hr1 hc1; have HR2 := Aside0.mk hr2; have HC2 := Aside0.mk hc2; clear hr2 hc2
  have HB := Aside0.mk (Below.refl w.heap.size w)
  have H : (if ([] : List Int).length + l1.length < 17592186044416 then (gimballaw08_copied.l0 k l2 0 a0 (([] : List Int) ++ l1) ([] : List (List Int)) a3) else (none)) = some (r1, r2, r3, r4) := h
  clear h
  by_cases c5 : ([] : List Int).length + l1.length < 17592186044416
  case neg => rw [if_neg c5] at H; exact absurd H (by simp)
  rw [if_pos c5] at H; have LMc5 := Aside0.mk c5; clear c5
  obtain ⟨y348, hy348⟩ : ∃ y_ : List Int, y_ = (([] : List Int) ++ l1) := ⟨_, rfl⟩
  replace H : (gimballaw08_copied.l0 k l2 0 a0 y348 ([] : List (List Int)) a3) = some (r1, r2, r3, r4) := by first | (rw [hy348]; with_reducible exact H) | (have H2_ := (Option.bind_some _ _).symm.trans H; rw [hy348]; with_reducible exact H2_) | (have H2_ := (Option.bind_some _ _).symm.trans H; with_reducible exact H2_) | with_reducible exact H | (rw [hy348]; exact H) | exact H
  have Ny348 := Aside0.mk hy348; clear hy348
  have H' := Aside0.mk H
  clear H
  go_enter Try.func14, Try.ntmps14
  go_wp2_with (first | ((with_reducible refine gate_dst (N := 8) rfl ?_); refine box_event ?hg (N := 8) ?hd (cs := #[.int .i64 0, .slice none 0 0, .slice none 0 0, .int .i64 0]) (t := 43) ?hr ?_; (case hd => rfl); (case hg => rfl); (case hr => first | (go_simp; done) | (go_simp; rfl)); intro gb346 hg w6 hbox hb; have n0_ := bst HB hb; have n1_ := Aside0.mk (hbox); have n2_ := bsz HB hg; have n3_ := bsz HB hg; clear HB; have HB := n0_; have BK346 := n1_; have GW346 := n2_; have GE346 := n3_; clear n0_ n1_ n2_ n3_; clear hb hbox hg) | ((with_reducible refine gate_dst (N := 9) rfl ?_); refine box_event ?hg (N := 9) ?hd (cs := #[.int .i64 0, .slice none 0 0, .slice none 0 0, .int .i64 0]) (t := 43) ?hr ?_; (case hd => rfl); (case hg => rfl); (case hr => first | (go_simp; done) | (go_simp; rfl)); intro gb347 hg w7 hbox hb; have n0_ := bst HB hb; have n1_ := Aside0.mk (hbox); have n2_ := bsz HB hg; have n3_ := bsz HB hg; have n4_ := bn1 BK346 hg; have n5_ := bn2 BK346 hg; replace BK346 := bbw BK346 hb; clear HB; have HB := n0_; have BK347 := n1_; have GW347 := n2_; have GE347 := n3_; have NB346_347 := n4_; have NB347_346 := n5_; clear n0_ n1_ n2_ n3_ n4_ n5_; clear hb hbox hg; have hnb8 := nn NB347_346 NB346_347; obtain ⟨hcz9_0, hcz9_1, hcz9_2, hcz9_3, hfz9_0, hfz9_1, hfz9_2, hfz9_3⟩ := hcf4 BK347) | ((with_reducible refine gate_builtin (b := .append) (xs := #[.tmp 16, .tmp 17]) rfl ?_); at_builtin; refine Kd.R_append_rows (Kd.int .i64) (w0 := w) w.heap.size rfl (.tmp 16) (.tmp 17) 29 2 (.int .i64 0) 8 rfl Try.underlying29 info2 rfl (by decide) (by omega) (.slice none 0 0) ([] : List Int) l1 _ _ _ (fun _ => True) (fun _ => False) rfl rfl ?aO ?aR (fun _ _ h => h) (fun _ h => h.elim) ?aF ?aB ?aS ?aL ?_; (case aR => exact Kd.C_below HR1.out (by repeat (first | (with_reducible first | exact HB.out | apply below_alloc | apply pw_below_drewN | apply below_drew1 | refine below_set ?_ GE346.out | refine below_set ?_ GE347.out) | exact HB.out))); (case aB => exact (by repeat (first | (with_reducible first | exact HB.out | apply below_alloc | apply pw_below_drewN | apply below_drew1 | refine below_set ?_ GE346.out | refine below_set ?_ GE347.out) | exact HB.out))); (case aF => exact (fun _ _ => trivial)); (case aO => exact ((Kd.R_nil _ _ _ _ (fun _ => True)))); (case aS => exact (below_size (by repeat (first | (with_reducible first | exact HB.out | apply below_alloc | apply pw_below_drewN | apply below_drew1 | refine below_set ?_ GE346.out | refine below_set ?_ GE347.out) | exact HB.out)))); (case aL => have := LMc5.out; omega); intro v349 w10 ho hb hg hat; rw [← Ny348.out] at ho; have n0_ := Aside0.mk (blk_grown (g := gb346) (o := .cells #[.int .i64 0, .slice none 0 0, .slice none 0 0, .int .i64 0] 43 (0, 0)) (pkF BK346) hg (by simp [Value.ownBlock])); have n1_ := Aside0.mk (blk_grown (g := gb347) (o := .cells #[.int .i64 a0, .slice none 0 0, .slice none 0 0, .int .i64 a3] 43 (0, 0)) (by refine pkB ?_; refine bput (cs := #[.int .i64 a0, .slice none 0 0, .slice none 0 0, .int .i64 0]) 3 ?_; refine bput (cs := #[.int .i64 a0, .slice none 0 0, .slice none 0 0, .int .i64 0]) 2 ?_; refine bput (cs := #[.int .i64 a0, .slice none 0 0, .slice none 0 0, .int .i64 0]) 1 ?_; refine bput (cs := #[.int .i64 0, .slice none 0 0, .slice none 0 0, .int .i64 0]) 0 ?_; exact BK347.out) hg (by simp [Value.ownBlock])); have n2_ := Aside0.mk (hb); have n3_ := Aside0.mk (ho); clear BK346; clear BK347; clear HB; have BK346 := n0_; have BK347 := n1_; have HB := n2_; have HO350 := n3_; clear n0_ n1_ n2_ n3_; clear ho hb hg hat; obtain ⟨Ao11, co11, eo11⟩ := Kd.R_slice HO350.out; subst eo11; obtain ⟨hcz12_0, hcz12_1, hcz12_2, hcz12_3, hfz12_0, hfz12_1, hfz12_2, hfz12_3⟩ := hcf4 BK347))
  go_loopg [10] k (fun kq v10 w' => ∃ (x10_1 : Int) (x348002_1 : List (List Int)) (u348002 : Value), v10 = .int .i64 x10_1 ∧ Aside0 (gimballaw08_copied.l0 kq l2 x10_1 a0 y348 x348002_1 a3 = some (r1, r2, r3, r4)) ∧ Aside0 (kq ≤ k) ∧ Aside0 (Kd.R (Kd.int .i64) 2 w' w.heap.size (fun _ => True) (.slice Ao11 y348.length co11) y348) ∧ Aside0 (Kd.S (Kd.slice 2 (Kd.int .i64)) 29 w' w.heap.size (fun k_ => some k_ ≠ ((.slice Ao11 y348.length co11) : Value).ownBlock) u348002 x348002_1) ∧ Aside0 (w'.heap[gb346]? = some (.cells #[.int .i64 0, (.slice none 0 0), (.slice none 0 0), .int .i64 0] 43 (0, 0))) ∧ Aside0 (w'.heap[gb347]? = some (.cells #[.int .i64 a0, (.slice Ao11 y348.length co11), u348002, .int .i64 a3] 43 (0, 0))) ∧ Aside0 (Below w.heap.size w w'))
  case atStart => exact ⟨(0), (([] : List (List Int))), (.slice none 0 0), (by first | rfl | (simp; done) | (simp [*]; done)), H', ⟨Nat.le_refl _⟩, ⟨by (with_reducible repeat (first | apply Kd.R_alloc | apply Kd.R_drewN | apply Kd.R_drew)); exact Kd.R_mono (Kd.R_far (p := ⟨gb347, 1, none⟩) (Kd.R_types HO350.out BK347.out (by decide)) (fun _ hk => hk.2) (.slice Ao11 y348.length co11)) (fun _ hk => trivial)⟩, ⟨by first | exact Kd.S_nil _ _ _ _ _ | exact Kd.N_nil _ _ _ _ _ | exact Kd.V_nil _ _ _ _ _ | exact Kd.Q_nil _ _ _ _ _ | exact Kd.R_nil _ _ _ _ _⟩, ⟨pkF BK346⟩, ⟨by refine pkB ?_; refine bput (cs := #[.int .i64 a0, .slice none 0 0, .slice none 0 0, .int .i64 a3]) 1 ?_; exact BK347.out⟩, bpk HB⟩
  case round =>
   clear H'
   (try clear c1); (try clear c2); (try clear p2); (try clear c5); (try clear c8); (try clear hcz12_0 hcz12_1 hcz12_2 hcz12_3); (try clear hcz9_0 hcz9_1 hcz9_2 hcz9_3); (try clear hfz12_0 hfz12_1 hfz12_2 hfz12_3); (try clear hfz9_0 hfz9_1 hfz9_2 hfz9_3); obtain ⟨x10_1, x348002_1, u348002, rfl, HA, HK1, HO_348001, HO_348002, BK346, BK347, HB⟩ := hrel
   cases gk with
   | zero => exact absurd HA.out (by simp [gimballaw08_copied.l0])
   | succ k1 =>
    have H := HA.out
    clear HA
    simp only [gimballaw08_copied.l0] at H
    by_cases c13 : x10_1 < (l2.length : Int)
    ·
     rw [if_pos c13] at H
     have c13b0 : decide (x10_1 < (l2.length : Int)) = true := decide_eq_true c13
     clear c13
     by_cases c14 : 0 ≤ x10_1
     case neg => rw [if_neg c14] at H; exact absurd H (by simp)
     rw [if_pos c14] at H
     have c14b0 : decide (0 ≤ x10_1) = true := decide_eq_true c14
     clear c14
     by_cases c15 : ([] : List Int).length + (rd_L9 l2 x10_1).length < 17592186044416
     case neg => rw [if_neg c15] at H; exact absurd H (by simp)
     rw [if_pos c15] at H; have LMc15 := Aside0.mk c15; clear c15
     obtain ⟨y352, hy352⟩ : ∃ y_ : List Int, y_ = (([] : List Int) ++ (rd_L9 l2 x10_1)) := ⟨_, rfl⟩
     replace H : (if x348002_1.length < 5864062014805 then (gimballaw08_copied.l0 k1 l2 (wrap64 (x10_1 + 1)) a0 y348 (x348002_1 ++ [y352]) a3) else (none)) = some (r1, r2, r3, r4) := by first | (rw [hy352]; with_reducible exact H) | (have H2_ := (Option.bind_some _ _).symm.trans H; rw [hy352]; with_reducible exact H2_) | (have H2_ := (Option.bind_some _ _).symm.trans H; with_reducible exact H2_) | with_reducible exact H | (rw [hy352]; exact H) | exact H
     have Ny352 := Aside0.mk hy352; clear hy352
     by_cases c16 : x348002_1.length < 5864062014805
     case neg => rw [if_neg c16] at H; exact absurd H (by simp)
     rw [if_pos c16] at H; have LMc16 := Aside0.mk c16; clear c16
     obtain ⟨y355, hy355⟩ : ∃ y_ : List (List Int), y_ = (x348002_1 ++ [y352]) := ⟨_, rfl⟩
     replace H : (gimballaw08_copied.l0 k1 l2 (wrap64 (x10_1 + 1)) a0 y348 y355 a3) = some (r1, r2, r3, r4) := by first | (rw [hy355]; with_reducible exact H) | (have H2_ := (Option.bind_some _ _).symm.trans H; rw [hy355]; with_reducible exact H2_) | (have H2_ := (Option.bind_some _ _).symm.trans H; with_reducible exact H2_) | with_reducible exact H | (rw [hy355]; exact H) | exact H
     have Ny355 := Aside0.mk hy355; clear hy355
     have H' := Aside0.mk H
     clear H
     try go_wp2
     have n0_ := Aside0.mk (Kd.R_drew HO_348001.out); have n1_ := Aside0.mk (Kd.S_drew HO_348002.out); have n2_ := Aside0.mk (blk_drew BK346.out); have n3_ := Aside0.mk (blk_drew BK347.out); have n4_ := Aside0.mk (below_drew1 HB.out); clear HO_348001 HO_348002 BK346 BK347 HB; have HO_348001 := n0_; have HO_348002 := n1_; have BK346 := n2_; have BK347 := n3_; have HB := n4_; clear n0_ n1_ n2_ n3_ n4_
     have p351 : 0 ≤ (x10_1 : Int) := of_decide_eq_true (by first | (with_reducible assumption) | assumption)
     have q351 : x10_1 < (l2.length : Int) := of_decide_eq_true (by first | (with_reducible assumption) | assumption)
     obtain ⟨ad351, A351_0, c351_0, e351, hx351_0, hl351_0, hi351_0⟩ := at_L9 HR2.out x10_1 p351 q351
     have hw351_0 := hx351_0; cases e351
     replace hx351_0 := (HB.out.cell (World.block_lt_of_cell? w _ hx351_0)).trans hx351_0
     have HR351_0 := Aside0.mk hi351_0; have HC351_0 := Aside0.mk hl351_0; clear hi351_0 hl351_0; replace p351 := eq_true p351; replace q351 := eq_true q351
     refine start_ (n := 12) (S := fun w' => w'.cell? ⟨gb347, 0, none⟩ = some (.int .i64 a0) ∧ w'.cell? ⟨gb347, 1, none⟩ = some (.slice Ao11 y348.length co11) ∧ w'.cell? ⟨gb347, 2, none⟩ = some (u348002) ∧ w'.cell? ⟨gb347, 3, none⟩ = some (.int .i64 a3) ∧ w'.cell? (ad351.add (x10_1).toNat) = some (.slice A351_0 (rd_L9 l2 x10_1).length c351_0)) (ds := [11]) #[false, false, false, false, false, false, false, false, false, false, false, false] (by kernel_rfl) rfl rfl ⟨hcz BK347 0, hcz BK347 1, hcz BK347 2, hcz BK347 3, ((HB.out.cell (World.block_lt_of_cell? w _ hw351_0)).trans hw351_0)⟩ (fun hHeld => ?_); refine with_tabW gimballaw08_copied.tab7 gimballaw08_copied.bits7 (fun HT_ HW_ => ?_)
     generalize wr.drew = w17 at HO_348001 HO_348002 BK346 BK347 HB HR351_0 hx351_0 hHeld ⊢
     refine pureQ 0 26 HT_.out ?_; refine pureQ 2 28 HT_.out ?_; refine pureQ 3 29 HT_.out ?_; refine pureQ 4 30 HT_.out ?_; refine pureQ 5 31 HT_.out ?_; refine takeQ 1 27 HT_.out HW_.out hHeld ?_; refine takeQ 6 32 HT_.out HW_.out hHeld ?_
     refine oneQ 7 33 HT_.out (fun K hK => ?_)
     refine Kd.R_append_rows_step (Kd.int .i64) (w0 := w) w.heap.size (by rfl) (.tmp 28) (.tmp 32) 29 2 (.int .i64 0) 8 rfl Try.underlying29 info2 rfl (by decide) (by omega) (.slice none 0 0) ([] : List Int) (rd_L9 l2 x10_1) _ _ _ (fun k_ => some k_ ≠ (.slice Ao11 y348.length co11 : Value).ownBlock) (fun _ => False) rfl rfl ?aO ?aR (fun _ _ h => h) (fun _ h => h.elim) ?aF ?aB ?aS ?aL ?_
     (case aR => repeat (first | exact (Kd.C_below HR351_0.out HB.out) | (with_reducible refine Kd.C_alloc ?_ _) | (with_reducible refine Kd.C_drewN ?_ _) | (with_reducible refine Kd.C_drew ?_)))
     (case aB => exact (by repeat (first | (with_reducible first | exact HB.out | apply below_alloc | apply pw_below_drewN | apply below_drew1 | refine below_set ?_ GE346.out | refine below_set ?_ GE347.out) | exact HB.out)))
     (case aF => exact (fun k_ hk => Kd.fresh' (Kd.R_lt (rup HO_348001)) k_ hk))
     (case aO => exact ((Kd.R_nil _ _ _ _ (fun k_ => some k_ ≠ (.slice Ao11 y348.length co11 : Value).ownBlock))))
     (case aS => exact (below_size (by repeat (first | (with_reducible first | exact HB.out | apply below_alloc | apply pw_below_drewN | apply below_drew1 | refine below_set ?_ GE346.out | refine below_set ?_ GE347.out) | exact HB.out))))
     (case aL => have := LMc15.out; omega)
     intro v353 w18 ho hb hg hat
     rw [← Ny352.out] at ho
     have n0_ := Aside0.mk (Kd.R_after (Kd.R_apart_nil (rup HO_348001)) hg hat)
     have n1_ := Aside0.mk (Kd.S_after (Kd.S_apart_nil (sup HO_348002)) hg hat)
     have n2_ := Aside0.mk (blk_grown (g := gb346) (o := .cells #[.int .i64 0, .slice none 0 0, .slice none 0 0, .int .i64 0] 43 (0, 0)) (pk BK346.out) hg (by simp [Value.ownBlock]))
     have n3_ := Aside0.mk (blk_grown (g := gb347) (o := .cells #[.int .i64 a0, .slice Ao11 y348.length co11, u348002, .int .i64 a3] 43 (0, 0)) (pk BK347.out) hg (by simp [Value.ownBlock]))
     have n4_ := Aside0.mk (hb)
     have n5_ := Aside0.mk (ho)
     clear HO_348001 HO_348002 BK346 BK347 HB; have HO_348001 := n0_; have HO_348002 := n1_; have BK346 := n2_; have BK347 := n3_; have HB := n4_; have HO354 := n5_; clear n0_ n1_ n2_ n3_ n4_ n5_ ho hb hg hat
     obtain ⟨Ao20, co20, eo20⟩ := Kd.R_slice HO354.out
     (first | subst eo20 | (injection eo20 with f1_ f2_ f3_; have f4_ := f1_.symm; have f5_ := f3_.symm; clear f1_ f2_ f3_; subst f4_; subst f5_))
     refine hK.out _ _ ⟨hcz BK347 0, hcz BK347 1, hcz BK347 2, hcz BK347 3, ((HB.out.cell (World.block_lt_of_cell? w _ hw351_0)).trans hw351_0)⟩ (fun hHeld => ?_)
     clear hK K
     refine normQ (N := 33) ?_
     refine oneQ 8 34 HT_.out (fun K hK => ?_)
     refine value_ (w1 := ?_) (v := ?_) (by rfl) rfl ?_ ?_
     rotate_left 2
     ·
      go_simp
      constructor
      · rfl
      · rfl
     refine hK.out _ _ ⟨(blk_cell (blk_alloc BK347.out _) 0).trans rfl, (blk_cell (blk_alloc BK347.out _) 1).trans rfl, (blk_cell (blk_alloc BK347.out _) 2).trans rfl, (blk_cell (blk_alloc BK347.out _) 3).trans rfl, (World.cell?_alloc_lt _ _ _ (World.block_lt_of_cell? _ _ (((HB.out.cell (World.block_lt_of_cell? w _ hw351_0)).trans hw351_0)))).trans (((HB.out.cell (World.block_lt_of_cell? w _ hw351_0)).trans hw351_0))⟩ (fun hHeld => ?_)
     clear hK K
     refine normQ (N := 34) ?_
     refine oneQ 9 35 HT_.out (fun K hK => ?_)
     refine Kd.S_append_step (Kd.slice 2 (Kd.int .i64)) (w0 := w) w.heap.size (by rfl) (.tmp 27) (.tmp 34) 34 29 (.slice none 0 0) 24 rfl Try.underlying34 info29 rfl (by decide) (by omega) u348002 x348002_1 y352 [.slice Ao20 y352.length co20] (fun k_ => some k_ ≠ (.slice Ao11 y348.length co11 : Value).ownBlock) (fun k_ => some k_ = (.slice Ao20 y352.length co20 : Value).ownBlock) rfl rfl ?aP (fun k_ hk_ => ((Kd.R_mono (ok' := fun k_ => ((fun k_ => some k_ ≠ (.slice Ao11 y348.length co11 : Value).ownBlock)) k_ ∧ some k_ ≠ (u348002 : Value).ownBlock) (Kd.R_apart' (HO354.out) (Kd.S_typed HO_348002.out) (by decide)) (fun k_ hk => ⟨hk.1, hk.2⟩))).1 k_ hk_.symm) ?aF ?aO ?aB ?aS ?aL ?_
     (case aP => exact Kd.M_row (Kd.R_mono (Kd.R_tight rfl (Kd.R_mono (ok' := fun k_ => ((fun k_ => some k_ ≠ (.slice Ao11 y348.length co11 : Value).ownBlock)) k_ ∧ some k_ ≠ (u348002 : Value).ownBlock) (Kd.R_apart' (HO354.out) (Kd.S_typed HO_348002.out) (by decide)) (fun k_ hk => ⟨hk.1, hk.2⟩))) (fun _ h_ => h_)))
     (case aB => exact (by repeat (first | (with_reducible first | exact HB.out | apply below_alloc | apply pw_below_drewN | apply below_drew1 | refine below_set ?_ GE346.out | refine below_set ?_ GE347.out) | exact HB.out)))
     (case aF => exact (fun k_ hk => Kd.fresh' (Kd.R_lt (rup HO_348001)) k_ hk))
     (case aO => exact (by (with_reducible repeat (first | apply Kd.S_alloc | apply Kd.S_drewN | apply Kd.S_drew)); exact Kd.S_mono HO_348002.out (fun k_ hk => ⟨hk.1, fun e_ => hk.2 e_⟩)))
     (case aS => exact (below_size (by repeat (first | (with_reducible first | exact HB.out | apply below_alloc | apply pw_below_drewN | apply below_drew1 | refine below_set ?_ GE346.out | refine below_set ?_ GE347.out) | exact HB.out))))
     (case aL => have := LMc16.out; omega)
     intro v356 w19 ho hb hg hat
     rw [← Ny355.out] at ho
     have n0_ := Aside0.mk (Kd.R_over' (rup HO_348001) (Kd.S_typed (sup HO_348002)) (by decide) hg)
     have n1_ := Aside0.mk (blk_grown (g := gb346) (o := .cells #[.int .i64 0, .slice none 0 0, .slice none 0 0, .int .i64 0] 43 (0, 0)) (pk BK346.out) hg (Kd.S_ne HO_348002.out BK346.out (by decide)))
     have n2_ := Aside0.mk (blk_grown (g := gb347) (o := .cells #[.int .i64 a0, .slice Ao11 y348.length co11, u348002, .int .i64 a3] 43 (0, 0)) (pk BK347.out) hg (Kd.S_ne HO_348002.out BK347.out (by decide)))
     have n3_ := Aside0.mk (hb)
     have n4_ := Aside0.mk (ho)
     clear HO_348001 BK346 BK347 HB HO_348002 HO354; have HO_348001 := n0_; have BK346 := n1_; have BK347 := n2_; have HB := n3_; have HO357 := n4_; clear n0_ n1_ n2_ n3_ n4_ ho hb hg hat
     obtain ⟨Ao21, co21, eo21⟩ := Kd.S_slice HO357.out
     (first | subst eo21 | (injection eo21 with f1_ f2_ f3_; have f4_ := f1_.symm; have f5_ := f3_.symm; clear f1_ f2_ f3_; subst f4_; subst f5_))
     refine hK.out _ _ ⟨hcz BK347 0, hcz BK347 1, hcz BK347 2, hcz BK347 3, ((HB.out.cell (World.block_lt_of_cell? w _ hw351_0)).trans hw351_0)⟩ (fun hHeld => ?_)
     clear hK K
     refine normQ (N := 35) ?_
     refine pureQ 10 36 HT_.out ?_
     refine last_ (i := 11) (N := none) #[true, true, true, true, true, true, true, true, true, true, true, true] rfl rfl (one_of HT_.out (by kernel_rfl)) (by decide) (fun K hK => ?_)
     have hs22 : w19.cell? ⟨gb347, 2, none⟩ = some (u348002) := hcz BK347 2
     have hfs22 := bfz BK347 2
     have hns22_0 := nn NB346_347 NB347_346
     refine skip_ (w1 := ?_) (by rfl) rfl ?_ ?_
     rotate_left
     ·
      go_simp
      rfl
     refine hK.out _ _ ?_
     clear hK K
     refine done_ (done_of HT_.out (by kernel_rfl)) ?_
     try go_wp2
     go_roundg k1
     case measure => have := HK1.out; omega
     case rel => exact ⟨(wrap64 (x10_1 + 1)), (y355), (.slice Ao21 y355.length co21), (by first | rfl | (simp; done) | (simp [*]; done)), H', ⟨by have := HK1.out; omega⟩, ⟨by (with_reducible repeat (first | apply Kd.R_alloc | apply Kd.R_drewN | apply Kd.R_drew)); exact Kd.R_mono (Kd.R_far (p := ⟨gb347, 2, none⟩) (Kd.R_types HO_348001.out BK347.out (by decide)) (fun _ hk => hk.2) (.slice Ao21 y355.length co21)) (fun _ hk => trivial)⟩, ⟨by (with_reducible repeat (first | apply Kd.S_alloc | apply Kd.S_drewN | apply Kd.S_drew)); exact Kd.S_mono (Kd.S_far (p := ⟨gb347, 2, none⟩) (Kd.S_types HO357.out BK347.out (by decide)) (fun _ hk => hk.2) (.slice Ao21 y355.length co21)) (fun _ hk => hk.1)⟩, ⟨pkF BK346⟩, ⟨by refine pkB ?_; refine bput (cs := #[.int .i64 a0, .slice Ao11 y348.length co11, u348002, .int .i64 a3]) 2 ?_; exact BK347.out⟩, bpk HB⟩
    ·
     rw [if_neg c13] at H
     have c13b0 : decide (x10_1 < (l2.length : Int)) = false := decide_eq_false c13
     clear c13
     simp only [Option.some.injEq, Prod.mk.injEq] at H
     obtain ⟨rfl, rfl, rfl, rfl⟩ := H; have hnb23 := nn NB347_346 NB346_347
     obtain ⟨hcz24_0, hcz24_1, hcz24_2, hcz24_3, hfz24_0, hfz24_1, hfz24_2, hfz24_3⟩ := hcf4 BK347
     obtain ⟨hcz25_0, hcz25_1, hcz25_2, hcz25_3, hfz25_0, hfz25_1, hfz25_2, hfz25_3⟩ := hcf4 BK346
     obtain ⟨Ao26, co26, eo26⟩ := Kd.S_slice HO_348002.out
     subst eo26
     go_wp2
     refine bodyPost_ret (results_cell_row rfl _ _ gb346 43 #[.int .i64 a0, .slice Ao11 y348.length co11, .slice Ao26 x348002_1.length co26, .int .i64 a3] (0, 0) _ rfl (by refine pkB ?_; refine bput (cs := #[.int .i64 a0, .slice Ao11 y348.length co11, .slice Ao26 x348002_1.length co26, .int .i64 0]) 3 ?_; refine bput (cs := #[.int .i64 a0, .slice Ao11 y348.length co11, .slice none 0 0, .int .i64 0]) 2 ?_; refine bput (cs := #[.int .i64 a0, .slice none 0 0, .slice none 0 0, .int .i64 0]) 1 ?_; refine bput (cs := #[.int .i64 0, .slice none 0 0, .slice none 0 0, .int .i64 0]) 0 ?_; exact BK346.out) Try.underlying43 rfl (by kernel_rfl)) rfl ?_
     exact ⟨_, _, by first | rfl | (simp [errW_none, errW_some] <;> rfl) | (simp [*, errW_none, errW_some] <;> rfl) | kernel_rfl, by (with_reducible repeat (first | apply Kd.R_alloc | apply Kd.R_drewN | apply Kd.R_drew)); exact Kd.R_mono (Kd.R_far (p := ⟨gb346, 3, none⟩) (Kd.R_far (p := ⟨gb346, 2, none⟩) (Kd.R_far (p := ⟨gb346, 1, none⟩) (Kd.R_far (p := ⟨gb346, 0, none⟩) (Kd.R_types HO_348001.out BK346.out (by decide)) (fun _ hk => hk.2) (.int .i64 a0)) (fun _ hk => hk.2) (.slice Ao11 y348.length co11)) (fun _ hk => hk.2) (.slice Ao26 x348002_1.length co26)) (fun _ hk => hk.2) (.int .i64 a3)) (fun _ hk => trivial), by (with_reducible repeat (first | apply Kd.S_alloc | apply Kd.S_drewN | apply Kd.S_drew)); exact Kd.S_mono (Kd.S_far (p := ⟨gb346, 3, none⟩) (Kd.S_far (p := ⟨gb346, 2, none⟩) (Kd.S_far (p := ⟨gb346, 1, none⟩) (Kd.S_far (p := ⟨gb346, 0, none⟩) (Kd.S_types HO_348002.out BK346.out (by decide)) (fun _ hk => hk.2) (.int .i64 a0)) (fun _ hk => hk.2) (.slice Ao11 y348.length co11)) (fun _ hk => hk.2) (.slice Ao26 x348002_1.length co26)) (fun _ hk => hk.2) (.int .i64 a3)) (fun _ hk => hk.1), (bpk HB).out⟩
end Go.Proofs.Ytcalcbeonbfkmaa.P
/- What the law's proof needs of G20. -/
namespace Go.Proofs.Ytcalcbeonbfkmaa.P
open Go.RowKit Go.Proofs.YtcalcbeonbfkmaaW.PrintWords Go.Proofs.YtcalcbeonbfkmaaW.PrintLast Go.Proofs.YtcalcbeonbfkmaaW.PrintMore Go.Proofs.YtcalcbeonbfkmaaO
attribute [local go_sem] max2_int min2_int max_two min_two max_three min_three max_four min_four
set_option linter.unusedVariables false
set_option linter.unusedSimpArgs false
abbrev LookT := Int × List Int × List (List Int) × Int
abbrev kLook : Kd LookT := Kd.pair (Kd.int .i64) (Kd.pair (Kd.slice 2 (Kd.int .i64)) (Kd.pair (Kd.slice 29 kL) (Kd.int .i64)))
theorem info43 : (Try.prog.info? 43).map (fun i => (i.zero, i.size, i.bytes)) = some (some (.agg #[.int .i64 0, .slice none 0 0, .slice none 0 0, .int .i64 0]), 4, 64) := by kernel_rfl
open Classical in
/-- Blocks as they lie there. -/
noncomputable def entsOf (W : World) (P : Nat → Prop) : List (Nat × Array Value × Nat) := (List.range W.heap.size).filterMap (fun k => if P k then (match W.heap[k]? with | some (.cells c t p) => if p = (0, 0) then some (k, c, t) else none | _ => none) else none)
theorem ents_mem {W : World} {P : Nat → Prop} {z : Nat × Array Value × Nat} (h : z ∈ entsOf W P) : P z.1 ∧ W.heap[z.1]? = some (.cells z.2.1 z.2.2 (0, 0)) := by
  unfold entsOf at h
  obtain ⟨k, hk, e⟩ := List.mem_filterMap.1 h
  by_cases hp : P k
  · rw [if_pos hp] at e
    split at e
    · rename_i c t p hc
      by_cases h0 : p = (0, 0)
      · rw [if_pos h0] at e
        injection e with e
        subst e h0
        exact ⟨hp, hc⟩
      · rw [if_neg h0] at e
        exact nomatch e
    · exact nomatch e
  · rw [if_neg hp] at e
    exact nomatch e
theorem ents_of {W : World} {P : Nat → Prop} {k : Nat} {c : Array Value} {t : Nat} (hp : P k) (h : W.heap[k]? = some (.cells c t (0, 0))) : (k, c, t) ∈ entsOf W P := by
  unfold entsOf
  refine List.mem_filterMap.2 ⟨k, List.mem_range.2 (blk_lt h), ?_⟩
  rw [if_pos hp, h]
  rfl
/-- What a looker keeps: the looks, and where they lie. -/
structure Lk (B gv : Nat) where
  looks : List LookT
  ents : List (Nat × Array Value × Nat)
  A : Option Addr
  c : Nat
  box : (gv, #[.slice A looks.length c], 40) ∈ ents
  ok : Nat → Prop
  okE : ∀ k, ok k → k ≠ gv ∧ ∃ z ∈ ents, z.1 = k
  rows : ∀ W : World, (∀ z ∈ ents, W.heap[z.1]? = some (.cells z.2.1 z.2.2 (0, 0))) → kLook.R 43 W B ok (.slice A looks.length c) looks
/-- A looker's state anew, as it lies in a world. -/
theorem lk_new {B gv : Nat} {W : World} {A : Option Addr} {c : Nat} {l : List LookT} {ok : Nat → Prop} (hb : W.heap[gv]? = some (.cells #[.slice A l.length c] 40 (0, 0))) (hr : kLook.R 43 W B ok (.slice A l.length c) l) (hok : ∀ k, ok k → k ≠ gv) :
    ∃ s : Lk B gv, s.looks = l ∧ ∀ z ∈ s.ents, W.heap[z.1]? = some (.cells z.2.1 z.2.2 (0, 0)) ∧ (z.1 = gv ∨ (ok z.1 ∧ B ≤ z.1)) := by
  have hB := Kd.R_bound hr
  refine ⟨⟨l, (gv, #[.slice A l.length c], 40) :: entsOf W (fun k => ok k ∧ B ≤ k), A, c, List.mem_cons_self, fun k => ok k ∧ B ≤ k ∧ k < W.heap.size ∧ ∃ q, q ∈ 43 :: kLook.E ∧ ∃ cells, W.heap[k]? = some (.cells cells q (0, 0)), fun k hk => ?_, fun W2 h2 => ?_⟩, rfl, fun z hz => ?_⟩
  · obtain ⟨h1, h2, h3, q, _, cells, hc⟩ := hk
    exact ⟨hok k h1, (k, cells, q), List.mem_cons_of_mem _ (ents_of ⟨h1, h2⟩ hc), rfl⟩
  · refine Kd.R_step hB (fun k hk _ => ?_)
    obtain ⟨h1, hk2, h3, q, _, cells, hc⟩ := hk
    exact (h2 _ (List.mem_cons_of_mem _ (ents_of ⟨h1, hk2⟩ hc))).trans hc.symm
  · rcases List.mem_cons.1 hz with rfl | hz
    · exact ⟨hb, Or.inl rfl⟩
    · obtain ⟨h1, h2⟩ := ents_mem hz
      exact ⟨h2, Or.inr h1⟩
theorem look_ne : ∀ q, q ∈ 43 :: kLook.E → q ≠ 40 := fun q hq => by
  have e : (43 :: kLook.E) = [43, 2, 29, 2] := by rfl
  rw [e] at hq
  simp only [List.mem_cons, List.not_mem_nil, or_false] at hq
  omega
theorem copied_f (at_ t : Int) (rs : List Int) (ars : List (List Int)) (h1 : rs.length ≤ 100000) (h2 : ars.length ≤ 1000) (h3 : ∀ i : Int, (rd_L9 ars i).length ≤ 1000) : ∃ k, gimballaw08_copied.f k at_ rs ars t = some (at_, rs, ars, t) := by
  have key : ∀ m : Nat, m ≤ ars.length → gimballaw08_copied.l0 (m + 1) ars ((ars.length : Int) - (m : Int)) at_ rs (ars.take (ars.length - m)) t = some (at_, rs, ars, t) := fun m => by
    induction m with
    | zero =>
      intro _
      unfold gimballaw08_copied.l0
      rw [if_neg (by omega), Nat.sub_zero, List.take_length]
    | succ m ih =>
      intro hm
      have i1 := ih (by omega)
      unfold gimballaw08_copied.l0
      have h4 := h3 ((ars.length : Int) - ((m + 1 : Nat) : Int))
      have ej : ((ars.length - (m + 1) : Nat) : Int) = (ars.length : Int) - ((m + 1 : Nat) : Int) := by omega
      have et := take_rd (l := ars) (j := ars.length - (m + 1)) (row := rd_L9 ars ((ars.length : Int) - ((m + 1 : Nat) : Int))) (by omega) (by rw [ej])
      rw [show ars.length - (m + 1) + 1 = ars.length - m by omega] at et
      rw [if_pos (by omega), if_pos (by omega), if_pos (by rw [List.length_nil, Nat.zero_add]; exact Nat.lt_of_le_of_lt (h3 _) (by decide)), if_pos (by rw [List.length_take]; omega), M.wrap64_in _ (by omega), List.nil_append, et, show (ars.length : Int) - ((m + 1 : Nat) : Int) + 1 = (ars.length : Int) - (m : Int) by omega]
      exact i1
  refine ⟨ars.length + 1, ?_⟩
  unfold gimballaw08_copied.f
  rw [if_pos (by rw [List.length_nil]; omega)]
  have := key ars.length (Nat.le_refl _)
  rw [Nat.sub_self, List.take_zero, show (ars.length : Int) - (ars.length : Int) = 0 by omega] at this
  exact this
def N13T : Bool × List (List Nat × List Nat) := (true, [([], []), ([], []), ([], []), ([], []), ([], []), ([1, 2, 3, 4], [1, 2, 3, 4]), ([5], [5]), ([0, 6, 5], [0, 6]), ([7, 7, 0, 1, 2, 3, 4, 5, 6, 7], [7])])
def N13B : List Nat := [0, 0, 0, 0, 0, 30, 62, 127, 255]
theorem N13tab : rtab .any (opsOf Try.f13 1) = N13T := by kernel_rfl
theorem N13bits : waitsOk N13T.2 N13B = true := by kernel_rfl
set_option maxHeartbeats 8000000 in
set_option maxRecDepth 100000 in
theorem look1_calls {B gv gn : Nat} (s : Lk B gv) (wb W : World) (n : Int) (at_ t : Int) {A1 A2 : Option Addr} {c1 c2 : Nat} (rs : List Int) (ars : List (List Int)) (hb : Below B wb W) (hB : wb.heap.size = B) (hE : ∀ z ∈ s.ents, W.heap[z.1]? = some (.cells z.2.1 z.2.2 (0, 0))) (hn : W.heap[gn]? = some (.cells #[.int .i64 n] 3 (0, 0))) (hne : gn ≠ gv) (hnE : ∀ z ∈ s.ents, z.1 ≠ gn) (hgv : B ≤ gv)
    (h1 : Kd.C (Kd.int .i64) W A1 rs.length rs ∧ rs.length ≤ c1) (h2 : Kd.C kL W A2 ars.length ars ∧ ars.length ≤ c2) (hl1 : rs.length ≤ 100000) (hl2 : ars.length ≤ 1000) (hl3 : ∀ i : Int, (rd_L9 ars i).length ≤ 1000) (hll : s.looks.length ≤ 100000) :
    Calls Try.prog 13 #[.int .i64 at_, .slice A1 rs.length c1, .slice A2 ars.length c2, .int .i64 t, .pointer (some ⟨gv, 0, none⟩), .pointer (some ⟨gn, 0, none⟩)] W fun e W' => ∃ s' : Lk B gv, e = .returned (.bool (decide (((s.looks.length + 1 : Nat) : Int) ≤ n))) ∧ s'.looks = s.looks ++ [(at_, rs, ars, t)] ∧ Below B wb W' ∧ W.heap.size ≤ W'.heap.size ∧ (∀ k, B ≤ k → k < W.heap.size → (∀ z ∈ s.ents, z.1 ≠ k) → W'.heap[k]? = W.heap[k]?) ∧ ∀ z ∈ s'.ents, W'.heap[z.1]? = some (.cells z.2.1 z.2.2 (0, 0)) ∧ ((∃ z0 ∈ s.ents, z0.1 = z.1) ∨ W.heap.size ≤ z.1) := by
  subst hB
  obtain ⟨ln, hln⟩ : ∃ n, s.looks.length = n := ⟨_, rfl⟩
  have hx : W.heap[gv]? = some (.cells #[.slice s.A s.looks.length s.c] 40 (0, 0)) := hE _ s.box
  have hr0 := s.rows W hE
  rw [hln] at hx hr0 hll
  have KLn := Aside0.mk hln
  have KX := Aside0.mk hx
  have KR := Aside0.mk hr0
  have KW := Aside0.mk hb
  have HN := Aside0.mk hn
  have KNE := Aside0.mk (And.intro hne.symm hgv)
  have KH := Aside0.mk (And.intro h1 h2)
  have K5 := Aside0.mk (And.intro hl1 (And.intro hl2 (And.intro hl3 hll)))
  have HB := Aside0.mk (Below.refl W.heap.size W)
  have hgn := Aside0.mk hnE
  have KE := Aside0.mk hE
  have hu43 := Try.underlying43
  clear hln hx hr0 hb hn hne hnE h1 h2 hl1 hl2 hl3 hll hE hgv
  have hS : ∀ w' : World, Below W.heap.size W w' → (w'.cell? ⟨gv, 0, none⟩ = some (.slice s.A ln s.c)) := fun w' h => (blk_cell ((h.block gv (blk_lt KX.out)).trans KX.out) 0).trans rfl
  go_enter Try.func13, Try.ntmps13
  go_upto_region 1 with (fail)
  refine start_ (n := 9) (S := fun w' => w'.cell? ⟨gv, 0, none⟩ = some (.slice s.A ln s.c)) (ds := [8]) #[false, false, false, false, false, false, false, false, false] (by kernel_rfl) rfl rfl (hS _ (below_drew1 HB.out)) (fun hHeld => ?_)
  refine with_tabW N13tab N13bits (fun HT_ HW_ => ?_)
  replace HB := Aside0.mk (below_drew1 HB.out)
  generalize World.drew _ = wa at HB hHeld ⊢
  refine takeQ 0 11 HT_.out HW_.out hHeld ?_
  refine pureQ 1 12 HT_.out ?_
  refine pureQ 2 13 HT_.out ?_
  refine pureQ 3 14 HT_.out ?_
  refine pureQ 4 15 HT_.out ?_
  refine oneQ 5 16 HT_.out (fun K hK => ?_)
  refine goesQ Try.func14 #[.int .i64 at_, .slice A1 rs.length c1, .slice A2 ars.length c2, .int .i64 t] ?_
  obtain ⟨kc, hkc⟩ := copied_f at_ t rs ars K5.out.1 K5.out.2.1 K5.out.2.2.1
  refine (gimballaw08_copied.calls kc at_ A1 c1 rs A2 c2 ars t at_ rs ars t _ (Kd.C_below KH.out.1.1 HB.out) KH.out.1.2 (Kd.C_below KH.out.2.1 HB.out) KH.out.2.2 hkc).mono ?_
  rintro e w5 ⟨v1, v2, rfl, r1, r2, hb⟩
  have hsz := HB.out.size
  obtain ⟨B1, d1, ev1⟩ := Kd.R_slice r1
  obtain ⟨B2, d2, ev2⟩ := Kd.S_slice r2
  subst ev1
  subst ev2
  have R1 := Aside0.mk (Kd.R_mono (ok' := fun k => W.heap.size ≤ k) (Kd.R_bound (Kd.R_lower r1 hsz)) (fun k hk => hk.2.1))
  have R2 := Aside0.mk (Kd.R_mono (ok' := fun k => W.heap.size ≤ k) (Kd.R_bound (Kd.R_lower (Kd.S_R r2) hsz)) (fun k hk => hk.2.1))
  replace HB := bst HB hb
  clear r1 r2 hb hsz
  refine ⟨_, rfl, ?_⟩
  refine hK.out _ _ (hS _ HB.out) (fun hHeld => ?_)
  clear hK K
  refine normQ (N := 16) ?_
  refine oneQ 6 17 HT_.out (fun K hK => ?_)
  refine value_ (w1 := ?_) (v := ?_) (by rfl) rfl ?_ ?_
  rotate_left 2
  · go_simp
    constructor
    · rfl
    · rfl
  refine hK.out _ _ (hS _ (below_alloc HB.out _)) (fun hHeld => ?_)
  clear hK K
  refine normQ (N := 17) ?_
  refine oneQ 7 18 HT_.out (fun K hK => ?_)
  have HR : Aside0 (kLook.R 43 w5 wb.heap.size (fun k => s.ok k ∨ W.heap.size ≤ k) (.slice s.A ln s.c) s.looks) := ⟨by have h := Kd.R_below (KR.out) HB.out; exact Kd.R_mono h (fun _ => Or.inl)⟩
  have hlt := Kd.R_lt KR.out
  refine Kd.R_append_step kLook (w0 := wb) wb.heap.size (by rfl) (.tmp 11) (.tmp 17) 40 43 (.agg #[.int .i64 0, .slice none 0 0, .slice none 0 0, .int .i64 0]) 64 rfl Try.underlying40 info43 rfl (by decide) (by omega) (.slice s.A ln s.c) s.looks (at_, rs, ars, t) [.int .i64 at_, .slice B1 rs.length d1, .slice B2 ars.length d2, .int .i64 t] (fun k => s.ok k ∨ W.heap.size ≤ k) (fun k => W.heap.size ≤ k) rfl rfl ⟨[.int .i64 at_], [.slice B1 rs.length d1, .slice B2 ars.length d2, .int .i64 t], rfl, rfl, [.slice B1 rs.length d1], [.slice B2 ars.length d2, .int .i64 t], rfl, ⟨_, rfl, Kd.R_lower R1.out KW.out.size⟩, [.slice B2 ars.length d2], [.int .i64 t], rfl, ⟨_, rfl, Kd.R_lower R2.out KW.out.size⟩, rfl⟩ (fun k hk => ⟨Or.inr hk, fun e => by have := hlt k e.symm; omega⟩) (fun k hk => Or.inr (Nat.le_trans HB.out.size hk)) HR.out (below_step KW.out HB.out) (below_step KW.out HB.out).size (by have := K5.out.2.2.2; rw [KLn.out]; omega) ?_
  intro v' w6 hr hbb hgr hat
  obtain ⟨A', c', ev⟩ := Kd.R_slice hr
  rw [List.length_append, List.length_singleton, KLn.out] at ev
  subst ev
  have X6 := Aside0.mk ((hgr.block gv (blk_lt ((HB.out.block gv (blk_lt KX.out)).trans KX.out)) (Kd.R_ne HR.out ((HB.out.block gv (blk_lt KX.out)).trans KX.out) (by decide))).trans ((HB.out.block gv (blk_lt KX.out)).trans KX.out))
  have N6 := Aside0.mk ((hgr.block gn (blk_lt ((HB.out.block gn (blk_lt HN.out)).trans HN.out)) (Kd.R_ne HR.out ((HB.out.block gn (blk_lt HN.out)).trans HN.out) (by decide))).trans ((HB.out.block gn (blk_lt HN.out)).trans HN.out))
  have KP : Aside0 (∀ k, k < W.heap.size → (∀ z ∈ s.ents, z.1 ≠ k) → w6.heap[k]? = W.heap[k]?) := ⟨fun k hk hz => (hgr.block k (Nat.lt_of_lt_of_le hk HB.out.size) (fun e => by obtain ⟨z, hz1, hz2⟩ := (s.okE k (KR.out.1 k e.symm)).2; exact hz z hz1 hz2)).trans (HB.out.block k hk)⟩
  have KZ6 : Aside0 (W.heap.size ≤ w6.heap.size) := ⟨Nat.le_trans HB.out.size hgr.size⟩
  have HR6 := Aside0.mk hr
  have HB6 := Aside0.mk hbb
  clear hr hbb hgr hat HB HR R1 R2 hlt
  refine hK.out _ _ ((blk_cell X6.out 0).trans rfl) (fun hHeld => ?_)
  clear hK K
  refine normQ (N := 18) ?_
  refine last_ (i := 8) (N := none) #[true, true, true, true, true, true, true, true, true] rfl rfl (one_of HT_.out (by kernel_rfl)) (by decide) (fun K hK => ?_)
  have cc : w6.cell? ⟨gv, 0, none⟩ = some (.slice s.A ln s.c) := (blk_cell X6.out 0).trans rfl
  have ff := bfz X6 0
  obtain ⟨w7, hwz⟩ : ∃ wz, wz = World.setCell w6 ⟨gv, 0, none⟩ (.slice A' (ln + 1) c') := ⟨_, rfl⟩
  refine skip_ (w1 := w7) (by rfl) rfl (by rw [hwz] <;> go_simp) ?_
  clear cc ff
  have hgs : w6.grownBy w7 (some gv) := by rw [hwz]; exact setCell_grown w6 gv 0 _
  have X7 : Aside0 (w7.heap[gv]? = some (.cells #[.slice A' (ln + 1) c'] 40 (0, 0))) := ⟨by rw [hwz]; exact blk_put X6.out 0 _ rfl⟩
  have N7 := Aside0.mk ((hgs.block gn (blk_lt N6.out) (fun e => KNE.out.1 (Option.some.inj e).symm)).trans N6.out)
  have HR7 := Aside0.mk (R_boxed HR6.out X6.out look_ne hgs)
  have KP7 : Aside0 (∀ k, k < W.heap.size → (∀ z ∈ s.ents, z.1 ≠ k) → w7.heap[k]? = W.heap[k]?) := ⟨fun k hk hz => (hgs.block k (Nat.lt_of_lt_of_le hk KZ6.out) (fun e => hz _ s.box (Option.some.inj e).symm)).trans (KP.out k hk hz)⟩
  have HB7 := Aside0.mk (Below_boxed HB6.out (Nat.le_refl _) KNE.out.2 hgs)
  have KZ7 : Aside0 (W.heap.size ≤ w7.heap.size) := ⟨Nat.le_trans KZ6.out hgs.size⟩
  clear hwz hgs X6 N6 HR6 HB6 KP KZ6
  refine hK.out _ _ ?_
  clear hK K
  refine done_ (done_of HT_.out (by kernel_rfl)) ?_
  clear hHeld HT_ HW_
  clear hS
  have c7 := (blk_cell X7.out 0).trans (show _ = some (Value.slice A' (ln + 1) c') from rfl)
  have n7 := (blk_cell N7.out 0).trans (show _ = some (Value.int .i64 n) from rfl)
  go_wp2
  go_ret
  obtain ⟨s', es, hz⟩ := lk_new (B := wb.heap.size) (ok := fun k => s.ok k ∨ W.heap.size ≤ k) (l := s.looks ++ [(at_, rs, ars, t)]) (A := A') (c := c') (by rw [List.length_append, List.length_singleton, KLn.out]; exact X7.out) (by rw [List.length_append, List.length_singleton, KLn.out]; exact HR7.out) (fun k hk => hk.elim (fun h => (s.okE k h).1) (fun h => by have := blk_lt KX.out; omega))
  rw [KLn.out]
  exact ⟨s', rfl, es, HB7.out, KZ7.out, fun k _ h2 h3 => KP7.out k h2 h3, fun z hz1 => ⟨(hz z hz1).1, (hz z hz1).2.elim (fun e => Or.inl ⟨_, s.box, e.symm⟩) (fun h => h.1.elim (fun h => Or.inl (s.okE _ h).2) Or.inr)⟩⟩
end Go.Proofs.Ytcalcbeonbfkmaa.P
/- What the law's proof needs of G21. -/
namespace Go.Proofs.Ytcalcbeonbfkmaa.P
open Go.RowKit Go.Proofs.YtcalcbeonbfkmaaW.PrintWords Go.Proofs.YtcalcbeonbfkmaaW.PrintLast Go.Proofs.YtcalcbeonbfkmaaW.PrintMore Go.Proofs.YtcalcbeonbfkmaaO
attribute [local go_sem] max2_int min2_int max_two min_two max_three min_three max_four min_four
set_option linter.unusedVariables false
set_option linter.unusedSimpArgs false
/-- Only some blocks were written. -/
structure Chg (w0 w w1 : World) (X : Nat → Prop) : Prop where
  below : Below w0.heap.size w0 w1
  size : w.heap.size ≤ w1.heap.size
  far : ∀ k, k < w.heap.size → ¬ X k → w1.heap[k]? = w.heap[k]?
theorem Chg.refl {w0 w : World} {X : Nat → Prop} (h : Below w0.heap.size w0 w) : Chg w0 w w X := ⟨h, Nat.le_refl _, fun _ _ _ => rfl⟩
theorem Chg.step {w0 w w1 w2 : World} {X : Nat → Prop} {g : Nat} (h : Chg w0 w w1 X) (hg : w1.grownBy w2 (some g)) (hx : X g) (hw : w0.heap.size ≤ g) : Chg w0 w w2 X :=
  ⟨Below_boxed h.below (Nat.le_refl _) hw hg, Nat.le_trans h.size hg.size, fun k hk hx2 => (hg.block k (Nat.lt_of_lt_of_le hk h.size) (fun e => hx2 (by rw [Option.some.inj e]; exact hx))).trans (h.far k hk hx2)⟩
/-- A row of rows: the header of one of them, and what is written into it. -/
theorem S_row {W : World} {b : Nat} {ok : Nat → Prop} {ga n ca : Nat} {l : List (List Int)} (h : Kd.S kL 29 W b ok (.slice (some ⟨ga, 0, none⟩) n ca) l) (i : Nat) (hi : i < n) :
    ∃ A c, W.cell? ⟨ga, i, none⟩ = some (.slice A (l.getD i []).length c) ∧ ∀ k : Nat, k < (l.getD i []).length → ∃ gi, A = some ⟨gi, 0, none⟩ ∧ ok gi ∧ b ≤ gi ∧ W.frozen? ⟨gi, k, none⟩ = false ∧ (∃ v, W.cell? ⟨gi, k, none⟩ = some v) ∧
      ∀ x : Int, Kd.S kL 29 (W.setCell ⟨gi, k, none⟩ (.int .i64 x)) b ok (.slice (some ⟨ga, 0, none⟩) n ca) (l.set i ((l.getD i []).set k x)) ∧ W.grownBy (W.setCell ⟨gi, k, none⟩ (.int .i64 x)) (some gi) := by
  obtain ⟨oki, c, hcl, hM, hcc, hoki, hput⟩ := Kd.S_borrow h ([] : List Int) (i : Int) (by omega) (by omega)
  rw [Int.toNat_natCast] at hM hcc hput
  obtain ⟨v, rfl, hR⟩ := hM
  obtain ⟨A, ci, rfl⟩ := Kd.R_slice hR
  refine ⟨A, ci, ?_, fun k hk => ?_⟩
  · have := hcc 0 _ rfl
    rwa [add_at, Nat.zero_add, show i * kL.sz + 0 = i from Nat.mul_one i] at this
  · obtain ⟨gi, ci2, e, hgb, hgl, hty⟩ := Kd.R_form hR (by omega)
    injection e with e1 e2 e3
    subst e1 e3
    obtain ⟨a, b⟩ := Kd.R_celln 0 hR (k : Int) (by omega) (by omega)
    rw [Int.toNat_natCast] at a b
    refine ⟨gi, rfl, (hoki gi (hR.1 gi rfl)).1, hgb, b, ⟨_, a⟩, fun x => ?_⟩
    have HP := Kd.R_putg hR (k : Int) x
    rw [Int.toNat_natCast] at HP
    obtain ⟨hp2, hg⟩ := HP
    have hg0 : oki gi := hR.1 gi rfl
    refine ⟨hput hg (fun k e => by injection e with e; subst e; exact hg0) ⟨_, rfl, ?_⟩, hg⟩
    have e2 : ((l.getD i []).set k x).length = (l.getD i []).length := List.length_set
    exact hp2
theorem getD_set_len {l : List (List Int)} {i j : Nat} {r : List Int} (hr : r.length = (l.getD i []).length) : ((l.set i r).getD j []).length = (l.getD j []).length := by
  rw [List.getD_eq_getElem?_getD, List.getElem?_set]
  by_cases e : i = j
  · subst e
    rw [if_pos rfl]
    by_cases h : i < l.length
    · rw [if_pos h]; exact hr
    · rw [if_neg h, List.getD_eq_getElem?_getD, List.getElem?_eq_none (by omega)]
  · rw [if_neg e, ← List.getD_eq_getElem?_getD]
def N16T : Bool × List (List Nat × List Nat) := (true, [([], []), ([], []), ([], []), ([], []), ([], []), ([1, 2, 3, 4], [1, 2, 3, 4]), ([5], [5]), ([0, 6, 5], [0, 6]), ([7, 7, 0, 1, 2, 3, 4, 5, 6, 7], [7])])
def N16B : List Nat := [0, 0, 0, 0, 0, 30, 62, 127, 255]
theorem N16tab : rtab .any (opsOf Try.f16 1) = N16T := by kernel_rfl
theorem N16bits : waitsOk N16T.2 N16B = true := by kernel_rfl
set_option maxHeartbeats 8000000 in
set_option maxRecDepth 100000 in
theorem look2_calls {B gv gn : Nat} (s : Lk B gv) (wb W : World) (M : Nat) (n : Int) (at_ t : Int) {A1 A2 : Option Addr} {c1 c2 : Nat} (rs : List Int) (ars : List (List Int)) {ok1 ok2 : Nat → Prop} (hb : Below B wb W) (hB : wb.heap.size = B) (hE : ∀ z ∈ s.ents, W.heap[z.1]? = some (.cells z.2.1 z.2.2 (0, 0))) (hEM : ∀ z ∈ s.ents, z.1 < M) (hn : W.heap[gn]? = some (.cells #[.int .i64 n] 3 (0, 0))) (hne : gn ≠ gv) (hnE : ∀ z ∈ s.ents, z.1 ≠ gn) (hgv : B ≤ gv) (hnM : gn < M) (hBM : B ≤ M) (hMW : M ≤ W.heap.size)
    (h1 : Kd.R (Kd.int .i64) 2 W M ok1 (.slice A1 rs.length c1) rs) (h2 : Kd.S kL 29 W M ok2 (.slice A2 ars.length c2) ars) (h12 : ∀ k, ok1 k → ¬ ok2 k) (hl1 : rs.length ≤ 100000) (hl2 : ars.length ≤ 1000) (hl3 : ∀ i : Int, (rd_L9 ars i).length ≤ 1000) (hll : s.looks.length ≤ 100000) :
    Calls Try.prog 16 #[.int .i64 at_, .slice A1 rs.length c1, .slice A2 ars.length c2, .int .i64 t, .pointer (some ⟨gv, 0, none⟩), .pointer (some ⟨gn, 0, none⟩)] W fun e W' => ∃ s' : Lk B gv, e = .returned (.bool (decide (((s.looks.length + 1 : Nat) : Int) ≤ n))) ∧ s'.looks = s.looks ++ [(at_, rs, ars, t)] ∧ Below B wb W' ∧ M ≤ W'.heap.size ∧ (∀ k, B ≤ k → k < M → (∀ z ∈ s.ents, z.1 ≠ k) → W'.heap[k]? = W.heap[k]?) ∧ ∀ z ∈ s'.ents, W'.heap[z.1]? = some (.cells z.2.1 z.2.2 (0, 0)) ∧ ((∃ z0 ∈ s.ents, z0.1 = z.1) ∨ M ≤ z.1) := by
  subst hB
  obtain ⟨ln, hln⟩ : ∃ n, s.looks.length = n := ⟨_, rfl⟩
  have hx : W.heap[gv]? = some (.cells #[.slice s.A s.looks.length s.c] 40 (0, 0)) := hE _ s.box
  have hr0 := s.rows W hE
  rw [hln] at hx hr0 hll
  have KLn := Aside0.mk hln
  have KX := Aside0.mk hx
  have KR := Aside0.mk hr0
  have KW := Aside0.mk hb
  have HN := Aside0.mk hn
  have KNE := Aside0.mk (And.intro hne.symm hgv)
  have KQ1 := Aside0.mk h1; have KQ2 := Aside0.mk h2; have KQ := Aside0.mk h12; have KEM := Aside0.mk hEM; have KM := Aside0.mk (And.intro hnM hBM); have ha1 := Kd.R_reads' h1; have ha2 := Kd.S_reads' h2; have KH : Aside0 ((Kd.C (Kd.int .i64) W A1 rs.length rs ∧ rs.length ≤ c1) ∧ (Kd.C kL W A2 ars.length ars ∧ ars.length ≤ c2)) := ⟨⟨⟨ha1.2.2, ha1.2.1⟩, ⟨ha2.2.2, ha2.2.1⟩⟩⟩
  have K5 := Aside0.mk (And.intro hl1 (And.intro hl2 (And.intro hl3 hll)))
  have HB := Aside0.mk (Below.refl W.heap.size W)
  have hgn := Aside0.mk hnE
  have KE := Aside0.mk hE
  have hu43 := Try.underlying43
  clear ha1 ha2 hln hx hr0 hb hn hne hnE h1 h2 h12 hEM hnM hBM hl1 hl2 hl3 hll hE hgv
  have hS : ∀ w' : World, Below W.heap.size W w' → (w'.cell? ⟨gv, 0, none⟩ = some (.slice s.A ln s.c)) := fun w' h => (blk_cell ((h.block gv (blk_lt KX.out)).trans KX.out) 0).trans rfl
  have KMW := Aside0.mk hMW
  clear hMW
  go_enter Try.func16, Try.ntmps16
  go_upto_region 1 with (fail)
  refine start_ (n := 9) (S := fun w' => w'.cell? ⟨gv, 0, none⟩ = some (.slice s.A ln s.c)) (ds := [8]) #[false, false, false, false, false, false, false, false, false] (by kernel_rfl) rfl rfl (hS _ (below_drew1 HB.out)) (fun hHeld => ?_)
  refine with_tabW N16tab N16bits (fun HT_ HW_ => ?_)
  replace HB := Aside0.mk (below_drew1 HB.out)
  generalize World.drew _ = wa at HB hHeld ⊢
  refine takeQ 0 14 HT_.out HW_.out hHeld ?_
  refine pureQ 1 15 HT_.out ?_
  refine pureQ 2 16 HT_.out ?_
  refine pureQ 3 17 HT_.out ?_
  refine pureQ 4 18 HT_.out ?_
  refine oneQ 5 19 HT_.out (fun K hK => ?_)
  refine goesQ Try.func14 #[.int .i64 at_, .slice A1 rs.length c1, .slice A2 ars.length c2, .int .i64 t] ?_
  obtain ⟨kc, hkc⟩ := copied_f at_ t rs ars K5.out.1 K5.out.2.1 K5.out.2.2.1
  refine (gimballaw08_copied.calls kc at_ A1 c1 rs A2 c2 ars t at_ rs ars t _ (Kd.C_below KH.out.1.1 HB.out) KH.out.1.2 (Kd.C_below KH.out.2.1 HB.out) KH.out.2.2 hkc).mono ?_
  rintro e w5 ⟨v1, v2, rfl, r1, r2, hb⟩
  have hsz := HB.out.size
  obtain ⟨B1, d1, ev1⟩ := Kd.R_slice r1
  obtain ⟨B2, d2, ev2⟩ := Kd.S_slice r2
  subst ev1
  subst ev2
  have R1 := Aside0.mk (Kd.R_mono (ok' := fun k => W.heap.size ≤ k) (Kd.R_bound (Kd.R_lower r1 hsz)) (fun k hk => hk.2.1))
  have R2 := Aside0.mk (Kd.R_mono (ok' := fun k => W.heap.size ≤ k) (Kd.R_bound (Kd.R_lower (Kd.S_R r2) hsz)) (fun k hk => hk.2.1))
  replace HB := bst HB hb
  clear r1 r2 hb hsz
  refine ⟨_, rfl, ?_⟩
  refine hK.out _ _ (hS _ HB.out) (fun hHeld => ?_)
  clear hK K
  refine normQ (N := 19) ?_
  refine oneQ 6 20 HT_.out (fun K hK => ?_)
  refine value_ (w1 := ?_) (v := ?_) (by rfl) rfl ?_ ?_
  rotate_left 2
  · go_simp
    constructor
    · rfl
    · rfl
  refine hK.out _ _ (hS _ (below_alloc HB.out _)) (fun hHeld => ?_)
  clear hK K
  refine normQ (N := 20) ?_
  refine oneQ 7 21 HT_.out (fun K hK => ?_)
  have HR : Aside0 (kLook.R 43 w5 wb.heap.size (fun k => s.ok k ∨ W.heap.size ≤ k) (.slice s.A ln s.c) s.looks) := ⟨by have h := Kd.R_below (KR.out) HB.out; exact Kd.R_mono h (fun _ => Or.inl)⟩
  have hlt := Kd.R_lt KR.out
  refine Kd.R_append_step kLook (w0 := wb) wb.heap.size (by rfl) (.tmp 14) (.tmp 20) 40 43 (.agg #[.int .i64 0, .slice none 0 0, .slice none 0 0, .int .i64 0]) 64 rfl Try.underlying40 info43 rfl (by decide) (by omega) (.slice s.A ln s.c) s.looks (at_, rs, ars, t) [.int .i64 at_, .slice B1 rs.length d1, .slice B2 ars.length d2, .int .i64 t] (fun k => s.ok k ∨ W.heap.size ≤ k) (fun k => W.heap.size ≤ k) rfl rfl ⟨[.int .i64 at_], [.slice B1 rs.length d1, .slice B2 ars.length d2, .int .i64 t], rfl, rfl, [.slice B1 rs.length d1], [.slice B2 ars.length d2, .int .i64 t], rfl, ⟨_, rfl, Kd.R_lower R1.out KW.out.size⟩, [.slice B2 ars.length d2], [.int .i64 t], rfl, ⟨_, rfl, Kd.R_lower R2.out KW.out.size⟩, rfl⟩ (fun k hk => ⟨Or.inr hk, fun e => by have := hlt k e.symm; omega⟩) (fun k hk => Or.inr (Nat.le_trans HB.out.size hk)) HR.out (below_step KW.out HB.out) (below_step KW.out HB.out).size (by have := K5.out.2.2.2; rw [KLn.out]; omega) ?_
  intro v' w6 hr hbb hgr hat
  obtain ⟨A', c', ev⟩ := Kd.R_slice hr
  rw [List.length_append, List.length_singleton, KLn.out] at ev
  subst ev
  have X6 := Aside0.mk ((hgr.block gv (blk_lt ((HB.out.block gv (blk_lt KX.out)).trans KX.out)) (Kd.R_ne HR.out ((HB.out.block gv (blk_lt KX.out)).trans KX.out) (by decide))).trans ((HB.out.block gv (blk_lt KX.out)).trans KX.out))
  have N6 := Aside0.mk ((hgr.block gn (blk_lt ((HB.out.block gn (blk_lt HN.out)).trans HN.out)) (Kd.R_ne HR.out ((HB.out.block gn (blk_lt HN.out)).trans HN.out) (by decide))).trans ((HB.out.block gn (blk_lt HN.out)).trans HN.out))
  have KP : Aside0 (∀ k, k < W.heap.size → (∀ z ∈ s.ents, z.1 ≠ k) → w6.heap[k]? = W.heap[k]?) := ⟨fun k hk hz => (hgr.block k (Nat.lt_of_lt_of_le hk HB.out.size) (fun e => by obtain ⟨z, hz1, hz2⟩ := (s.okE k (KR.out.1 k e.symm)).2; exact hz z hz1 hz2)).trans (HB.out.block k hk)⟩
  have KZ6 : Aside0 (W.heap.size ≤ w6.heap.size) := ⟨Nat.le_trans HB.out.size hgr.size⟩
  have HR6 := Aside0.mk hr
  have HB6 := Aside0.mk hbb
  clear hr hbb hgr hat HB HR R1 R2 hlt
  refine hK.out _ _ ((blk_cell X6.out 0).trans rfl) (fun hHeld => ?_)
  clear hK K
  refine normQ (N := 21) ?_
  refine last_ (i := 8) (N := none) #[true, true, true, true, true, true, true, true, true] rfl rfl (one_of HT_.out (by kernel_rfl)) (by decide) (fun K hK => ?_)
  have cc : w6.cell? ⟨gv, 0, none⟩ = some (.slice s.A ln s.c) := (blk_cell X6.out 0).trans rfl
  have ff := bfz X6 0
  obtain ⟨w7, hwz⟩ : ∃ wz, wz = World.setCell w6 ⟨gv, 0, none⟩ (.slice A' (ln + 1) c') := ⟨_, rfl⟩
  refine skip_ (w1 := w7) (by rfl) rfl (by rw [hwz] <;> go_simp) ?_
  clear cc ff
  have hgs : w6.grownBy w7 (some gv) := by rw [hwz]; exact setCell_grown w6 gv 0 _
  have X7 : Aside0 (w7.heap[gv]? = some (.cells #[.slice A' (ln + 1) c'] 40 (0, 0))) := ⟨by rw [hwz]; exact blk_put X6.out 0 _ rfl⟩
  have N7 := Aside0.mk ((hgs.block gn (blk_lt N6.out) (fun e => KNE.out.1 (Option.some.inj e).symm)).trans N6.out)
  have HR7 := Aside0.mk (R_boxed HR6.out X6.out look_ne hgs)
  have KP7 : Aside0 (∀ k, k < W.heap.size → (∀ z ∈ s.ents, z.1 ≠ k) → w7.heap[k]? = W.heap[k]?) := ⟨fun k hk hz => (hgs.block k (Nat.lt_of_lt_of_le hk KZ6.out) (fun e => hz _ s.box (Option.some.inj e).symm)).trans (KP.out k hk hz)⟩
  have HB7 := Aside0.mk (Below_boxed HB6.out (Nat.le_refl _) KNE.out.2 hgs)
  have KZ7 : Aside0 (W.heap.size ≤ w7.heap.size) := ⟨Nat.le_trans KZ6.out hgs.size⟩
  clear hwz hgs X6 N6 HR6 HB6 KP KZ6
  refine hK.out _ _ ?_
  clear hK K
  refine done_ (done_of HT_.out (by kernel_rfl)) ?_
  clear hHeld HT_ HW_
  clear hS
  have Q1 := Aside0.mk (Kd.R_step (w1 := w7) (Kd.R_bound KQ1.out) (fun k hk hlt => KP7.out k hlt (fun z hz e => by have := KEM.out z hz; have := hk.2.1; omega)))
  have Q2 := Aside0.mk (Kd.S_step (w1 := w7) (Kd.S_bound KQ2.out) (fun k hk hlt => KP7.out k hlt (fun z hz e => by have := KEM.out z hz; have := hk.2.1; omega)))
  obtain ⟨X, hX⟩ : ∃ X : Nat → Prop, X = fun k => M ≤ k ∧ k < W.heap.size := ⟨_, rfl⟩
  have KXX := Aside0.mk hX
  clear hX
  have CH : Aside0 (Chg wb w7 w7 X) := ⟨Chg.refl HB7.out⟩
  replace Q1 : Aside0 (Kd.R (Kd.int .i64) 2 w7 M X (.slice A1 rs.length c1) rs) := ⟨Kd.R_mono Q1.out (fun k hk => by rw [KXX.out]; exact ⟨hk.2.1, hk.2.2.1⟩)⟩
  replace Q2 : Aside0 (Kd.S kL 29 w7 M (fun k => ok2 k ∧ X k) (.slice A2 ars.length c2) ars) := ⟨Kd.S_mono Q2.out (fun k hk => ⟨hk.1, by rw [KXX.out]; exact ⟨hk.2.1, hk.2.2.1⟩⟩)⟩
  have KO1 : Aside0 (∀ k, (Value.slice A1 rs.length c1).ownBlock = some k → ¬ ok2 k) := ⟨fun k hk => KQ.out k (KQ1.out.1 k hk)⟩
  go_wp2
  go_loopw [11] (fun v11 wr => ∃ (j : Nat) (l : List Int), j ≤ rs.length ∧ l.length = rs.length ∧ v11 = .int .i64 (j : Int) ∧ Aside0 (Kd.R (Kd.int .i64) 2 wr M X (.slice A1 rs.length c1) l) ∧ Aside0 (Kd.S kL 29 wr M (fun k => ok2 k ∧ X k) (.slice A2 ars.length c2) ars) ∧ Aside0 (Chg wb w7 wr X)) (fun v11 _ => rs.length - (intOf v11).toNat)
  case atStart => exact ⟨0, rs, Nat.zero_le _, rfl, rfl, Q1, Q2, CH⟩
  case round =>
   rename World => wr
   clear Q1 Q2 CH
   obtain ⟨j, l, hj, hll, rfl, Q1, Q2, CH⟩ := hrel
   by_cases hjl : j < rs.length
   · have hlt : decide ((j : Int) < (rs.length : Int)) = true := decide_eq_true (by omega)
     have hwj : IntKind.i64.wrap ((j : Int) + 1) = ((j + 1 : Nat) : Int) := (i64_w _).trans ((Go.Proofs.Ytcalcbeonbfkmaa.M.wrap64_in _ (by have := K5.out.1; omega)).trans (by omega))
     obtain ⟨g1, d1', e1, hg1, hg2, hg3⟩ := Kd.R_form Q1.out (by omega)
     injection e1 with e1a e1b e1c
     subst e1a
     subst e1c
     obtain ⟨xc, xf⟩ := Kd.R_celln 0 Q1.out (j : Int) (by omega) (by omega)
     have HP := Kd.R_putg Q1.out (j : Int) 4444
     rw [Int.toNat_natCast] at xc xf HP
     obtain ⟨hp1, hp2⟩ := HP
     have KP1 := Aside0.mk hp1
     have KP2 := Aside0.mk hp2
     have KG1 : Aside0 (X g1 ∧ ¬ ok2 g1 ∧ M ≤ g1) := ⟨Q1.out.1 g1 rfl, KO1.out g1 rfl, hg1⟩
     clear hp1 hp2 e1b hg1 hg2 hg3
     generalize rdOf 0 l (j : Int) = xo at xc
     have p1 : ((0 : Int) ≤ (j : Int)) = True := eq_true (by omega)
     have q1 : ((j : Int) < (rs.length : Int)) = True := eq_true (by omega)
     have q2 : (j < rs.length) = True := eq_true hjl
     go_wp2
     go_roundw
     case measure => simp [intOf] <;> omega
     case rel => exact ⟨j + 1, l.set j 4444, by omega, by rw [List.length_set]; exact hll, by first | rfl | simp, KP1, ⟨Kd.S_grown Q2.out KP2.out (fun k hk e => KG1.out.2.1 (by rw [← Option.some.inj e]; exact hk.1))⟩, ⟨CH.out.step KP2.out KG1.out.1 (Nat.le_trans KM.out.2 KG1.out.2.2)⟩⟩
   · have hj2 : j = rs.length := by omega
     subst hj2
     have hlt : decide ((rs.length : Int) < (rs.length : Int)) = false := decide_eq_false (by omega)
     go_wp2
     go_loopw [12, 13] (fun v12 _ wr => ∃ (i : Nat) (l2 : List (List Int)), i ≤ ars.length ∧ l2.length = ars.length ∧ Aside0 (∀ q, (l2.getD q []).length ≤ 1000) ∧ v12 = .int .i64 (i : Int) ∧ Aside0 (Kd.S kL 29 wr M (fun k => ok2 k ∧ X k) (.slice A2 ars.length c2) l2) ∧ Aside0 (Chg wb w7 wr X)) (fun v12 _ _ => ars.length - (intOf v12).toNat)
     case atStart => exact ⟨0, ars, Nat.zero_le _, rfl, ⟨fun q => by have := K5.out.2.2.1 (q : Int); unfold rd_L9 at this; rwa [Int.toNat_natCast] at this⟩, rfl, Q2, CH⟩
     case round =>
      rename World => wk
      clear Q1 Q2 CH
      obtain ⟨i, l2, hi, hl2, hb2, rfl, Q2, CH⟩ := hrel
      by_cases hil : i < ars.length
      · have hlt2 : decide ((i : Int) < (ars.length : Int)) = true := decide_eq_true (by omega)
        have hwi : IntKind.i64.wrap ((i : Int) + 1) = ((i + 1 : Nat) : Int) := (i64_w _).trans ((Go.Proofs.Ytcalcbeonbfkmaa.M.wrap64_in _ (by have := K5.out.2.1; omega)).trans (by omega))
        have p2 : ((0 : Int) ≤ (i : Int)) = True := eq_true (by omega)
        have q2 : ((i : Int) < (ars.length : Int)) = True := eq_true (by omega)
        have q3 : (i < ars.length) = True := eq_true hil
        obtain ⟨ga, d2', e2, _⟩ := Kd.S_form Q2.out (by omega)
        injection e2 with e2a e2b e2c
        subst e2a
        subst e2c
        clear e2b
        obtain ⟨rl, hrl⟩ : ∃ r, (l2.getD i []).length = r := ⟨_, rfl⟩
        have KRL := Aside0.mk hrl
        have KLR : Aside0 (rl ≤ 1000) := ⟨by rw [← hrl]; exact hb2.out i⟩
        clear hrl
        go_wp2
        go_loopw [13] (fun v13 wr => ∃ (j : Nat) (l3 : List (List Int)), j ≤ rl ∧ l3.length = ars.length ∧ Aside0 (∀ q, (l3.getD q []).length ≤ 1000) ∧ (l3.getD i []).length = rl ∧ v13 = .int .i64 (j : Int) ∧ Aside0 (Kd.S kL 29 wr M (fun k => ok2 k ∧ X k) (.slice (some ⟨ga, 0, none⟩) ars.length c2) l3) ∧ Aside0 (Chg wb w7 wr X)) (fun v13 _ => rl - (intOf v13).toNat)
        case atStart => exact ⟨0, l2, Nat.zero_le _, hl2, hb2, KRL.out, rfl, Q2, CH⟩
        case round =>
         rename World => wj
         clear Q2 CH hb2
         obtain ⟨j, l3, hj, hl3, hb3, hrl3, rfl, Q2, CH⟩ := hrel
         obtain ⟨Ar, cr, xh, hel⟩ := S_row Q2.out i hil
         rw [hrl3] at xh hel
         by_cases hjl : j < rl
         · have hlt3 : decide ((j : Int) < (rl : Int)) = true := decide_eq_true (by omega)
           have hwj : IntKind.i64.wrap ((j : Int) + 1) = ((j + 1 : Nat) : Int) := (i64_w _).trans ((Go.Proofs.Ytcalcbeonbfkmaa.M.wrap64_in _ (by have := KLR.out; omega)).trans (by omega))
           have p4 : ((0 : Int) ≤ (j : Int)) = True := eq_true (by omega)
           have q4 : ((j : Int) < (rl : Int)) = True := eq_true (by omega)
           have q5 : (j < rl) = True := eq_true hjl
           obtain ⟨gi, eA, hok, hgi, xf, ⟨vo, xc⟩, hput⟩ := hel j hjl
           subst eA
           obtain ⟨hs4, hg4⟩ := hput 4444
           have KS4 := Aside0.mk hs4
           have KG4 := Aside0.mk hg4
           have KOK := Aside0.mk hok
           clear hs4 hg4 hput hok
           go_wp2
           go_roundw
           case measure => simp [intOf] <;> omega
           case rel => exact ⟨j + 1, _, by omega, by rw [List.length_set]; exact hl3, ⟨fun q => by rw [getD_set_len (by rw [List.length_set])]; exact hb3.out q⟩, by rw [getD_set_len (by rw [List.length_set])]; exact hrl3, by first | rfl | simp, KS4, ⟨CH.out.step KG4.out KOK.out.2 (Nat.le_trans KM.out.2 hgi)⟩⟩
         · have hj2 : j = rl := by omega
           subst hj2
           have hlt3 : decide ((j : Int) < (j : Int)) = false := decide_eq_false (by omega)
           clear hel
           go_wp2
           go_roundw
           case measure => simp [intOf] <;> omega
           case rel => exact ⟨i + 1, l3, by omega, hl3, hb3, by first | rfl | simp, Q2, CH⟩
      · have hi2 : i = ars.length := by omega
        subst hi2
        have hlt2 : decide ((ars.length : Int) < (ars.length : Int)) = false := decide_eq_false (by omega)
        have hXn : ∀ k, k < M → ¬ X k := fun k hk hx => by rw [KXX.out] at hx; have := hx.1; omega
        have X9 : wk.heap[gv]? = some (.cells #[.slice A' (ln + 1) c'] 40 (0, 0)) := (CH.out.far gv (blk_lt X7.out) (hXn gv (KEM.out _ s.box))).trans X7.out
        have N9 : wk.heap[gn]? = some (.cells #[.int .i64 n] 3 (0, 0)) := (CH.out.far gn (blk_lt N7.out) (hXn gn KM.out.1)).trans N7.out
        have KX9 := Aside0.mk X9
        have c9 := (blk_cell X9 0).trans (show _ = some (Value.slice A' (ln + 1) c') from rfl)
        have n9 := (blk_cell N9 0).trans (show _ = some (Value.int .i64 n) from rfl)
        clear X9 N9
        go_wp2
        go_ret
        obtain ⟨s', es, hz⟩ := lk_new (B := wb.heap.size) (ok := fun k => s.ok k ∨ W.heap.size ≤ k) (l := s.looks ++ [(at_, rs, ars, t)]) (A := A') (c := c') (by rw [List.length_append, List.length_singleton, KLn.out]; exact X7.out) (by rw [List.length_append, List.length_singleton, KLn.out]; exact HR7.out) (fun k hk => hk.elim (fun h => (s.okE k h).1) (fun h => by have := blk_lt KX.out; omega))
        rw [KLn.out]
        have hz7 : ∀ z ∈ s'.ents, w7.heap[z.1]? = some (.cells z.2.1 z.2.2 (0, 0)) ∧ ((∃ z0 ∈ s.ents, z0.1 = z.1) ∨ W.heap.size ≤ z.1) := fun z hz1 => ⟨(hz z hz1).1, (hz z hz1).2.elim (fun e => Or.inl ⟨_, s.box, e.symm⟩) (fun h => h.1.elim (fun h => Or.inl (s.okE _ h).2) Or.inr)⟩
        have hMW : M ≤ W.heap.size := KMW.out
        refine ⟨s', rfl, es, CH.out.below, Nat.le_trans hMW (Nat.le_trans KZ7.out CH.out.size), fun k _ h2 h3 => (CH.out.far k (Nat.lt_of_lt_of_le (Nat.lt_of_lt_of_le h2 hMW) KZ7.out) (hXn k h2)).trans (KP7.out k (Nat.lt_of_lt_of_le h2 hMW) h3), fun z hz1 => ?_⟩
        obtain ⟨ha, hb⟩ := hz7 z hz1
        refine ⟨(CH.out.far z.1 (blk_lt ha) (fun hx => ?_)).trans ha, hb.imp_right (fun h => Nat.le_trans hMW h)⟩
        rw [KXX.out] at hx
        rcases hb with ⟨z0, hz0, e0⟩ | hb
        · have := KEM.out z0 hz0; have := hx.1; omega
        · have := hx.2; omega
end Go.Proofs.Ytcalcbeonbfkmaa.P
/- What the law's proof needs of G22. -/
namespace Go.Proofs.Ytcalcbeonbfkmaa.P
open Go.RowKit Go.Proofs.YtcalcbeonbfkmaaW.PrintWords Go.Proofs.YtcalcbeonbfkmaaW.PrintLast Go.Proofs.YtcalcbeonbfkmaaW.PrintMore Go.Proofs.YtcalcbeonbfkmaaO
set_option linter.unusedVariables false
set_option linter.unusedSimpArgs false
/-- A look more; on while there are no more of them than n. -/
def LRel {B gv : Nat} (n : Int) (s : Lk B gv) (at_ : Int) (rs : List Int) (ars : List (List Int)) (t : Int) (b : Bool) (s' : Lk B gv) : Prop := s'.looks = s.looks ++ [(at_, rs, ars, t)] ∧ b = decide (((s.looks.length + 1 : Nat) : Int) ≤ n)
def LInv {B gv : Nat} (n : Int) (s : Lk B gv) : Prop := (s.looks.length : Int) ≤ n ∧ ∀ z ∈ s.ents, B ≤ z.1
theorem look1_looker {B gv gn : Nat} {W0 : World} {n : Int} (hB : W0.heap.size = B) (hn : W0.heap[gn]? = some (.cells #[.int .i64 n] 3 (0, 0))) (hgv : B ≤ gv) (hn1 : n ≤ 3000) :
    LookerR (fun _ : Lk B gv => W0) (fun s => s.ents) B (LRel n) (LInv n) 13 #[.pointer (some ⟨gv, 0, none⟩), .pointer (some ⟨gn, 0, none⟩)] := by
  have hg : gn < B := by rw [← hB]; exact blk_lt hn
  refine ⟨fun _ => hB, ⟨_, Try.func13, by kernel_rfl, rfl⟩, fun s W at_ t rs ars A1 c1 A2 c2 hI h1 h2 h3 hW hL hr ha => ?_⟩
  refine (look1_calls (gv := gv) (gn := gn) s W0 W n at_ t rs ars hW hB hL ((hW.block gn hg).trans hn) (by omega) (fun z hz e => by have := hI.2 z hz; omega) hgv hr ha h1 h2 h3 (by have := hI.1; omega)).mono ?_
  rintro e W' ⟨s', rfl, hl, hb, hsz, hk, hE⟩
  refine ⟨_, s', rfl, ⟨hl, rfl⟩, fun hb2 => ⟨?_, fun z hz => ?_⟩, hb, hsz, hk, fun z hz => ⟨(hE z hz).1, Or.inr (hE z hz).2⟩⟩
  · have := of_decide_eq_true hb2
    rw [hl, List.length_append, List.length_singleton]
    exact this
  · rcases (hE z hz).2 with ⟨z0, hz0, e⟩ | h
    · rw [← e]; exact hI.2 z0 hz0
    · have := hW.size
      rw [hB] at this
      omega
theorem look2_looker {B gv gn : Nat} {W0 : World} {n : Int} (hB : W0.heap.size = B) (hn : W0.heap[gn]? = some (.cells #[.int .i64 n] 3 (0, 0))) (hgv : B ≤ gv) (hn1 : n ≤ 3000) :
    Looker (fun _ : Lk B gv => W0) (fun s => s.ents) B (LRel n) (LInv n) 16 #[.pointer (some ⟨gv, 0, none⟩), .pointer (some ⟨gn, 0, none⟩)] := by
  have hg : gn < B := by rw [← hB]; exact blk_lt hn
  refine ⟨fun _ => hB, ⟨_, Try.func16, by kernel_rfl, rfl⟩, fun s W M at_ t rs ars vr va ok1 ok2 hI h1 h2 h3 hW hL hBM hMW hr ha h12 => ?_⟩
  obtain ⟨A1, c1, rfl⟩ := Kd.R_slice hr
  obtain ⟨A2, c2, rfl⟩ := Kd.S_slice ha
  refine (look2_calls (gv := gv) (gn := gn) s W0 W M n at_ t rs ars hW hB (fun z hz => (hL z hz).1) (fun z hz => (hL z hz).2) ((hW.block gn hg).trans hn) (by omega) (fun z hz e => by have := hI.2 z hz; omega) hgv (by omega) hBM hMW hr ha h12 h1 h2 h3 (by have := hI.1; omega)).mono ?_
  rintro e W' ⟨s', rfl, hl, hb, hsz, hk, hE⟩
  refine ⟨_, s', rfl, ⟨hl, rfl⟩, fun hb2 => ⟨?_, fun z hz => ?_⟩, hb, hsz, hk, fun z hz => ⟨(hE z hz).1, Or.inr (hE z hz).2⟩⟩
  · have := of_decide_eq_true hb2
    rw [hl, List.length_append, List.length_singleton]
    exact this
  · rcases (hE z hz).2 with ⟨z0, hz0, e⟩ | h
    · rw [← e]; exact hI.2 z0 hz0
    · omega
/-- The looks of the first k states. -/
def looksOf (f : Nat → St) (k : Nat) : List LookT := (List.range k).map (fun i => ((f i).at_, (f i).regs, (f i).arrs, (f i).ticks))
theorem looksOf_len (f : Nat → St) (k : Nat) : (looksOf f k).length = k := by simp [looksOf]
theorem looksOf_succ (f : Nat → St) (k : Nat) : looksOf f (k + 1) = looksOf f k ++ [((f k).at_, (f k).regs, (f k).arrs, (f k).ticks)] := by
  unfold looksOf
  rw [List.range_succ, List.map_append]
  rfl
theorem seen_looks {B gv : Nat} {m : Nat} {f : Nat → St} {s0 : Lk B gv} (h0 : s0.looks = []) {k : Nat} {b : Bool} {s : Lk B gv} (h : Seen (LRel (m : Int)) f s0 k b s) : s.looks = looksOf f (min k (m + 1)) ∧ (b = true ↔ k ≤ m) := by
  induction h with
  | start => exact ⟨h0.trans rfl, by simp⟩
  | see h1 h2 ih =>
    rename_i k s s' b
    obtain ⟨e, ht⟩ := ih
    have hk := ht.1 rfl
    obtain ⟨e2, e3⟩ := h2
    rw [show min k (m + 1) = k by omega] at e
    have hlen : s.looks.length = k := by rw [e, looksOf_len]
    refine ⟨?_, ?_⟩
    · rw [e2, e, show min (k + 1) (m + 1) = k + 1 by omega, looksOf_succ]
    · rw [e3, hlen, decide_eq_true_iff]
      omega
  | past h1 ih =>
    rename_i k s
    obtain ⟨e, ht⟩ := ih
    have hk : ¬ k ≤ m := fun hk => Bool.noConfusion (ht.2 hk)
    refine ⟨?_, ?_⟩
    · rw [e, show min k (m + 1) = min (k + 1) (m + 1) by omega]
    · constructor
      · intro h; exact Bool.noConfusion h
      · intro h; omega
theorem looksOf_sim {f g : Nat → St} {k : Nat} (h : ∀ i, i < k → Sim (f i) (g i) ∧ (f i).en = 0) : looksOf f k = looksOf g k := by
  unfold looksOf
  refine List.map_congr_left fun i hi => ?_
  obtain ⟨h1, h2⟩ := h i (List.mem_range.1 hi)
  have e := h1.eq
  have ea := h1.at_ h2
  generalize (g i).fuel = x at e
  generalize hT : g i = T at e ea ⊢
  rw [ea] at e
  subst e
  rfl
end Go.Proofs.Ytcalcbeonbfkmaa.P
