/- What the law's proof needs of G14. -/
import Derived.Test.YtcalcbeonbfkmaaTrMG13
namespace Go.Proofs.Ytcalcbeonbfkmaa.P
open Go.RowKit Go.Proofs.YtcalcbeonbfkmaaW.PrintWords Go.Proofs.YtcalcbeonbfkmaaW.PrintLast Go.Proofs.YtcalcbeonbfkmaaW.PrintMore Go.Proofs.YtcalcbeonbfkmaaO
attribute [local go_sem] max2_int min2_int max_two min_two max_three min_three max_four min_four
set_option linter.unusedVariables false
set_option linter.unusedSimpArgs false
section
variable {P : Program} {ops : Array Oper} {oi : Oper} {a : Act} {Q : Exit → Act → World → Prop}
theorem goesQD {w : World} {K : Act → World → Prop} {N : Option Tmp} {f : FuncId} {fn : Func} {t : Tmp} {xs : Array Operand} {ts : Array TypeId} {caps : Array Value} (hf : P.funcs[f]? = some fn) (args : Array Value)
    (h : Calls P f args w fun e w' => ∃ v, e = .returned v ∧ K (a.put N v) w') (hname : (fn.name == "runtime.NumGoroutine") = false) (hb : fn.body.isSome = true)
    (hv : a.eval (.tmp t) = .func (.func f) #[] caps) (hargs : xs.map a.eval ++ caps = args) (hop : oi.op = .call { callee := .value (.tmp t), args := xs, argTypes := ts })
    (hw : Region.wanted oi (yielded ops a.tmps) = true := by rfl) (hN : oi.dst = N := by rfl) : if Region.wanted oi (yielded ops a.tmps) = true then Oper.wp P oi a w K Q else K (a.put N undef) w := by
  rw [if_pos hw]
  have he := enters_ hf hname hb args w
  have hrun : (execOp a.eval oi).run P w = .ok (.enter f args) w := by
    unfold execOp
    simp [hop, resolve, Deferred.ofValue, invoke, hv, hargs, he]
  unfold Oper.wp
  rw [hrun, Oper.upon_enter]
  refine h.mono fun e w'' hh => ?_
  obtain ⟨v, rfl, hk⟩ := hh
  subst hN
  exact hk
end
theorem MB.sub {w W : World} {E E' : List (Nat × Array Value × Nat)} {gb tb : Nat} {cb : Array Value} {vr va vm : Value} {rs : List Int} {ars mks : List (List Int)} (h : MB w W E gb tb cb vr va vm rs ars mks) (hs : ∀ z ∈ E', z ∈ E) : MB w W E' gb tb cb vr va vm rs ars mks :=
  ⟨h.mem.sub hs, h.bx, h.gw, h.t2, h.t29, fun z hz => h.fx z (hs z hz)⟩
/-- What lay there ahead of the machine is set aside. -/
theorem MB.lowerE {w W1 W : World} {E L : List (Nat × Array Value × Nat)} {gb tb : Nat} {cb : Array Value} {vr va vm : Value} {rs : List Int} {ars mks : List (List Int)} (h : MB W1 W E gb tb cb vr va vm rs ars mks) (hb : Below w.heap.size w W1) (hL : ∀ z ∈ L, W1.heap[z.1]? = some (.cells z.2.1 z.2.2 (0, 0))) : MB w W (L ++ E) gb tb cb vr va vm rs ars mks := by
  obtain ⟨⟨⟨okR, okA, h1, h2, h3, h4, h5, h7⟩, h6⟩, hx, hw, t2, t29, fx⟩ := h
  have hs := hb.size
  have hl : ∀ z ∈ L, z.1 < W1.heap.size := fun z hz => blk_lt (hL z hz)
  refine ⟨⟨⟨fun k => okR k ∨ ∃ z ∈ L, z.1 = k, fun k => okA k ∧ W1.heap.size ≤ k, Kd.R_mono (Kd.R_lower h1 hs) (fun _ => Or.inl), Kd.S_mono (Kd.S_lower (Kd.S_bound h2) hs) (fun _ hk => ⟨hk.1, hk.2.1⟩), Kd.R_mono (Kd.R_lower (Kd.R_bound h3) hs) (fun k hk => ⟨fun hh => hh.elim hk.1.1 (fun ⟨z, hz, e⟩ => by have := hl z hz; have := hk.2.1; omega), fun hh => hk.1.2 hh.1⟩), fun k hr ha => hr.elim (fun hr => h4 k hr ha.1) (fun ⟨z, hz, e⟩ => by have := hl z hz; have := ha.2; omega), fun k hk => ?_, fun z hz => ?_⟩, below_step hb h6⟩, hx, Nat.le_trans hs hw, t2, t29, fun z hz => ?_⟩
  · rcases hk with (hk | ⟨z, hz, rfl⟩) | hk
    · exact h5 k (.inl hk)
    · exact Nat.lt_of_lt_of_le (hl z hz) h6.size
    · exact h5 k (.inr hk.1)
  · rcases List.mem_append.1 hz with hz | hz
    · exact ⟨Or.inr ⟨z, hz, rfl⟩, fun e => by have := Kd.R_base h1 z.1 e; have := hl z hz; omega⟩
    · exact ⟨Or.inl (h7 z hz).1, (h7 z hz).2⟩
  · rcases List.mem_append.1 hz with hz | hz
    · exact ⟨(h6.block z.1 (hl z hz)).trans (hL z hz), trivial, trivial, by have := hl z hz; omega⟩
    · exact fx z hz
/-- What was set aside is written by another. -/
theorem MB.swapE {w w' W0 W' : World} {E L L' : List (Nat × Array Value × Nat)} {gb tb : Nat} {cb : Array Value} {vr va vm : Value} {rs : List Int} {ars mks : List (List Int)} (h : MB w W0 (L ++ E) gb tb cb vr va vm rs ars mks) (hs : w'.heap.size = w.heap.size) (hb : Below w'.heap.size w' W') (hsz : W0.heap.size ≤ W'.heap.size)
    (hk : ∀ k, w.heap.size ≤ k → k < W0.heap.size → (∀ z ∈ L, z.1 ≠ k) → W'.heap[k]? = W0.heap[k]?)
    (hL : ∀ z ∈ L', W'.heap[z.1]? = some (.cells z.2.1 z.2.2 (0, 0)) ∧ (z.1 < w.heap.size ∨ (∃ z0 ∈ L, z0.1 = z.1) ∨ W0.heap.size ≤ z.1)) (hE : ∀ z ∈ E, w.heap.size ≤ z.1 ∧ ∀ z0 ∈ L, z0.1 ≠ z.1) : MB w' W' (L' ++ E) gb tb cb vr va vm rs ars mks := by
  obtain ⟨⟨⟨okR, okA, h1, h2, h3, h4, h5, h7⟩, h6⟩, hx, hw, t2, t29, fx⟩ := h
  have okL : ∀ z ∈ L, okR z.1 := fun z hz => (h7 z (List.mem_append_left _ hz)).1
  have noA : ∀ k, okA k → ∀ z ∈ L, z.1 ≠ k := fun k ha z hz e => h4 k (by rw [← e]; exact okL z hz) ha
  have far : ∀ z ∈ L', ∀ k, w.heap.size ≤ k → k < W0.heap.size → (∀ z0 ∈ L, z0.1 ≠ k) → z.1 ≠ k := fun z hz k hk1 hk2 hk3 e => by
    rcases (hL z hz).2 with hh | ⟨z0, hz0, e0⟩ | hh
    · omega
    · exact hk3 z0 hz0 (e0.trans e)
    · omega
  have r1 : Kd.R (Kd.int .i64) 2 W' w'.heap.size (fun k => some k = vr.ownBlock) vr rs := by
    rw [hs]
    exact Kd.R_step (Kd.R_tight rfl h1) (fun k hk1 hlt => hk k (Kd.R_base h1 k hk1.symm) hlt (fun z hz e => (h7 z (List.mem_append_left _ hz)).2 (by rw [e]; exact hk1.symm)))
  have own1 : ∀ k, some k = vr.ownBlock → okR k := fun k e => h1.1 k e.symm
  have r2 : Kd.S kL 29 W' w'.heap.size (fun k => okA k ∧ w.heap.size ≤ k ∧ k < W0.heap.size) va ars := by
    rw [hs]
    exact Kd.S_mono (Kd.S_step (Kd.S_bound h2) (fun k hk1 hlt => hk k hk1.2.1 hlt (noA k hk1.1))) (fun k hk1 => ⟨hk1.1, hk1.2.1, hk1.2.2.1⟩)
  have r3 : Kd.R kL 29 W' w'.heap.size (fun k => (¬ okR k ∧ ¬ okA k) ∧ w.heap.size ≤ k ∧ k < W0.heap.size) vm mks := by
    rw [hs]
    exact Kd.R_mono (Kd.R_step (Kd.R_bound h3) (fun k hk1 hlt => hk k hk1.2.1 hlt (fun z hz e => hk1.1.1 (by rw [← e]; exact okL z hz)))) (fun k hk1 => ⟨hk1.1, hk1.2.1, hk1.2.2.1⟩)
  have hgb : ∀ z ∈ L, z.1 ≠ gb := fun z hz => (fx z (List.mem_append_left _ hz)).2.2.2
  refine ⟨⟨⟨fun k => okR k ∨ ∃ z ∈ L', z.1 = k, fun k => okA k ∧ w.heap.size ≤ k ∧ k < W0.heap.size, Kd.R_mono r1 (fun k hk1 => Or.inl (own1 k hk1)), r2, Kd.R_mono r3 (fun k hk1 => ⟨fun hh => hh.elim hk1.1.1 (fun ⟨z, hz, e⟩ => far z hz k hk1.2.1 hk1.2.2 (fun z0 hz0 e0 => hk1.1.1 (by rw [← e0]; exact okL z0 hz0)) e), fun hh => hk1.1.2 hh.1⟩), fun k hr ha => hr.elim (fun hr => h4 k hr ha.1) (fun ⟨z, hz, e⟩ => far z hz k ha.2.1 ha.2.2 (noA k ha.1) e), fun k hk1 => ?_, fun z hz => ?_⟩, hb⟩, (hk gb hw (blk_lt hx) hgb).trans hx, by rw [hs]; exact hw, t2, t29, fun z hz => ?_⟩
  · rcases hk1 with (hk1 | ⟨z, hz, rfl⟩) | hk1
    · exact Nat.lt_of_lt_of_le (h5 k (.inl hk1)) hsz
    · exact blk_lt (hL z hz).1
    · exact Nat.lt_of_lt_of_le hk1.2.2 hsz
  · rcases List.mem_append.1 hz with hz | hz
    · refine ⟨Or.inr ⟨z, hz, rfl⟩, fun e => far z hz z.1 (Kd.R_base h1 z.1 e) (Kd.R_lt h1 z.1 e) (fun z0 hz0 e0 => (h7 z0 (List.mem_append_left _ hz0)).2 (by rw [e0]; exact e)) rfl⟩
    · exact ⟨Or.inl (h7 z (List.mem_append_right _ hz)).1, (h7 z (List.mem_append_right _ hz)).2⟩
  · rcases List.mem_append.1 hz with hz | hz
    · exact ⟨(hL z hz).1, trivial, trivial, far z hz gb hw (blk_lt hx) hgb⟩
    · have hf := fx z (List.mem_append_right _ hz)
      exact ⟨(hk z.1 (hE z hz).1 (blk_lt hf.1) (hE z hz).2).trans hf.1, hf.2⟩
/-- What a looker has seen, of a run's first k instructions; the Bool: it looks on. -/
inductive Seen {σ : Type} (Rel : σ → Int → List Int → List (List Int) → Int → Bool → σ → Prop) (f : Nat → St) (s0 : σ) : Nat → Bool → σ → Prop
  | start : Seen Rel f s0 0 true s0
  | see {k : Nat} {s s' : σ} {b : Bool} : Seen Rel f s0 k true s → Rel s (f k).at_ (f k).regs (f k).arrs (f k).ticks b s' → Seen Rel f s0 (k + 1) b s'
  | past {k : Nat} {s : σ} : Seen Rel f s0 k false s → Seen Rel f s0 (k + 1) false s
/-- A looker: what it keeps (σ), where that lies (L; wb: the world below), and what it does. -/
structure Looker {σ : Type} (wb : σ → World) (L : σ → List (Nat × Array Value × Nat)) (B : Nat) (Rel : σ → Int → List Int → List (List Int) → Int → Bool → σ → Prop) (fs : Nat) (caps : Array Value) : Prop where
  size : ∀ s, (wb s).heap.size = B
  fn : ∃ fn, Try.prog.funcs[fs]? = some fn ∧ (fn.name == "runtime.NumGoroutine") = false ∧ fn.body.isSome = true
  does : ∀ (s : σ) (W : World) (M : Nat) (at_ t : Int) (rs : List Int) (ars : List (List Int)) (vr va : Value) (ok1 ok2 : Nat → Prop), Below B (wb s) W → (∀ z ∈ L s, W.heap[z.1]? = some (.cells z.2.1 z.2.2 (0, 0)) ∧ z.1 < M) → B ≤ M → M ≤ W.heap.size → Kd.R (Kd.int .i64) 2 W M ok1 vr rs → Kd.S kL 29 W M ok2 va ars → (∀ k, ok1 k → ¬ ok2 k) →
    Calls Try.prog fs (#[.int .i64 at_, vr, va, .int .i64 t] ++ caps) W fun e W' => ∃ (b : Bool) (s' : σ), e = .returned (.bool b) ∧ Rel s at_ rs ars t b s' ∧ Below B (wb s') W' ∧ M ≤ W'.heap.size ∧ (∀ k, B ≤ k → k < M → (∀ z ∈ L s, z.1 ≠ k) → W'.heap[k]? = W.heap[k]?) ∧ ∀ z ∈ L s', W'.heap[z.1]? = some (.cells z.2.1 z.2.2 (0, 0)) ∧ (z.1 < B ∨ (∃ z0 ∈ L s, z0.1 = z.1) ∨ M ≤ z.1)
def SeeP {σ : Type} (wb : σ → World) (L : σ → List (Nat × Array Value × Nat)) (B : Nat) (Rel : σ → Int → List Int → List (List Int) → Int → Bool → σ → Prop) (see : Value) (EI : List (Nat × Array Value × Nat)) (G : Gr) (vs : Value) (gb gr cr : Nat) (va : Value) (sc : List Int) (S0 : St) (s0 : σ) (N : Nat) (v3 : Value) (d : Nat) (wr : World) : Prop :=
  d ≤ N ∧ ∃ (flag : Bool) (s : σ) (vm : Value), Seen Rel (stepN G sc S0) s0 (N - d) flag s ∧ v3 = (if flag = true then see else .nilFunc) ∧ MC (wb s) wr (L s ++ EI) G vs gb (.slice (some ⟨gr, 0, none⟩) G.regs.toNat cr) va vm (stepN G sc S0 (N - d)) ∧ ∀ z ∈ EI, B ≤ z.1 ∧ ∀ z0 ∈ L s, z0.1 ≠ z.1
theorem take_rd {l : List (List Int)} {j : Nat} {row : List Int} (hj : j < l.length) (er : rd_L9 l (j : Int) = row) : l.take j ++ [row] = l.take (j + 1) := by
  have e : rd_L9 l (j : Int) = l[j] := by
    show l.getD j [] = l[j]
    rw [List.getD_eq_getElem?_getD, List.getElem?_eq_getElem hj]
    rfl
  rw [List.take_succ_eq_append_getElem hj, ← er, e]
def N15bT : Bool × List (List Nat × List Nat) := (true, [([], []), ([], []), ([1], [1]), ([2], [2]), ([3], [3]), ([], []), ([], []), ([6], [6]), ([7], [7]), ([8], [8]), ([5, 9], [5, 9]), ([], []), ([], []), ([12], [12]), ([13], [13]), ([14], [14]), ([15], [15]), ([0, 4, 10, 11, 16, 10], [0, 4, 10, 11, 16]), ([17], [17])])
def N15bB : List Nat := [0, 0, 2, 6, 14, 0, 0, 64, 192, 448, 992, 0, 0, 4096, 12288, 28672, 61440, 131071, 262143]
theorem N15btab : rtab .any (opsOf Try.f15 11) = N15bT := by kernel_rfl
theorem N15bbits : waitsOk N15bT.2 N15bB = true := by kernel_rfl
set_option maxHeartbeats 8000000 in
set_option maxRecDepth 100000 in
theorem walk_see {σ : Type} {wb : σ → World} {L : σ → List (Nat × Array Value × Nat)} {B : Nat} {Rel : σ → Int → List Int → List (List Int) → Int → Bool → σ → Prop} {fs : Nat} {caps : Array Value} (hK : Looker wb L B Rel fs caps) (s0 : σ) (E0 : List (Nat × Array Value × Nat)) (G : Gr) (w : World) (hW : Below B (wb s0) w) (hL0 : ∀ z ∈ L s0, w.heap[z.1]? = some (.cells z.2.1 z.2.2 (0, 0))) (hE0 : ∀ z ∈ E0, w.heap[z.1]? = some (.cells z.2.1 z.2.2 (0, 0)) ∧ B ≤ z.1 ∧ ∀ z0 ∈ L s0, z0.1 ≠ z.1) (hG : ∀ s, G.Held (wb s)) (As : Option Addr) (sc : List Int) (cs : Nat) (f : Int) (hsc : ∀ s, Kd.C (Kd.int .i64) (wb s) As sc.length sc) (hl : sc.length ≤ 9223372036854775807) (hF : FitOK G) {N : Nat} (hR : Runs G sc (beginS G (mx f 0) G.l5.length G.l6.length) N) :
    Calls Try.prog 15 #[G.v, .slice As sc.length cs, .int .i64 f, .func (.func fs) #[] caps] w fun e w' => RetO e w' G (stepN G sc (beginS G (mx f 0) G.l5.length G.l6.length) N) ∧ ∃ flag s, Seen Rel (stepN G sc (beginS G (mx f 0) G.l5.length G.l6.length)) s0 N flag s ∧ Below B (wb s) w' ∧ w.heap.size ≤ w'.heap.size ∧ (∀ z ∈ L s, w'.heap[z.1]? = some (.cells z.2.1 z.2.2 (0, 0))) ∧ ∀ z ∈ E0, w'.heap[z.1]? = some (.cells z.2.1 z.2.2 (0, 0)) := by
  have hu28 := Try.underlying28
  have hu74 := Try.underlying74
  have hu36 := Try.underlying36
  have hu52 := Try.underlying52
  have hu71 := Try.underlying71
  have hu50 := Try.underlying50
  have hfn : ∀ W : World, (binOp .neq 45 .nilFunc .nilFunc).run Try.prog W = .ok (.bool false) W := fun _ => by kernel_rfl
  have hfs : ∀ W : World, (binOp .neq 45 (.func (.func fs) #[] caps) .nilFunc).run Try.prog W = .ok (.bool true) W := fun _ => by rfl
  have HB := Aside0.mk (Below.refl w.heap.size w)
  obtain ⟨S0, hS0⟩ : ∃ S, beginS G (mx f 0) G.l5.length G.l6.length = S := ⟨_, rfl⟩
  rw [hS0] at hR ⊢
  have KS0 := Aside0.mk hS0
  have KR := Aside0.mk hR
  have KF := Aside0.mk hF
  have KG := Aside0.mk hG
  have KC := Aside0.mk hsc
  have KK := Aside0.mk hK
  have KW := Aside0.mk hW
  have KL0 := Aside0.mk hL0
  have KE0 := Aside0.mk hE0
  clear hR hF hG hsc hS0 hK hW hL0 hE0
  have KD : Aside0 (0 ≤ G.regs ∧ (G.l5.length : Int) ≤ G.regs ∧ G.regs ≤ 10000) := ⟨by obtain ⟨ds, hD, _⟩ := KF.out.rest; have := hD.regs; have := hD.le; have := KF.out.n2; have := KF.out.parts.n5; omega⟩
  have hB0 : Below (wb s0).heap.size (wb s0) w := by rw [KK.out.size s0]; exact KW.out
  have KB0 := Aside0.mk hB0
  clear hB0
  go_enter Try.func15, Try.ntmps15
  go_wp2_with (first | ((with_reducible refine gate_dst (N := 4) rfl ?_); refine boxQ 4 (gC G) 28 HB ?_; clear HB; intro g4 w1 _ GW4 B4 _ HB; have hcf := hcf8 B4; obtain ⟨_, _, _, _, _, _, _, _, _, _, _, _, _, _, _, _⟩ := hcf) | ((with_reducible refine gate_dst (N := 8) rfl ?_); refine boxQ 8 #[.int .i64 0, .int .i64 0, .int .i64 0, .int .i64 0, .int .i64 0, .slice none 0 0, .slice none 0 0, .slice none 0 0] 36 HB ?_; intro g8 w2 eg GW8 B8 hb HX; have N48 := bn1 B4 eg.out; replace B4 := bbw B4 hb.out; clear HB hb eg; have HB := HX; clear HX; have hcf := hcf8 B4; obtain ⟨_, _, _, _, _, _, _, _, _, _, _, _, _, _, _, _⟩ := hcf) | ((with_reducible refine gate_callee (f := 32) rfl ?_); refine goesL_ _ rfl rfl Try.func32 (by kernel_rfl) rfl #[G.v, .slice As sc.length cs, .int .i64 f] rfl (by (try simp only [List.map_toArray, List.map_cons, List.map_nil]); first | done | rfl) ?_; refine (begin_calls G _ ((KG.out s0).below (below_step KB0.out HB.out)) As sc.length cs f KD.out.1 KD.out.2.1 KD.out.2.2 KF.out.parts).mono ?_; rintro e w3 ⟨gb, va, rfl, gr, cr, hm⟩; rw [KS0.out] at hm; have n4 := Nat.ne_of_gt (Nat.lt_of_lt_of_le (blk_lt B4.out) hm.gw); have n8 := Nat.ne_of_gt (Nat.lt_of_lt_of_le (blk_lt B8.out) hm.gw); have hm2 := hm.lowerE (w := w) (L := L s0 ++ E0) (bpk HB).out (fun z hz => (List.mem_append.1 hz).elim (fun hz => ((bpk HB).out.block z.1 (blk_lt (KL0.out z hz))).trans (KL0.out z hz)) (fun hz => ((bpk HB).out.block z.1 (blk_lt (KE0.out z hz).1)).trans (KE0.out z hz).1)); have hm3 := hm2.lower KB0.out; have HM := Aside0.mk ((hm3.cons (bbw B8 hm.mem.hb).out (by decide) (by decide) n8).cons (bbw B4 hm.mem.hb).out (by decide) (by decide) n4); clear n4 n8 hm hm2 hm3 B4 B8; refine ⟨_, rfl, ?_⟩))
  refine (ops_calls _).mono ?_
  rintro e w5 ⟨rfl, hb, hst⟩
  obtain ⟨b, hb0⟩ : ∃ b, w3.heap.size = b := ⟨_, rfl⟩
  rw [hb0] at hst ⊢
  have hgb : gb < b := by rw [← hb0]; exact blk_lt HM.out.bx
  have hwb : w.heap.size ≤ b := by rw [← hb0]; exact Nat.le_trans (Nat.le_of_lt (Nat.lt_of_le_of_lt GW8.out (blk_lt (HM.out.fx _ (List.mem_cons_of_mem _ List.mem_cons_self)).1))) (Nat.le_refl _)
  have HN := Aside0.mk ((HM.out.below hb).consL (L := stOps b) (fun z hz => ⟨hst z hz, (stOps_ge hz).2.1, (stOps_ge hz).2.2, by have := (stOps_ge hz).1; omega⟩))
  clear HM hst hb hb0 hgb
  have HM := HN
  clear HN
  go_wp2_with (first | ((with_reducible refine gate_dst (N := 10) rfl ?_); refine boxM 10 #[.nilFunc, .nilFunc, .nilFunc, .nilFunc, .nilFunc, .nilFunc, .nilFunc, .nilFunc, .nilFunc, .nilFunc, .nilFunc, .nilFunc, .nilFunc, .nilFunc, .nilFunc, .nilFunc, .nilFunc, .nilFunc, .nilFunc, .nilFunc, .nilFunc, .nilFunc] 71 HM ?_; intro g10 w6 eg NG10 B10 hb HX; have NE := Aside0.mk ((mup HM).out.newE eg.out); have GE : Aside0 ((wb s0).heap.size ≤ g10) := ⟨by rw [eg.out]; exact ((mup HM).out.mem.hb).size⟩; have GW10 : Aside0 (w.heap.size ≤ g10) := ⟨by rw [eg.out]; exact Nat.le_trans GW8.out (Nat.le_of_lt (blk_lt ((mup HM).out.fx _ (List.mem_append_right _ (List.mem_cons_of_mem _ List.mem_cons_self))).1))⟩; clear HM hb eg; have HM := HX; clear HX) | ((with_reducible refine gate_store (p := 10) (t := 71) rfl ?_); refine store_box rfl rfl rfl g10 71 _ (mkOps b) (pkA B10).out rfl rfl (by kernel_rfl) rfl (by kernel_rfl) ?_; intro w7 hbs hgs; replace HM := Aside0.mk (((mup HM).out.side (pkA B10).out (by decide) (by decide) NG10.out NE.out GE.out hgs).cons hbs (by decide) (by decide) NG10.out); clear B10 hgs hbs NE GE NG10))
  have HMs := Aside0.mk (HM.out.sub (E' := L s0 ++ ((g10, mkOps b, 71) :: (stOps b ++ [(g4, gC G, 28), (g8, #[.int .i64 0, .int .i64 0, .int .i64 0, .int .i64 0, .int .i64 0, .slice none 0 0, .slice none 0 0, .slice none 0 0], 36)] ++ E0))) (fun z hz => by simp only [List.mem_append, List.mem_cons, List.not_mem_nil, or_false] at hz ⊢; rcases hz with hz | hz | (hz | hz | hz) | hz <;> simp [hz]))
  have hEI : ∀ z ∈ ((g10, mkOps b, 71) :: (stOps b ++ [(g4, gC G, 28), (g8, #[.int .i64 0, .int .i64 0, .int .i64 0, .int .i64 0, .int .i64 0, .slice none 0 0, .slice none 0 0, .slice none 0 0], 36)] ++ E0)), B ≤ z.1 ∧ ∀ z0 ∈ L s0, z0.1 ≠ z.1 := fun z hz => by
    have hBw : B ≤ w.heap.size := by have := KB0.out.size; rw [KK.out.size s0] at this; exact this
    have old : w.heap.size ≤ z.1 → B ≤ z.1 ∧ ∀ z0 ∈ L s0, z0.1 ≠ z.1 := fun h => ⟨Nat.le_trans hBw h, fun z0 hz0 e => by have := blk_lt (KL0.out z0 hz0); omega⟩
    simp only [List.mem_append, List.mem_cons, List.not_mem_nil, or_false] at hz
    rcases hz with rfl | (hz | rfl | rfl) | hz
    · exact old GW10.out
    · exact old (by have := (stOps_ge hz).1; omega)
    · exact old GW4.out
    · exact old GW8.out
    · exact (KE0.out z hz).2
  have m10 : (g10, mkOps b, 71) ∈ ((g10, mkOps b, 71) :: (stOps b ++ [(g4, gC G, 28), (g8, #[.int .i64 0, .int .i64 0, .int .i64 0, .int .i64 0, .int .i64 0, .slice none 0 0, .slice none 0 0, .slice none 0 0], 36)] ++ E0)) := List.mem_cons_self
  have mst : ∀ z ∈ stOps b, z ∈ ((g10, mkOps b, 71) :: (stOps b ++ [(g4, gC G, 28), (g8, #[.int .i64 0, .int .i64 0, .int .i64 0, .int .i64 0, .int .i64 0, .slice none 0 0, .slice none 0 0, .slice none 0 0], 36)] ++ E0)) := fun z hz => by simp [hz]
  have m4 : (g4, gC G, 28) ∈ ((g10, mkOps b, 71) :: (stOps b ++ [(g4, gC G, 28), (g8, #[.int .i64 0, .int .i64 0, .int .i64 0, .int .i64 0, .int .i64 0, .slice none 0 0, .slice none 0 0, .slice none 0 0], 36)] ++ E0)) := by simp
  have m8 : (g8, #[.int .i64 0, .int .i64 0, .int .i64 0, .int .i64 0, .int .i64 0, .slice none 0 0, .slice none 0 0, .slice none 0 0], 36) ∈ ((g10, mkOps b, 71) :: (stOps b ++ [(g4, gC G, 28), (g8, #[.int .i64 0, .int .i64 0, .int .i64 0, .int .i64 0, .int .i64 0, .slice none 0 0, .slice none 0 0, .slice none 0 0], 36)] ++ E0)) := by simp
  have mE0 : ∀ z ∈ E0, z ∈ ((g10, mkOps b, 71) :: (stOps b ++ [(g4, gC G, 28), (g8, #[.int .i64 0, .int .i64 0, .int .i64 0, .int .i64 0, .int .i64 0, .slice none 0 0, .slice none 0 0, .slice none 0 0], 36)] ++ E0)) := fun z hz => by simp [hz]
  clear HM
  have HM := HMs
  clear HMs
  generalize ((g10, mkOps b, 71) :: (stOps b ++ [(g4, gC G, 28), (g8, #[.int .i64 0, .int .i64 0, .int .i64 0, .int .i64 0, .int .i64 0, .slice none 0 0, .slice none 0 0, .slice none 0 0], 36)] ++ E0)) = EI at HM hEI m10 mst m4 m8 mE0
  have KEI := Aside0.mk hEI
  have KM := Aside0.mk (And.intro m10 (And.intro mst (And.intro m4 (And.intro m8 mE0))))
  clear hEI m10 mst m4 m8 mE0 hwb
  obtain ⟨Pd, hPd⟩ : ∃ P, P = (SeeP wb L B Rel (.func (.func fs) #[] caps) EI G (.slice As sc.length cs) gb gr cr va sc S0 s0 N) := ⟨_, rfl⟩
  have KPd := Aside0.mk hPd
  have hst : Pd (.func (.func fs) #[] caps) N w7 := by rw [hPd]; exact ⟨Nat.le_refl _, true, s0, .slice none 0 0, by rw [Nat.sub_self]; exact Seen.start, rfl, by rw [Nat.sub_self]; exact HM.out, KEI.out⟩
  have HP := Aside0.mk hst
  clear hst hPd HM
  (try simp only [Act.put, List.setIfInBounds_toArray, List.set_cons_zero, List.set_cons_succ])
  go_loopw [3, 11, 13] (fun v3 _ _ wr => ∃ d, Aside0 (Pd v3 d wr)) (fun v3 _ _ wr => dist (Pd v3) wr)
  case atStart => exact ⟨N, HP⟩
  case round =>
   rename World => wl
   clear HP
   obtain ⟨d0, hP0⟩ := hrel
   have hP1 := dist_spec hP0.out
   obtain ⟨d, hd⟩ : ∃ d, dist (Pd u3) wl = d := ⟨_, rfl⟩
   rw [hd] at hP1
   have KDd := Aside0.mk hd
   clear hd hP0
   rw [KPd.out] at hP1
   obtain ⟨hdN, flag, s, vm, hsn, hv3, hm, hEI⟩ := hP1
   have HM := Aside0.mk hm
   have KS := Aside0.mk hsn
   have KE := Aside0.mk hEI
   clear hm hsn hEI
   have c12 := HM.out.cell 12
   by_cases hz : d = 0
   · subst hz
     clear hv3
     have hs := KR.out.stop
     have KGd := Aside0.mk (KR.out.good N (Nat.le_refl _))
     rw [Nat.sub_zero] at HM c12 KS
     obtain ⟨S, hSN⟩ : ∃ S, stepN G sc S0 N = S := ⟨_, rfl⟩
     rw [hSN] at HM c12 hs KGd
     have KSN := Aside0.mk hSN
     clear hSN
     have eb : (S.en == 0) = false := beq_eq_false_iff_ne.mpr hs
     clear hs
     have h5r : G.l5.length ≤ S.regs.length := by have := KGd.out.regs; have := KD.out; omega
     have hsm : S.regs.length ≤ 100000 := by have := KGd.out.regs; have := KD.out; omega
     have hvr : Value.slice (some ⟨gr, 0, none⟩) G.regs.toNat cr = .slice (some ⟨gr, 0, none⟩) S.regs.length cr := by have := KGd.out.regs; rw [show G.regs.toNat = S.regs.length by omega]
     obtain ⟨A2, c2, ea2⟩ := HM.out.mem.arrSlice
     obtain ⟨A3, c3, ea3⟩ := HM.out.mem.markForm
     subst ea2
     subst ea3
     go_wp2_with (first | ((with_reducible refine gate_callee (f := 34) rfl ?_); refine goesL_ _ rfl rfl Try.func34 (by kernel_rfl) rfl #[.pointer (some ⟨gb, 0, none⟩)] rfl (by (try simp only [List.map_toArray, List.map_cons, List.map_nil]); first | done | rfl) ?_; refine (scalars_calls (mup HM).out h5r ⟨gr, cr, hvr⟩ hsm).mono ?_; rintro e w8 ⟨v, rfl, ho, hm, hb⟩; obtain ⟨row, er⟩ : ∃ r, S.regs.take G.l5.length = r := ⟨_, rfl⟩; rw [er] at ho; have ER := Aside0.mk er; clear er; obtain ⟨A1, c1, ev⟩ := Kd.R_slice ho; subst ev; have HO := Aside0.mk ho; have B8 := Aside0.mk (hm.fx _ (List.mem_append_right _ KM.out.2.2.2.1)).1; have N8 := Aside0.mk (hm.fx _ (List.mem_append_right _ KM.out.2.2.2.1)).2.2.2; have HX := Aside0.mk (hm.sub (E' := L s ++ E0) (fun z hz => (List.mem_append.1 hz).elim (fun hz => List.mem_append_left _ hz) (fun hz => List.mem_append_right _ (KM.out.2.2.2.2 z hz)))); clear HM ho hm hb; have HM := HX; clear HX; have f17 := HM.out.froz 17; have c12 := HM.out.cell 12; have c13 := HM.out.cell 13; have c14 := HM.out.cell 14; have c15 := HM.out.cell 15; have c16 := HM.out.cell 16; have c17 := HM.out.cell 17; have c18 := HM.out.cell 18; have c19 := HM.out.cell 19; refine ⟨_, rfl, ?_⟩) | ((with_reducible refine gate_store (p := 8) (t := 36) rfl ?_); refine Hold.out ?_))
     constructor
     have hm0 := HM.out.set 17 (.slice A1 row.length c1) rfl
     have ho0 := Kd.R_set HO.out HM.out.bx (fun q hq => by rw [List.mem_singleton.1 hq]; decide) 17 (.slice A1 row.length c1)
     have hb8 : (w8.setCell ⟨gb, 17, none⟩ (.slice A1 row.length c1)).heap[g8]? = _ := (Below.heap_setCell _ _ _ g8 N8.out).trans B8.out
     refine store_box rfl rfl rfl g8 36 _ #[.int .i64 S.en, .int .i64 S.site, .int .i64 S.kind, .int .i64 S.ticks, .int .i64 S.reads, .slice A1 row.length c1, .slice A2 S.arrs.length c2, .slice A3 S.marks.length c3] hb8 rfl rfl (by kernel_rfl) rfl (by kernel_rfl) ?_
     intro w11 hbs hgs
     have hm := hm0.side hb8 (by decide) (by decide) N8.out.symm (fun z hz => (List.mem_append.1 hz).elim (fun hz => (KE.out _ KM.out.2.2.2.1).2 z hz) (fun hz e => by have := blk_lt (KE0.out z hz).1; have := GW8.out; omega)) (by rw [KK.out.size s]; exact (KE.out _ KM.out.2.2.2.1).1) hgs
     have ho := R_boxed ho0 hb8 (fun q hq => by rw [List.mem_singleton.1 hq]; decide) hgs
     clear HM HO B8 hm0 ho0 hb8
     have HM := Aside0.mk hm
     have HO := Aside0.mk ho
     have B8 := Aside0.mk hbs
     clear hm ho hbs hgs
     go_wp2
     refine bodyPost_ret (results_cell_row rfl _ _ g8 36 _ (0, 0) _ rfl B8.out Try.underlying36 rfl (by kernel_rfl)) rfl ?_
     obtain ⟨okR, okA, h1, h2, h3, h4, h5⟩ := HM.out.mem.ex
     rw [KSN.out]
     have ho := HO.out
     rw [← ER.out] at ho
     exact ⟨⟨A1, c1, A2, c2, A3, c3, _, _, _, _, _, by rw [ER.out], ho, h2, h3⟩, flag, s, KS.out, by have := HM.out.mem.hb; rwa [KK.out.size s] at this, Nat.le_trans GW8.out (Nat.le_of_lt (blk_lt B8.out)), fun z hz => (HM.out.fx z (List.mem_append_left _ hz)).1, fun z hz => (HM.out.fx z (List.mem_append_right _ hz)).1⟩
   · have hgo := KR.out.go (N - d) (by omega)
     have KGd := Aside0.mk (KR.out.good (N - d) (by omega))
     have hnx : stepN G sc S0 (N - (d - 1)) = stepC G sc (stepN G sc S0 (N - d)) := by rw [show N - (d - 1) = (N - d) + 1 by omega]; rfl
     have KNX := Aside0.mk hnx
     clear hnx
     obtain ⟨S, hSd⟩ : ∃ S, stepN G sc S0 (N - d) = S := ⟨_, rfl⟩
     rw [hSd] at HM c12 hgo KGd KNX
     have KSd := Aside0.mk hSd
     clear hSd
     obtain ⟨ge, ga0, ga1⟩ := hgo
     have eb : (S.en == 0) = true := beq_iff_eq.mpr ge
     replace ge := Aside0.mk ge
     replace ga0 := Aside0.mk ga0
     replace ga1 := Aside0.mk ga1
     have hq : ∀ W : World, (binOp .neq 45 u3 .nilFunc).run Try.prog W = .ok (.bool flag) W := fun W => by
       cases flag
       · rw [show u3 = .nilFunc from hv3]; exact hfn W
       · rw [show u3 = .func (.func fs) #[] caps from hv3]; exact hfs W
     have hqg : ∀ W : World, (eqGuard .neq 45 (.tmp 26) (.const .nilFunc) u3 .nilFunc).run Try.prog W = .ok () W := fun W => by
       cases flag
       · rw [show u3 = .nilFunc from hv3]; rfl
       · rw [show u3 = .func (.func fs) #[] caps from hv3]; rfl
     have hq1 := hq wl
     have hq2 := hqg wl
     have HV3 := Aside0.mk hv3
     clear hv3
     go_upto_if 27 with fail
     clear c12 eb hq hq1 hqg hq2
     (try simp only [Act.put, List.setIfInBounds_toArray, List.set_cons_zero, List.set_cons_succ])
     go_cut [3, 11, 13] (fun v3 _ _ wc => ∃ (flag2 : Bool) (s2 : σ) (vm : Value), Aside0 (Seen Rel (stepN G sc S0) s0 (N - d + 1) flag2 s2) ∧ v3 = (if flag2 = true then .func (.func fs) #[] caps else .nilFunc) ∧ Aside0 (MC (wb s2) wc (L s2 ++ EI) G (.slice As sc.length cs) gb (.slice (some ⟨gr, 0, none⟩) G.regs.toNat cr) va vm S) ∧ Aside0 (∀ z ∈ EI, B ≤ z.1 ∧ ∀ z0 ∈ L s2, z0.1 ≠ z.1))
     case first =>
      cases flag
      · have hv3 : u3 = .nilFunc := HV3.out
        clear HV3
        subst hv3
        go_wp2
        go_meet
        case rel => exact ⟨false, s, vm, ⟨Seen.past KS.out⟩, rfl, HM, KE⟩
      · have hv3 : u3 = .func (.func fs) #[] caps := HV3.out
        clear HV3
        subst hv3
        obtain ⟨A2, c2, ea2⟩ := HM.out.mem.arrSlice
        have HRD : Aside0 (Kd.C kL wl A2 S.arrs.length S.arrs) := ⟨by obtain ⟨okR, okA, h1, h2, h3⟩ := HM.out.mem.ex; rw [ea2] at h2; exact (Kd.S_reads' h2).2.2⟩
        have c18 : wl.cell? ⟨gb, 18, none⟩ = some (.slice A2 S.arrs.length c2) := (HM.out.cell 18).trans (show some va = _ by rw [ea2])
        clear ea2
        go_wp2
        clear c18
        go_loopw [11, 13, 34] (fun v11 _ v34 wr => ∃ (j : Nat) (A : Option Addr) (c : Nat), j ≤ S.arrs.length ∧ v11 = .slice A j c ∧ v34 = .int .i64 (j : Int) ∧ Aside0 (Kd.S kL 29 wr wl.heap.size (fun k => wl.heap.size ≤ k) (.slice A j c) (S.arrs.take j)) ∧ Aside0 (Below wl.heap.size wl wr)) (fun _ _ v34 _ => S.arrs.length - (intOf v34).toNat)
        case atStart => exact ⟨0, none, 0, Nat.zero_le _, rfl, rfl, ⟨Kd.S_nil _ _ _ _ _⟩, ⟨Below.refl _ _⟩⟩
        case round =>
         rename World => wj
         obtain ⟨j, A, c, hj, rfl, rfl, HS, HB⟩ := hrel
         by_cases hjl : j < S.arrs.length
         · have hlt : decide ((j : Int) < (S.arrs.length : Int)) = true := decide_eq_true (by omega)
           have HAL : Aside0 (S.arrs.length ≤ 1000) := ⟨by have := KGd.out.arrs; have := KF.out.parts.n6; omega⟩
           have hwj : IntKind.i64.wrap ((j : Int) + 1) = ((j + 1 : Nat) : Int) := (i64_w _).trans ((M.wrap64_in _ (by have := HAL.out; omega)).trans (by omega))
           obtain ⟨ad, Aj, cj, eA, xj, hcj, hCj⟩ := at_L9 (Kd.C_below HRD.out HB.out) (j : Int) (by omega) (by omega)
           subst eA
           obtain ⟨row, er0⟩ : ∃ r, rd_L9 S.arrs (j : Int) = r := ⟨_, rfl⟩
           rw [er0] at xj hcj hCj
           rw [Int.toNat_natCast] at xj
           have er := Aside0.mk er0
           have HRL : Aside0 (row.length ≤ 100000) := ⟨by have hz := KGd.out.sizes j (by have := KGd.out.arrs; omega); have h2 := (KF.out.parts.ar j (by have := KGd.out.arrs; omega)).2; rw [← er0]; have e3 : rd_L9 S.arrs (j : Int) = S.arrs.getD j [] := rfl; rw [e3]; omega⟩
           have HC := Aside0.mk hCj
           clear hCj er0
           have p1 : ((0 : Int) ≤ (j : Int)) = True := eq_true (by omega)
           have q1 : ((j : Int) < (S.arrs.length : Int)) = True := eq_true (by omega)
           have q2 : (j < S.arrs.length) = True := eq_true hjl
           go_wp2_with (first | ((with_reducible refine gate_dst (N := 39) rfl ?_); refine Kd.R_lit (Kd.int .i64) (w0 := wj) wj.heap.size 2 rfl (N := 39) rfl (xs := ([] : List Int)) (inner := []) (ok := fun k => wj.heap.size ≤ k) (okp := fun _ => False) ?hr (Reps.none _ _) (fun _ hk => hk.elim) (Nat.le_refl _) (Below.refl _ _) (Nat.le_refl _) (by simp) ?_; (case hr => first | (go_simp; done) | (go_simp; rfl)); intro v0 w1 ho hb _ _; have HO := Aside0.mk ho; have HB1 := Aside0.mk hb; clear ho hb) | ((with_reducible refine gate_builtin (b := .append) (xs := #[.tmp 39, .tmp 40]) rfl ?_); at_builtin; go_loud (refine Kd.R_append_rows (Kd.int .i64) (w0 := wj) wj.heap.size rfl (.tmp 39) (.tmp 40) 29 2 (.int .i64 0) 8 rfl Try.underlying29 info2 rfl (by decide) (by omega) v0 ([] : List Int) row Aj row.length cj (fun k => wj.heap.size ≤ k) (fun _ => False) rfl rfl HO.out (Kd.C_below HC.out HB1.out) (fun _ _ h => h) (fun _ h => h.elim) (fun k hk => Nat.le_trans HB1.out.size hk) HB1.out HB1.out.size (by have := HRL.out; simp; omega) ?_); intro v1 w2 ho hb _ _; rw [List.nil_append] at ho; obtain ⟨Av, cv, ev⟩ := Kd.R_slice ho; subst ev; have HO1 := Aside0.mk ho; have HB2 := Aside0.mk hb; clear ho hb HO HB1) | ((with_reducible refine gate_builtin (b := .append) (xs := #[.tmp 38, .tmp 42]) rfl ?_); at_builtin; go_loud (refine Kd.S_append kL (w0 := wl) wl.heap.size rfl (.tmp 38) (.tmp 42) 34 29 (.slice none 0 0) 24 rfl Try.underlying34 info29 rfl (by decide) (by omega) (.slice A j c) (S.arrs.take j) row [.slice Av row.length cv] (fun k => wl.heap.size ≤ k) (fun k => wj.heap.size ≤ k) rfl rfl ⟨_, rfl, Kd.R_lower HO1.out HB.out.size⟩ (fun k hk => ⟨Nat.le_trans HB.out.size hk, fun e => by have := Kd.R_lt (Kd.S_R HS.out) k e.symm; omega⟩) (fun k hk => Nat.le_trans HB.out.size (Nat.le_trans HB2.out.size hk)) (Kd.S_mono (Kd.S_below (Kd.S_bound HS.out) HB2.out) (fun k hk => ⟨hk.1, by have := hk.2.2.1; omega⟩)) (below_step HB.out HB2.out) (below_step HB.out HB2.out).size (by have := HAL.out; rw [List.length_take]; omega) ?_); intro v3 w3 hs hb _ _; obtain ⟨A3, c3, ev⟩ := Kd.S_slice hs; rw [take_rd hjl er.out] at ev hs; rw [List.length_take, Nat.min_eq_left (by omega)] at ev; subst ev; have HS3 := Aside0.mk hs; have HB3 := Aside0.mk hb; clear hs hb HO1 HB2))
           go_roundw
           case measure => simp [intOf] <;> omega
           case rel => exact ⟨j + 1, A3, c3, by omega, rfl, by first | rfl | simp, HS3, HB3⟩
         · have hj2 : j = S.arrs.length := by omega
           subst hj2
           have hlt : decide ((S.arrs.length : Int) < (S.arrs.length : Int)) = false := decide_eq_false (by omega)
           rw [List.take_length] at HS
           go_upto_region 11 with (fail)
           have e9 : G.regs.toNat = S.regs.length := by have := KGd.out.regs; omega
           have E9 := Aside0.mk e9
           clear e9
           have hS : ∀ (wx w' : World) (E' : List (Nat × Array Value × Nat)), MC wx w' E' G (.slice As sc.length cs) gb (.slice (some ⟨gr, 0, none⟩) G.regs.toNat cr) va vm S → (w'.cell? ⟨gb, 11, none⟩ = some (.int .i64 S.at_) ∧ w'.cell? ⟨gb, 10, none⟩ = some (.slice (some ⟨gr, 0, none⟩) G.regs.toNat cr) ∧ w'.cell? ⟨gb, 15, none⟩ = some (.int .i64 S.ticks)) := fun wx w' E' hm => ⟨hm.cell 11, hm.cell 10, hm.cell 15⟩
           have HM0 := HM
           clear HM
           have HM := Aside0.mk (HM0.out.below HB.out)
           have HMj := HM
           have HJ := Aside0.mk (Below.refl wj.heap.size wj)
           refine start_ (n := 19) (S := fun w' => w'.cell? ⟨gb, 11, none⟩ = some (.int .i64 S.at_) ∧ w'.cell? ⟨gb, 10, none⟩ = some (.slice (some ⟨gr, 0, none⟩) G.regs.toNat cr) ∧ w'.cell? ⟨gb, 15, none⟩ = some (.int .i64 S.ticks)) (ds := []) #[false, false, false, false, false, false, false, false, false, false, false, false, false, false, false, false, false, false, false] (by kernel_rfl) rfl rfl (hS _ _ _ HM.out.drew) (fun hHeld => ?_)
           refine with_tabW N15btab N15bbits (fun HT_ HW_ => ?_)
           replace HM := Aside0.mk HM.out.drew
           replace HJ := Aside0.mk (below_drew1 HJ.out)
           generalize World.drew _ = wa at HM HJ hHeld ⊢
           refine pureQ 0 45 HT_.out ?_
           refine pureQ 1 46 HT_.out ?_
           refine pureQ 2 47 HT_.out ?_
           refine pureQ 3 48 HT_.out ?_
           refine takeQ 4 49 HT_.out HW_.out hHeld ?_
           refine pureQ 6 51 HT_.out ?_
           refine pureQ 7 52 HT_.out ?_
           refine pureQ 8 53 HT_.out ?_
           refine takeQ 9 54 HT_.out HW_.out hHeld ?_
           refine pureQ 11 56 HT_.out ?_
           refine pureQ 12 57 HT_.out ?_
           refine pureQ 13 58 HT_.out ?_
           refine pureQ 14 59 HT_.out ?_
           refine pureQ 15 60 HT_.out ?_
           refine takeQ 16 61 HT_.out HW_.out hHeld ?_
           refine oneQ 5 50 HT_.out (fun K hK => ?_)
           refine Kd.R_lit_step (Kd.int .i64) (w0 := wj) wj.heap.size 2 rfl (N := 50) rfl (xs := ([] : List Int)) (inner := []) (ok := fun k => wj.heap.size ≤ k) (okp := fun _ => False) ?hr (Reps.none _ _) (fun _ hk => hk.elim) HJ.out.size HJ.out HJ.out.size (by simp) ?_; (case hr => first | (go_simp; done) | (go_simp; rfl))
           intro v0 wo ho hb hg _
           have HO := Aside0.mk ho
           replace HM := Aside0.mk (HM.out.below (below_none hg))
           replace HJ := Aside0.mk hb
           clear ho hb hg
           refine hK.out _ _ (hS _ _ _ HM.out) (fun hHeld => ?_)
           clear hK K
           refine normQ (N := 50) ?_
           refine oneQ 10 55 HT_.out (fun K hK => ?_)
           refine Kd.R_append_rows_step (Kd.int .i64) (w0 := wj) wj.heap.size (by rfl) (.tmp 50) (.tmp 54) 29 2 (.int .i64 0) 8 rfl Try.underlying29 info2 rfl (by decide) (by omega) v0 ([] : List Int) S.regs _ _ _ (fun k => wj.heap.size ≤ k) (fun _ => False) rfl rfl HO.out ?aR (fun _ _ h => h) (fun _ h => h.elim) (fun k hk => Nat.le_trans HJ.out.size hk) HJ.out HJ.out.size ?aL ?_
           case aR => exact HM.out.mem.regC
           case aL => have := KD.out; simp; omega
           intro v1 w1 ho hb hg hat
           rw [List.nil_append] at ho
           have HO1 := Aside0.mk ho
           replace HM := Aside0.mk (HMj.out.below hb)
           replace HJ := Aside0.mk hb
           clear ho hb hg hat HO
           refine hK.out _ _ (hS _ _ _ HM.out) (fun hHeld => ?_)
           clear hK K
           refine normQ (N := 55) ?_
           refine oneQ 17 62 HT_.out (fun K hK => ?_)
           obtain ⟨fn, e1, e2, e3⟩ := KK.out.fn
           refine goesQD e1 (#[.int .i64 S.at_, v1, .slice A S.arrs.length c, .int .i64 S.ticks] ++ caps) ?_ e2 e3 rfl (by simp [Act.eval]) rfl
           have hbl := below_step HB.out HJ.out
           have hbb := HM.out.mem.hb
           rw [KK.out.size s] at hbb
           refine (KK.out.does s _ wl.heap.size S.at_ S.ticks S.regs S.arrs v1 (.slice A S.arrs.length c) (fun k => wj.heap.size ≤ k) (fun k => wl.heap.size ≤ k ∧ k < wj.heap.size) hbb (fun z hz => ⟨(HM.out.fx z (List.mem_append_left _ hz)).1, blk_lt (HM0.out.fx z (List.mem_append_left _ hz)).1⟩) (by have := HM0.out.mem.hb.size; rw [KK.out.size s] at this; exact this) hbl.size (Kd.R_lower HO1.out HB.out.size) (Kd.S_mono (Kd.S_below (Kd.S_bound HS.out) HJ.out) (fun k hk => ⟨hk.1, hk.2.2.1⟩)) (fun k h1 h2 => by have := h2.2; omega)).mono ?_
           rintro e W2 ⟨b2, s', rfl, hrel2, hbw, hsz2, hkeep, hL2⟩
           refine ⟨_, rfl, ?_⟩
           have HN := Aside0.mk (HM0.out.swapE (w' := wb s') (W' := W2) (L' := L s') (by rw [KK.out.size s, KK.out.size s']) (by rw [KK.out.size s']; exact hbw) hsz2 (fun k h1 h2 h3 => (hkeep k (by rw [KK.out.size s] at h1; exact h1) h2 h3).trans (hbl.block k h2)) (by rw [KK.out.size s]; exact hL2) (by rw [KK.out.size s]; exact KE.out))
           have KE2 : Aside0 (∀ z ∈ EI, B ≤ z.1 ∧ ∀ z0 ∈ L s', z0.1 ≠ z.1) := by
             refine ⟨fun z hz => ⟨(KE.out z hz).1, fun z0 hz0 e => ?_⟩⟩
             have h1 := (KE.out z hz).1
             have h2 := blk_lt (HM0.out.fx z (List.mem_append_right _ hz)).1
             rcases (hL2 z0 hz0).2 with hh | ⟨z1, hz1, e1⟩ | hh
             · omega
             · exact (KE.out z hz).2 z1 hz1 (e1.trans e)
             · omega
           have KR2 := Aside0.mk hrel2
           clear hrel2 hbw hsz2 hkeep hL2 hbl hbb HM HO1 HJ
           have HM := HN
           clear HN
           refine hK.out _ _ (hS _ _ _ HM.out) (fun hHeld => ?_)
           clear hK K
           refine normQ (N := 62) ?_
           refine pureQ 18 63 HT_.out ?_
           refine done_ (done_of HT_.out (by kernel_rfl)) ?_
           clear hHeld HT_ HW_
           clear hS
           have hsee := Seen.see KS.out (by rw [KSd.out]; exact KR2.out)
           replace hsee := Aside0.mk hsee
           clear KR2
           cases b2
           · go_wp2
             go_meet
             case rel => exact ⟨false, s', vm, hsee, rfl, HM, KE2⟩
           · go_wp2
             go_meet
             case rel => exact ⟨true, s', vm, hsee, rfl, HM, KE2⟩
     case rest =>
      clear HM KS KE HV3
      obtain ⟨flag2, s2, vm2, KS2, hv2, HM, KE2⟩ := hcut
      have HV := Aside0.mk hv2
      clear hv2
      go_upto_region 13 with (fail)
      obtain ⟨y, hy⟩ : ∃ y, rd_T52 G.l0 S.at_ = y := ⟨_, rfl⟩
      obtain ⟨ad0, ee0, _⟩ := at_T52 (((KG.out s2).below HM.out.mem.hb).h0) S.at_ ga0.out ga1.out
      have p1 := eq_true ga0.out
      have q1 := eq_true ga1.out
      have q2 : (S.at_.toNat < G.l0.length) = True := eq_true (by have := ga0.out; have := ga1.out; omega)
      have hS : ∀ w' : World, MC (wb s2) w' (L s2 ++ EI) G (.slice As sc.length cs) gb (.slice (some ⟨gr, 0, none⟩) G.regs.toNat cr) va vm2 S → (w'.cell? ⟨g4, 0, none⟩ = some (.slice (some ad0) G.l0.length G.c0) ∧ w'.cell? ⟨gb, 11, none⟩ = some (.int .i64 S.at_) ∧ w'.cell? (ad0.add (S.at_.toNat * 8)) = some (.int .i64 y.f0) ∧ w'.cell? ⟨(ad0.add (S.at_.toNat * 8)).block, (ad0.add (S.at_.toNat * 8)).off + 1, none⟩ = some (.int .i64 y.f1) ∧ w'.cell? ⟨(ad0.add (S.at_.toNat * 8)).block, (ad0.add (S.at_.toNat * 8)).off + 2, none⟩ = some (.int .i64 y.f2) ∧ w'.cell? ⟨(ad0.add (S.at_.toNat * 8)).block, (ad0.add (S.at_.toNat * 8)).off + 3, none⟩ = some (.int .i64 y.f3) ∧ w'.cell? ⟨(ad0.add (S.at_.toNat * 8)).block, (ad0.add (S.at_.toNat * 8)).off + 4, none⟩ = some (.int .i64 y.f4) ∧ w'.cell? ⟨(ad0.add (S.at_.toNat * 8)).block, (ad0.add (S.at_.toNat * 8)).off + 5, none⟩ = some (.int .i64 y.f5) ∧ w'.cell? ⟨(ad0.add (S.at_.toNat * 8)).block, (ad0.add (S.at_.toNat * 8)).off + 6, none⟩ = some (.int .i64 y.f6.f0) ∧ w'.cell? ⟨(ad0.add (S.at_.toNat * 8)).block, (ad0.add (S.at_.toNat * 8)).off + 7, none⟩ = some (.int .i64 y.f6.f1)) := fun w' hm => ⟨((blk_cell (hm.fx _ (List.mem_append_right _ KM.out.2.2.1)).1 0).trans rfl).trans (by rw [← ee0]; rfl), hm.cell 11, hm.code (KG.out s2) ⟨ga0.out, ga1.out⟩ ee0 hy⟩
      refine start_ (n := 10) (S := fun w' => w'.cell? ⟨g4, 0, none⟩ = some (.slice (some ad0) G.l0.length G.c0) ∧ w'.cell? ⟨gb, 11, none⟩ = some (.int .i64 S.at_) ∧ w'.cell? (ad0.add (S.at_.toNat * 8)) = some (.int .i64 y.f0) ∧ w'.cell? ⟨(ad0.add (S.at_.toNat * 8)).block, (ad0.add (S.at_.toNat * 8)).off + 1, none⟩ = some (.int .i64 y.f1) ∧ w'.cell? ⟨(ad0.add (S.at_.toNat * 8)).block, (ad0.add (S.at_.toNat * 8)).off + 2, none⟩ = some (.int .i64 y.f2) ∧ w'.cell? ⟨(ad0.add (S.at_.toNat * 8)).block, (ad0.add (S.at_.toNat * 8)).off + 3, none⟩ = some (.int .i64 y.f3) ∧ w'.cell? ⟨(ad0.add (S.at_.toNat * 8)).block, (ad0.add (S.at_.toNat * 8)).off + 4, none⟩ = some (.int .i64 y.f4) ∧ w'.cell? ⟨(ad0.add (S.at_.toNat * 8)).block, (ad0.add (S.at_.toNat * 8)).off + 5, none⟩ = some (.int .i64 y.f5) ∧ w'.cell? ⟨(ad0.add (S.at_.toNat * 8)).block, (ad0.add (S.at_.toNat * 8)).off + 6, none⟩ = some (.int .i64 y.f6.f0) ∧ w'.cell? ⟨(ad0.add (S.at_.toNat * 8)).block, (ad0.add (S.at_.toNat * 8)).off + 7, none⟩ = some (.int .i64 y.f6.f1)) (ds := []) #[false, false, false, false, false, false, false, false, false, false] (by kernel_rfl) rfl rfl (hS _ HM.out.drew) (fun hHeld => ?_)
      refine with_tabW N15tab N15bits (fun HT_ HW_ => ?_)
      replace HM := Aside0.mk HM.out.drew
      generalize World.drew _ = wa at HM hHeld ⊢
      refine pureQ 0 64 HT_.out ?_
      refine takeQ 1 65 HT_.out HW_.out hHeld ?_
      refine pureQ 2 66 HT_.out ?_
      refine pureQ 3 67 HT_.out ?_
      refine pureQ 4 68 HT_.out ?_
      refine takeQ 5 69 HT_.out HW_.out hHeld ?_
      refine pureQ 6 70 HT_.out ?_
      refine takeQ 7 71 HT_.out HW_.out hHeld ?_
      refine oneQ 8 14 HT_.out (fun K hK => ?_)
      refine box_step ?hg (N := 14) ?hd (cs := #[.int .i64 0, .int .i64 0, .int .i64 0, .int .i64 0, .int .i64 0, .int .i64 0, .int .i64 0, .int .i64 0]) (t := 52) ?hr ?_; (case hd => rfl); (case hg => rfl); (case hr => first | (go_simp; done) | (go_simp; rfl))
      intro gi hg w6' hbox hb
      have NG := Aside0.mk (HM.out.new hg)
      have NE := Aside0.mk (HM.out.newE hg)
      have GE : Aside0 ((wb s2).heap.size ≤ gi) := ⟨by rw [hg]; exact HM.out.mem.hb.size⟩
      replace HM := Aside0.mk (HM.out.below hb)
      have BK := Aside0.mk hbox
      clear hb hbox hg
      refine hK.out _ _ (hS _ HM.out) (fun hHeld => ?_)
      clear hK K
      refine normQ (N := 14) ?_
      refine one_ (i := 9) (N := none) #[true, true, true, true, true, true, true, true, true, true] rfl rfl (one_of HT_.out (by kernel_rfl)) (by decide) (fun K hK => ?_)
      obtain ⟨wz, hwz⟩ : ∃ wz, wz = ((((((((w6').setCell ⟨gi, 0, none⟩ (.int .i64 y.f0)).setCell ⟨gi, 1, none⟩ (.int .i64 y.f1)).setCell ⟨gi, 2, none⟩ (.int .i64 y.f2)).setCell ⟨gi, 3, none⟩ (.int .i64 y.f3)).setCell ⟨gi, 4, none⟩ (.int .i64 y.f4)).setCell ⟨gi, 5, none⟩ (.int .i64 y.f5)).setCell ⟨gi, 6, none⟩ (.int .i64 y.f6.f0)).setCell ⟨gi, 7, none⟩ (.int .i64 y.f6.f1) := ⟨_, rfl⟩
      obtain ⟨z1, z2⟩ := set8g BK.out _ _ _ _ _ _ _ _ wz hwz
      have hcf := hcf8 BK
      obtain ⟨_, _, _, _, _, _, _, _, _, _, _, _, _, _, _, _⟩ := hcf
      refine skip_ (w1 := wz) (by rfl) rfl (by rw [hwz]; go_simp) ?_
      clear hwz
      replace HM := Aside0.mk (HM.out.side BK.out (by decide) (by decide) NG.out NE.out GE.out z2)
      clear BK
      have BK := Aside0.mk z1
      clear z1 z2
      refine hK.out _ _ (hS _ HM.out) (fun hHeld => ?_)
      clear hK K
      refine done_ (done_of HT_.out (by kernel_rfl)) ?_
      clear hHeld HT_ HW_
      clear hS p1 q1 q2 NE GE ee0
      have hcf := hcf8 BK
      obtain ⟨_, _, _, _, _, _, _, _, _, _, _, _, _, _, _, _⟩ := hcf
      have c11 := HM.out.cell 11
      have f11 := HM.out.froz 11
      go_upto_region 15 with (first | ((with_reducible refine gate_store (p := 77) (t := 3) rfl ?_); refine store_event (t := 3) (p := 77) (v := ?vf7) (w1 := wz.setCell ⟨gb, 11, none⟩ (.int .i64 y.f6.f0)) ?hg ?ho ?hn ?hr ?_; (case ho => rfl); (case hg => rfl); (case hn => rfl); (case hr => first | (go_simp; done) | (go_simp; rfl)); intro w9 hw; have hm : MC (wb s2) _ (L s2 ++ EI) G (.slice As sc.length cs) gb (.slice (some ⟨gr, 0, none⟩) G.regs.toNat cr) va vm2 { S with at_ := y.f6.f0 } := HM.out.set 11 (.int .i64 y.f6.f0) rfl; rw [← hw] at hm; replace BK : Aside0 (w9.heap[gi]? = some (.cells #[.int .i64 y.f0, .int .i64 y.f1, .int .i64 y.f2, .int .i64 y.f3, .int .i64 y.f4, .int .i64 y.f5, .int .i64 y.f6.f0, .int .i64 y.f6.f1] 52 (0, 0))) := ⟨by rw [hw]; exact (Below.heap_setCell _ _ _ gi (fun e => NG.out e.symm)).trans BK.out⟩; clear HM hw; have HM := Aside0.mk hm; clear hm))
      clear c11 f11
      have hgd : Good G sc { S with at_ := y.f6.f0 } := ⟨KGd.out.regs, KGd.out.fuel, KGd.out.reads, KGd.out.arrs, KGd.out.sizes⟩
      have hvr : ∃ a b, Value.slice (some ⟨gr, 0, none⟩) G.regs.toNat cr = .slice (some ⟨a, 0, none⟩) S.regs.length b := ⟨gr, cr, by have := KGd.out.regs; rw [show G.regs.toNat = S.regs.length by omega]⟩
      obtain ⟨c, fd, caps2, ec, hc22, hmk, ⟨fnn, e1, e2, e3⟩, hcall⟩ := op_calls (S := { S with at_ := y.f6.f0 }) HM.out.drew rfl (KG.out s2) (KC.out s2) hl KF.out hgd hvr (b := b) (fun z hz => List.mem_append_right _ (KM.out.2.1 z hz)) (p := S.at_.toNat) (by have := ga0.out; have := ga1.out; omega) (y := y) (by rw [show ((S.at_.toNat : Nat) : Int) = S.at_ by have := ga0.out; omega]; exact hy)
      have HC := Aside0.mk hcall
      clear hcall hgd hvr
      have kc : w9.cell? ⟨g10, y.f0.toNat, none⟩ = some (.func (.func fd) #[] caps2) := by rw [show y.f0.toNat = c by omega]; exact (blk_cell (HM.out.fx _ (List.mem_append_right _ KM.out.1)).1 c).trans hmk
      have k1 : ((0 : Int) ≤ y.f0) = True := eq_true (by omega)
      have k2 : (y.f0 < (22 : Int)) = True := eq_true (by omega)
      have k3 : (y.f0.toNat < 22) = True := eq_true (by omega)
      have KEC := Aside0.mk ec
      clear ec hmk hc22
      have hcf := hcf8 BK
      obtain ⟨_, _, _, _, _, _, _, _, _, _, _, _, _, _, _, _⟩ := hcf
      go_still_tail 6, (by kernel_rfl)
      change wpList _ _ _ _ _ w9.drew
      go_wp2_with (first | ((with_reducible refine gate_dst (N := 84) rfl ?_); refine goesLD (some 84) rfl rfl e1 (#[.pointer (some ⟨gb, 0, none⟩), .agg #[.int .i64 y.f0, .int .i64 y.f1, .int .i64 y.f2, .int .i64 y.f3, .int .i64 y.f4, .int .i64 y.f5, .int .i64 y.f6.f0, .int .i64 y.f6.f1]] ++ caps2) rfl rfl (by simp [Act.eval]) e2 e3 ?_; refine HC.out.mono ?_; rintro e w10 ⟨⟨v0, rfl⟩, vm3, hm2⟩; have HN := Aside0.mk hm2; clear HM hm2; refine ⟨_, rfl, ?_⟩))
      have hp : Pd u3 (d - 1) w10 := by rw [KPd.out]; exact ⟨by omega, flag2, s2, vm3, by rw [show N - (d - 1) = N - d + 1 by omega]; exact KS2.out, HV.out, by rw [KNX.out]; unfold stepC; rw [hy]; exact HN.out, KE2.out⟩
      (try simp only [Act.put, List.setIfInBounds_toArray, List.set_cons_zero, List.set_cons_succ])
      go_roundw
      case measure => show dist (Pd u3) w10 < dist _ wl; exact Nat.lt_of_le_of_lt (dist_le hp) (by show d - 1 < dist (Pd _) wl; rw [KDd.out]; omega)
      case rel => exact ⟨d - 1, ⟨hp⟩⟩
end Go.Proofs.Ytcalcbeonbfkmaa.P
