import Derived.Test.YtcalcbeonbfkmaaTrXX
/- What the law's proof needs of G14. -/
namespace Go.Proofs.Ytcalcbeonbfkmaa.P
open Go.RowKit Go.Proofs.YtcalcbeonbfkmaaW.PrintWords Go.Proofs.YtcalcbeonbfkmaaW.PrintLast Go.Proofs.YtcalcbeonbfkmaaW.PrintMore Go.Proofs.YtcalcbeonbfkmaaO
attribute [local go_sem] max2_int min2_int max_two min_two max_three min_three max_four min_four
set_option linter.unusedVariables false
set_option linter.unusedSimpArgs false
section
variable {P : Program} {ops : Array Oper} {oi : Oper} {a : Act} {Q : Exit → Act → World → Prop}
theorem goesQD {w : World} {K : Act → World → Prop} {N : Option Tmp} {f : FuncId} {fn : Func} {t : Tmp} {xs : Array Operand} {ts : Array TypeId} {caps : Array Value} (hf : P.funcs[f]? = some fn) (args : Array Value)
    (h : Calls P f args w fun e w' => ∃ v, e = .returned v ∧ K (a.put N v) w') (hname : (fn.name == "runtime.NumGoroutine") = false) (hb : fn.body.isSome = true)
    (hv : a.eval (.tmp t) = .func (.func f) #[] caps) (hargs : xs.map a.eval ++ caps = args) (hop : oi.op = .call { callee := .value (.tmp t), args := xs, argTypes := ts })
    (hw : Region.wanted oi (yielded ops a.tmps) = true := by rfl) (hN : oi.dst = N := by rfl) : if Region.wanted oi (yielded ops a.tmps) = true then Oper.wp P oi a w K Q else K (a.put N undef) w := by
  rw [if_pos hw]
  have he := enters_ hf hname hb args w
  have hrun : (execOp a.eval oi).run P w = .ok (.enter f args) w := by
    unfold execOp
    simp [hop, resolve, Deferred.ofValue, invoke, hv, hargs, he]
  unfold Oper.wp
  rw [hrun, Oper.upon_enter]
  refine h.mono fun e w'' hh => ?_
  obtain ⟨v, rfl, hk⟩ := hh
  subst hN
  exact hk
end
theorem MB.sub {w W : World} {E E' : List (Nat × Array Value × Nat)} {gb tb : Nat} {cb : Array Value} {vr va vm : Value} {rs : List Int} {ars mks : List (List Int)} (h : MB w W E gb tb cb vr va vm rs ars mks) (hs : ∀ z ∈ E', z ∈ E) : MB w W E' gb tb cb vr va vm rs ars mks :=
  ⟨h.mem.sub hs, h.bx, h.gw, h.t2, h.t29, fun z hz => h.fx z (hs z hz)⟩
/-- What lay there ahead of the machine is set aside. -/
theorem MB.lowerE {w W1 W : World} {E L : List (Nat × Array Value × Nat)} {gb tb : Nat} {cb : Array Value} {vr va vm : Value} {rs : List Int} {ars mks : List (List Int)} (h : MB W1 W E gb tb cb vr va vm rs ars mks) (hb : Below w.heap.size w W1) (hL : ∀ z ∈ L, W1.heap[z.1]? = some (.cells z.2.1 z.2.2 (0, 0))) : MB w W (L ++ E) gb tb cb vr va vm rs ars mks := by
  obtain ⟨⟨⟨okR, okA, h1, h2, h3, h4, h5, h7⟩, h6⟩, hx, hw, t2, t29, fx⟩ := h
  have hs := hb.size
  have hl : ∀ z ∈ L, z.1 < W1.heap.size := fun z hz => blk_lt (hL z hz)
  refine ⟨⟨⟨fun k => okR k ∨ ∃ z ∈ L, z.1 = k, fun k => okA k ∧ W1.heap.size ≤ k, Kd.R_mono (Kd.R_lower h1 hs) (fun _ => Or.inl), Kd.S_mono (Kd.S_lower (Kd.S_bound h2) hs) (fun _ hk => ⟨hk.1, hk.2.1⟩), Kd.R_mono (Kd.R_lower (Kd.R_bound h3) hs) (fun k hk => ⟨fun hh => hh.elim hk.1.1 (fun ⟨z, hz, e⟩ => by have := hl z hz; have := hk.2.1; omega), fun hh => hk.1.2 hh.1⟩), fun k hr ha => hr.elim (fun hr => h4 k hr ha.1) (fun ⟨z, hz, e⟩ => by have := hl z hz; have := ha.2; omega), fun k hk => ?_, fun z hz => ?_⟩, below_step hb h6⟩, hx, Nat.le_trans hs hw, t2, t29, fun z hz => ?_⟩
  · rcases hk with (hk | ⟨z, hz, rfl⟩) | hk
    · exact h5 k (.inl hk)
    · exact Nat.lt_of_lt_of_le (hl z hz) h6.size
    · exact h5 k (.inr hk.1)
  · rcases List.mem_append.1 hz with hz | hz
    · exact ⟨Or.inr ⟨z, hz, rfl⟩, fun e => by have := Kd.R_base h1 z.1 e; have := hl z hz; omega⟩
    · exact ⟨Or.inl (h7 z hz).1, (h7 z hz).2⟩
  · rcases List.mem_append.1 hz with hz | hz
    · exact ⟨(h6.block z.1 (hl z hz)).trans (hL z hz), trivial, trivial, by have := hl z hz; omega⟩
    · exact fx z hz
/-- What was set aside is written by another. -/
theorem MB.swapE {w w' W0 W' : World} {E L L' : List (Nat × Array Value × Nat)} {gb tb : Nat} {cb : Array Value} {vr va vm : Value} {rs : List Int} {ars mks : List (List Int)} (h : MB w W0 (L ++ E) gb tb cb vr va vm rs ars mks) (hs : w'.heap.size = w.heap.size) (hb : Below w'.heap.size w' W') (hsz : W0.heap.size ≤ W'.heap.size)
    (hk : ∀ k, w.heap.size ≤ k → k < W0.heap.size → (∀ z ∈ L, z.1 ≠ k) → W'.heap[k]? = W0.heap[k]?)
    (hL : ∀ z ∈ L', W'.heap[z.1]? = some (.cells z.2.1 z.2.2 (0, 0)) ∧ (z.1 < w.heap.size ∨ (∃ z0 ∈ L, z0.1 = z.1) ∨ W0.heap.size ≤ z.1)) (hE : ∀ z ∈ E, w.heap.size ≤ z.1 ∧ ∀ z0 ∈ L, z0.1 ≠ z.1) : MB w' W' (L' ++ E) gb tb cb vr va vm rs ars mks := by
  obtain ⟨⟨⟨okR, okA, h1, h2, h3, h4, h5, h7⟩, h6⟩, hx, hw, t2, t29, fx⟩ := h
  have okL : ∀ z ∈ L, okR z.1 := fun z hz => (h7 z (List.mem_append_left _ hz)).1
  have noA : ∀ k, okA k → ∀ z ∈ L, z.1 ≠ k := fun k ha z hz e => h4 k (by rw [← e]; exact okL z hz) ha
  have far : ∀ z ∈ L', ∀ k, w.heap.size ≤ k → k < W0.heap.size → (∀ z0 ∈ L, z0.1 ≠ k) → z.1 ≠ k := fun z hz k hk1 hk2 hk3 e => by
    rcases (hL z hz).2 with hh | ⟨z0, hz0, e0⟩ | hh
    · omega
    · exact hk3 z0 hz0 (e0.trans e)
    · omega
  have r1 : Kd.R (Kd.int .i64) 2 W' w'.heap.size (fun k => some k = vr.ownBlock) vr rs := by
    rw [hs]
    exact Kd.R_step (Kd.R_tight rfl h1) (fun k hk1 hlt => hk k (Kd.R_base h1 k hk1.symm) hlt (fun z hz e => (h7 z (List.mem_append_left _ hz)).2 (by rw [e]; exact hk1.symm)))
  have own1 : ∀ k, some k = vr.ownBlock → okR k := fun k e => h1.1 k e.symm
  have r2 : Kd.S kL 29 W' w'.heap.size (fun k => okA k ∧ w.heap.size ≤ k ∧ k < W0.heap.size) va ars := by
    rw [hs]
    exact Kd.S_mono (Kd.S_step (Kd.S_bound h2) (fun k hk1 hlt => hk k hk1.2.1 hlt (noA k hk1.1))) (fun k hk1 => ⟨hk1.1, hk1.2.1, hk1.2.2.1⟩)
  have r3 : Kd.R kL 29 W' w'.heap.size (fun k => (¬ okR k ∧ ¬ okA k) ∧ w.heap.size ≤ k ∧ k < W0.heap.size) vm mks := by
    rw [hs]
    exact Kd.R_mono (Kd.R_step (Kd.R_bound h3) (fun k hk1 hlt => hk k hk1.2.1 hlt (fun z hz e => hk1.1.1 (by rw [← e]; exact okL z hz)))) (fun k hk1 => ⟨hk1.1, hk1.2.1, hk1.2.2.1⟩)
  have hgb : ∀ z ∈ L, z.1 ≠ gb := fun z hz => (fx z (List.mem_append_left _ hz)).2.2.2
  refine ⟨⟨⟨fun k => okR k ∨ ∃ z ∈ L', z.1 = k, fun k => okA k ∧ w.heap.size ≤ k ∧ k < W0.heap.size, Kd.R_mono r1 (fun k hk1 => Or.inl (own1 k hk1)), r2, Kd.R_mono r3 (fun k hk1 => ⟨fun hh => hh.elim hk1.1.1 (fun ⟨z, hz, e⟩ => far z hz k hk1.2.1 hk1.2.2 (fun z0 hz0 e0 => hk1.1.1 (by rw [← e0]; exact okL z0 hz0)) e), fun hh => hk1.1.2 hh.1⟩), fun k hr ha => hr.elim (fun hr => h4 k hr ha.1) (fun ⟨z, hz, e⟩ => far z hz k ha.2.1 ha.2.2 (noA k ha.1) e), fun k hk1 => ?_, fun z hz => ?_⟩, hb⟩, (hk gb hw (blk_lt hx) hgb).trans hx, by rw [hs]; exact hw, t2, t29, fun z hz => ?_⟩
  · rcases hk1 with (hk1 | ⟨z, hz, rfl⟩) | hk1
    · exact Nat.lt_of_lt_of_le (h5 k (.inl hk1)) hsz
    · exact blk_lt (hL z hz).1
    · exact Nat.lt_of_lt_of_le hk1.2.2 hsz
  · rcases List.mem_append.1 hz with hz | hz
    · refine ⟨Or.inr ⟨z, hz, rfl⟩, fun e => far z hz z.1 (Kd.R_base h1 z.1 e) (Kd.R_lt h1 z.1 e) (fun z0 hz0 e0 => (h7 z0 (List.mem_append_left _ hz0)).2 (by rw [e0]; exact e)) rfl⟩
    · exact ⟨Or.inl (h7 z (List.mem_append_right _ hz)).1, (h7 z (List.mem_append_right _ hz)).2⟩
  · rcases List.mem_append.1 hz with hz | hz
    · exact ⟨(hL z hz).1, trivial, trivial, far z hz gb hw (blk_lt hx) hgb⟩
    · have hf := fx z (List.mem_append_right _ hz)
      exact ⟨(hk z.1 (hE z hz).1 (blk_lt hf.1) (hE z hz).2).trans hf.1, hf.2⟩
theorem rd_L9_le {l : List (List Int)} {b : Nat} (h : ∀ r ∈ l, r.length ≤ b) (i : Int) : (rd_L9 l i).length ≤ b := by
  unfold rd_L9
  rw [List.getD_eq_getElem?_getD]
  by_cases e : i.toNat < l.length
  · rw [List.getElem?_eq_getElem e]
    exact h _ (List.getElem_mem e)
  · rw [List.getElem?_eq_none (by omega)]
    exact Nat.zero_le _
theorem good_rows {G : Gr} {sc : List Int} {S : St} (hF : FitOK G) (hg : Good G sc S) : ∀ i : Int, (rd_L9 S.arrs i).length ≤ 1000 := rd_L9_le (fun r hr => by
  obtain ⟨i, hi, e⟩ := List.getElem_of_mem hr
  have hz := hg.sizes i (by have := hg.arrs; omega)
  rw [List.getD_eq_getElem?_getD, List.getElem?_eq_getElem hi] at hz
  have h2 := (hF.parts.ar i (by have := hg.arrs; omega)).2
  have hz2 : (S.arrs[i].length : Int) = (rd_T85 G.l6 (i : Int)).f2 := hz
  rw [e] at hz2
  omega)
/-- What a looker has seen, of a run's first k instructions; the Bool: it looks on. -/
inductive Seen {σ : Type} (Rel : σ → Int → List Int → List (List Int) → Int → Bool → σ → Prop) (f : Nat → St) (s0 : σ) : Nat → Bool → σ → Prop
  | start : Seen Rel f s0 0 true s0
  | see {k : Nat} {s s' : σ} {b : Bool} : Seen Rel f s0 k true s → Rel s (f k).at_ (f k).regs (f k).arrs (f k).ticks b s' → Seen Rel f s0 (k + 1) b s'
  | past {k : Nat} {s : σ} : Seen Rel f s0 k false s → Seen Rel f s0 (k + 1) false s
/-- A looker: what it keeps (σ), where that lies (L; wb: the world below), and what it does. -/
structure Looker {σ : Type} (wb : σ → World) (L : σ → List (Nat × Array Value × Nat)) (B : Nat) (Rel : σ → Int → List Int → List (List Int) → Int → Bool → σ → Prop) (I : σ → Prop) (fs : Nat) (caps : Array Value) : Prop where
  size : ∀ s, (wb s).heap.size = B
  fn : ∃ fn, Try.prog.funcs[fs]? = some fn ∧ (fn.name == "runtime.NumGoroutine") = false ∧ fn.body.isSome = true
  does : ∀ (s : σ) (W : World) (M : Nat) (at_ t : Int) (rs : List Int) (ars : List (List Int)) (vr va : Value) (ok1 ok2 : Nat → Prop), I s → rs.length ≤ 100000 → ars.length ≤ 1000 → (∀ i : Int, (rd_L9 ars i).length ≤ 1000) → Below B (wb s) W → (∀ z ∈ L s, W.heap[z.1]? = some (.cells z.2.1 z.2.2 (0, 0)) ∧ z.1 < M) → B ≤ M → M ≤ W.heap.size → Kd.R (Kd.int .i64) 2 W M ok1 vr rs → Kd.S kL 29 W M ok2 va ars → (∀ k, ok1 k → ¬ ok2 k) →
    Calls Try.prog fs (#[.int .i64 at_, vr, va, .int .i64 t] ++ caps) W fun e W' => ∃ (b : Bool) (s' : σ), e = .returned (.bool b) ∧ Rel s at_ rs ars t b s' ∧ (b = true → I s') ∧ Below B (wb s') W' ∧ M ≤ W'.heap.size ∧ (∀ k, B ≤ k → k < M → (∀ z ∈ L s, z.1 ≠ k) → W'.heap[k]? = W.heap[k]?) ∧ ∀ z ∈ L s', W'.heap[z.1]? = some (.cells z.2.1 z.2.2 (0, 0)) ∧ (z.1 < B ∨ (∃ z0 ∈ L s, z0.1 = z.1) ∨ M ≤ z.1)
def SeeP {σ : Type} (wb : σ → World) (L : σ → List (Nat × Array Value × Nat)) (B : Nat) (Rel : σ → Int → List Int → List (List Int) → Int → Bool → σ → Prop) (I : σ → Prop) (see : Value) (EI : List (Nat × Array Value × Nat)) (G : Gr) (vs : Value) (gb gr cr : Nat) (va : Value) (sc : List Int) (S0 : St) (s0 : σ) (N : Nat) (v3 : Value) (d : Nat) (wr : World) : Prop :=
  d ≤ N ∧ ∃ (flag : Bool) (s : σ) (vm : Value), Seen Rel (stepN G sc S0) s0 (N - d) flag s ∧ (flag = true → I s) ∧ v3 = (if flag = true then see else .nilFunc) ∧ MC (wb s) wr (L s ++ EI) G vs gb (.slice (some ⟨gr, 0, none⟩) G.regs.toNat cr) va vm (stepN G sc S0 (N - d)) ∧ ∀ z ∈ EI, B ≤ z.1 ∧ ∀ z0 ∈ L s, z0.1 ≠ z.1
theorem take_rd {l : List (List Int)} {j : Nat} {row : List Int} (hj : j < l.length) (er : rd_L9 l (j : Int) = row) : l.take j ++ [row] = l.take (j + 1) := by
  have e : rd_L9 l (j : Int) = l[j] := by
    show l.getD j [] = l[j]
    rw [List.getD_eq_getElem?_getD, List.getElem?_eq_getElem hj]
    rfl
  rw [List.take_succ_eq_append_getElem hj, ← er, e]
def N15bT : Bool × List (List Nat × List Nat) := (true, [([], []), ([], []), ([1], [1]), ([2], [2]), ([3], [3]), ([], []), ([], []), ([6], [6]), ([7], [7]), ([8], [8]), ([5, 9], [5, 9]), ([], []), ([], []), ([12], [12]), ([13], [13]), ([14], [14]), ([15], [15]), ([0, 4, 10, 11, 16, 10], [0, 4, 10, 11, 16]), ([17], [17])])
def N15bB : List Nat := [0, 0, 2, 6, 14, 0, 0, 64, 192, 448, 992, 0, 0, 4096, 12288, 28672, 61440, 131071, 262143]
theorem N15btab : rtab .any (opsOf Try.f15 11) = N15bT := by kernel_rfl
theorem N15bbits : waitsOk N15bT.2 N15bB = true := by kernel_rfl
set_option maxHeartbeats 8000000 in
set_option maxRecDepth 100000 in
theorem walk_see {σ : Type} {wb : σ → World} {L : σ → List (Nat × Array Value × Nat)} {B : Nat} {Rel : σ → Int → List Int → List (List Int) → Int → Bool → σ → Prop} {I : σ → Prop} {fs : Nat} {caps : Array Value} (hK : Looker wb L B Rel I fs caps) (s0 : σ) (hI0 : I s0) (E0 : List (Nat × Array Value × Nat)) (G : Gr) (w : World) (hW : Below B (wb s0) w) (hL0 : ∀ z ∈ L s0, w.heap[z.1]? = some (.cells z.2.1 z.2.2 (0, 0))) (hE0 : ∀ z ∈ E0, w.heap[z.1]? = some (.cells z.2.1 z.2.2 (0, 0)) ∧ B ≤ z.1 ∧ ∀ z0 ∈ L s0, z0.1 ≠ z.1) (hG : ∀ s, G.Held (wb s)) (As : Option Addr) (sc : List Int) (cs : Nat) (f : Int) (hsc : ∀ s, Kd.C (Kd.int .i64) (wb s) As sc.length sc) (hl : sc.length ≤ 9223372036854775807) (hF : FitOK G) {N : Nat} (hR : Runs G sc (beginS G (mx f 0) G.l5.length G.l6.length) N) :
    Calls Try.prog 15 #[G.v, .slice As sc.length cs, .int .i64 f, .func (.func fs) #[] caps] w fun e w' => RetO e w' G (stepN G sc (beginS G (mx f 0) G.l5.length G.l6.length) N) ∧ ∃ flag s, Seen Rel (stepN G sc (beginS G (mx f 0) G.l5.length G.l6.length)) s0 N flag s ∧ Below B (wb s) w' ∧ w.heap.size ≤ w'.heap.size ∧ (∀ z ∈ L s, w'.heap[z.1]? = some (.cells z.2.1 z.2.2 (0, 0))) ∧ ∀ z ∈ E0, w'.heap[z.1]? = some (.cells z.2.1 z.2.2 (0, 0)) := by
  have hu28 := Try.underlying28
  have hu74 := Try.underlying74
  have hu36 := Try.underlying36
  have hu52 := Try.underlying52
  have hu71 := Try.underlying71
  have hu50 := Try.underlying50
  have hfn : ∀ W : World, (binOp .neq 45 .nilFunc .nilFunc).run Try.prog W = .ok (.bool false) W := fun _ => by kernel_rfl
  have hfs : ∀ W : World, (binOp .neq 45 (.func (.func fs) #[] caps) .nilFunc).run Try.prog W = .ok (.bool true) W := fun _ => by rfl
  have HB := Aside0.mk (Below.refl w.heap.size w)
  obtain ⟨S0, hS0⟩ : ∃ S, beginS G (mx f 0) G.l5.length G.l6.length = S := ⟨_, rfl⟩
  rw [hS0] at hR ⊢
  have KS0 := Aside0.mk hS0
  have KR := Aside0.mk hR
  have KF := Aside0.mk hF
  have KG := Aside0.mk hG
  have KC := Aside0.mk hsc
  have KK := Aside0.mk hK
  have KW := Aside0.mk hW
  have KL0 := Aside0.mk hL0
  have KE0 := Aside0.mk hE0
  have KI0 := Aside0.mk hI0
  clear hI0 hR hF hG hsc hS0 hK hW hL0 hE0
  have KD : Aside0 (0 ≤ G.regs ∧ (G.l5.length : Int) ≤ G.regs ∧ G.regs ≤ 10000) := ⟨by obtain ⟨ds, hD, _⟩ := KF.out.rest; have := hD.regs; have := hD.le; have := KF.out.n2; have := KF.out.parts.n5; omega⟩
  have hB0 : Below (wb s0).heap.size (wb s0) w := by rw [KK.out.size s0]; exact KW.out
  have KB0 := Aside0.mk hB0
  clear hB0
  go_enter Try.func15, Try.ntmps15
  go_wp2_with (first | ((with_reducible refine gate_dst (N := 4) rfl ?_); refine boxQ 4 (gC G) 28 HB ?_; clear HB; intro g4 w1 _ GW4 B4 _ HB; have hcf := hcf8 B4; obtain ⟨_, _, _, _, _, _, _, _, _, _, _, _, _, _, _, _⟩ := hcf) | ((with_reducible refine gate_dst (N := 8) rfl ?_); refine boxQ 8 #[.int .i64 0, .int .i64 0, .int .i64 0, .int .i64 0, .int .i64 0, .slice none 0 0, .slice none 0 0, .slice none 0 0] 36 HB ?_; intro g8 w2 eg GW8 B8 hb HX; have N48 := bn1 B4 eg.out; replace B4 := bbw B4 hb.out; clear HB hb eg; have HB := HX; clear HX; have hcf := hcf8 B4; obtain ⟨_, _, _, _, _, _, _, _, _, _, _, _, _, _, _, _⟩ := hcf) | ((with_reducible refine gate_callee (f := 32) rfl ?_); refine goesL_ _ rfl rfl Try.func32 (by kernel_rfl) rfl #[G.v, .slice As sc.length cs, .int .i64 f] rfl (by (try simp only [List.map_toArray, List.map_cons, List.map_nil]); first | done | rfl) ?_; refine (begin_calls G _ ((KG.out s0).below (below_step KB0.out HB.out)) As sc.length cs f KD.out.1 KD.out.2.1 KD.out.2.2 KF.out.parts).mono ?_; rintro e w3 ⟨gb, va, rfl, gr, cr, hm⟩; rw [KS0.out] at hm; have n4 := Nat.ne_of_gt (Nat.lt_of_lt_of_le (blk_lt B4.out) hm.gw); have n8 := Nat.ne_of_gt (Nat.lt_of_lt_of_le (blk_lt B8.out) hm.gw); have hm2 := hm.lowerE (w := w) (L := L s0 ++ E0) (bpk HB).out (fun z hz => (List.mem_append.1 hz).elim (fun hz => ((bpk HB).out.block z.1 (blk_lt (KL0.out z hz))).trans (KL0.out z hz)) (fun hz => ((bpk HB).out.block z.1 (blk_lt (KE0.out z hz).1)).trans (KE0.out z hz).1)); have hm3 := hm2.lower KB0.out; have HM := Aside0.mk ((hm3.cons (bbw B8 hm.mem.hb).out (by decide) (by decide) n8).cons (bbw B4 hm.mem.hb).out (by decide) (by decide) n4); clear n4 n8 hm hm2 hm3 B4 B8; refine ⟨_, rfl, ?_⟩))
  refine (ops_calls _).mono ?_
  rintro e w5 ⟨rfl, hb, hst⟩
  obtain ⟨b, hb0⟩ : ∃ b, w3.heap.size = b := ⟨_, rfl⟩
  rw [hb0] at hst ⊢
  have hgb : gb < b := by rw [← hb0]; exact blk_lt HM.out.bx
  have hwb : w.heap.size ≤ b := by rw [← hb0]; exact Nat.le_trans (Nat.le_of_lt (Nat.lt_of_le_of_lt GW8.out (blk_lt (HM.out.fx _ (List.mem_cons_of_mem _ List.mem_cons_self)).1))) (Nat.le_refl _)
  have HN := Aside0.mk ((HM.out.below hb).consL (L := stOps b) (fun z hz => ⟨hst z hz, (stOps_ge hz).2.1, (stOps_ge hz).2.2, by have := (stOps_ge hz).1; omega⟩))
  clear HM hst hb hb0 hgb
  have HM := HN
  clear HN
  go_wp2_with (first | ((with_reducible refine gate_dst (N := 10) rfl ?_); refine boxM 10 #[.nilFunc, .nilFunc, .nilFunc, .nilFunc, .nilFunc, .nilFunc, .nilFunc, .nilFunc, .nilFunc, .nilFunc, .nilFunc, .nilFunc, .nilFunc, .nilFunc, .nilFunc, .nilFunc, .nilFunc, .nilFunc, .nilFunc, .nilFunc, .nilFunc, .nilFunc] 71 HM ?_; intro g10 w6 eg NG10 B10 hb HX; have NE := Aside0.mk ((mup HM).out.newE eg.out); have GE : Aside0 ((wb s0).heap.size ≤ g10) := ⟨by rw [eg.out]; exact ((mup HM).out.mem.hb).size⟩; have GW10 : Aside0 (w.heap.size ≤ g10) := ⟨by rw [eg.out]; exact Nat.le_trans GW8.out (Nat.le_of_lt (blk_lt ((mup HM).out.fx _ (List.mem_append_right _ (List.mem_cons_of_mem _ List.mem_cons_self))).1))⟩; clear HM hb eg; have HM := HX; clear HX) | ((with_reducible refine gate_store (p := 10) (t := 71) rfl ?_); refine store_box rfl rfl rfl g10 71 _ (mkOps b) (pkA B10).out rfl rfl (by kernel_rfl) rfl (by kernel_rfl) ?_; intro w7 hbs hgs; replace HM := Aside0.mk (((mup HM).out.side (pkA B10).out (by decide) (by decide) NG10.out NE.out GE.out hgs).cons hbs (by decide) (by decide) NG10.out); clear B10 hgs hbs NE GE NG10))
  have HMs := Aside0.mk (HM.out.sub (E' := L s0 ++ ((g10, mkOps b, 71) :: (stOps b ++ [(g4, gC G, 28), (g8, #[.int .i64 0, .int .i64 0, .int .i64 0, .int .i64 0, .int .i64 0, .slice none 0 0, .slice none 0 0, .slice none 0 0], 36)] ++ E0))) (fun z hz => by simp only [List.mem_append, List.mem_cons, List.not_mem_nil, or_false] at hz ⊢; rcases hz with hz | hz | (hz | hz | hz) | hz <;> simp [hz]))
  have hEI : ∀ z ∈ ((g10, mkOps b, 71) :: (stOps b ++ [(g4, gC G, 28), (g8, #[.int .i64 0, .int .i64 0, .int .i64 0, .int .i64 0, .int .i64 0, .slice none 0 0, .slice none 0 0, .slice none 0 0], 36)] ++ E0)), B ≤ z.1 ∧ ∀ z0 ∈ L s0, z0.1 ≠ z.1 := fun z hz => by
    have hBw : B ≤ w.heap.size := by have := KB0.out.size; rw [KK.out.size s0] at this; exact this
    have old : w.heap.size ≤ z.1 → B ≤ z.1 ∧ ∀ z0 ∈ L s0, z0.1 ≠ z.1 := fun h => ⟨Nat.le_trans hBw h, fun z0 hz0 e => by have := blk_lt (KL0.out z0 hz0); omega⟩
    simp only [List.mem_append, List.mem_cons, List.not_mem_nil, or_false] at hz
    rcases hz with rfl | (hz | rfl | rfl) | hz
    · exact old GW10.out
    · exact old (by have := (stOps_ge hz).1; omega)
    · exact old GW4.out
    · exact old GW8.out
    · exact (KE0.out z hz).2
  have m10 : (g10, mkOps b, 71) ∈ ((g10, mkOps b, 71) :: (stOps b ++ [(g4, gC G, 28), (g8, #[.int .i64 0, .int .i64 0, .int .i64 0, .int .i64 0, .int .i64 0, .slice none 0 0, .slice none 0 0, .slice none 0 0], 36)] ++ E0)) := List.mem_cons_self
  have mst : ∀ z ∈ stOps b, z ∈ ((g10, mkOps b, 71) :: (stOps b ++ [(g4, gC G, 28), (g8, #[.int .i64 0, .int .i64 0, .int .i64 0, .int .i64 0, .int .i64 0, .slice none 0 0, .slice none 0 0, .slice none 0 0], 36)] ++ E0)) := fun z hz => by simp [hz]
  have m4 : (g4, gC G, 28) ∈ ((g10, mkOps b, 71) :: (stOps b ++ [(g4, gC G, 28), (g8, #[.int .i64 0, .int .i64 0, .int .i64 0, .int .i64 0, .int .i64 0, .slice none 0 0, .slice none 0 0, .slice none 0 0], 36)] ++ E0)) := by simp
  have m8 : (g8, #[.int .i64 0, .int .i64 0, .int .i64 0, .int .i64 0, .int .i64 0, .slice none 0 0, .slice none 0 0, .slice none 0 0], 36) ∈ ((g10, mkOps b, 71) :: (stOps b ++ [(g4, gC G, 28), (g8, #[.int .i64 0, .int .i64 0, .int .i64 0, .int .i64 0, .int .i64 0, .slice none 0 0, .slice none 0 0, .slice none 0 0], 36)] ++ E0)) := by simp
  have mE0 : ∀ z ∈ E0, z ∈ ((g10, mkOps b, 71) :: (stOps b ++ [(g4, gC G, 28), (g8, #[.int .i64 0, .int .i64 0, .int .i64 0, .int .i64 0, .int .i64 0, .slice none 0 0, .slice none 0 0, .slice none 0 0], 36)] ++ E0)) := fun z hz => by simp [hz]
  clear HM
  have HM := HMs
  clear HMs
  generalize ((g10, mkOps b, 71) :: (stOps b ++ [(g4, gC G, 28), (g8, #[.int .i64 0, .int .i64 0, .int .i64 0, .int .i64 0, .int .i64 0, .slice none 0 0, .slice none 0 0, .slice none 0 0], 36)] ++ E0)) = EI at HM hEI m10 mst m4 m8 mE0
  have KEI := Aside0.mk hEI
  have KM := Aside0.mk (And.intro m10 (And.intro mst (And.intro m4 (And.intro m8 mE0))))
  clear hEI m10 mst m4 m8 mE0 hwb
  obtain ⟨Pd, hPd⟩ : ∃ P, P = (SeeP wb L B Rel I (.func (.func fs) #[] caps) EI G (.slice As sc.length cs) gb gr cr va sc S0 s0 N) := ⟨_, rfl⟩
  have KPd := Aside0.mk hPd
  have hst : Pd (.func (.func fs) #[] caps) N w7 := by rw [hPd]; exact ⟨Nat.le_refl _, true, s0, .slice none 0 0, by rw [Nat.sub_self]; exact Seen.start, fun _ => KI0.out, rfl, by rw [Nat.sub_self]; exact HM.out, KEI.out⟩
  have HP := Aside0.mk hst
  clear hst hPd HM
  (try simp only [Act.put, List.setIfInBounds_toArray, List.set_cons_zero, List.set_cons_succ])
  go_loopw [3, 11, 13] (fun v3 _ _ wr => ∃ d, Aside0 (Pd v3 d wr)) (fun v3 _ _ wr => dist (Pd v3) wr)
  case atStart => exact ⟨N, HP⟩
  case round =>
   rename World => wl
   clear HP
   obtain ⟨d0, hP0⟩ := hrel
   have hP1 := dist_spec hP0.out
   obtain ⟨d, hd⟩ : ∃ d, dist (Pd u3) wl = d := ⟨_, rfl⟩
   rw [hd] at hP1
   have KDd := Aside0.mk hd
   clear hd hP0
   rw [KPd.out] at hP1
   obtain ⟨hdN, flag, s, vm, hsn, hI, hv3, hm, hEI⟩ := hP1
   have KI := Aside0.mk hI
   clear hI
   have HM := Aside0.mk hm
   have KS := Aside0.mk hsn
   have KE := Aside0.mk hEI
   clear hm hsn hEI
   have c12 := HM.out.cell 12
   by_cases hz : d = 0
   · subst hz
     clear hv3
     have hs := KR.out.stop
     have KGd := Aside0.mk (KR.out.good N (Nat.le_refl _))
     rw [Nat.sub_zero] at HM c12 KS
     obtain ⟨S, hSN⟩ : ∃ S, stepN G sc S0 N = S := ⟨_, rfl⟩
     rw [hSN] at HM c12 hs KGd
     have KSN := Aside0.mk hSN
     clear hSN
     have eb : (S.en == 0) = false := beq_eq_false_iff_ne.mpr hs
     clear hs
     have h5r : G.l5.length ≤ S.regs.length := by have := KGd.out.regs; have := KD.out; omega
     have hsm : S.regs.length ≤ 100000 := by have := KGd.out.regs; have := KD.out; omega
     have hvr : Value.slice (some ⟨gr, 0, none⟩) G.regs.toNat cr = .slice (some ⟨gr, 0, none⟩) S.regs.length cr := by have := KGd.out.regs; rw [show G.regs.toNat = S.regs.length by omega]
     obtain ⟨A2, c2, ea2⟩ := HM.out.mem.arrSlice
     obtain ⟨A3, c3, ea3⟩ := HM.out.mem.markForm
     subst ea2
     subst ea3
     go_wp2_with (first | ((with_reducible refine gate_callee (f := 34) rfl ?_); refine goesL_ _ rfl rfl Try.func34 (by kernel_rfl) rfl #[.pointer (some ⟨gb, 0, none⟩)] rfl (by (try simp only [List.map_toArray, List.map_cons, List.map_nil]); first | done | rfl) ?_; refine (scalars_calls (mup HM).out h5r ⟨gr, cr, hvr⟩ hsm).mono ?_; rintro e w8 ⟨v, rfl, ho, hm, hb⟩; obtain ⟨row, er⟩ : ∃ r, S.regs.take G.l5.length = r := ⟨_, rfl⟩; rw [er] at ho; have ER := Aside0.mk er; clear er; obtain ⟨A1, c1, ev⟩ := Kd.R_slice ho; subst ev; have HO := Aside0.mk ho; have B8 := Aside0.mk (hm.fx _ (List.mem_append_right _ KM.out.2.2.2.1)).1; have N8 := Aside0.mk (hm.fx _ (List.mem_append_right _ KM.out.2.2.2.1)).2.2.2; have HX := Aside0.mk (hm.sub (E' := L s ++ E0) (fun z hz => (List.mem_append.1 hz).elim (fun hz => List.mem_append_left _ hz) (fun hz => List.mem_append_right _ (KM.out.2.2.2.2 z hz)))); clear HM ho hm hb; have HM := HX; clear HX; have f17 := HM.out.froz 17; have c12 := HM.out.cell 12; have c13 := HM.out.cell 13; have c14 := HM.out.cell 14; have c15 := HM.out.cell 15; have c16 := HM.out.cell 16; have c17 := HM.out.cell 17; have c18 := HM.out.cell 18; have c19 := HM.out.cell 19; refine ⟨_, rfl, ?_⟩) | ((with_reducible refine gate_store (p := 8) (t := 36) rfl ?_); refine Hold.out ?_))
     constructor
     have hm0 := HM.out.set 17 (.slice A1 row.length c1) rfl
     have ho0 := Kd.R_set HO.out HM.out.bx (fun q hq => by rw [List.mem_singleton.1 hq]; decide) 17 (.slice A1 row.length c1)
     have hb8 : (w8.setCell ⟨gb, 17, none⟩ (.slice A1 row.length c1)).heap[g8]? = _ := (Below.heap_setCell _ _ _ g8 N8.out).trans B8.out
     refine store_box rfl rfl rfl g8 36 _ #[.int .i64 S.en, .int .i64 S.site, .int .i64 S.kind, .int .i64 S.ticks, .int .i64 S.reads, .slice A1 row.length c1, .slice A2 S.arrs.length c2, .slice A3 S.marks.length c3] hb8 rfl rfl (by kernel_rfl) rfl (by kernel_rfl) ?_
     intro w11 hbs hgs
     have hm := hm0.side hb8 (by decide) (by decide) N8.out.symm (fun z hz => (List.mem_append.1 hz).elim (fun hz => (KE.out _ KM.out.2.2.2.1).2 z hz) (fun hz e => by have := blk_lt (KE0.out z hz).1; have := GW8.out; omega)) (by rw [KK.out.size s]; exact (KE.out _ KM.out.2.2.2.1).1) hgs
     have ho := R_boxed ho0 hb8 (fun q hq => by rw [List.mem_singleton.1 hq]; decide) hgs
     clear HM HO B8 hm0 ho0 hb8
     have HM := Aside0.mk hm
     have HO := Aside0.mk ho
     have B8 := Aside0.mk hbs
     clear hm ho hbs hgs
     go_wp2
     refine bodyPost_ret (results_cell_row rfl _ _ g8 36 _ (0, 0) _ rfl B8.out Try.underlying36 rfl (by kernel_rfl)) rfl ?_
     obtain ⟨okR, okA, h1, h2, h3, h4, h5⟩ := HM.out.mem.ex
     rw [KSN.out]
     have ho := HO.out
     rw [← ER.out] at ho
     exact ⟨⟨A1, c1, A2, c2, A3, c3, _, _, _, _, _, by rw [ER.out], ho, h2, h3⟩, flag, s, KS.out, by have := HM.out.mem.hb; rwa [KK.out.size s] at this, Nat.le_trans GW8.out (Nat.le_of_lt (blk_lt B8.out)), fun z hz => (HM.out.fx z (List.mem_append_left _ hz)).1, fun z hz => (HM.out.fx z (List.mem_append_right _ hz)).1⟩
   · have hgo := KR.out.go (N - d) (by omega)
     have KGd := Aside0.mk (KR.out.good (N - d) (by omega))
     have hnx : stepN G sc S0 (N - (d - 1)) = stepC G sc (stepN G sc S0 (N - d)) := by rw [show N - (d - 1) = (N - d) + 1 by omega]; rfl
     have KNX := Aside0.mk hnx
     clear hnx
     obtain ⟨S, hSd⟩ : ∃ S, stepN G sc S0 (N - d) = S := ⟨_, rfl⟩
     rw [hSd] at HM c12 hgo KGd KNX
     have KSd := Aside0.mk hSd
     clear hSd
     obtain ⟨ge, ga0, ga1⟩ := hgo
     have eb : (S.en == 0) = true := beq_iff_eq.mpr ge
     replace ge := Aside0.mk ge
     replace ga0 := Aside0.mk ga0
     replace ga1 := Aside0.mk ga1
     have hq : ∀ W : World, (binOp .neq 45 u3 .nilFunc).run Try.prog W = .ok (.bool flag) W := fun W => by
       cases flag
       · rw [show u3 = .nilFunc from hv3]; exact hfn W
       · rw [show u3 = .func (.func fs) #[] caps from hv3]; exact hfs W
     have hqg : ∀ W : World, (eqGuard .neq 45 (.tmp 26) (.const .nilFunc) u3 .nilFunc).run Try.prog W = .ok () W := fun W => by
       cases flag
       · rw [show u3 = .nilFunc from hv3]; rfl
       · rw [show u3 = .func (.func fs) #[] caps from hv3]; rfl
     have hq1 := hq wl
     have hq2 := hqg wl
     have HV3 := Aside0.mk hv3
     clear hv3
     go_upto_if 27 with fail
     clear c12 eb hq hq1 hqg hq2
     (try simp only [Act.put, List.setIfInBounds_toArray, List.set_cons_zero, List.set_cons_succ])
     go_cut [3, 11, 13] (fun v3 _ _ wc => ∃ (flag2 : Bool) (s2 : σ) (vm : Value), Aside0 (Seen Rel (stepN G sc S0) s0 (N - d + 1) flag2 s2) ∧ Aside0 (flag2 = true → I s2) ∧ v3 = (if flag2 = true then .func (.func fs) #[] caps else .nilFunc) ∧ Aside0 (MC (wb s2) wc (L s2 ++ EI) G (.slice As sc.length cs) gb (.slice (some ⟨gr, 0, none⟩) G.regs.toNat cr) va vm S) ∧ Aside0 (∀ z ∈ EI, B ≤ z.1 ∧ ∀ z0 ∈ L s2, z0.1 ≠ z.1))
     case first =>
      cases flag
      · have hv3 : u3 = .nilFunc := HV3.out
        clear HV3
        subst hv3
        go_wp2
        go_meet
        case rel => exact ⟨false, s, vm, ⟨Seen.past KS.out⟩, ⟨fun h => Bool.noConfusion h⟩, rfl, HM, KE⟩
      · have hv3 : u3 = .func (.func fs) #[] caps := HV3.out
        clear HV3
        subst hv3
        obtain ⟨A2, c2, ea2⟩ := HM.out.mem.arrSlice
        have HRD : Aside0 (Kd.C kL wl A2 S.arrs.length S.arrs) := ⟨by obtain ⟨okR, okA, h1, h2, h3⟩ := HM.out.mem.ex; rw [ea2] at h2; exact (Kd.S_reads' h2).2.2⟩
        have c18 : wl.cell? ⟨gb, 18, none⟩ = some (.slice A2 S.arrs.length c2) := (HM.out.cell 18).trans (show some va = _ by rw [ea2])
        clear ea2
        go_wp2
        clear c18
        go_loopw [11, 13, 34] (fun v11 _ v34 wr => ∃ (j : Nat) (A : Option Addr) (c : Nat), j ≤ S.arrs.length ∧ v11 = .slice A j c ∧ v34 = .int .i64 (j : Int) ∧ Aside0 (Kd.S kL 29 wr wl.heap.size (fun k => wl.heap.size ≤ k) (.slice A j c) (S.arrs.take j)) ∧ Aside0 (Below wl.heap.size wl wr)) (fun _ _ v34 _ => S.arrs.length - (intOf v34).toNat)
        case atStart => exact ⟨0, none, 0, Nat.zero_le _, rfl, rfl, ⟨Kd.S_nil _ _ _ _ _⟩, ⟨Below.refl _ _⟩⟩
        case round =>
         rename World => wj
         obtain ⟨j, A, c, hj, rfl, rfl, HS, HB⟩ := hrel
         by_cases hjl : j < S.arrs.length
         · have hlt : decide ((j : Int) < (S.arrs.length : Int)) = true := decide_eq_true (by omega)
           have HAL : Aside0 (S.arrs.length ≤ 1000) := ⟨by have := KGd.out.arrs; have := KF.out.parts.n6; omega⟩
           have hwj : IntKind.i64.wrap ((j : Int) + 1) = ((j + 1 : Nat) : Int) := (i64_w _).trans ((M.wrap64_in _ (by have := HAL.out; omega)).trans (by omega))
           obtain ⟨ad, Aj, cj, eA, xj, hcj, hCj⟩ := at_L9 (Kd.C_below HRD.out HB.out) (j : Int) (by omega) (by omega)
           subst eA
           obtain ⟨row, er0⟩ : ∃ r, rd_L9 S.arrs (j : Int) = r := ⟨_, rfl⟩
           rw [er0] at xj hcj hCj
           rw [Int.toNat_natCast] at xj
           have er := Aside0.mk er0
           have HRL : Aside0 (row.length ≤ 100000) := ⟨by have hz := KGd.out.sizes j (by have := KGd.out.arrs; omega); have h2 := (KF.out.parts.ar j (by have := KGd.out.arrs; omega)).2; rw [← er0]; have e3 : rd_L9 S.arrs (j : Int) = S.arrs.getD j [] := rfl; rw [e3]; omega⟩
           have HC := Aside0.mk hCj
           clear hCj er0
           have p1 : ((0 : Int) ≤ (j : Int)) = True := eq_true (by omega)
           have q1 : ((j : Int) < (S.arrs.length : Int)) = True := eq_true (by omega)
           have q2 : (j < S.arrs.length) = True := eq_true hjl
           go_wp2_with (first | ((with_reducible refine gate_dst (N := 39) rfl ?_); refine Kd.R_lit (Kd.int .i64) (w0 := wj) wj.heap.size 2 rfl (N := 39) rfl (xs := ([] : List Int)) (inner := []) (ok := fun k => wj.heap.size ≤ k) (okp := fun _ => False) ?hr (Reps.none _ _) (fun _ hk => hk.elim) (Nat.le_refl _) (Below.refl _ _) (Nat.le_refl _) (by simp) ?_; (case hr => first | (go_simp; done) | (go_simp; rfl)); intro v0 w1 ho hb _ _; have HO := Aside0.mk ho; have HB1 := Aside0.mk hb; clear ho hb) | ((with_reducible refine gate_builtin (b := .append) (xs := #[.tmp 39, .tmp 40]) rfl ?_); at_builtin; go_loud (refine Kd.R_append_rows (Kd.int .i64) (w0 := wj) wj.heap.size rfl (.tmp 39) (.tmp 40) 29 2 (.int .i64 0) 8 rfl Try.underlying29 info2 rfl (by decide) (by omega) v0 ([] : List Int) row Aj row.length cj (fun k => wj.heap.size ≤ k) (fun _ => False) rfl rfl HO.out (Kd.C_below HC.out HB1.out) (fun _ _ h => h) (fun _ h => h.elim) (fun k hk => Nat.le_trans HB1.out.size hk) HB1.out HB1.out.size (by have := HRL.out; simp; omega) ?_); intro v1 w2 ho hb _ _; rw [List.nil_append] at ho; obtain ⟨Av, cv, ev⟩ := Kd.R_slice ho; subst ev; have HO1 := Aside0.mk ho; have HB2 := Aside0.mk hb; clear ho hb HO HB1) | ((with_reducible refine gate_builtin (b := .append) (xs := #[.tmp 38, .tmp 42]) rfl ?_); at_builtin; go_loud (refine Kd.S_append kL (w0 := wl) wl.heap.size rfl (.tmp 38) (.tmp 42) 34 29 (.slice none 0 0) 24 rfl Try.underlying34 info29 rfl (by decide) (by omega) (.slice A j c) (S.arrs.take j) row [.slice Av row.length cv] (fun k => wl.heap.size ≤ k) (fun k => wj.heap.size ≤ k) rfl rfl ⟨_, rfl, Kd.R_lower HO1.out HB.out.size⟩ (fun k hk => ⟨Nat.le_trans HB.out.size hk, fun e => by have := Kd.R_lt (Kd.S_R HS.out) k e.symm; omega⟩) (fun k hk => Nat.le_trans HB.out.size (Nat.le_trans HB2.out.size hk)) (Kd.S_mono (Kd.S_below (Kd.S_bound HS.out) HB2.out) (fun k hk => ⟨hk.1, by have := hk.2.2.1; omega⟩)) (below_step HB.out HB2.out) (below_step HB.out HB2.out).size (by have := HAL.out; rw [List.length_take]; omega) ?_); intro v3 w3 hs hb _ _; obtain ⟨A3, c3, ev⟩ := Kd.S_slice hs; rw [take_rd hjl er.out] at ev hs; rw [List.length_take, Nat.min_eq_left (by omega)] at ev; subst ev; have HS3 := Aside0.mk hs; have HB3 := Aside0.mk hb; clear hs hb HO1 HB2))
           go_roundw
           case measure => simp [intOf] <;> omega
           case rel => exact ⟨j + 1, A3, c3, by omega, rfl, by first | rfl | simp, HS3, HB3⟩
         · have hj2 : j = S.arrs.length := by omega
           subst hj2
           have hlt : decide ((S.arrs.length : Int) < (S.arrs.length : Int)) = false := decide_eq_false (by omega)
           rw [List.take_length] at HS
           go_upto_region 11 with (fail)
           have e9 : G.regs.toNat = S.regs.length := by have := KGd.out.regs; omega
           have E9 := Aside0.mk e9
           clear e9
           have hS : ∀ (wx w' : World) (E' : List (Nat × Array Value × Nat)), MC wx w' E' G (.slice As sc.length cs) gb (.slice (some ⟨gr, 0, none⟩) G.regs.toNat cr) va vm S → (w'.cell? ⟨gb, 11, none⟩ = some (.int .i64 S.at_) ∧ w'.cell? ⟨gb, 10, none⟩ = some (.slice (some ⟨gr, 0, none⟩) G.regs.toNat cr) ∧ w'.cell? ⟨gb, 15, none⟩ = some (.int .i64 S.ticks)) := fun wx w' E' hm => ⟨hm.cell 11, hm.cell 10, hm.cell 15⟩
           have HM0 := HM
           clear HM
           have HM := Aside0.mk (HM0.out.below HB.out)
           have HMj := HM
           have HJ := Aside0.mk (Below.refl wj.heap.size wj)
           refine start_ (n := 19) (S := fun w' => w'.cell? ⟨gb, 11, none⟩ = some (.int .i64 S.at_) ∧ w'.cell? ⟨gb, 10, none⟩ = some (.slice (some ⟨gr, 0, none⟩) G.regs.toNat cr) ∧ w'.cell? ⟨gb, 15, none⟩ = some (.int .i64 S.ticks)) (ds := []) #[false, false, false, false, false, false, false, false, false, false, false, false, false, false, false, false, false, false, false] (by kernel_rfl) rfl rfl (hS _ _ _ HM.out.drew) (fun hHeld => ?_)
           refine with_tabW N15btab N15bbits (fun HT_ HW_ => ?_)
           replace HM := Aside0.mk HM.out.drew
           replace HJ := Aside0.mk (below_drew1 HJ.out)
           generalize World.drew _ = wa at HM HJ hHeld ⊢
           refine pureQ 0 45 HT_.out ?_
           refine pureQ 1 46 HT_.out ?_
           refine pureQ 2 47 HT_.out ?_
           refine pureQ 3 48 HT_.out ?_
           refine takeQ 4 49 HT_.out HW_.out hHeld ?_
           refine pureQ 6 51 HT_.out ?_
           refine pureQ 7 52 HT_.out ?_
           refine pureQ 8 53 HT_.out ?_
           refine takeQ 9 54 HT_.out HW_.out hHeld ?_
           refine pureQ 11 56 HT_.out ?_
           refine pureQ 12 57 HT_.out ?_
           refine pureQ 13 58 HT_.out ?_
           refine pureQ 14 59 HT_.out ?_
           refine pureQ 15 60 HT_.out ?_
           refine takeQ 16 61 HT_.out HW_.out hHeld ?_
           refine oneQ 5 50 HT_.out (fun K hK => ?_)
           refine Kd.R_lit_step (Kd.int .i64) (w0 := wj) wj.heap.size 2 rfl (N := 50) rfl (xs := ([] : List Int)) (inner := []) (ok := fun k => wj.heap.size ≤ k) (okp := fun _ => False) ?hr (Reps.none _ _) (fun _ hk => hk.elim) HJ.out.size HJ.out HJ.out.size (by simp) ?_; (case hr => first | (go_simp; done) | (go_simp; rfl))
           intro v0 wo ho hb hg _
           have HO := Aside0.mk ho
           replace HM := Aside0.mk (HM.out.below (below_none hg))
           replace HJ := Aside0.mk hb
           clear ho hb hg
           refine hK.out _ _ (hS _ _ _ HM.out) (fun hHeld => ?_)
           clear hK K
           refine normQ (N := 50) ?_
           refine oneQ 10 55 HT_.out (fun K hK => ?_)
           refine Kd.R_append_rows_step (Kd.int .i64) (w0 := wj) wj.heap.size (by rfl) (.tmp 50) (.tmp 54) 29 2 (.int .i64 0) 8 rfl Try.underlying29 info2 rfl (by decide) (by omega) v0 ([] : List Int) S.regs _ _ _ (fun k => wj.heap.size ≤ k) (fun _ => False) rfl rfl HO.out ?aR (fun _ _ h => h) (fun _ h => h.elim) (fun k hk => Nat.le_trans HJ.out.size hk) HJ.out HJ.out.size ?aL ?_
           case aR => exact HM.out.mem.regC
           case aL => have := KD.out; simp; omega
           intro v1 w1 ho hb hg hat
           rw [List.nil_append] at ho
           have HO1 := Aside0.mk ho
           replace HM := Aside0.mk (HMj.out.below hb)
           replace HJ := Aside0.mk hb
           clear ho hb hg hat HO
           refine hK.out _ _ (hS _ _ _ HM.out) (fun hHeld => ?_)
           clear hK K
           refine normQ (N := 55) ?_
           refine oneQ 17 62 HT_.out (fun K hK => ?_)
           obtain ⟨fn, e1, e2, e3⟩ := KK.out.fn
           refine goesQD e1 (#[.int .i64 S.at_, v1, .slice A S.arrs.length c, .int .i64 S.ticks] ++ caps) ?_ e2 e3 rfl (by simp [Act.eval]) rfl
           have hbl := below_step HB.out HJ.out
           have hbb := HM.out.mem.hb
           rw [KK.out.size s] at hbb
           refine (KK.out.does s _ wl.heap.size S.at_ S.ticks S.regs S.arrs v1 (.slice A S.arrs.length c) (fun k => wj.heap.size ≤ k) (fun k => wl.heap.size ≤ k ∧ k < wj.heap.size) (by first | exact KI.out rfl | exact KI.out trivial) (by have := KD.out; have := KGd.out.regs; omega) (by have := KGd.out.arrs; have := KF.out.parts.n6; omega) (good_rows KF.out KGd.out) hbb (fun z hz => ⟨(HM.out.fx z (List.mem_append_left _ hz)).1, blk_lt (HM0.out.fx z (List.mem_append_left _ hz)).1⟩) (by have := HM0.out.mem.hb.size; rw [KK.out.size s] at this; exact this) hbl.size (Kd.R_lower HO1.out HB.out.size) (Kd.S_mono (Kd.S_below (Kd.S_bound HS.out) HJ.out) (fun k hk => ⟨hk.1, hk.2.2.1⟩)) (fun k h1 h2 => by have := h2.2; omega)).mono ?_
           rintro e W2 ⟨b2, s', rfl, hrel2, hI2, hbw, hsz2, hkeep, hL2⟩
           refine ⟨_, rfl, ?_⟩
           have HN := Aside0.mk (HM0.out.swapE (w' := wb s') (W' := W2) (L' := L s') (by rw [KK.out.size s, KK.out.size s']) (by rw [KK.out.size s']; exact hbw) hsz2 (fun k h1 h2 h3 => (hkeep k (by rw [KK.out.size s] at h1; exact h1) h2 h3).trans (hbl.block k h2)) (by rw [KK.out.size s]; exact hL2) (by rw [KK.out.size s]; exact KE.out))
           have KE2 : Aside0 (∀ z ∈ EI, B ≤ z.1 ∧ ∀ z0 ∈ L s', z0.1 ≠ z.1) := by
             refine ⟨fun z hz => ⟨(KE.out z hz).1, fun z0 hz0 e => ?_⟩⟩
             have h1 := (KE.out z hz).1
             have h2 := blk_lt (HM0.out.fx z (List.mem_append_right _ hz)).1
             rcases (hL2 z0 hz0).2 with hh | ⟨z1, hz1, e1⟩ | hh
             · omega
             · exact (KE.out z hz).2 z1 hz1 (e1.trans e)
             · omega
           have KR2 := Aside0.mk hrel2
           have KI2 := Aside0.mk hI2
           clear hI2 hrel2 hbw hsz2 hkeep hL2 hbl hbb HM HO1 HJ
           have HM := HN
           clear HN
           refine hK.out _ _ (hS _ _ _ HM.out) (fun hHeld => ?_)
           clear hK K
           refine normQ (N := 62) ?_
           refine pureQ 18 63 HT_.out ?_
           refine done_ (done_of HT_.out (by kernel_rfl)) ?_
           clear hHeld HT_ HW_
           clear hS
           have hsee := Seen.see KS.out (by rw [KSd.out]; exact KR2.out)
           replace hsee := Aside0.mk hsee
           clear KR2
           cases b2
           · go_wp2
             go_meet
             case rel => exact ⟨false, s', vm, hsee, ⟨fun h => Bool.noConfusion h⟩, rfl, HM, KE2⟩
           · go_wp2
             go_meet
             case rel => exact ⟨true, s', vm, hsee, ⟨fun _ => by first | exact KI2.out rfl | exact KI2.out trivial⟩, rfl, HM, KE2⟩
     case rest =>
      clear HM KS KE HV3
      obtain ⟨flag2, s2, vm2, KS2, KIr, hv2, HM, KE2⟩ := hcut
      have HV := Aside0.mk hv2
      clear hv2
      go_upto_region 13 with (fail)
      obtain ⟨y, hy⟩ : ∃ y, rd_T52 G.l0 S.at_ = y := ⟨_, rfl⟩
      obtain ⟨ad0, ee0, _⟩ := at_T52 (((KG.out s2).below HM.out.mem.hb).h0) S.at_ ga0.out ga1.out
      have p1 := eq_true ga0.out
      have q1 := eq_true ga1.out
      have q2 : (S.at_.toNat < G.l0.length) = True := eq_true (by have := ga0.out; have := ga1.out; omega)
      have hS : ∀ w' : World, MC (wb s2) w' (L s2 ++ EI) G (.slice As sc.length cs) gb (.slice (some ⟨gr, 0, none⟩) G.regs.toNat cr) va vm2 S → (w'.cell? ⟨g4, 0, none⟩ = some (.slice (some ad0) G.l0.length G.c0) ∧ w'.cell? ⟨gb, 11, none⟩ = some (.int .i64 S.at_) ∧ w'.cell? (ad0.add (S.at_.toNat * 8)) = some (.int .i64 y.f0) ∧ w'.cell? ⟨(ad0.add (S.at_.toNat * 8)).block, (ad0.add (S.at_.toNat * 8)).off + 1, none⟩ = some (.int .i64 y.f1) ∧ w'.cell? ⟨(ad0.add (S.at_.toNat * 8)).block, (ad0.add (S.at_.toNat * 8)).off + 2, none⟩ = some (.int .i64 y.f2) ∧ w'.cell? ⟨(ad0.add (S.at_.toNat * 8)).block, (ad0.add (S.at_.toNat * 8)).off + 3, none⟩ = some (.int .i64 y.f3) ∧ w'.cell? ⟨(ad0.add (S.at_.toNat * 8)).block, (ad0.add (S.at_.toNat * 8)).off + 4, none⟩ = some (.int .i64 y.f4) ∧ w'.cell? ⟨(ad0.add (S.at_.toNat * 8)).block, (ad0.add (S.at_.toNat * 8)).off + 5, none⟩ = some (.int .i64 y.f5) ∧ w'.cell? ⟨(ad0.add (S.at_.toNat * 8)).block, (ad0.add (S.at_.toNat * 8)).off + 6, none⟩ = some (.int .i64 y.f6.f0) ∧ w'.cell? ⟨(ad0.add (S.at_.toNat * 8)).block, (ad0.add (S.at_.toNat * 8)).off + 7, none⟩ = some (.int .i64 y.f6.f1)) := fun w' hm => ⟨((blk_cell (hm.fx _ (List.mem_append_right _ KM.out.2.2.1)).1 0).trans rfl).trans (by rw [← ee0]; rfl), hm.cell 11, hm.code (KG.out s2) ⟨ga0.out, ga1.out⟩ ee0 hy⟩
      refine start_ (n := 10) (S := fun w' => w'.cell? ⟨g4, 0, none⟩ = some (.slice (some ad0) G.l0.length G.c0) ∧ w'.cell? ⟨gb, 11, none⟩ = some (.int .i64 S.at_) ∧ w'.cell? (ad0.add (S.at_.toNat * 8)) = some (.int .i64 y.f0) ∧ w'.cell? ⟨(ad0.add (S.at_.toNat * 8)).block, (ad0.add (S.at_.toNat * 8)).off + 1, none⟩ = some (.int .i64 y.f1) ∧ w'.cell? ⟨(ad0.add (S.at_.toNat * 8)).block, (ad0.add (S.at_.toNat * 8)).off + 2, none⟩ = some (.int .i64 y.f2) ∧ w'.cell? ⟨(ad0.add (S.at_.toNat * 8)).block, (ad0.add (S.at_.toNat * 8)).off + 3, none⟩ = some (.int .i64 y.f3) ∧ w'.cell? ⟨(ad0.add (S.at_.toNat * 8)).block, (ad0.add (S.at_.toNat * 8)).off + 4, none⟩ = some (.int .i64 y.f4) ∧ w'.cell? ⟨(ad0.add (S.at_.toNat * 8)).block, (ad0.add (S.at_.toNat * 8)).off + 5, none⟩ = some (.int .i64 y.f5) ∧ w'.cell? ⟨(ad0.add (S.at_.toNat * 8)).block, (ad0.add (S.at_.toNat * 8)).off + 6, none⟩ = some (.int .i64 y.f6.f0) ∧ w'.cell? ⟨(ad0.add (S.at_.toNat * 8)).block, (ad0.add (S.at_.toNat * 8)).off + 7, none⟩ = some (.int .i64 y.f6.f1)) (ds := []) #[false, false, false, false, false, false, false, false, false, false] (by kernel_rfl) rfl rfl (hS _ HM.out.drew) (fun hHeld => ?_)
      refine with_tabW N15tab N15bits (fun HT_ HW_ => ?_)
      replace HM := Aside0.mk HM.out.drew
      generalize World.drew _ = wa at HM hHeld ⊢
      refine pureQ 0 64 HT_.out ?_
      refine takeQ 1 65 HT_.out HW_.out hHeld ?_
      refine pureQ 2 66 HT_.out ?_
      refine pureQ 3 67 HT_.out ?_
      refine pureQ 4 68 HT_.out ?_
      refine takeQ 5 69 HT_.out HW_.out hHeld ?_
      refine pureQ 6 70 HT_.out ?_
      refine takeQ 7 71 HT_.out HW_.out hHeld ?_
      refine oneQ 8 14 HT_.out (fun K hK => ?_)
      refine box_step ?hg (N := 14) ?hd (cs := #[.int .i64 0, .int .i64 0, .int .i64 0, .int .i64 0, .int .i64 0, .int .i64 0, .int .i64 0, .int .i64 0]) (t := 52) ?hr ?_; (case hd => rfl); (case hg => rfl); (case hr => first | (go_simp; done) | (go_simp; rfl))
      intro gi hg w6' hbox hb
      have NG := Aside0.mk (HM.out.new hg)
      have NE := Aside0.mk (HM.out.newE hg)
      have GE : Aside0 ((wb s2).heap.size ≤ gi) := ⟨by rw [hg]; exact HM.out.mem.hb.size⟩
      replace HM := Aside0.mk (HM.out.below hb)
      have BK := Aside0.mk hbox
      clear hb hbox hg
      refine hK.out _ _ (hS _ HM.out) (fun hHeld => ?_)
      clear hK K
      refine normQ (N := 14) ?_
      refine one_ (i := 9) (N := none) #[true, true, true, true, true, true, true, true, true, true] rfl rfl (one_of HT_.out (by kernel_rfl)) (by decide) (fun K hK => ?_)
      obtain ⟨wz, hwz⟩ : ∃ wz, wz = ((((((((w6').setCell ⟨gi, 0, none⟩ (.int .i64 y.f0)).setCell ⟨gi, 1, none⟩ (.int .i64 y.f1)).setCell ⟨gi, 2, none⟩ (.int .i64 y.f2)).setCell ⟨gi, 3, none⟩ (.int .i64 y.f3)).setCell ⟨gi, 4, none⟩ (.int .i64 y.f4)).setCell ⟨gi, 5, none⟩ (.int .i64 y.f5)).setCell ⟨gi, 6, none⟩ (.int .i64 y.f6.f0)).setCell ⟨gi, 7, none⟩ (.int .i64 y.f6.f1) := ⟨_, rfl⟩
      obtain ⟨z1, z2⟩ := set8g BK.out _ _ _ _ _ _ _ _ wz hwz
      have hcf := hcf8 BK
      obtain ⟨_, _, _, _, _, _, _, _, _, _, _, _, _, _, _, _⟩ := hcf
      refine skip_ (w1 := wz) (by rfl) rfl (by rw [hwz]; go_simp) ?_
      clear hwz
      replace HM := Aside0.mk (HM.out.side BK.out (by decide) (by decide) NG.out NE.out GE.out z2)
      clear BK
      have BK := Aside0.mk z1
      clear z1 z2
      refine hK.out _ _ (hS _ HM.out) (fun hHeld => ?_)
      clear hK K
      refine done_ (done_of HT_.out (by kernel_rfl)) ?_
      clear hHeld HT_ HW_
      clear hS p1 q1 q2 NE GE ee0
      have hcf := hcf8 BK
      obtain ⟨_, _, _, _, _, _, _, _, _, _, _, _, _, _, _, _⟩ := hcf
      have c11 := HM.out.cell 11
      have f11 := HM.out.froz 11
      go_upto_region 15 with (first | ((with_reducible refine gate_store (p := 77) (t := 3) rfl ?_); refine store_event (t := 3) (p := 77) (v := ?vf7) (w1 := wz.setCell ⟨gb, 11, none⟩ (.int .i64 y.f6.f0)) ?hg ?ho ?hn ?hr ?_; (case ho => rfl); (case hg => rfl); (case hn => rfl); (case hr => first | (go_simp; done) | (go_simp; rfl)); intro w9 hw; have hm : MC (wb s2) _ (L s2 ++ EI) G (.slice As sc.length cs) gb (.slice (some ⟨gr, 0, none⟩) G.regs.toNat cr) va vm2 { S with at_ := y.f6.f0 } := HM.out.set 11 (.int .i64 y.f6.f0) rfl; rw [← hw] at hm; replace BK : Aside0 (w9.heap[gi]? = some (.cells #[.int .i64 y.f0, .int .i64 y.f1, .int .i64 y.f2, .int .i64 y.f3, .int .i64 y.f4, .int .i64 y.f5, .int .i64 y.f6.f0, .int .i64 y.f6.f1] 52 (0, 0))) := ⟨by rw [hw]; exact (Below.heap_setCell _ _ _ gi (fun e => NG.out e.symm)).trans BK.out⟩; clear HM hw; have HM := Aside0.mk hm; clear hm))
      clear c11 f11
      have hgd : Good G sc { S with at_ := y.f6.f0 } := ⟨KGd.out.regs, KGd.out.fuel, KGd.out.reads, KGd.out.arrs, KGd.out.sizes⟩
      have hvr : ∃ a b, Value.slice (some ⟨gr, 0, none⟩) G.regs.toNat cr = .slice (some ⟨a, 0, none⟩) S.regs.length b := ⟨gr, cr, by have := KGd.out.regs; rw [show G.regs.toNat = S.regs.length by omega]⟩
      obtain ⟨c, fd, caps2, ec, hc22, hmk, ⟨fnn, e1, e2, e3⟩, hcall⟩ := op_calls (S := { S with at_ := y.f6.f0 }) HM.out.drew rfl (KG.out s2) (KC.out s2) hl KF.out hgd hvr (b := b) (fun z hz => List.mem_append_right _ (KM.out.2.1 z hz)) (p := S.at_.toNat) (by have := ga0.out; have := ga1.out; omega) (y := y) (by rw [show ((S.at_.toNat : Nat) : Int) = S.at_ by have := ga0.out; omega]; exact hy)
      have HC := Aside0.mk hcall
      clear hcall hgd hvr
      have kc : w9.cell? ⟨g10, y.f0.toNat, none⟩ = some (.func (.func fd) #[] caps2) := by rw [show y.f0.toNat = c by omega]; exact (blk_cell (HM.out.fx _ (List.mem_append_right _ KM.out.1)).1 c).trans hmk
      have k1 : ((0 : Int) ≤ y.f0) = True := eq_true (by omega)
      have k2 : (y.f0 < (22 : Int)) = True := eq_true (by omega)
      have k3 : (y.f0.toNat < 22) = True := eq_true (by omega)
      have KEC := Aside0.mk ec
      clear ec hmk hc22
      have hcf := hcf8 BK
      obtain ⟨_, _, _, _, _, _, _, _, _, _, _, _, _, _, _, _⟩ := hcf
      go_still_tail 6, (by kernel_rfl)
      change wpList _ _ _ _ _ w9.drew
      go_wp2_with (first | ((with_reducible refine gate_dst (N := 84) rfl ?_); refine goesLD (some 84) rfl rfl e1 (#[.pointer (some ⟨gb, 0, none⟩), .agg #[.int .i64 y.f0, .int .i64 y.f1, .int .i64 y.f2, .int .i64 y.f3, .int .i64 y.f4, .int .i64 y.f5, .int .i64 y.f6.f0, .int .i64 y.f6.f1]] ++ caps2) rfl rfl (by simp [Act.eval]) e2 e3 ?_; refine HC.out.mono ?_; rintro e w10 ⟨⟨v0, rfl⟩, vm3, hm2⟩; have HN := Aside0.mk hm2; clear HM hm2; refine ⟨_, rfl, ?_⟩))
      have hp : Pd u3 (d - 1) w10 := by rw [KPd.out]; exact ⟨by omega, flag2, s2, vm3, by rw [show N - (d - 1) = N - d + 1 by omega]; exact KS2.out, KIr.out, HV.out, by rw [KNX.out]; unfold stepC; rw [hy]; exact HN.out, KE2.out⟩
      (try simp only [Act.put, List.setIfInBounds_toArray, List.set_cons_zero, List.set_cons_succ])
      go_roundw
      case measure => show dist (Pd u3) w10 < dist _ wl; exact Nat.lt_of_le_of_lt (dist_le hp) (by show d - 1 < dist (Pd _) wl; rw [KDd.out]; omega)
      case rel => exact ⟨d - 1, ⟨hp⟩⟩
end Go.Proofs.Ytcalcbeonbfkmaa.P
/- What the law's proof needs of G15. -/
namespace Go.Proofs.Ytcalcbeonbfkmaa.P
open Go.RowKit Go.Proofs.YtcalcbeonbfkmaaW.PrintWords Go.Proofs.YtcalcbeonbfkmaaW.PrintLast Go.Proofs.YtcalcbeonbfkmaaW.PrintMore Go.Proofs.YtcalcbeonbfkmaaO
attribute [local go_sem] max2_int min2_int max_two min_two max_three min_three max_four min_four
set_option linter.unusedVariables false
set_option linter.unusedSimpArgs false
def ctr0 : List S52 := [⟨17, 0, 0, 0, 0, 0, ⟨1, -1⟩⟩, ⟨1, 1, 0, 0, 1, 0, ⟨2, -1⟩⟩, ⟨4, 2, 0, 1, 0, 1, ⟨3, -1⟩⟩, ⟨13, 0, 2, 0, 0, 2, ⟨4, -1⟩⟩, ⟨18, 0, 0, 0, 0, 0, ⟨0, -1⟩⟩]
def ctr5 (x : Int) : List S83 := [⟨⟨#[120]⟩, 1, x⟩]
def ctr7 : List S77 := [⟨0, 0⟩, ⟨0, 2⟩, ⟨0, 2⟩]
/-- The graph of awake's counter. -/
def ctr (A0 : Option Addr) (c0 : Nat) (A5 : Option Addr) (c5 : Nat) (A7 : Option Addr) (c7 : Nat) (x : Int) : Gr := ⟨A0, c0, ctr0, 0, 3, 0, none, 0, [], A5, c5, ctr5 x, none, 0, [], A7, c7, ctr7⟩
section
variable {α : Type} {d : Kd α} {e base : Nat} {ok : Nat → Prop} {w' W2 : World} {A : Option Addr} {n c : Nat} {xs : List α}
theorem C_far (h : d.R e w' base ok (.slice A n c) xs) (hk : ∀ k, base ≤ k → k < w'.heap.size → W2.heap[k]? = w'.heap[k]?) : d.C W2 A xs.length xs :=
  (Kd.R_reads' (Kd.R_step (Kd.R_bound h) (fun k h1 h2 => hk k h1.2.1 h2))).2.2
end
theorem C_none {α : Type} (d : Kd α) (w : World) : Kd.C d w none 0 [] := (Kd.R_reads' (Kd.R_nil d 0 w 0 (fun _ => True))).2.2
set_option maxHeartbeats 8000000 in
set_option maxRecDepth 100000 in
theorem counter_calls (x : Int) (w : World) : Calls Try.prog 25 #[.int .i64 x] w fun e w' => ∃ A0 c0 A5 c5 A7 c7, e = .returned (ctr A0 c0 A5 c5 A7 c7 x).v ∧ (∀ W2 : World, (∀ k, w.heap.size ≤ k → k < w'.heap.size → W2.heap[k]? = w'.heap[k]?) → (ctr A0 c0 A5 c5 A7 c7 x).Held W2) ∧ Below w.heap.size w w' := by
  have hu28 := Try.underlying28
  have hu52 := Try.underlying52
  have hu50 := Try.underlying50
  have hu83 := Try.underlying83
  have hu77 := Try.underlying77
  have HB := Aside0.mk (Below.refl w.heap.size w)
  go_enter Try.func25, Try.ntmps25
  go_wp2_with (first | ((with_reducible refine gate_dst (N := 2) rfl ?_); refine boxQ 2 #[.slice none 0 0, .int .i64 0, .int .i64 0, .int .i64 0, .slice none 0 0, .slice none 0 0, .slice none 0 0, .slice none 0 0] 28 HB ?_; clear HB; intro g2 w1 _ GW B2 _ HB) | ((with_reducible refine gate_dst (N := 14) rfl ?_); go_loud (refine Kd.R_lit k52 (w0 := w) w.heap.size 52 rfl (N := 14) rfl (xs := ctr0) (inner := [.int .i64 (17), .int .i64 (0), .int .i64 (0), .int .i64 (0), .int .i64 (0), .int .i64 (0), .int .i64 (1), .int .i64 (-1), .int .i64 (1), .int .i64 (1), .int .i64 (0), .int .i64 (0), .int .i64 (1), .int .i64 (0), .int .i64 (2), .int .i64 (-1), .int .i64 (4), .int .i64 (2), .int .i64 (0), .int .i64 (1), .int .i64 (0), .int .i64 (1), .int .i64 (3), .int .i64 (-1), .int .i64 (13), .int .i64 (0), .int .i64 (2), .int .i64 (0), .int .i64 (0), .int .i64 (2), .int .i64 (4), .int .i64 (-1), .int .i64 (18), .int .i64 (0), .int .i64 (0), .int .i64 (0), .int .i64 (0), .int .i64 (0), .int .i64 (0), .int .i64 (-1)]) (ok := fun _ => True) (okp := fun _ => False) ?hr14 (by refine Reps.c8 (k52_mkM _ _ _ ⟨17, 0, 0, 0, 0, 0, ⟨1, -1⟩⟩) ?_; refine Reps.c8 (k52_mkM _ _ _ ⟨1, 1, 0, 0, 1, 0, ⟨2, -1⟩⟩) ?_; refine Reps.c8 (k52_mkM _ _ _ ⟨4, 2, 0, 1, 0, 1, ⟨3, -1⟩⟩) ?_; refine Reps.c8 (k52_mkM _ _ _ ⟨13, 0, 2, 0, 0, 2, ⟨4, -1⟩⟩) ?_; refine Reps.c8 (k52_mkM _ _ _ ⟨18, 0, 0, 0, 0, 0, ⟨0, -1⟩⟩) ?_; exact Reps.none _ _) (fun _ hk => hk.elim) trivial (bpk HB).out (bpk HB).out.size (by simp [ctr0, ctr5, ctr7]) ?_); (case hr14 => first | (go_simp; done) | (go_simp; rfl)); intro v14 w14 ho hb hg _; obtain ⟨A14, c14, ev⟩ := Kd.R_slice ho; subst ev; replace B2 := bbw B2 (below_none hg); clear HB; have HB := Aside0.mk hb; have H14 := Aside0.mk ho; clear ho hb hg) | ((with_reducible refine gate_dst (N := 18) rfl ?_); go_loud (refine Kd.R_lit k83 (w0 := w) w.heap.size 83 rfl (N := 18) rfl (xs := ctr5 x) (inner := [.string ⟨#[120]⟩, .int .i64 1, .int .i64 x]) (ok := fun _ => True) (okp := fun _ => False) ?hr18 (Reps.c3 (k83_mkM _ _ _ ⟨⟨#[120]⟩, 1, x⟩) (Reps.none _ _)) (fun _ hk => hk.elim) trivial (bpk HB).out (bpk HB).out.size (by simp [ctr0, ctr5, ctr7]) ?_); (case hr18 => first | (go_simp; done) | (go_simp; rfl)); intro v18 w18 ho hb hg _; obtain ⟨A18, c18, ev⟩ := Kd.R_slice ho; subst ev; replace H14 := Aside0.mk (Kd.R_below H14.out (below_none hg)); replace B2 := bbw B2 (below_none hg); clear HB; have HB := Aside0.mk hb; have H18 := Aside0.mk ho; clear ho hb hg) | ((with_reducible refine gate_dst (N := 22) rfl ?_); go_loud (refine Kd.R_lit k77 (w0 := w) w.heap.size 77 rfl (N := 22) rfl (xs := ctr7) (inner := [.int .i64 0, .int .i64 0, .int .i64 0, .int .i64 2, .int .i64 0, .int .i64 2]) (ok := fun _ => True) (okp := fun _ => False) ?hr22 (Reps.c2 (k77_mkM _ _ _ ⟨0, 0⟩) (Reps.c2 (k77_mkM _ _ _ ⟨0, 2⟩) (Reps.c2 (k77_mkM _ _ _ ⟨0, 2⟩) (Reps.none _ _)))) (fun _ hk => hk.elim) trivial (bpk HB).out (bpk HB).out.size (by simp [ctr0, ctr5, ctr7]) ?_); (case hr22 => first | (go_simp; done) | (go_simp; rfl)); intro v22 w22 ho hb hg _; obtain ⟨A22, c22, ev⟩ := Kd.R_slice ho; subst ev; replace H14 := Aside0.mk (Kd.R_below H14.out (below_none hg)); replace H18 := Aside0.mk (Kd.R_below H18.out (below_none hg)); replace B2 := bbw B2 (below_none hg); clear HB; have HB := Aside0.mk hb; have H22 := Aside0.mk ho; clear ho hb hg) | ((with_reducible refine gate_store (p := 2) (t := 28) rfl ?_); refine store_box rfl rfl rfl g2 28 _ #[.slice A14 ctr0.length c14, .int .i64 0, .int .i64 3, .int .i64 0, .slice none 0 0, .slice A18 (ctr5 x).length c18, .slice none 0 0, .slice A22 ctr7.length c22] (pkA B2).out rfl rfl (by kernel_rfl) rfl (by kernel_rfl) ?_; intro w4 hbs hgs; have h14 := R_boxed H14.out (pkA B2).out (fun q hq => by rw [List.mem_singleton.1 hq]; decide) hgs; have h18 := R_boxed H18.out (pkA B2).out (fun q hq => by rw [List.mem_singleton.1 hq]; decide) hgs; have h22 := R_boxed H22.out (pkA B2).out (fun q hq => by rw [List.mem_singleton.1 hq]; decide) hgs; have hw := Below_boxed (bpk HB).out (Nat.le_refl _) GW.out hgs; clear B2 HB H14 H18 H22; have B2 := Aside0.mk hbs; have KH := Aside0.mk (And.intro h14 (And.intro h18 (And.intro h22 hw))); clear hbs h14 h18 h22 hw hgs))
  refine bodyPost_ret (results_cell_row rfl _ _ g2 28 _ (0, 0) _ rfl B2.out Try.underlying28 rfl (by kernel_rfl)) rfl ?_
  refine ⟨A14, c14, A18, c18, A22, c22, rfl, fun W2 hk => ⟨C_far KH.out.1 hk, C_none _ _, C_far KH.out.2.1 hk, C_none _ _, C_far KH.out.2.2.1 hk, (by simp [ctr, ctr0]), (by simp [ctr, ctr5]), (by simp [ctr, ctr7])⟩, KH.out.2.2.2⟩
theorem ctr_fit (A0 : Option Addr) (c0 : Nat) (A5 : Option Addr) (c5 : Nat) (A7 : Option Addr) (c7 : Nat) (x : Int) : FitOK (ctr A0 c0 A5 c5 A7 c7 x) := by
  have five : ∀ {P : Nat → Prop}, P 0 → P 1 → P 2 → P 3 → P 4 → ∀ p : Nat, p < (ctr A0 c0 A5 c5 A7 c7 x).l0.length → P p := fun h0 h1 h2 h3 h4 p hp => by
    have hp : p < 5 := hp
    rcases (show p = 0 ∨ p = 1 ∨ p = 2 ∨ p = 3 ∨ p = 4 by omega) with rfl | rfl | rfl | rfl | rfl <;> assumption
  refine ⟨of_decide_eq_true rfl, of_decide_eq_true rfl, of_decide_eq_true rfl, of_decide_eq_true rfl, rfl, ⟨of_decide_eq_true rfl, of_decide_eq_true rfl, of_decide_eq_true rfl, of_decide_eq_true rfl, fun j hj => ?_, fun j hj => absurd hj (Nat.not_lt_zero j)⟩, ⟨[1, 2], ⟨rfl, of_decide_eq_true rfl, ?_, ?_⟩, ?_⟩, ⟨fun p => if p = 0 then 0 else 5 - p, ?_⟩⟩
  · have hj : j < 1 := hj
    obtain rfl : j = 0 := by omega
    exact ⟨of_decide_eq_true rfl, of_decide_eq_true rfl⟩
  · refine five ?_ ?_ ?_ ?_ ?_
    · exact fun h => absurd h (of_decide_eq_true rfl)
    · exact fun _ => ⟨0, of_decide_eq_true rfl, rfl, rfl⟩
    · exact fun _ => ⟨1, of_decide_eq_true rfl, rfl, rfl⟩
    · exact fun h => absurd h (of_decide_eq_true rfl)
    · exact fun h => absurd h (of_decide_eq_true rfl)
  · intro j hj
    have hj : j < 2 := hj
    rcases (show j = 0 ∨ j = 1 by omega) with rfl | rfl
    · exact ⟨1, of_decide_eq_true rfl, rfl, of_decide_eq_true rfl⟩
    · exact ⟨2, of_decide_eq_true rfl, rfl, of_decide_eq_true rfl⟩
  · refine five ?_ ?_ ?_ ?_ ?_
    · exact ⟨of_decide_eq_true rfl, fun _ => rfl, fun h => absurd h (of_decide_eq_true rfl), of_decide_eq_true rfl, fun h => absurd h (of_decide_eq_true rfl), fun h => absurd h (of_decide_eq_true rfl), fun h => absurd h (of_decide_eq_true rfl), fun h => absurd h (of_decide_eq_true rfl), fun h => absurd h (of_decide_eq_true rfl), fun h => absurd h (of_decide_eq_true rfl), fun h => absurd h (of_decide_eq_true rfl), fun h => absurd h (of_decide_eq_true rfl), fun h => absurd h (of_decide_eq_true rfl)⟩
    · exact ⟨of_decide_eq_true rfl, fun h => absurd h (of_decide_eq_true rfl), fun h => absurd h (of_decide_eq_true rfl), of_decide_eq_true rfl, fun h => absurd h (of_decide_eq_true rfl), fun h => absurd h (of_decide_eq_true rfl), fun h => absurd h (of_decide_eq_true rfl), fun h => absurd h (of_decide_eq_true rfl), fun h => absurd h (of_decide_eq_true rfl), fun h => absurd h (of_decide_eq_true rfl), fun h => absurd h (of_decide_eq_true rfl), fun _ => ⟨of_decide_eq_true rfl, of_decide_eq_true rfl⟩, fun h => absurd h (of_decide_eq_true rfl)⟩
    · exact ⟨of_decide_eq_true rfl, fun h => absurd h (of_decide_eq_true rfl), fun h => absurd h (of_decide_eq_true rfl), of_decide_eq_true rfl, fun h => absurd h (of_decide_eq_true rfl), fun _ => ⟨⟨of_decide_eq_true rfl, of_decide_eq_true rfl, fun h => absurd h (of_decide_eq_true rfl)⟩, ⟨of_decide_eq_true rfl, of_decide_eq_true rfl, fun _ => of_decide_eq_true rfl⟩⟩, fun h => absurd h (of_decide_eq_true rfl), fun h => absurd h (of_decide_eq_true rfl), fun h => absurd h (of_decide_eq_true rfl), fun h => absurd h (of_decide_eq_true rfl), fun h => absurd h (of_decide_eq_true rfl), fun h => absurd h (of_decide_eq_true rfl), fun h => absurd h (of_decide_eq_true rfl)⟩
    · exact ⟨of_decide_eq_true rfl, fun h => absurd h (of_decide_eq_true rfl), fun h => absurd h (of_decide_eq_true rfl), of_decide_eq_true rfl, fun _ => ⟨of_decide_eq_true rfl, of_decide_eq_true rfl, fun _ => of_decide_eq_true rfl⟩, fun h => absurd h (of_decide_eq_true rfl), fun h => absurd h (of_decide_eq_true rfl), fun h => absurd h (of_decide_eq_true rfl), fun h => absurd h (of_decide_eq_true rfl), fun h => absurd h (of_decide_eq_true rfl), fun _ => ⟨of_decide_eq_true rfl, of_decide_eq_true rfl⟩, fun h => absurd h (of_decide_eq_true rfl), fun h => absurd h (of_decide_eq_true rfl)⟩
    · exact ⟨of_decide_eq_true rfl, fun h => absurd h (of_decide_eq_true rfl), fun h => absurd h (of_decide_eq_true rfl), of_decide_eq_true rfl, fun h => absurd h (of_decide_eq_true rfl), fun h => absurd h (of_decide_eq_true rfl), fun h => absurd h (of_decide_eq_true rfl), fun h => absurd h (of_decide_eq_true rfl), fun h => absurd h (of_decide_eq_true rfl), fun h => absurd h (of_decide_eq_true rfl), fun h => absurd h (of_decide_eq_true rfl), fun h => absurd h (of_decide_eq_true rfl), fun h => absurd h (of_decide_eq_true rfl)⟩
  · refine five ?_ ?_ ?_ ?_ ?_
    · exact Or.inl (Or.inl rfl)
    · exact Or.inr (fun y h => h.elim (fun h => Or.inr ⟨2, h, of_decide_eq_true rfl, of_decide_eq_true rfl⟩) (fun h => Or.inl (by rw [h]; exact of_decide_eq_true rfl)))
    · exact Or.inr (fun y h => h.elim (fun h => Or.inr ⟨3, h, of_decide_eq_true rfl, of_decide_eq_true rfl⟩) (fun h => Or.inl (by rw [h]; exact of_decide_eq_true rfl)))
    · exact Or.inr (fun y h => h.elim (fun h => Or.inr ⟨4, h, of_decide_eq_true rfl, of_decide_eq_true rfl⟩) (fun h => Or.inl (by rw [h]; exact of_decide_eq_true rfl)))
    · exact Or.inr (fun y h => h.elim (fun h => Or.inr ⟨0, h, of_decide_eq_true rfl, of_decide_eq_true rfl⟩) (fun h => Or.inl (by rw [h]; exact of_decide_eq_true rfl)))
/-- A run's length is one. -/
theorem runs_len {G : Gr} {sc : List Int} {S : St} {N n : Nat} (h : Runs G sc S N) (h0 : ∀ k, k < n → (stepN G sc S k).en = 0) (h1 : (stepN G sc S n).en ≠ 0) : N = n := by
  rcases Nat.lt_trichotomy N n with hh | hh | hh
  · exact absurd (h0 N hh) h.stop
  · exact hh
  · exact absurd (h.go n hh).1 h1
theorem ctr0_step (A0 : Option Addr) (c0 : Nat) (A5 : Option Addr) (c5 : Nat) (A7 : Option Addr) (c7 : Nat) : stepC (ctr A0 c0 A5 c5 A7 c7 0) [] ⟨2, 0, [0, 0, 0], 0, 0, 0, 0, 0, [], []⟩ = ⟨1, 1, [0, 0, 0], 0, 0, 0, 0, 0, [], [[0]]⟩ ∧ stepC (ctr A0 c0 A5 c5 A7 c7 0) [] ⟨1, 1, [0, 0, 0], 0, 0, 0, 0, 0, [], [[0]]⟩ = ⟨1, 2, [0, 1, 0], 0, 0, 0, 0, 0, [], [[0]]⟩ ∧ stepC (ctr A0 c0 A5 c5 A7 c7 0) [] ⟨1, 2, [0, 1, 0], 0, 0, 0, 0, 0, [], [[0]]⟩ = ⟨1, 3, [0, 1, 1], 0, 0, 0, 0, 0, [], [[0]]⟩ ∧ stepC (ctr A0 c0 A5 c5 A7 c7 0) [] ⟨1, 3, [0, 1, 1], 0, 0, 0, 0, 0, [], [[0]]⟩ = ⟨1, 4, [1, 1, 1], 0, 0, 0, 0, 0, [], [[0]]⟩ ∧ stepC (ctr A0 c0 A5 c5 A7 c7 0) [] ⟨1, 4, [1, 1, 1], 0, 0, 0, 0, 0, [], [[0]]⟩ = ⟨1, 0, [1, 1, 1], 0, 0, 0, 1, 0, [], [[0]]⟩ ∧ stepC (ctr A0 c0 A5 c5 A7 c7 0) [] ⟨1, 0, [1, 1, 1], 0, 0, 0, 1, 0, [], [[0]]⟩ = ⟨0, 1, [1, 1, 1], 0, 0, 0, 1, 0, [], [[0], [1]]⟩ ∧ stepC (ctr A0 c0 A5 c5 A7 c7 0) [] ⟨0, 1, [1, 1, 1], 0, 0, 0, 1, 0, [], [[0], [1]]⟩ = ⟨0, 2, [1, 1, 1], 0, 0, 0, 1, 0, [], [[0], [1]]⟩ ∧ stepC (ctr A0 c0 A5 c5 A7 c7 0) [] ⟨0, 2, [1, 1, 1], 0, 0, 0, 1, 0, [], [[0], [1]]⟩ = ⟨0, 3, [1, 1, 2], 0, 0, 0, 1, 0, [], [[0], [1]]⟩ ∧ stepC (ctr A0 c0 A5 c5 A7 c7 0) [] ⟨0, 3, [1, 1, 2], 0, 0, 0, 1, 0, [], [[0], [1]]⟩ = ⟨0, 4, [2, 1, 2], 0, 0, 0, 1, 0, [], [[0], [1]]⟩ ∧ stepC (ctr A0 c0 A5 c5 A7 c7 0) [] ⟨0, 4, [2, 1, 2], 0, 0, 0, 1, 0, [], [[0], [1]]⟩ = ⟨0, 0, [2, 1, 2], 0, 0, 0, 2, 0, [], [[0], [1]]⟩ ∧ stepC (ctr A0 c0 A5 c5 A7 c7 0) [] ⟨0, 0, [2, 1, 2], 0, 0, 0, 2, 0, [], [[0], [1]]⟩ = ⟨0, 1, [2, 1, 2], 4, 0, 0, 2, 0, [], [[0], [1]]⟩ := ⟨by kernel_rfl, by kernel_rfl, by kernel_rfl, by kernel_rfl, by kernel_rfl, by kernel_rfl, by kernel_rfl, by kernel_rfl, by kernel_rfl, by kernel_rfl, by kernel_rfl⟩
theorem ctr0_begin (A0 : Option Addr) (c0 : Nat) (A5 : Option Addr) (c5 : Nat) (A7 : Option Addr) (c7 : Nat) : (beginS (ctr A0 c0 A5 c5 A7 c7 0) (mx 2 0) (ctr A0 c0 A5 c5 A7 c7 0).l5.length (ctr A0 c0 A5 c5 A7 c7 0).l6.length) = ⟨2, 0, [0, 0, 0], 0, 0, 0, 0, 0, [], []⟩ := by kernel_rfl
theorem ctr0_at (A0 : Option Addr) (c0 : Nat) (A5 : Option Addr) (c5 : Nat) (A7 : Option Addr) (c7 : Nat) : stepN (ctr A0 c0 A5 c5 A7 c7 0) [] (beginS (ctr A0 c0 A5 c5 A7 c7 0) (mx 2 0) (ctr A0 c0 A5 c5 A7 c7 0).l5.length (ctr A0 c0 A5 c5 A7 c7 0).l6.length) 0 = ⟨2, 0, [0, 0, 0], 0, 0, 0, 0, 0, [], []⟩ ∧ stepN (ctr A0 c0 A5 c5 A7 c7 0) [] (beginS (ctr A0 c0 A5 c5 A7 c7 0) (mx 2 0) (ctr A0 c0 A5 c5 A7 c7 0).l5.length (ctr A0 c0 A5 c5 A7 c7 0).l6.length) 1 = ⟨1, 1, [0, 0, 0], 0, 0, 0, 0, 0, [], [[0]]⟩ ∧ stepN (ctr A0 c0 A5 c5 A7 c7 0) [] (beginS (ctr A0 c0 A5 c5 A7 c7 0) (mx 2 0) (ctr A0 c0 A5 c5 A7 c7 0).l5.length (ctr A0 c0 A5 c5 A7 c7 0).l6.length) 2 = ⟨1, 2, [0, 1, 0], 0, 0, 0, 0, 0, [], [[0]]⟩ ∧ stepN (ctr A0 c0 A5 c5 A7 c7 0) [] (beginS (ctr A0 c0 A5 c5 A7 c7 0) (mx 2 0) (ctr A0 c0 A5 c5 A7 c7 0).l5.length (ctr A0 c0 A5 c5 A7 c7 0).l6.length) 3 = ⟨1, 3, [0, 1, 1], 0, 0, 0, 0, 0, [], [[0]]⟩ ∧ stepN (ctr A0 c0 A5 c5 A7 c7 0) [] (beginS (ctr A0 c0 A5 c5 A7 c7 0) (mx 2 0) (ctr A0 c0 A5 c5 A7 c7 0).l5.length (ctr A0 c0 A5 c5 A7 c7 0).l6.length) 4 = ⟨1, 4, [1, 1, 1], 0, 0, 0, 0, 0, [], [[0]]⟩ ∧ stepN (ctr A0 c0 A5 c5 A7 c7 0) [] (beginS (ctr A0 c0 A5 c5 A7 c7 0) (mx 2 0) (ctr A0 c0 A5 c5 A7 c7 0).l5.length (ctr A0 c0 A5 c5 A7 c7 0).l6.length) 5 = ⟨1, 0, [1, 1, 1], 0, 0, 0, 1, 0, [], [[0]]⟩ ∧ stepN (ctr A0 c0 A5 c5 A7 c7 0) [] (beginS (ctr A0 c0 A5 c5 A7 c7 0) (mx 2 0) (ctr A0 c0 A5 c5 A7 c7 0).l5.length (ctr A0 c0 A5 c5 A7 c7 0).l6.length) 6 = ⟨0, 1, [1, 1, 1], 0, 0, 0, 1, 0, [], [[0], [1]]⟩ ∧ stepN (ctr A0 c0 A5 c5 A7 c7 0) [] (beginS (ctr A0 c0 A5 c5 A7 c7 0) (mx 2 0) (ctr A0 c0 A5 c5 A7 c7 0).l5.length (ctr A0 c0 A5 c5 A7 c7 0).l6.length) 7 = ⟨0, 2, [1, 1, 1], 0, 0, 0, 1, 0, [], [[0], [1]]⟩ ∧ stepN (ctr A0 c0 A5 c5 A7 c7 0) [] (beginS (ctr A0 c0 A5 c5 A7 c7 0) (mx 2 0) (ctr A0 c0 A5 c5 A7 c7 0).l5.length (ctr A0 c0 A5 c5 A7 c7 0).l6.length) 8 = ⟨0, 3, [1, 1, 2], 0, 0, 0, 1, 0, [], [[0], [1]]⟩ ∧ stepN (ctr A0 c0 A5 c5 A7 c7 0) [] (beginS (ctr A0 c0 A5 c5 A7 c7 0) (mx 2 0) (ctr A0 c0 A5 c5 A7 c7 0).l5.length (ctr A0 c0 A5 c5 A7 c7 0).l6.length) 9 = ⟨0, 4, [2, 1, 2], 0, 0, 0, 1, 0, [], [[0], [1]]⟩ ∧ stepN (ctr A0 c0 A5 c5 A7 c7 0) [] (beginS (ctr A0 c0 A5 c5 A7 c7 0) (mx 2 0) (ctr A0 c0 A5 c5 A7 c7 0).l5.length (ctr A0 c0 A5 c5 A7 c7 0).l6.length) 10 = ⟨0, 0, [2, 1, 2], 0, 0, 0, 2, 0, [], [[0], [1]]⟩ ∧ stepN (ctr A0 c0 A5 c5 A7 c7 0) [] (beginS (ctr A0 c0 A5 c5 A7 c7 0) (mx 2 0) (ctr A0 c0 A5 c5 A7 c7 0).l5.length (ctr A0 c0 A5 c5 A7 c7 0).l6.length) 11 = ⟨0, 1, [2, 1, 2], 4, 0, 0, 2, 0, [], [[0], [1]]⟩ := by
  obtain ⟨h0, h1, h2, h3, h4, h5, h6, h7, h8, h9, h10⟩ := ctr0_step A0 c0 A5 c5 A7 c7
  have e0 := ctr0_begin A0 c0 A5 c5 A7 c7
  have k0 : stepN (ctr A0 c0 A5 c5 A7 c7 0) [] (beginS (ctr A0 c0 A5 c5 A7 c7 0) (mx 2 0) (ctr A0 c0 A5 c5 A7 c7 0).l5.length (ctr A0 c0 A5 c5 A7 c7 0).l6.length) 0 = ⟨2, 0, [0, 0, 0], 0, 0, 0, 0, 0, [], []⟩ := e0
  have k1 : stepN (ctr A0 c0 A5 c5 A7 c7 0) [] (beginS (ctr A0 c0 A5 c5 A7 c7 0) (mx 2 0) (ctr A0 c0 A5 c5 A7 c7 0).l5.length (ctr A0 c0 A5 c5 A7 c7 0).l6.length) 1 = ⟨1, 1, [0, 0, 0], 0, 0, 0, 0, 0, [], [[0]]⟩ := (congrArg (stepC (ctr A0 c0 A5 c5 A7 c7 0) []) k0).trans h0
  have k2 : stepN (ctr A0 c0 A5 c5 A7 c7 0) [] (beginS (ctr A0 c0 A5 c5 A7 c7 0) (mx 2 0) (ctr A0 c0 A5 c5 A7 c7 0).l5.length (ctr A0 c0 A5 c5 A7 c7 0).l6.length) 2 = ⟨1, 2, [0, 1, 0], 0, 0, 0, 0, 0, [], [[0]]⟩ := (congrArg (stepC (ctr A0 c0 A5 c5 A7 c7 0) []) k1).trans h1
  have k3 : stepN (ctr A0 c0 A5 c5 A7 c7 0) [] (beginS (ctr A0 c0 A5 c5 A7 c7 0) (mx 2 0) (ctr A0 c0 A5 c5 A7 c7 0).l5.length (ctr A0 c0 A5 c5 A7 c7 0).l6.length) 3 = ⟨1, 3, [0, 1, 1], 0, 0, 0, 0, 0, [], [[0]]⟩ := (congrArg (stepC (ctr A0 c0 A5 c5 A7 c7 0) []) k2).trans h2
  have k4 : stepN (ctr A0 c0 A5 c5 A7 c7 0) [] (beginS (ctr A0 c0 A5 c5 A7 c7 0) (mx 2 0) (ctr A0 c0 A5 c5 A7 c7 0).l5.length (ctr A0 c0 A5 c5 A7 c7 0).l6.length) 4 = ⟨1, 4, [1, 1, 1], 0, 0, 0, 0, 0, [], [[0]]⟩ := (congrArg (stepC (ctr A0 c0 A5 c5 A7 c7 0) []) k3).trans h3
  have k5 : stepN (ctr A0 c0 A5 c5 A7 c7 0) [] (beginS (ctr A0 c0 A5 c5 A7 c7 0) (mx 2 0) (ctr A0 c0 A5 c5 A7 c7 0).l5.length (ctr A0 c0 A5 c5 A7 c7 0).l6.length) 5 = ⟨1, 0, [1, 1, 1], 0, 0, 0, 1, 0, [], [[0]]⟩ := (congrArg (stepC (ctr A0 c0 A5 c5 A7 c7 0) []) k4).trans h4
  have k6 : stepN (ctr A0 c0 A5 c5 A7 c7 0) [] (beginS (ctr A0 c0 A5 c5 A7 c7 0) (mx 2 0) (ctr A0 c0 A5 c5 A7 c7 0).l5.length (ctr A0 c0 A5 c5 A7 c7 0).l6.length) 6 = ⟨0, 1, [1, 1, 1], 0, 0, 0, 1, 0, [], [[0], [1]]⟩ := (congrArg (stepC (ctr A0 c0 A5 c5 A7 c7 0) []) k5).trans h5
  have k7 : stepN (ctr A0 c0 A5 c5 A7 c7 0) [] (beginS (ctr A0 c0 A5 c5 A7 c7 0) (mx 2 0) (ctr A0 c0 A5 c5 A7 c7 0).l5.length (ctr A0 c0 A5 c5 A7 c7 0).l6.length) 7 = ⟨0, 2, [1, 1, 1], 0, 0, 0, 1, 0, [], [[0], [1]]⟩ := (congrArg (stepC (ctr A0 c0 A5 c5 A7 c7 0) []) k6).trans h6
  have k8 : stepN (ctr A0 c0 A5 c5 A7 c7 0) [] (beginS (ctr A0 c0 A5 c5 A7 c7 0) (mx 2 0) (ctr A0 c0 A5 c5 A7 c7 0).l5.length (ctr A0 c0 A5 c5 A7 c7 0).l6.length) 8 = ⟨0, 3, [1, 1, 2], 0, 0, 0, 1, 0, [], [[0], [1]]⟩ := (congrArg (stepC (ctr A0 c0 A5 c5 A7 c7 0) []) k7).trans h7
  have k9 : stepN (ctr A0 c0 A5 c5 A7 c7 0) [] (beginS (ctr A0 c0 A5 c5 A7 c7 0) (mx 2 0) (ctr A0 c0 A5 c5 A7 c7 0).l5.length (ctr A0 c0 A5 c5 A7 c7 0).l6.length) 9 = ⟨0, 4, [2, 1, 2], 0, 0, 0, 1, 0, [], [[0], [1]]⟩ := (congrArg (stepC (ctr A0 c0 A5 c5 A7 c7 0) []) k8).trans h8
  have k10 : stepN (ctr A0 c0 A5 c5 A7 c7 0) [] (beginS (ctr A0 c0 A5 c5 A7 c7 0) (mx 2 0) (ctr A0 c0 A5 c5 A7 c7 0).l5.length (ctr A0 c0 A5 c5 A7 c7 0).l6.length) 10 = ⟨0, 0, [2, 1, 2], 0, 0, 0, 2, 0, [], [[0], [1]]⟩ := (congrArg (stepC (ctr A0 c0 A5 c5 A7 c7 0) []) k9).trans h9
  have k11 : stepN (ctr A0 c0 A5 c5 A7 c7 0) [] (beginS (ctr A0 c0 A5 c5 A7 c7 0) (mx 2 0) (ctr A0 c0 A5 c5 A7 c7 0).l5.length (ctr A0 c0 A5 c5 A7 c7 0).l6.length) 11 = ⟨0, 1, [2, 1, 2], 4, 0, 0, 2, 0, [], [[0], [1]]⟩ := (congrArg (stepC (ctr A0 c0 A5 c5 A7 c7 0) []) k10).trans h10
  exact ⟨k0, k1, k2, k3, k4, k5, k6, k7, k8, k9, k10, k11⟩
theorem ctr0_len (A0 : Option Addr) (c0 : Nat) (A5 : Option Addr) (c5 : Nat) (A7 : Option Addr) (c7 : Nat) {N : Nat} (h : Runs (ctr A0 c0 A5 c5 A7 c7 0) [] (beginS (ctr A0 c0 A5 c5 A7 c7 0) (mx 2 0) (ctr A0 c0 A5 c5 A7 c7 0).l5.length (ctr A0 c0 A5 c5 A7 c7 0).l6.length) N) : N = 11 := by
  obtain ⟨k0, k1, k2, k3, k4, k5, k6, k7, k8, k9, k10, k11⟩ := ctr0_at A0 c0 A5 c5 A7 c7
  refine runs_len h (fun k hk => ?_) (by rw [k11]; exact of_decide_eq_true rfl)
  rcases (show k = 0 ∨ k = 1 ∨ k = 2 ∨ k = 3 ∨ k = 4 ∨ k = 5 ∨ k = 6 ∨ k = 7 ∨ k = 8 ∨ k = 9 ∨ k = 10 by omega) with rfl | rfl | rfl | rfl | rfl | rfl | rfl | rfl | rfl | rfl | rfl
  · rw [k0]
  · rw [k1]
  · rw [k2]
  · rw [k3]
  · rw [k4]
  · rw [k5]
  · rw [k6]
  · rw [k7]
  · rw [k8]
  · rw [k9]
  · rw [k10]
theorem ctr127_step (A0 : Option Addr) (c0 : Nat) (A5 : Option Addr) (c5 : Nat) (A7 : Option Addr) (c7 : Nat) : stepC (ctr A0 c0 A5 c5 A7 c7 127) [] ⟨9, 0, [127, 0, 0], 0, 0, 0, 0, 0, [], []⟩ = ⟨8, 1, [127, 0, 0], 0, 0, 0, 0, 0, [], [[127]]⟩ ∧ stepC (ctr A0 c0 A5 c5 A7 c7 127) [] ⟨8, 1, [127, 0, 0], 0, 0, 0, 0, 0, [], [[127]]⟩ = ⟨8, 2, [127, 1, 0], 0, 0, 0, 0, 0, [], [[127]]⟩ ∧ stepC (ctr A0 c0 A5 c5 A7 c7 127) [] ⟨8, 2, [127, 1, 0], 0, 0, 0, 0, 0, [], [[127]]⟩ = ⟨8, 3, [127, 1, 128], 0, 0, 0, 0, 0, [], [[127]]⟩ ∧ stepC (ctr A0 c0 A5 c5 A7 c7 127) [] ⟨8, 3, [127, 1, 128], 0, 0, 0, 0, 0, [], [[127]]⟩ = ⟨8, 4, [127, 1, 128], 1, 2, 1, 0, 0, [], [[127]]⟩ := ⟨by kernel_rfl, by kernel_rfl, by kernel_rfl, by kernel_rfl⟩
theorem ctr127_begin (A0 : Option Addr) (c0 : Nat) (A5 : Option Addr) (c5 : Nat) (A7 : Option Addr) (c7 : Nat) : (beginS (ctr A0 c0 A5 c5 A7 c7 127) (mx 9 0) (ctr A0 c0 A5 c5 A7 c7 127).l5.length (ctr A0 c0 A5 c5 A7 c7 127).l6.length) = ⟨9, 0, [127, 0, 0], 0, 0, 0, 0, 0, [], []⟩ := by kernel_rfl
theorem ctr127_at (A0 : Option Addr) (c0 : Nat) (A5 : Option Addr) (c5 : Nat) (A7 : Option Addr) (c7 : Nat) : stepN (ctr A0 c0 A5 c5 A7 c7 127) [] (beginS (ctr A0 c0 A5 c5 A7 c7 127) (mx 9 0) (ctr A0 c0 A5 c5 A7 c7 127).l5.length (ctr A0 c0 A5 c5 A7 c7 127).l6.length) 0 = ⟨9, 0, [127, 0, 0], 0, 0, 0, 0, 0, [], []⟩ ∧ stepN (ctr A0 c0 A5 c5 A7 c7 127) [] (beginS (ctr A0 c0 A5 c5 A7 c7 127) (mx 9 0) (ctr A0 c0 A5 c5 A7 c7 127).l5.length (ctr A0 c0 A5 c5 A7 c7 127).l6.length) 1 = ⟨8, 1, [127, 0, 0], 0, 0, 0, 0, 0, [], [[127]]⟩ ∧ stepN (ctr A0 c0 A5 c5 A7 c7 127) [] (beginS (ctr A0 c0 A5 c5 A7 c7 127) (mx 9 0) (ctr A0 c0 A5 c5 A7 c7 127).l5.length (ctr A0 c0 A5 c5 A7 c7 127).l6.length) 2 = ⟨8, 2, [127, 1, 0], 0, 0, 0, 0, 0, [], [[127]]⟩ ∧ stepN (ctr A0 c0 A5 c5 A7 c7 127) [] (beginS (ctr A0 c0 A5 c5 A7 c7 127) (mx 9 0) (ctr A0 c0 A5 c5 A7 c7 127).l5.length (ctr A0 c0 A5 c5 A7 c7 127).l6.length) 3 = ⟨8, 3, [127, 1, 128], 0, 0, 0, 0, 0, [], [[127]]⟩ ∧ stepN (ctr A0 c0 A5 c5 A7 c7 127) [] (beginS (ctr A0 c0 A5 c5 A7 c7 127) (mx 9 0) (ctr A0 c0 A5 c5 A7 c7 127).l5.length (ctr A0 c0 A5 c5 A7 c7 127).l6.length) 4 = ⟨8, 4, [127, 1, 128], 1, 2, 1, 0, 0, [], [[127]]⟩ := by
  obtain ⟨h0, h1, h2, h3⟩ := ctr127_step A0 c0 A5 c5 A7 c7
  have e0 := ctr127_begin A0 c0 A5 c5 A7 c7
  have k0 : stepN (ctr A0 c0 A5 c5 A7 c7 127) [] (beginS (ctr A0 c0 A5 c5 A7 c7 127) (mx 9 0) (ctr A0 c0 A5 c5 A7 c7 127).l5.length (ctr A0 c0 A5 c5 A7 c7 127).l6.length) 0 = ⟨9, 0, [127, 0, 0], 0, 0, 0, 0, 0, [], []⟩ := e0
  have k1 : stepN (ctr A0 c0 A5 c5 A7 c7 127) [] (beginS (ctr A0 c0 A5 c5 A7 c7 127) (mx 9 0) (ctr A0 c0 A5 c5 A7 c7 127).l5.length (ctr A0 c0 A5 c5 A7 c7 127).l6.length) 1 = ⟨8, 1, [127, 0, 0], 0, 0, 0, 0, 0, [], [[127]]⟩ := (congrArg (stepC (ctr A0 c0 A5 c5 A7 c7 127) []) k0).trans h0
  have k2 : stepN (ctr A0 c0 A5 c5 A7 c7 127) [] (beginS (ctr A0 c0 A5 c5 A7 c7 127) (mx 9 0) (ctr A0 c0 A5 c5 A7 c7 127).l5.length (ctr A0 c0 A5 c5 A7 c7 127).l6.length) 2 = ⟨8, 2, [127, 1, 0], 0, 0, 0, 0, 0, [], [[127]]⟩ := (congrArg (stepC (ctr A0 c0 A5 c5 A7 c7 127) []) k1).trans h1
  have k3 : stepN (ctr A0 c0 A5 c5 A7 c7 127) [] (beginS (ctr A0 c0 A5 c5 A7 c7 127) (mx 9 0) (ctr A0 c0 A5 c5 A7 c7 127).l5.length (ctr A0 c0 A5 c5 A7 c7 127).l6.length) 3 = ⟨8, 3, [127, 1, 128], 0, 0, 0, 0, 0, [], [[127]]⟩ := (congrArg (stepC (ctr A0 c0 A5 c5 A7 c7 127) []) k2).trans h2
  have k4 : stepN (ctr A0 c0 A5 c5 A7 c7 127) [] (beginS (ctr A0 c0 A5 c5 A7 c7 127) (mx 9 0) (ctr A0 c0 A5 c5 A7 c7 127).l5.length (ctr A0 c0 A5 c5 A7 c7 127).l6.length) 4 = ⟨8, 4, [127, 1, 128], 1, 2, 1, 0, 0, [], [[127]]⟩ := (congrArg (stepC (ctr A0 c0 A5 c5 A7 c7 127) []) k3).trans h3
  exact ⟨k0, k1, k2, k3, k4⟩
theorem ctr127_len (A0 : Option Addr) (c0 : Nat) (A5 : Option Addr) (c5 : Nat) (A7 : Option Addr) (c7 : Nat) {N : Nat} (h : Runs (ctr A0 c0 A5 c5 A7 c7 127) [] (beginS (ctr A0 c0 A5 c5 A7 c7 127) (mx 9 0) (ctr A0 c0 A5 c5 A7 c7 127).l5.length (ctr A0 c0 A5 c5 A7 c7 127).l6.length) N) : N = 4 := by
  obtain ⟨k0, k1, k2, k3, k4⟩ := ctr127_at A0 c0 A5 c5 A7 c7
  refine runs_len h (fun k hk => ?_) (by rw [k4]; exact of_decide_eq_true rfl)
  rcases (show k = 0 ∨ k = 1 ∨ k = 2 ∨ k = 3 by omega) with rfl | rfl | rfl | rfl
  · rw [k0]
  · rw [k1]
  · rw [k2]
  · rw [k3]
end Go.Proofs.Ytcalcbeonbfkmaa.P
/- What the law's proof needs of G16. -/
namespace Go.Proofs.Ytcalcbeonbfkmaa.P
open Go.RowKit Go.Proofs.YtcalcbeonbfkmaaW.PrintWords Go.Proofs.YtcalcbeonbfkmaaW.PrintLast Go.Proofs.YtcalcbeonbfkmaaW.PrintMore Go.Proofs.YtcalcbeonbfkmaaO
attribute [local go_sem] max2_int min2_int max_two min_two max_three min_three max_four min_four
set_option linter.unusedVariables false
set_option linter.unusedSimpArgs false
theorem below_set2 {B : Nat} {w W : World} (h : Below B w W) (p : Addr) (u : Value) : Below B (w.setCell p u) (W.setCell p u) := by
  refine ⟨h.os, h.tape, h.output, by simpa [World.setCell] using h.size, fun k hk => ?_⟩
  simp only [World.setCell, Array.getElem?_modify]
  rw [h.block k hk]
theorem size_set (w : World) (p : Addr) (u : Value) : (w.setCell p u).heap.size = w.heap.size := by simp [World.setCell]
/-- What the looker's counter holds. -/
def nv : Nat → Int
  | 0 => 0
  | s + 1 => wrap64 (nv s + 1)
def wbn (W0 : World) (gn : Nat) : Nat → World
  | 0 => W0
  | s + 1 => (wbn W0 gn s).setCell ⟨gn, 0, none⟩ (.int .i64 (nv (s + 1)))
theorem wbn_size (W0 : World) (gn : Nat) : ∀ s, (wbn W0 gn s).heap.size = W0.heap.size
  | 0 => rfl
  | s + 1 => (size_set _ _ _).trans (wbn_size W0 gn s)
theorem wbn_far (W0 : World) (gn : Nat) {k : Nat} (hk : k ≠ gn) : ∀ s, (wbn W0 gn s).heap[k]? = W0.heap[k]?
  | 0 => rfl
  | s + 1 => (Below.heap_setCell _ _ _ k hk).trans (wbn_far W0 gn hk s)
theorem wbn_cell {W0 : World} {gn : Nat} (h : W0.heap[gn]? = some (.cells #[.int .i64 0] 3 (0, 0))) : ∀ s, (wbn W0 gn s).heap[gn]? = some (.cells #[.int .i64 (nv s)] 3 (0, 0))
  | 0 => h
  | s + 1 => blk_put (wbn_cell h s) 0 _ rfl
theorem wbn_same (W0 : World) (gn : Nat) : ∀ s, (wbn W0 gn s).os = W0.os ∧ (wbn W0 gn s).tape = W0.tape ∧ (wbn W0 gn s).output = W0.output
  | 0 => ⟨rfl, rfl, rfl⟩
  | s + 1 => wbn_same W0 gn s
set_option maxHeartbeats 8000000 in
set_option maxRecDepth 100000 in
theorem count_calls (gn : Nat) (s : Int) (a b c d : Value) (W : World) (hc : W.heap[gn]? = some (.cells #[.int .i64 s] 3 (0, 0))) :
    Calls Try.prog 26 #[a, b, c, d, .pointer (some ⟨gn, 0, none⟩)] W fun e W' => e = .returned (.bool true) ∧ W' = W.setCell ⟨gn, 0, none⟩ (.int .i64 (wrap64 (s + 1))) := by
  have h0 : W.cell? ⟨gn, 0, none⟩ = some (.int .i64 s) := blk_cell hc 0
  have f0 : W.frozen? ⟨gn, 0, none⟩ = false := bfz ⟨hc⟩ 0
  have hw : IntKind.i64.wrap (s + 1) = wrap64 (s + 1) := i64_w _
  go_enter Try.func26, Try.ntmps26
  go_wp2
  go_ret
  exact ⟨rfl, rfl⟩
theorem count_looker {W0 : World} {gn : Nat} (h : W0.heap[gn]? = some (.cells #[.int .i64 0] 3 (0, 0))) :
    Looker (wbn W0 gn) (fun _ => []) W0.heap.size (fun s _ _ _ _ b s' => b = true ∧ s' = s + 1) (fun _ => True) 26 #[.pointer (some ⟨gn, 0, none⟩)] := by
  refine ⟨wbn_size W0 gn, ⟨_, Try.func26, by kernel_rfl, rfl⟩, fun s W M at_ t rs ars vr va ok1 ok2 _ _ _ _ hB hL hM1 hM2 h1 h2 h3 => ?_⟩
  have hg := blk_lt h
  have hc := (hB.block gn hg).trans (wbn_cell h s)
  refine (count_calls gn (nv s) (.int .i64 at_) vr va (.int .i64 t) W hc).mono ?_
  rintro e W' ⟨rfl, rfl⟩
  refine ⟨true, s + 1, rfl, ⟨rfl, rfl⟩, fun _ => trivial, below_set2 hB _ _, by rw [size_set]; exact hM2, fun k hk1 hk2 _ => Below.heap_setCell _ _ _ k (by show k ≠ gn; omega), fun z hz => nomatch hz⟩
theorem seen_count {f : Nat → St} : ∀ {k : Nat} {b : Bool} {s : Nat}, Seen (fun s _ _ _ _ b s' => b = true ∧ s' = s + 1) f 0 k b s → b = true ∧ s = k := fun h => by
  induction h with
  | start => exact ⟨rfl, rfl⟩
  | see h1 h2 ih => exact ⟨h2.1, by rw [h2.2, ih.2]⟩
  | past h1 ih => exact absurd ih.1 (by decide)
theorem walk0_calls (A0 : Option Addr) (c0 : Nat) (A5 : Option Addr) (c5 : Nat) (A7 : Option Addr) (c7 : Nat) (w W0 : World) (gn : Nat) (hG : ∀ W2 : World, (∀ k, w.heap.size ≤ k → k < W0.heap.size → W2.heap[k]? = W0.heap[k]?) → (ctr A0 c0 A5 c5 A7 c7 0).Held W2) (hg : gn < w.heap.size) (h : W0.heap[gn]? = some (.cells #[.int .i64 0] 3 (0, 0))) :
    Calls Try.prog 15 #[(ctr A0 c0 A5 c5 A7 c7 0).v, .slice none 0 0, .int .i64 2, .func (.func 26) #[] #[.pointer (some ⟨gn, 0, none⟩)]] W0 fun e w' => (∃ v, e = .returned v) ∧ w'.heap[gn]? = some (.cells #[.int .i64 11] 3 (0, 0)) ∧ W0.grownBy w' (some gn) := by
  obtain ⟨N, hN⟩ := begin_runs (G := (ctr A0 c0 A5 c5 A7 c7 0)) [] (ctr_fit _ _ _ _ _ _ _) 2 (by decide)
  have eN := ctr0_len A0 c0 A5 c5 A7 c7 hN
  subst eN
  refine (walk_see (count_looker h) 0 trivial [] (ctr A0 c0 A5 c5 A7 c7 0) W0 (Below.refl _ _) (fun z hz => nomatch hz) (fun z hz => nomatch hz) (fun s => hG _ (fun k h1 h2 => wbn_far W0 gn (by omega) s)) none [] 0 2 (fun s => C_none _ _) (by decide) (ctr_fit _ _ _ _ _ _ _) hN).mono ?_
  rintro e w' ⟨hO, flag, s, hs, hb, hsz, _, _⟩
  obtain ⟨_, rfl⟩ := seen_count hs
  obtain ⟨A1, c1, A2, c2, A3, c3, b1, b2, ok1, ok2, ok3, he, r1, r2, r3⟩ := hO
  have hh := wbn_same W0 gn 11
  exact ⟨⟨_, he⟩, (hb.block gn (blk_lt h)).trans ((wbn_cell h 11).trans (by rw [show nv 11 = 11 from by kernel_rfl])), ⟨hb.os.trans hh.1, hb.tape.trans hh.2.1, hb.output.trans hh.2.2, hsz, fun k hk hne => (hb.block k hk).trans (wbn_far W0 gn (fun e => hne (by rw [e])) 11)⟩⟩
theorem run0_calls (A0 : Option Addr) (c0 : Nat) (A5 : Option Addr) (c5 : Nat) (A7 : Option Addr) (c7 : Nat) (w : World) (hG : (ctr A0 c0 A5 c5 A7 c7 0).Held w) : Calls Try.prog 10 #[(ctr A0 c0 A5 c5 A7 c7 0).v, .slice none 0 0, .int .i64 2] w fun e w' => (∃ A1 c1 A2 c2 A3 c3 b1 ok1, e = .returned (.agg #[.int .i64 4, .int .i64 0, .int .i64 0, .int .i64 2, .int .i64 0, .slice A1 1 c1, .slice A2 0 c2, .slice A3 2 c3]) ∧ Kd.R (Kd.int .i64) 2 w' b1 ok1 (.slice A1 1 c1) [2]) ∧ Below w.heap.size w w' := by
  obtain ⟨N, hN⟩ := begin_runs (G := (ctr A0 c0 A5 c5 A7 c7 0)) [] (ctr_fit _ _ _ _ _ _ _) 2 (by decide)
  have eN := ctr0_len A0 c0 A5 c5 A7 c7 hN
  subst eN
  refine (run_calls (ctr A0 c0 A5 c5 A7 c7 0) w hG none [] 0 2 (C_none _ _) (by decide) (ctr_fit _ _ _ _ _ _ _) hN).mono ?_
  rintro e w' ⟨hO, hb⟩
  rw [(ctr0_at A0 c0 A5 c5 A7 c7).2.2.2.2.2.2.2.2.2.2.2] at hO
  obtain ⟨A1, c1, A2, c2, A3, c3, b1, b2, ok1, ok2, ok3, he, r1, r2, r3⟩ := hO
  exact ⟨⟨A1, c1, A2, c2, A3, c3, b1, ok1, he, r1⟩, hb⟩
theorem run127_calls (A0 : Option Addr) (c0 : Nat) (A5 : Option Addr) (c5 : Nat) (A7 : Option Addr) (c7 : Nat) (w : World) (hG : (ctr A0 c0 A5 c5 A7 c7 127).Held w) : Calls Try.prog 10 #[(ctr A0 c0 A5 c5 A7 c7 127).v, .slice none 0 0, .int .i64 9] w fun e w' => (∃ A1 c1 A2 c2 A3 c3 b1 ok1, e = .returned (.agg #[.int .i64 1, .int .i64 2, .int .i64 1, .int .i64 0, .int .i64 0, .slice A1 1 c1, .slice A2 0 c2, .slice A3 1 c3]) ∧ Kd.R (Kd.int .i64) 2 w' b1 ok1 (.slice A1 1 c1) [127]) ∧ Below w.heap.size w w' := by
  obtain ⟨N, hN⟩ := begin_runs (G := (ctr A0 c0 A5 c5 A7 c7 127)) [] (ctr_fit _ _ _ _ _ _ _) 9 (by decide)
  have eN := ctr127_len A0 c0 A5 c5 A7 c7 hN
  subst eN
  refine (run_calls (ctr A0 c0 A5 c5 A7 c7 127) w hG none [] 0 9 (C_none _ _) (by decide) (ctr_fit _ _ _ _ _ _ _) hN).mono ?_
  rintro e w' ⟨hO, hb⟩
  rw [(ctr127_at A0 c0 A5 c5 A7 c7).2.2.2.2] at hO
  obtain ⟨A1, c1, A2, c2, A3, c3, b1, b2, ok1, ok2, ok3, he, r1, r2, r3⟩ := hO
  exact ⟨⟨A1, c1, A2, c2, A3, c3, b1, ok1, he, r1⟩, hb⟩
set_option maxHeartbeats 8000000 in
set_option maxRecDepth 100000 in
theorem awake_calls (w : World) : Calls Try.prog 8 #[] w fun e w' => e = .returned (.bool true) ∧ Below w.heap.size w w' := by
  have hu28 := Try.underlying28
  have hu36 := Try.underlying36
  have HB := Aside0.mk (Below.refl w.heap.size w)
  go_enter Try.func8, Try.ntmps8
  go_upto_region 2 with (first | ((with_reducible refine gate_callee (f := 25) rfl ?_); refine goesL_ _ rfl rfl Try.func25 (by kernel_rfl) rfl #[.int .i64 0] rfl (by (try simp only [List.map_toArray, List.map_cons, List.map_nil]); first | done | rfl) ?_; refine (counter_calls 0 _).mono ?_; rintro e w1 ⟨A0, c0, A5, c5, A7, c7, rfl, hh, hb⟩; have HG := Aside0.mk (hh _ (fun _ _ _ => rfl)); clear hh; replace HB := bst HB hb; clear hb; refine ⟨_, rfl, ?_⟩) | ((with_reducible refine gate_callee (f := 10) rfl ?_); refine goesL_ _ rfl rfl Try.func10 (by kernel_rfl) rfl #[(ctr A0 c0 A5 c5 A7 c7 0).v, .slice none 0 0, .int .i64 2] rfl (by (try simp only [List.map_toArray, List.map_cons, List.map_nil]); first | done | rfl) ?_; refine (run0_calls A0 c0 A5 c5 A7 c7 _ HG.out).mono ?_; rintro e w2 ⟨⟨A1a, c1a, A2a, c2a, A3a, c3a, b1a, ok1a, rfl, hr⟩, hb⟩; replace HB := bst HB hb; have HR := Aside0.mk hr; clear hb hr; clear HG; refine ⟨_, rfl, ?_⟩) | ((with_reducible refine gate_dst (N := 1) rfl ?_); refine boxQ 1 #[.int .i64 0, .int .i64 0, .int .i64 0, .int .i64 0, .int .i64 0, .slice none 0 0, .slice none 0 0, .slice none 0 0] 36 HB ?_; clear HB; intro g1 w3 _ GW1 B1 hb HB; replace HR := Aside0.mk (Kd.R_below HR.out hb.out); clear hb) | ((with_reducible refine gate_store (p := 1) (t := 36) rfl ?_); refine store_box rfl rfl rfl g1 36 _ #[.int .i64 4, .int .i64 0, .int .i64 0, .int .i64 2, .int .i64 0, .slice A1a 1 c1a, .slice A2a 0 c2a, .slice A3a 2 c3a] (pkA B1).out rfl rfl (by kernel_rfl) rfl (by kernel_rfl) ?_; intro w4 hbs hgs; replace HR := Aside0.mk (R_boxed HR.out (pkA B1).out (fun q hq => by rw [List.mem_singleton.1 hq]; decide) hgs); have hw := Below_boxed (bpk HB).out (Nat.le_refl _) GW1.out hgs; clear B1 HB hgs; have B1 := Aside0.mk hbs; have HB := Aside0.mk hw; clear hbs hw))
  go_upto_region 3 with (first | ((with_reducible refine gate_callee (f := 25) rfl ?_); refine goesL_ _ rfl rfl Try.func25 (by kernel_rfl) rfl #[.int .i64 127] rfl (by (try simp only [List.map_toArray, List.map_cons, List.map_nil]); first | done | rfl) ?_; refine (counter_calls 127 _).mono ?_; rintro e w5 ⟨A0, c0, A5, c5, A7, c7, rfl, hh, hb⟩; have HG := Aside0.mk (hh _ (fun _ _ _ => rfl)); clear hh; replace B1 := bbw B1 hb; replace HR := Aside0.mk (Kd.R_below HR.out hb); replace HB := bst HB hb; clear hb; refine ⟨_, rfl, ?_⟩) | ((with_reducible refine gate_callee (f := 10) rfl ?_); refine goesL_ _ rfl rfl Try.func10 (by kernel_rfl) rfl #[(ctr A0 c0 A5 c5 A7 c7 127).v, .slice none 0 0, .int .i64 9] rfl (by (try simp only [List.map_toArray, List.map_cons, List.map_nil]); first | done | rfl) ?_; refine (run127_calls A0 c0 A5 c5 A7 c7 _ HG.out).mono ?_; rintro e w6 ⟨⟨A1b, c1b, A2b, c2b, A3b, c3b, b1b, ok1b, rfl, hr⟩, hb⟩; replace B1 := bbw B1 hb; replace HR := Aside0.mk (Kd.R_below HR.out hb); replace HB := bst HB hb; clear hb hr; clear HG; refine ⟨_, rfl, ?_⟩) | ((with_reducible refine gate_dst (N := 2) rfl ?_); refine boxQ 2 #[.int .i64 0, .int .i64 0, .int .i64 0, .int .i64 0, .int .i64 0, .slice none 0 0, .slice none 0 0, .slice none 0 0] 36 HB ?_; intro g2 w7 eg GW2 B2 hb HX; have N12 := bn1 B1 eg.out; replace B1 := bbw B1 hb.out; replace HR := Aside0.mk (Kd.R_below HR.out hb.out); clear HB hb eg; have HB := HX; clear HX) | ((with_reducible refine gate_store (p := 2) (t := 36) rfl ?_); refine store_box rfl rfl rfl g2 36 _ #[.int .i64 1, .int .i64 2, .int .i64 1, .int .i64 0, .int .i64 0, .slice A1b 1 c1b, .slice A2b 0 c2b, .slice A3b 1 c3b] (pkA B2).out rfl rfl (by kernel_rfl) rfl (by kernel_rfl) ?_; intro w8 hbs hgs; replace HR := Aside0.mk (R_boxed HR.out (pkA B2).out (fun q hq => by rw [List.mem_singleton.1 hq]; decide) hgs); replace B1 := boxed_other (pkA B1) hgs N12; have hw := Below_boxed (bpk HB).out (Nat.le_refl _) GW2.out hgs; clear B2 HB hgs; have B2 := Aside0.mk hbs; have HB := Aside0.mk hw; clear hbs hw))
  go_upto_region 4 with (first | ((with_reducible refine gate_dst (N := 3) rfl ?_); refine boxQ 3 #[.int .i64 0] 3 HB ?_; intro g3 w9 eg GW3 B3 hb HX; have N13 := bn1 B1 eg.out; have N23 := bn1 B2 eg.out; replace B1 := bbw B1 hb.out; replace B2 := bbw B2 hb.out; replace HR := Aside0.mk (Kd.R_below HR.out hb.out); clear HB hb eg; have HB := HX; clear HX; have f3 := bfz B3 0; have b3 := hcz B3 0) | ((with_reducible refine gate_store (p := 3) (t := 3) rfl ?_); refine store_event (t := 3) (p := 3) (v := ?vs3) (w1 := w9.setCell ⟨g3, 0, none⟩ (.int .i64 0)) ?hg ?ho ?hn ?hr ?_; (case ho => rfl); (case hg => rfl); (case hn => rfl); (case hr => first | (go_simp; done) | (go_simp; rfl)); intro w10 hw; (have hgs : w9.grownBy w10 (some g3) := by rw [hw]; exact setCell_grown w9 g3 0 _); (have h3 : w10.heap[g3]? = some (.cells #[.int .i64 0] 3 (0, 0)) := by rw [hw]; exact blk_put B3.out 0 _ rfl); clear hw f3 b3; replace HR := Aside0.mk (R_boxed HR.out (pkA B3).out (fun q hq => by rw [List.mem_singleton.1 hq]; decide) hgs); replace B1 := boxed_other (pkA B1) hgs N13; replace B2 := boxed_other (pkA B2) hgs N23; have hw := Below_boxed (bpk HB).out (Nat.le_refl _) GW3.out hgs; clear B3 HB hgs; have B3 := Aside0.mk h3; have HB := Aside0.mk hw; clear h3 hw))
  go_upto_region 5 with (first | ((with_reducible refine gate_callee (f := 25) rfl ?_); refine goesL_ _ rfl rfl Try.func25 (by kernel_rfl) rfl #[.int .i64 0] rfl (by (try simp only [List.map_toArray, List.map_cons, List.map_nil]); first | done | rfl) ?_; refine (counter_calls 0 _).mono ?_; rintro e w11 ⟨A0, c0, A5, c5, A7, c7, rfl, hh, hb⟩; have HH := Aside0.mk hh; have h10 := Aside0.mk (blk_lt B3.out); replace B1 := bbw B1 hb; replace B2 := bbw B2 hb; replace B3 := bbw B3 hb; replace HR := Aside0.mk (Kd.R_below HR.out hb); replace HB := bst HB hb; clear hh hb; refine ⟨_, rfl, ?_⟩) | ((with_reducible refine gate_callee (f := 15) rfl ?_); refine goesL_ _ rfl rfl Try.func15 (by kernel_rfl) rfl #[(ctr A0 c0 A5 c5 A7 c7 0).v, .slice none 0 0, .int .i64 2, .func (.func 26) #[] #[.pointer (some ⟨g3, 0, none⟩)]] rfl (by (try simp only [List.map_toArray, List.map_cons, List.map_nil]); first | done | rfl) ?_; refine (walk0_calls A0 c0 A5 c5 A7 c7 w10 _ g3 HH.out h10.out B3.out).mono ?_; rintro e w12 ⟨⟨v, rfl⟩, h3, hgs⟩; replace HR := Aside0.mk (R_boxed HR.out (pkA B3).out (fun q hq => by rw [List.mem_singleton.1 hq]; decide) hgs); replace B1 := boxed_other (pkA B1) hgs N13; replace B2 := boxed_other (pkA B2) hgs N23; have hw := Below_boxed (bpk HB).out (Nat.le_refl _) GW3.out hgs; clear B3 HB hgs; have B3 := Aside0.mk h3; have HB := Aside0.mk hw; clear h3 hw; refine ⟨_, rfl, ?_⟩))
  have hC := (Kd.R_reads' HR.out).2.2
  obtain ⟨ad, eA, xs⟩ := Kd.at_int hC 0 (by decide) (by decide)
  subst eA
  have xs2 : w12.cell? ad = some (.int .i64 2) := xs
  clear xs hC
  have b3 := hcz B3 0
  have hcf := hcf8 B1
  obtain ⟨_, _, _, _, _, _, _, _, _, _, _, _, _, _, _, _⟩ := hcf
  have hcf2 := hcf8 B2
  obtain ⟨_, _, _, _, _, _, _, _, _, _, _, _, _, _, _, _⟩ := hcf2
  go_wp2
  go_ret
  exact ⟨rfl, HB.out⟩
end Go.Proofs.Ytcalcbeonbfkmaa.P
/- What the law's proof needs of G17. -/
namespace Go.Proofs.Ytcalcbeonbfkmaa.P
open Go.RowKit Go.Proofs.YtcalcbeonbfkmaaW.PrintWords Go.Proofs.YtcalcbeonbfkmaaW.PrintLast Go.Proofs.YtcalcbeonbfkmaaW.PrintMore Go.Proofs.YtcalcbeonbfkmaaO
attribute [local go_sem] max2_int min2_int max_two min_two max_three min_three max_four min_four
set_option linter.unusedVariables false
set_option linter.unusedSimpArgs false
theorem same_l0 (l : List Int) (hl : l.length ≤ 1000000) : ∀ k m : Nat, m < k → m ≤ l.length → gimbalref06_sameList.l0 k l l ((l.length : Int) - (m : Int)) = some true
  | 0, m, h, _ => absurd h (Nat.not_lt_zero m)
  | k + 1, 0, h, hm => by
    unfold gimbalref06_sameList.l0
    rw [if_neg (by omega)]
  | k + 1, m + 1, h, hm => by
    unfold gimbalref06_sameList.l0
    rw [if_pos (by omega), if_pos (by omega), if_pos (by omega), if_pos rfl, M.wrap64_in _ (by omega), show (l.length : Int) - ((m + 1 : Nat) : Int) + 1 = (l.length : Int) - (m : Int) by omega]
    exact same_l0 l hl k m (by omega) (by omega)
theorem same_l (l : List Int) (hl : l.length ≤ 1000000) (k : Nat) (h : l.length < k) : gimbalref06_sameList.f k l l = some true := by
  unfold gimbalref06_sameList.f
  rw [if_pos rfl]
  have := same_l0 l hl k l.length h (Nat.le_refl _)
  rwa [show (l.length : Int) - (l.length : Int) = 0 by omega] at this
theorem sames_l0 (l : List (List Int)) (hl : l.length ≤ 1000000) (b : Nat) (hb : b ≤ 1000000) (hr : ∀ i : Int, (rd_L9 l i).length ≤ b) : ∀ k m : Nat, m + b < k → m ≤ l.length → gimbalref06_sameLists.l0 k l l ((l.length : Int) - (m : Int)) = some true
  | 0, m, h, _ => absurd h (Nat.not_lt_zero _)
  | k + 1, 0, h, hm => by
    unfold gimbalref06_sameLists.l0
    rw [if_neg (by omega)]
  | k + 1, m + 1, h, hm => by
    unfold gimbalref06_sameLists.l0
    have h1 := hr ((l.length : Int) - ((m + 1 : Nat) : Int))
    rw [if_pos (by omega), if_pos (by omega), if_pos (by omega), same_l _ (by omega) k (by omega), Option.bind_some, if_pos rfl, M.wrap64_in _ (by omega), show (l.length : Int) - ((m + 1 : Nat) : Int) + 1 = (l.length : Int) - (m : Int) by omega]
    exact sames_l0 l hl b hb hr k m (by omega) (by omega)
theorem sames_l (l : List (List Int)) (hl : l.length ≤ 1000000) (b : Nat) (hb : b ≤ 1000000) (hr : ∀ i : Int, (rd_L9 l i).length ≤ b) (k : Nat) (h : l.length + b < k) : gimbalref06_sameLists.f k l l = some true := by
  unfold gimbalref06_sameLists.f
  rw [if_pos rfl]
  have := sames_l0 l hl b hb hr k l.length h (Nat.le_refl _)
  rwa [show (l.length : Int) - (l.length : Int) = 0 by omega] at this
theorem same_f (x0 x1 x2 x3 x4 : Int) (l : List Int) (l1 l2 : List (List Int)) (h0 : l.length ≤ 1000000) (h1 : l1.length ≤ 1000000) (h2 : l2.length ≤ 1000000) (hr1 : ∀ i : Int, (rd_L9 l1 i).length ≤ 1000000) (hr2 : ∀ i : Int, (rd_L9 l2 i).length ≤ 1000000) :
    gimbalref06_Same.f 3000001 x0 x1 x2 x3 x4 l l1 l2 x0 x1 x2 x3 x4 l l1 l2 = some true := by
  unfold gimbalref06_Same.f
  rw [if_pos rfl, if_pos rfl, if_pos rfl, if_pos rfl, if_pos rfl, same_l l h0 _ (by omega), Option.bind_some, if_pos rfl, sames_l l1 h1 1000000 (Nat.le_refl _) hr1 _ (by omega), Option.bind_some, if_pos rfl, sames_l l2 h2 1000000 (Nat.le_refl _) hr2 _ (by omega), Option.bind_some]
theorem some_f (a : Int) (h : -9223372036854775808 ≤ a ∧ a ≤ 9223372036854775807) : ∃ r, gimballaw08_some.f a = some r ∧ -9223372036854775808 ≤ r ∧ r ≤ 9223372036854775807 := by
  unfold gimballaw08_some.f
  by_cases c : a > 1000
  · rw [if_pos c]
    exact ⟨_, rfl, by unfold wrap64; omega⟩
  · rw [if_neg c]
    exact ⟨_, rfl, h⟩
/-- The sizes of what a run leaves. -/
structure Sized (G : Gr) (S : St) : Prop where
  regs : S.regs.length ≤ 100000
  arrs : S.arrs.length ≤ 1000
  rows : ∀ i : Int, (rd_L9 S.arrs i).length ≤ 1000
  marks : S.marks.length ≤ 64
  mrow : ∀ i : Int, (rd_L9 S.marks i).length ≤ 100000
/-- What the marks of a run keep. -/
def MarksOK (G : Gr) (S : St) : Prop := S.marks.length ≤ 64 ∧ ∀ r ∈ S.marks, r.length = G.l5.length
theorem reckS_mk (S : St) (y : S52) (f : Nat) (c : Bool) : (reckS S y f c).marks = S.marks := by unfold reckS; split <;> rfl
theorem divS_mk (S : St) (y : S52) : (divS S y).marks = S.marks := by
  unfold divS
  split
  · rfl
  · split
    · split <;> rfl
    · rfl
theorem loadS_mk (S : St) (y : S52) : (loadS S y).marks = S.marks := by unfold loadS; split <;> rfl
theorem testS_mk (S : St) (y : S52) : (testS S y).marks = S.marks := by unfold testS; split <;> rfl
theorem spendS_mk (S : St) : (spendS S).marks = S.marks := by unfold spendS; split <;> rfl
theorem setS_mk (G : Gr) (S : St) (y : S52) : (setS G S y).marks = S.marks := by unfold setS; split <;> rfl
theorem readS_mk (G : Gr) (sc : List Int) (S : St) (y : S52) : (readS G sc S y).marks = S.marks := by
  unfold readS
  split
  · rfl
  · split
    · rfl
    · split <;> rfl
theorem storeS_mk (G : Gr) (S : St) (y : S52) : (storeS G S y).marks = S.marks := by
  unfold storeS
  split
  · split <;> rfl
  · rfl
theorem marks_op {G : Gr} {sc : List Int} {S : St} (h : MarksOK G S) (h5 : G.l5.length ≤ S.regs.length) (y : S52) : MarksOK G (opS G sc S y) := by
  have key : ∀ T : St, T.marks = S.marks → MarksOK G T := fun T e => by unfold MarksOK; rw [e]; exact h
  by_cases n17 : y.f0 = 17
  · rw [opS_17 n17]
    unfold loopS
    split
    · exact key _ rfl
    · split
      · exact key _ rfl
      · split
        · rename_i hm
          refine ⟨?_, fun r hr => ?_⟩
          · show (S.marks ++ [S.regs.take G.l5.length]).length ≤ 64
            rw [List.length_append, List.length_singleton]
            omega
          · rcases List.mem_append.1 hr with hr | hr
            · exact h.2 r hr
            · rw [List.mem_singleton.1 hr, List.length_take]
              omega
        · exact key _ rfl
  · refine key _ ?_
    unfold opS
    by_cases h1 : y.f0 = 1
    · rw [if_pos h1]
    rw [if_neg h1]
    by_cases h1 : y.f0 = 2
    · rw [if_pos h1]
      exact reckS_mk _ _ _ _
    rw [if_neg h1]
    by_cases h1 : y.f0 = 3
    · rw [if_pos h1]
      exact reckS_mk _ _ _ _
    rw [if_neg h1]
    by_cases h1 : y.f0 = 4
    · rw [if_pos h1]
      exact reckS_mk _ _ _ _
    rw [if_neg h1]
    by_cases h1 : y.f0 = 5
    · rw [if_pos h1]
      exact reckS_mk _ _ _ _
    rw [if_neg h1]
    by_cases h1 : y.f0 = 6
    · rw [if_pos h1]
      exact reckS_mk _ _ _ _
    rw [if_neg h1]
    by_cases h1 : y.f0 = 7
    · rw [if_pos h1]
      exact divS_mk _ _
    rw [if_neg h1]
    by_cases h1 : y.f0 = 8
    · rw [if_pos h1]
      exact divS_mk _ _
    rw [if_neg h1]
    by_cases h1 : y.f0 = 9
    · rw [if_pos h1]
      exact reckS_mk _ _ _ _
    rw [if_neg h1]
    by_cases h1 : y.f0 = 10
    · rw [if_pos h1]
      exact reckS_mk _ _ _ _
    rw [if_neg h1]
    by_cases h1 : y.f0 = 11
    · rw [if_pos h1]
      exact loadS_mk _ _
    rw [if_neg h1]
    by_cases h1 : y.f0 = 12
    · rw [if_pos h1]
      exact readS_mk _ _ _ _
    rw [if_neg h1]
    by_cases h1 : y.f0 = 13
    · rw [if_pos h1]
      exact setS_mk _ _ _
    rw [if_neg h1]
    by_cases h1 : y.f0 = 14
    · rw [if_pos h1]
      exact storeS_mk _ _ _
    rw [if_neg h1]
    by_cases h1 : y.f0 = 15
    · rw [if_pos h1]
      exact testS_mk _ _
    rw [if_neg h1]
    by_cases h1 : y.f0 = 16
    · rw [if_pos h1]
    rw [if_neg h1]
    rw [if_neg n17]
    by_cases h1 : y.f0 = 18
    · rw [if_pos h1]
    rw [if_neg h1]
    by_cases h1 : y.f0 = 19
    · rw [if_pos h1]
    rw [if_neg h1]
    by_cases h1 : y.f0 = 20
    · rw [if_pos h1]
      exact spendS_mk _
    rw [if_neg h1]
    rfl
theorem runs_marks {G : Gr} {sc : List Int} {S : St} {N : Nat} (h : Runs G sc S N) (hm : MarksOK G S) (h5 : (G.l5.length : Int) ≤ G.regs) : ∀ k, k ≤ N → MarksOK G (stepN G sc S k) := fun k => by
  induction k with
  | zero => exact fun _ => hm
  | succ k ih =>
    intro hk
    have hg := (h.good k (by omega)).regs
    have h1 := ih (by omega)
    show MarksOK G (stepC G sc (stepN G sc S k))
    unfold stepC
    exact marks_op (S := { stepN G sc S k with at_ := (rd_T52 G.l0 (stepN G sc S k).at_).f6.f0 }) h1 (by show G.l5.length ≤ (stepN G sc S k).regs.length; omega) _
theorem runs_sized {G : Gr} {sc : List Int} {f : Int} (hF : FitOK G) {N : Nat} (h : Runs G sc (beginS G f G.l5.length G.l6.length) N) {k : Nat} (hk : k ≤ N) : Sized G (stepN G sc (beginS G f G.l5.length G.l6.length) k) := by
  have h5 : (G.l5.length : Int) ≤ G.regs ∧ G.regs ≤ 10000 := by obtain ⟨ds, hD, _⟩ := hF.rest; have := hD.regs; have := hD.le; have := hF.n2; have := hF.parts.n5; omega
  have hg := h.good k hk
  have hm := runs_marks h ⟨Nat.zero_le _, fun r hr => (nomatch hr)⟩ h5.1 k hk
  have h6 := hF.parts.n6
  have hn5 := hF.parts.n5
  refine ⟨by have := hg.regs; omega, by have := hg.arrs; omega, rd_L9_le (fun r hr => ?_), hm.1, rd_L9_le (fun r hr => by rw [hm.2 r hr]; omega)⟩
  obtain ⟨i, hi, e⟩ := List.getElem_of_mem hr
  have hz := hg.sizes i (by have := hg.arrs; omega)
  rw [List.getD_eq_getElem?_getD, List.getElem?_eq_getElem hi] at hz
  have h2 := (hF.parts.ar i (by have := hg.arrs; omega)).2
  have hz2 : ((stepN G sc (beginS G f G.l5.length G.l6.length) k).arrs[i].length : Int) = (rd_T85 G.l6 (i : Int)).f2 := hz
  rw [e] at hz2
  omega
theorem RetO.sim {e : Ending} {w : World} {G : Gr} {S T : St} (h : RetO e w G T) (hs : Sim S T) : RetO e w G S := by
  rw [hs.eq] at h
  exact h
/-- Two outcomes of one run are the same. -/
theorem same_calls {G : Gr} {S : St} (hz : Sized G S) {A1 A2 A3 B1 B2 B3 : Option Addr} {c1 c2 c3 d1 d2 d3 : Nat} (w : World)
    (a1 : Kd.C (Kd.int .i64) w A1 (S.regs.take G.l5.length).length (S.regs.take G.l5.length) ∧ (S.regs.take G.l5.length).length ≤ c1) (a2 : Kd.C kL w A2 S.arrs.length S.arrs ∧ S.arrs.length ≤ c2) (a3 : Kd.C kL w A3 S.marks.length S.marks ∧ S.marks.length ≤ c3)
    (b1 : Kd.C (Kd.int .i64) w B1 (S.regs.take G.l5.length).length (S.regs.take G.l5.length) ∧ (S.regs.take G.l5.length).length ≤ d1) (b2 : Kd.C kL w B2 S.arrs.length S.arrs ∧ S.arrs.length ≤ d2) (b3 : Kd.C kL w B3 S.marks.length S.marks ∧ S.marks.length ≤ d3) :
    Calls Try.prog 9 #[.agg #[.int .i64 S.en, .int .i64 S.site, .int .i64 S.kind, .int .i64 S.ticks, .int .i64 S.reads, .slice A1 (S.regs.take G.l5.length).length c1, .slice A2 S.arrs.length c2, .slice A3 S.marks.length c3], .agg #[.int .i64 S.en, .int .i64 S.site, .int .i64 S.kind, .int .i64 S.ticks, .int .i64 S.reads, .slice B1 (S.regs.take G.l5.length).length d1, .slice B2 S.arrs.length d2, .slice B3 S.marks.length d3]] w fun e w' => e = .returned (.bool true) ∧ Below w.heap.size w w' :=
  gimbalref06_Same.calls 3000001 S.en S.site S.kind S.ticks S.reads A1 c1 _ A2 c2 _ A3 c3 _ S.en S.site S.kind S.ticks S.reads B1 d1 _ B2 d2 _ B3 d3 _ true w a1.1 a1.2 a2.1 a2.2 a3.1 a3.2 b1.1 b1.2 b2.1 b2.2 b3.1 b3.2
    (same_f _ _ _ _ _ _ _ _ (by have := hz.regs; rw [List.length_take]; omega) (by have := hz.arrs; omega) (by have := hz.marks; omega) (fun i => by have := hz.rows i; omega) (fun i => by have := hz.mrow i; omega))
/-- The rows of an outcome, as they are read. -/
structure Rd3 (G : Gr) (S : St) (w : World) (A1 : Option Addr) (c1 : Nat) (A2 : Option Addr) (c2 : Nat) (A3 : Option Addr) (c3 : Nat) : Prop where
  a1 : Kd.C (Kd.int .i64) w A1 (S.regs.take G.l5.length).length (S.regs.take G.l5.length) ∧ (S.regs.take G.l5.length).length ≤ c1
  a2 : Kd.C kL w A2 S.arrs.length S.arrs ∧ S.arrs.length ≤ c2
  a3 : Kd.C kL w A3 S.marks.length S.marks ∧ S.marks.length ≤ c3
abbrev oV (G : Gr) (S : St) (A1 : Option Addr) (c1 : Nat) (A2 : Option Addr) (c2 : Nat) (A3 : Option Addr) (c3 : Nat) : Value := .agg #[.int .i64 S.en, .int .i64 S.site, .int .i64 S.kind, .int .i64 S.ticks, .int .i64 S.reads, .slice A1 (S.regs.take G.l5.length).length c1, .slice A2 S.arrs.length c2, .slice A3 S.marks.length c3]
theorem RetO.rd {e : Ending} {w : World} {G : Gr} {S : St} (h : RetO e w G S) : ∃ A1 c1 A2 c2 A3 c3, e = .returned (oV G S A1 c1 A2 c2 A3 c3) ∧ Rd3 G S w A1 c1 A2 c2 A3 c3 := by
  obtain ⟨A1, c1, A2, c2, A3, c3, b1, b2, ok1, ok2, ok3, he, r1, r2, r3⟩ := h
  have h1 := Kd.R_reads' r1
  have h2 := Kd.S_reads' r2
  have h3 := Kd.R_reads' r3
  exact ⟨A1, c1, A2, c2, A3, c3, he, ⟨h1.2.2, h1.2.1⟩, ⟨h2.2.2, h2.2.1⟩, ⟨h3.2.2, h3.2.1⟩⟩
theorem Rd3.below {G : Gr} {S : St} {w w' : World} {A1 A2 A3 : Option Addr} {c1 c2 c3 : Nat} (h : Rd3 G S w A1 c1 A2 c2 A3 c3) (hb : Below w.heap.size w w') : Rd3 G S w' A1 c1 A2 c2 A3 c3 :=
  ⟨⟨Kd.C_below h.a1.1 hb, h.a1.2⟩, ⟨Kd.C_below h.a2.1 hb, h.a2.2⟩, ⟨Kd.C_below h.a3.1 hb, h.a3.2⟩⟩
theorem Rd3.same {G : Gr} {S : St} {w : World} {A1 A2 A3 B1 B2 B3 : Option Addr} {c1 c2 c3 d1 d2 d3 : Nat} (h : Rd3 G S w A1 c1 A2 c2 A3 c3) (h' : Rd3 G S w B1 d1 B2 d2 B3 d3) (hz : Sized G S) :
    Calls Try.prog 9 #[oV G S A1 c1 A2 c2 A3 c3, oV G S B1 d1 B2 d2 B3 d3] w fun e w' => e = .returned (.bool true) ∧ Below w.heap.size w w' := same_calls hz w h.a1 h.a2 h.a3 h'.a1 h'.a2 h'.a3
end Go.Proofs.Ytcalcbeonbfkmaa.P
