import Derived.Test.YtcalcbeonbfkmaaTrRG11
/- What the law's proof needs of G12. -/
namespace Go.Proofs.Ytcalcbeonbfkmaa.P
open Go.RowKit Go.Proofs.YtcalcbeonbfkmaaW.PrintWords Go.Proofs.YtcalcbeonbfkmaaW.PrintLast Go.Proofs.YtcalcbeonbfkmaaW.PrintMore Go.Proofs.YtcalcbeonbfkmaaO
set_option linter.unusedVariables false
set_option linter.unusedSimpArgs false
section
variable {G : Gr} {sc : List Int} {S : St} {y : S52}
theorem Good.at_ (h : Good G sc S) (x : Int) : Good G sc { S with at_ := x } := ⟨h.regs, h.fuel, h.reads, h.arrs, h.sizes⟩
theorem Good.fail (h : Good G sc S) (y : S52) (k : Int) : Good G sc (failS S y k) := ⟨h.regs, h.fuel, h.reads, h.arrs, h.sizes⟩
theorem Good.en (h : Good G sc S) (k : Int) : Good G sc { S with en := k } := ⟨h.regs, h.fuel, h.reads, h.arrs, h.sizes⟩
theorem Good.setR (h : Good G sc S) (j : Nat) (x : Int) : Good G sc { S with regs := S.regs.set j x } := ⟨by rw [List.length_set]; exact h.regs, h.fuel, h.reads, h.arrs, h.sizes⟩
/-- What a step leaves: the run fits, and goes on at `at_`, with the fuel, or is at its end. -/
structure Left (G : Gr) (sc : List Int) (S T : St) : Prop where
  good : Good G sc T
  go : T.en = 0 → T.at_ = S.at_ ∧ T.fuel = S.fuel
theorem Left.refl (h : Good G sc S) : Left G sc S S := ⟨h, fun _ => ⟨rfl, rfl⟩⟩
theorem Left.fail (h : Good G sc S) (k : Int) : Left G sc S (failS S y k) := ⟨h.fail y k, fun e => absurd e (by decide : (1 : Int) ≠ 0)⟩
theorem Left.setR (h : Good G sc S) (j : Nat) (x : Int) : Left G sc S { S with regs := S.regs.set j x } := ⟨h.setR j x, fun _ => ⟨rfl, rfl⟩⟩
theorem left_reck (h : Good G sc S) (f : Nat) (c : Bool) : Left G sc S (reckS S y f c) := by
  unfold reckS
  split
  · exact Left.fail h 1
  · exact Left.setR h _ _
theorem left_div (h : Good G sc S) : Left G sc S (divS S y) := by
  unfold divS
  split
  · exact Left.fail h 2
  · split
    · split
      · exact Left.fail h 3
      · exact Left.setR h _ _
    · exact Left.setR h _ _
theorem left_load (h : Good G sc S) : Left G sc S (loadS S y) := by
  unfold loadS
  split
  · exact Left.setR h _ _
  · exact Left.fail h 4
theorem left_set (h : Good G sc S) : Left G sc S (setS G S y) := by
  unfold setS
  split
  · exact Left.setR h _ _
  · exact Left.fail h 1
theorem left_store (h : Good G sc S) : Left G sc S (storeS G S y) := by
  unfold storeS
  split
  · split
    · refine ⟨⟨h.regs, h.fuel, h.reads, by rw [List.length_set]; exact h.arrs, fun i hi => ?_⟩, fun _ => ⟨rfl, rfl⟩⟩
      have hs := h.sizes i hi
      show (((S.arrs.set y.f2.toNat _).getD i []).length : Int) = _
      rw [List.getD_eq_getElem?_getD, List.getElem?_set]
      by_cases e : y.f2.toNat = i
      · subst e
        rw [if_pos rfl, if_pos (by rw [h.arrs]; exact hi)]
        show ((List.set _ _ _).length : Int) = _
        rw [List.length_set]
        exact hs
      · rw [if_neg e, ← List.getD_eq_getElem?_getD]
        exact hs
    · exact Left.fail h 1
  · exact Left.fail h 4
theorem left_read (h : Good G sc S) : Left G sc S (readS G sc S y) := by
  have hr := h.reads
  unfold readS
  split
  · exact ⟨h.en 2, fun e => absurd e (by decide : (2 : Int) ≠ 0)⟩
  · rename_i hne
    have hk : Good G sc { S with reads := S.reads + 1 } := ⟨h.regs, h.fuel, (show 0 ≤ S.reads + 1 ∧ S.reads + 1 ≤ (sc.length : Int) by omega), h.arrs, h.sizes⟩
    split
    · exact ⟨hk.en 5, fun e => absurd e (by decide : (5 : Int) ≠ 0)⟩
    · split
      · exact ⟨hk.en 5, fun e => absurd e (by decide : (5 : Int) ≠ 0)⟩
      · exact ⟨hk.setR _ _, fun _ => ⟨rfl, rfl⟩⟩
/-- What an instruction leaves. -/
theorem left_op (h : Good G sc S) (n15 : y.f0 ≠ 15) (nb : ¬ brk y) : Left G sc S (opS G sc S y) := by
  unfold opS
  by_cases h1 : y.f0 = 1
  · rw [if_pos h1]; exact Left.setR h _ _
  rw [if_neg h1]
  by_cases h1 : y.f0 = 2
  · rw [if_pos h1]; exact left_reck h _ _
  rw [if_neg h1]
  by_cases h1 : y.f0 = 3
  · rw [if_pos h1]; exact left_reck h _ _
  rw [if_neg h1]
  by_cases h1 : y.f0 = 4
  · rw [if_pos h1]; exact left_reck h _ _
  rw [if_neg h1]
  by_cases h1 : y.f0 = 5
  · rw [if_pos h1]; exact left_reck h _ _
  rw [if_neg h1]
  by_cases h1 : y.f0 = 6
  · rw [if_pos h1]; exact left_reck h _ _
  rw [if_neg h1]
  by_cases h1 : y.f0 = 7
  · rw [if_pos h1]; exact left_div h
  rw [if_neg h1]
  by_cases h1 : y.f0 = 8
  · rw [if_pos h1]; exact left_div h
  rw [if_neg h1]
  by_cases h1 : y.f0 = 9
  · rw [if_pos h1]; exact left_reck h _ _
  rw [if_neg h1]
  by_cases h1 : y.f0 = 10
  · rw [if_pos h1]; exact left_reck h _ _
  rw [if_neg h1]
  by_cases h1 : y.f0 = 11
  · rw [if_pos h1]; exact left_load h
  rw [if_neg h1]
  by_cases h1 : y.f0 = 12
  · rw [if_pos h1]; exact left_read h
  rw [if_neg h1]
  by_cases h1 : y.f0 = 13
  · rw [if_pos h1]; exact left_set h
  rw [if_neg h1]
  by_cases h1 : y.f0 = 14
  · rw [if_pos h1]; exact left_store h
  rw [if_neg h1, if_neg n15]
  by_cases h1 : y.f0 = 16
  · rw [if_pos h1]; exact Left.refl h
  rw [if_neg h1, if_neg (fun e => nb (Or.inl e))]
  by_cases h1 : y.f0 = 18
  · rw [if_pos h1]; exact ⟨⟨h.regs, h.fuel, h.reads, h.arrs, h.sizes⟩, fun _ => ⟨rfl, rfl⟩⟩
  rw [if_neg h1]
  by_cases h1 : y.f0 = 19
  · rw [if_pos h1]; exact Left.refl h
  rw [if_neg h1, if_neg (fun e => nb (Or.inr e))]
  exact Left.fail h 5
theorem opS_15 (h : y.f0 = 15) : opS G sc S y = testS S y := by
  unfold opS
  rw [h]
  rfl
theorem opS_17 (h : y.f0 = 17) : opS G sc S y = loopS G S := by
  unfold opS
  rw [h]
  rfl
theorem opS_20 (h : y.f0 = 20) : opS G sc S y = spendS S := by
  unfold opS
  rw [h]
  rfl
theorem opS_21 (h : y.f0 = 21) : opS G sc S y = failS S y 5 := by
  unfold opS
  rw [h]
  rfl
theorem left_brk (h : Good G sc S) (hb : brk y) : Good G sc (opS G sc S y) ∧ ((opS G sc S y).en = 0 → (opS G sc S y).at_ = S.at_ ∧ (opS G sc S y).fuel = S.fuel - 1 ∧ 0 < S.fuel) := by
  have hf := h.fuel
  rcases hb with e | e
  · rw [opS_17 e]
    unfold loopS
    split
    · exact ⟨h.en 3, fun e => absurd e (by decide : (3 : Int) ≠ 0)⟩
    · split
      · exact ⟨h.en 4, fun e => absurd e (by decide : (4 : Int) ≠ 0)⟩
      · have hk : 0 ≤ S.fuel - 1 ∧ S.fuel - 1 ≤ 9223372036854775807 := by omega
        split
        · exact ⟨⟨h.regs, hk, h.reads, h.arrs, h.sizes⟩, fun _ => ⟨rfl, rfl, by omega⟩⟩
        · exact ⟨⟨h.regs, hk, h.reads, h.arrs, h.sizes⟩, fun _ => ⟨rfl, rfl, by omega⟩⟩
  · rw [opS_20 e]
    unfold spendS
    split
    · exact ⟨h.en 4, fun e => absurd e (by decide : (4 : Int) ≠ 0)⟩
    · have hk : 0 ≤ S.fuel - 1 ∧ S.fuel - 1 ≤ 9223372036854775807 := by omega
      exact ⟨⟨h.regs, hk, h.reads, h.arrs, h.sizes⟩, fun _ => ⟨rfl, rfl, by omega⟩⟩
/-- A step of a fit graph's run. -/
theorem step_law (hF : FitOK G) {f : Nat → Nat} (hf : Ranked G.l0 f) (h : Good G sc S) {p : Nat} (hp : p < G.l0.length) (ep : S.at_ = (p : Int)) :
    Good G sc (stepC G sc S) ∧ ((stepC G sc S).en = 0 → ∃ q : Nat, q < G.l0.length ∧ (stepC G sc S).at_ = (q : Int) ∧ (((stepC G sc S).fuel = S.fuel - 1 ∧ 0 < S.fuel) ∨ ((stepC G sc S).fuel = S.fuel ∧ f q < f p))) := by
  obtain ⟨ds, hD, hI⟩ := hF.rest
  have I := hI p hp
  have K := hf p hp
  unfold stepC
  rw [ep]
  generalize rd_T52 G.l0 (p : Int) = y at I K ⊢
  obtain ⟨i1, i2, i3, i4⟩ := I.nx
  have hA := h.at_ y.f6.f0
  by_cases e15 : y.f0 = 15
  · rw [opS_15 e15]
    have K' := K.resolve_left (fun hb => by rcases hb with e | e <;> rw [e15] at e <;> exact absurd e (by decide))
    unfold testS
    have key : ∀ x : Int, x = y.f6.f0 ∨ x = y.f6.f1 → 0 ≤ x → ∃ q : Nat, q < G.l0.length ∧ x = (q : Int) ∧ f q < f p := fun x hx h0 => by
      rcases K' x hx with hn | ⟨q, e, hq, hl⟩
      · omega
      · exact ⟨q, hq, e, hl⟩
    split
    · refine ⟨hA, fun _ => ?_⟩
      obtain ⟨q, hq, e, hl⟩ := key y.f6.f0 (Or.inl rfl) (i2 (by rw [e15]; decide)).1
      exact ⟨q, hq, e, Or.inr ⟨rfl, hl⟩⟩
    · refine ⟨h.at_ _, fun _ => ?_⟩
      obtain ⟨q, hq, e, hl⟩ := key y.f6.f1 (Or.inr rfl) (i3 e15).1
      exact ⟨q, hq, e, Or.inr ⟨rfl, hl⟩⟩
  · by_cases e21 : y.f0 = 21
    · rw [opS_21 e21]
      exact ⟨hA.fail y 5, fun e => absurd e (by decide : (1 : Int) ≠ 0)⟩
    · have hx := i2 e21
      by_cases hb : brk y
      · obtain ⟨g1, g2⟩ := left_brk hA hb
        refine ⟨g1, fun e => ?_⟩
        obtain ⟨a1, a2, a3⟩ := g2 e
        exact ⟨y.f6.f0.toNat, by omega, by rw [a1]; show y.f6.f0 = _; omega, Or.inl ⟨a2, a3⟩⟩
      · have L := left_op (G := G) (sc := sc) hA e15 hb
        refine ⟨L.good, fun e => ?_⟩
        obtain ⟨a1, a2⟩ := L.go e
        rcases (K.resolve_left hb) y.f6.f0 (Or.inl rfl) with hn | ⟨q, e, hq, hl⟩
        · omega
        · exact ⟨q, hq, by rw [a1]; exact e, Or.inr ⟨a2, hl⟩⟩
theorem stepN_shift (G : Gr) (sc : List Int) (S : St) : ∀ k, stepN G sc (stepC G sc S) k = stepN G sc S (k + 1)
  | 0 => rfl
  | k + 1 => by
    show stepC G sc (stepN G sc (stepC G sc S) k) = stepC G sc (stepN G sc S (k + 1))
    rw [stepN_shift G sc S k]
theorem Runs.more (h : Good G sc S) (e0 : S.en = 0) (a0 : 0 ≤ S.at_) (a1 : S.at_ < (G.l0.length : Int)) {N : Nat} (hR : Runs G sc (stepC G sc S) N) : Runs G sc S (N + 1) := by
  refine ⟨fun k hk => ?_, fun k hk => ?_, ?_⟩
  · cases k with
    | zero => exact h
    | succ k => rw [← stepN_shift]; exact hR.good k (by omega)
  · cases k with
    | zero => exact ⟨e0, a0, a1⟩
    | succ k => rw [← stepN_shift]; exact hR.go k (by omega)
  · rw [← stepN_shift]; exact hR.stop
theorem runs_rank (hF : FitOK G) {f : Nat → Nat} (hf : Ranked G.l0 f) (F : Nat) (ihF : ∀ F', F' < F → ∀ S : St, Good G sc S → S.fuel = (F' : Int) → 0 ≤ S.at_ → S.at_ < (G.l0.length : Int) → ∃ N, Runs G sc S N) :
    ∀ r, ∀ S : St, Good G sc S → S.fuel = (F : Int) → ∀ p : Nat, p < G.l0.length → S.at_ = (p : Int) → f p = r → ∃ N, Runs G sc S N := fun r => Nat.strongRecOn r fun r ih S hS hfu p hp ep er => by
  by_cases e : S.en = 0
  · obtain ⟨g1, g2⟩ := step_law hF hf hS hp ep
    have a0 : 0 ≤ S.at_ := by omega
    have a1 : S.at_ < (G.l0.length : Int) := by omega
    by_cases e2 : (stepC G sc S).en = 0
    · obtain ⟨q, hq, eq, hc⟩ := g2 e2
      rcases hc with ⟨c1, c2⟩ | ⟨c1, c2⟩
      · obtain ⟨N, hN⟩ := ihF (F - 1) (by omega) _ g1 (by rw [c1]; omega) (by omega) (by omega)
        exact ⟨N + 1, Runs.more hS e a0 a1 hN⟩
      · obtain ⟨N, hN⟩ := ih (f q) (by omega) _ g1 (by rw [c1]; exact hfu) q hq eq rfl
        exact ⟨N + 1, Runs.more hS e a0 a1 hN⟩
    · exact ⟨0 + 1, Runs.more hS e a0 a1 ⟨fun k hk => by rw [Nat.le_zero.1 hk]; exact g1, fun k hk => absurd hk (Nat.not_lt_zero k), e2⟩⟩
  · exact ⟨0, fun k hk => by rw [Nat.le_zero.1 hk]; exact hS, fun k hk => absurd hk (Nat.not_lt_zero k), e⟩
/-- A fit graph's run ends. -/
theorem runs_of (hF : FitOK G) (hS : Good G sc S) (a0 : 0 ≤ S.at_) (a1 : S.at_ < (G.l0.length : Int)) : ∃ N, Runs G sc S N := by
  obtain ⟨f, hf⟩ := hF.ends
  have all : ∀ F : Nat, ∀ S : St, Good G sc S → S.fuel = (F : Int) → 0 ≤ S.at_ → S.at_ < (G.l0.length : Int) → ∃ N, Runs G sc S N := fun F => Nat.strongRecOn F fun F ihF S hS hfu a0 a1 =>
    runs_rank hF hf F ihF (f S.at_.toNat) S hS hfu S.at_.toNat (by omega) (by omega) rfl
  exact all S.fuel.toNat S hS (by have := hS.fuel; omega) a0 a1
end
theorem regK_all (G : Gr) (h : 0 ≤ G.regs) : ∀ k, ((regK G k).length : Int) = G.regs := fun k => by rw [regK_len]; omega
end Go.Proofs.Ytcalcbeonbfkmaa.P
/- What the law's proof needs of G13. -/
namespace Go.Proofs.Ytcalcbeonbfkmaa.P
open Go.RowKit Go.Proofs.YtcalcbeonbfkmaaW.PrintWords Go.Proofs.YtcalcbeonbfkmaaW.PrintLast Go.Proofs.YtcalcbeonbfkmaaW.PrintMore Go.Proofs.YtcalcbeonbfkmaaO
attribute [local go_sem] max2_int min2_int max_two min_two max_three min_three max_four min_four
set_option linter.unusedVariables false
set_option linter.unusedSimpArgs false
theorem begin_good {G : Gr} {sc : List Int} (hF : FitOK G) (f : Int) (hf : f ≤ 9223372036854775807) : Good G sc (beginS G (mx f 0) G.l5.length G.l6.length) := by
  have h0 : 0 ≤ G.regs := by obtain ⟨ds, hD, _⟩ := hF.rest; have := hD.regs; omega
  refine ⟨regK_all G h0 _, ?_, (show (0 : Int) ≤ 0 ∧ (0 : Int) ≤ (sc.length : Int) by omega), arrK_len G _, fun i hi => ?_⟩
  · show 0 ≤ mx f 0 ∧ mx f 0 ≤ 9223372036854775807
    unfold mx
    split <;> omega
  · have key : ∀ k, i < k → (arrK G k).getD i [] = List.replicate (rd_T85 G.l6 (i : Int)).f2.toNat (rd_T85 G.l6 (i : Int)).f3 := fun k => by
      induction k with
      | zero => intro h; omega
      | succ k ih =>
        intro h
        unfold arrK
        rw [List.getD_eq_getElem?_getD]
        by_cases e : i = k
        · subst e
          rw [List.getElem?_append_right (by rw [arrK_len]; exact Nat.le_refl _), arrK_len, Nat.sub_self]
          rfl
        · rw [List.getElem?_append_left (by rw [arrK_len]; omega), ← List.getD_eq_getElem?_getD]
          exact ih (by omega)
    show (((arrK G G.l6.length).getD i []).length : Int) = _
    rw [key _ hi, List.length_replicate]
    have := (hF.parts.ar i hi).2
    omega
theorem begin_runs {G : Gr} (sc : List Int) (hF : FitOK G) (f : Int) (hf : f ≤ 9223372036854775807) : ∃ N, Runs G sc (beginS G (mx f 0) G.l5.length G.l6.length) N :=
  runs_of hF (begin_good hF f hf) (Int.le_refl 0) (by have := hF.n1; show (0 : Int) < _; omega)
theorem RetO.boxed {w w' : World} {g : Nat} {c : Array Value} {e : Ending} {G : Gr} {S : St} (h : RetO e w G S) (hb : w.heap[g]? = some (.cells c 36 (0, 0))) (hg : w.grownBy w' (some g)) : RetO e w' G S := by
  obtain ⟨A1, c1, A2, c2, A3, c3, b1, b2, ok1, ok2, ok3, he, r1, r2, r3⟩ := h
  have e1 : ∀ q, q ∈ [2] → q ≠ 36 := fun q hq => by rw [List.mem_singleton.1 hq]; decide
  have e2 : ∀ q, q ∈ [29, 2] → q ≠ 36 := fun q hq => by
    rcases List.mem_cons.1 hq with rfl | hq
    · decide
    · exact e1 q hq
  exact ⟨A1, c1, A2, c2, A3, c3, b1, b2, ok1, ok2, ok3, he, R_boxed r1 hb e1 hg, S_boxed r2 hb e2 hg, R_boxed r3 hb e2 hg⟩
set_option maxHeartbeats 8000000 in
set_option maxRecDepth 100000 in
theorem run_calls (G : Gr) (w : World) (hG : G.Held w) (As : Option Addr) (sc : List Int) (cs : Nat) (f : Int) (hsc : Kd.C (Kd.int .i64) w As sc.length sc) (hl : sc.length ≤ 9223372036854775807) (hF : FitOK G) {N : Nat} (hR : Runs G sc (beginS G (mx f 0) G.l5.length G.l6.length) N) :
    Calls Try.prog 10 #[G.v, .slice As sc.length cs, .int .i64 f] w fun e w' => RetO e w' G (stepN G sc (beginS G (mx f 0) G.l5.length G.l6.length) N) ∧ Below w.heap.size w w' := by
  have hu28 := Try.underlying28
  have hu36 := Try.underlying36
  have HB := Aside0.mk (Below.refl w.heap.size w)
  have KR := Aside0.mk hR
  have KF := Aside0.mk hF
  have KG := Aside0.mk hG
  have KC := Aside0.mk hsc
  clear hR hF hG hsc
  obtain ⟨S, hSN⟩ : ∃ S, stepN G sc (beginS G (mx f 0) G.l5.length G.l6.length) N = S := ⟨_, rfl⟩
  rw [hSN]
  have KSN := Aside0.mk hSN
  clear hSN
  go_enter Try.func10, Try.ntmps10
  go_wp2_with (first | ((with_reducible refine gate_dst (N := 3) rfl ?_); refine boxQ 3 (gC G) 28 HB ?_; clear HB; intro g3 w1 _ GW3 B3 _ HB; have hcf := hcf8 B3; obtain ⟨_, _, _, _, _, _, _, _, _, _, _, _, _, _, _, _⟩ := hcf) | ((with_reducible refine gate_dst (N := 6) rfl ?_); refine boxQ 6 #[.int .i64 0, .int .i64 0, .int .i64 0, .int .i64 0, .int .i64 0, .slice none 0 0, .slice none 0 0, .slice none 0 0] 36 HB ?_; intro g6 w2 eg GW6 B6 hb HX; replace B3 := bbw B3 hb.out; clear HB hb eg; have HB := HX; clear HX; have hcf := hcf8 B3; obtain ⟨_, _, _, _, _, _, _, _, _, _, _, _, _, _, _, _⟩ := hcf) | ((with_reducible refine gate_callee (f := 15) rfl ?_); refine goesL_ _ rfl rfl Try.func15 (by kernel_rfl) rfl #[G.v, .slice As sc.length cs, .int .i64 f, .nilFunc] rfl (by (try simp only [List.map_toArray, List.map_cons, List.map_nil]); first | done | rfl) ?_; refine (walk_calls G _ (KG.out.below (bpk HB).out) As sc cs f (Kd.C_below KC.out (bpk HB).out) hl KF.out KR.out).mono ?_; rintro e w3 ⟨hO, hb⟩; rw [KSN.out] at hO; obtain ⟨A1, c1, A2, c2, A3, c3, b1, b2, ok1, ok2, ok3, he, r1, r2, r3⟩ := hO; obtain ⟨row, er⟩ : ∃ r, S.regs.take G.l5.length = r := ⟨_, rfl⟩; rw [er] at he r1; subst he; have ER := Aside0.mk er; clear er; have HX := bst HB hb; replace B6 := bbw B6 hb; clear HB hb B3; have HB := HX; clear HX; have K1 := Aside0.mk r1; have K2 := Aside0.mk r2; have K3 := Aside0.mk r3; clear r1 r2 r3; refine ⟨_, rfl, ?_⟩) | ((with_reducible refine gate_store (p := 6) (t := 36) rfl ?_); refine Hold.out ?_))
  constructor
  refine store_box rfl rfl rfl g6 36 _ #[.int .i64 S.en, .int .i64 S.site, .int .i64 S.kind, .int .i64 S.ticks, .int .i64 S.reads, .slice A1 row.length c1, .slice A2 S.arrs.length c2, .slice A3 S.marks.length c3] (pkA B6).out rfl rfl (by kernel_rfl) rfl (by kernel_rfl) ?_
  intro w4 hbs hgs
  have hO : RetO (.returned (.agg #[.int .i64 S.en, .int .i64 S.site, .int .i64 S.kind, .int .i64 S.ticks, .int .i64 S.reads, .slice A1 row.length c1, .slice A2 S.arrs.length c2, .slice A3 S.marks.length c3])) w4 G S := RetO.boxed ⟨A1, c1, A2, c2, A3, c3, b1, b2, ok1, ok2, ok3, by rw [ER.out], by rw [ER.out]; exact K1.out, K2.out, K3.out⟩ (pkA B6).out hgs
  have hw := Below_boxed (bpk HB).out (Nat.le_refl _) GW6.out hgs
  clear HB
  go_wp2
  refine bodyPost_ret (results_cell_row rfl _ _ g6 36 _ (0, 0) _ rfl hbs Try.underlying36 rfl (by kernel_rfl)) rfl ?_
  exact ⟨hO, hw⟩
end Go.Proofs.Ytcalcbeonbfkmaa.P
