/- What the law's proof needs of H10. -/
import Derived.Test.YtcalcbeonbfkmaaTrRH9
namespace Go.Proofs.Ytcalcbeonbfkmaa.P
open Go.RowKit Go.Proofs.YtcalcbeonbfkmaaW.PrintWords Go.Proofs.YtcalcbeonbfkmaaW.PrintLast Go.Proofs.YtcalcbeonbfkmaaW.PrintMore Go.Proofs.YtcalcbeonbfkmaaO
attribute [local go_sem] max2_int min2_int max_two min_two max_three min_three max_four min_four
set_option linter.unusedVariables false
set_option linter.unusedSimpArgs false
/-- One step of the document's machine. -/
def stepR (G : Gr) (sc : List Int) (S : St) : St := finS S (rd_T52 G.l0 S.at_) (opS G sc S (rd_T52 G.l0 S.at_))
def stepRN (G : Gr) (sc : List Int) (S : St) : Nat → St
  | 0 => S
  | k + 1 => stepR G sc (stepRN G sc S k)
/-- A run of the document's machine that fits its graph. -/
structure GoodR (G : Gr) (sc : List Int) (S : St) : Prop where
  regs : (S.regs.length : Int) = G.regs
  fuel : -9223372036854775808 ≤ S.fuel ∧ S.fuel ≤ 9223372036854775807
  reads : 0 ≤ S.reads ∧ S.reads ≤ (sc.length : Int)
  arrs : S.arrs.length = G.l6.length
  sizes : ∀ i : Nat, i < G.l6.length → ((S.arrs.getD i []).length : Int) = (rd_T85 G.l6 (i : Int)).f2
theorem opS_1 {G : Gr} {sc : List Int} {S : St} {y : S52} (e : y.f0 = 1) : opS G sc S y = putV S y (y.f4, 0) := by
  unfold opS putV
  rw [if_pos e, if_pos rfl]
set_option maxHeartbeats 8000000 in
set_option maxRecDepth 100000 in
theorem step_calls {w W : World} {E : List (Nat × Array Value × Nat)} {G : Gr} {vs vr va vm : Value} {gb : Nat} {S : St} (h : MR w W E G vs gb vr va vm S) {As : Option Addr} {sc : List Int} {cs : Nat} (hvs : vs = .slice As sc.length cs) (hG : G.Held w) (hsc : Kd.C (Kd.int .i64) w As sc.length sc) (hl : sc.length ≤ 9223372036854775807) (hF : FitOK G) (hK : GoodR G sc S) (hvr : ∃ gr cr, vr = .slice (some ⟨gr, 0, none⟩) S.regs.length cr) (he : S.en = 0) (ha : 0 ≤ S.at_ ∧ S.at_ < (G.l0.length : Int)) :
    Calls Try.prog 30 #[.pointer (some ⟨gb, 0, none⟩)] W fun e W' => e = .returned (.tuple #[]) ∧ ∃ v, MR w W' E G vs gb vr va v (stepR G sc S) := by
  obtain ⟨ds, hD, hI⟩ := hF.rest
  obtain ⟨p, ep⟩ : ∃ p : Nat, S.at_ = (p : Int) := ⟨S.at_.toNat, by omega⟩
  have I := hI p (by omega)
  have T := hD.temp (p := p) (by omega)
  have hrg := hD.regs
  have hdl := hD.le
  have h2 := hF.n2
  have h5 := hF.parts.n5
  rw [← ep] at I T
  obtain ⟨y, hy⟩ : ∃ y, rd_T52 G.l0 S.at_ = y := ⟨_, rfl⟩
  unfold stepR
  rw [hy] at I T ⊢
  have hkr := hK.regs
  have rok : ∀ x : Int, RegOK G ds p x → 0 ≤ x ∧ x < (S.regs.length : Int) := fun x hx => ⟨hx.1, by rw [hkr]; exact hx.2.1⟩
  have tok : isP y → 0 ≤ y.f1 ∧ y.f1 < (S.regs.length : Int) := fun h => ⟨(T h).1, by rw [hkr]; exact (T h).2⟩
  have harr : y.f0 = 11 ∨ y.f0 = 14 → ((S.arrs.getD y.f2.toNat []).length : Int) = (rd_T85 G.l6 y.f2).f2 ∧ 1 ≤ (rd_T85 G.l6 y.f2).f2 ∧ 1 ≤ (rd_T85 G.l6 y.f2).f1 ∧ (rd_T85 G.l6 y.f2).f1 ≤ 3 := fun h => by
    obtain ⟨a1, a2⟩ := I.ar h
    obtain ⟨i, hi⟩ : ∃ i : Nat, y.f2 = (i : Int) := ⟨y.f2.toNat, by omega⟩
    have hi2 : i < G.l6.length := by omega
    obtain ⟨t1, t2, t3⟩ := hF.parts.ar i hi2
    rw [hi, Int.toNat_natCast]
    exact ⟨hK.sizes i hi2, t2, t1⟩
  obtain ⟨op0, op1⟩ := I.op
  have hsm : S.regs.length ≤ 100000 := by omega
  have h5r : G.l5.length ≤ S.regs.length := by omega
  have fin : ∀ {T T' : St}, T = T' → ∀ {e : Ending} {W' : World}, (e = .returned (.tuple #[]) ∧ ∃ v, MR w W' E G vs gb vr va v (finS S y T')) → (e = .returned (.tuple #[]) ∧ ∃ v, MR w W' E G vs gb vr va v (finS S y T)) := fun h _ _ hh => by rw [h]; exact hh
  by_cases c10 : y.f0 ≤ 10
  · have ip : isP y := ⟨by omega, by omega⟩
    by_cases e : y.f0 = 1
    · exact (step_reck h hy hG ha he ⟨by omega, by omega⟩ (tok ip) (fun E' W' hm => rconst_calls hm y e)).mono fun _ _ => fin (opS_1 e)
    · have r2 : 0 ≤ y.f2 ∧ y.f2 < (S.regs.length : Int) := by
        by_cases e2 : y.f0 = 2 ∨ y.f0 = 3
        · exact rok _ (I.u1 (e2.elim .inl (fun h => .inr (.inl h))))
        · exact rok _ (I.u2 (.inl ⟨by omega, by omega⟩)).1
      have r3 : 0 ≤ y.f3 ∧ y.f3 < (S.regs.length : Int) := by
        by_cases e2 : y.f0 = 2 ∨ y.f0 = 3
        · rw [I.ba e2]; exact ⟨Int.le_refl _, by have := (tok ip); omega⟩
        · exact rok _ (I.u2 (.inl ⟨by omega, by omega⟩)).2
      exact (step_reck h hy hG ha he ⟨by omega, by omega⟩ (tok ip) (fun E' W' hm => rreckon_calls hm y r2 r3 ⟨by omega, by omega⟩)).mono fun _ _ => fin (opS_reck G sc S y ⟨by omega, by omega⟩)
  · have hc : y.f0 = 11 ∨ y.f0 = 12 ∨ y.f0 = 13 ∨ y.f0 = 14 ∨ y.f0 = 15 ∨ y.f0 = 16 ∨ y.f0 = 17 ∨ y.f0 = 18 ∨ y.f0 = 19 ∨ y.f0 = 20 ∨ y.f0 = 21 := by omega
    rcases hc with e | e | e | e | e | e | e | e | e | e | e
    · have ip : isP y := ⟨by omega, by omega⟩
      obtain ⟨a1, a2, a3⟩ := harr (.inl e)
      exact (step_load h hy hG ha he e (tok ip) (rok _ (I.u3 e)) (I.ar (.inl e)) hK.arrs (by omega)).mono fun _ _ => fin (by unfold opS; simp only [e]; rfl)
    · have ip : isP y := ⟨by omega, by omega⟩
      exact (step_read h hy hG ha he e (tok ip) hvs hsc hK.reads hl (I.inp e)).mono fun _ _ => fin (by unfold opS; simp only [e]; rfl)
    · have s0 := I.st e
      have s1 : 0 ≤ y.f1 ∧ y.f1 < (S.regs.length : Int) := ⟨s0.1, by omega⟩
      have s2 : 1 ≤ (rd_T83 G.l5 y.f1).f1 ∧ (rd_T83 G.l5 y.f1).f1 ≤ 3 := by
        obtain ⟨i, hi⟩ : ∃ i : Nat, y.f1 = (i : Int) := ⟨y.f1.toNat, by omega⟩
        rw [hi]
        exact hF.parts.sc i (by omega)
      exact (step_set h hy hG ha he e s1 (rok _ (I.u1 (.inr (.inr e)))) s0 s2).mono fun _ _ => fin (by unfold opS; simp only [e]; rfl)
    · obtain ⟨a1, a2, a3⟩ := harr (.inr e)
      exact (step_store h hy hG ha he e (rok _ (I.u4 e).1) (rok _ (I.u4 e).2) (I.ar (.inr e)) hK.arrs (by omega) a3).mono fun _ _ => fin (by unfold opS; simp only [e]; rfl)
    · have ht : finS S y (opS G sc S y) = finS S y S := by
        rw [opS_15 e]
        have h0 : (testS S y).en = 0 := by unfold testS; split <;> exact he
        have h1 : ({ testS S y with at_ := nxtY S y } : St) = { S with at_ := nxtY S y } := by unfold testS; split <;> rfl
        unfold finS
        rw [if_pos h0, if_pos he, h1]
      rw [ht]
      exact step_test h hy hG ha he e (rok _ (I.u2 (.inr e)).1) (rok _ (I.u2 (.inr e)).2) (I.tst e)
    · exact (step_on h hy hG ha he (.inl e)).mono fun _ _ => fin (by unfold opS; simp only [e]; rfl)
    · exact (step_loop h hy hG ha he e h5r hvr hsm hK.fuel).mono fun _ _ => fin (by unfold opS; simp only [e]; rfl)
    · exact (step_tick h hy hG ha he e).mono fun _ _ => fin (by unfold opS; simp only [e]; rfl)
    · exact (step_on h hy hG ha he (.inr e)).mono fun _ _ => fin (by unfold opS; simp only [e]; rfl)
    · exact (step_enter h hy hG ha he e hK.fuel).mono fun _ _ => fin (by unfold opS; simp only [e]; rfl)
    · exact (step_fail h hy hG ha he e).mono fun _ _ => fin (by unfold opS; simp only [e]; rfl)
def setFA (S : St) (f a : Int) : St := { S with fuel := f, at_ := a }
section
variable (S : St) (y : S52) (φ α : Int)
theorem reck_fa (f : Nat) (c : Bool) : reckS (setFA S φ α) y f c = setFA (reckS S y f c) φ α := by
  unfold reckS
  show (if c = true ∧ okB 3 (rf f (S.regs.getD y.f2.toNat 0) (S.regs.getD y.f3.toNat 0)) = false then _ else _) = setFA (if c = true ∧ okB 3 (rf f (S.regs.getD y.f2.toNat 0) (S.regs.getD y.f3.toNat 0)) = false then _ else _) φ α
  by_cases h : c = true ∧ okB 3 (rf f (S.regs.getD y.f2.toNat 0) (S.regs.getD y.f3.toNat 0)) = false
  · rw [if_pos h, if_pos h]; rfl
  · rw [if_neg h, if_neg h]; rfl
theorem div_fa : divS (setFA S φ α) y = setFA (divS S y) φ α := by
  unfold divS
  show (if S.regs.getD y.f3.toNat 0 = 0 then _ else if y.f0 = 7 then (if S.regs.getD y.f2.toNat 0 = -2147483648 ∧ S.regs.getD y.f3.toNat 0 = -1 then _ else _) else _) = setFA (if S.regs.getD y.f3.toNat 0 = 0 then _ else if y.f0 = 7 then (if S.regs.getD y.f2.toNat 0 = -2147483648 ∧ S.regs.getD y.f3.toNat 0 = -1 then _ else _) else _) φ α
  by_cases h : S.regs.getD y.f3.toNat 0 = 0
  · rw [if_pos h, if_pos h]; rfl
  · rw [if_neg h, if_neg h]
    by_cases h7 : y.f0 = 7
    · rw [if_pos h7, if_pos h7]
      by_cases hm : S.regs.getD y.f2.toNat 0 = -2147483648 ∧ S.regs.getD y.f3.toNat 0 = -1
      · rw [if_pos hm, if_pos hm]; rfl
      · rw [if_neg hm, if_neg hm]; rfl
    · rw [if_neg h7, if_neg h7]; rfl
theorem load_fa : loadS (setFA S φ α) y = setFA (loadS S y) φ α := by
  unfold loadS
  show (if 0 ≤ S.regs.getD y.f3.toNat 0 ∧ S.regs.getD y.f3.toNat 0 < ((S.arrs.getD y.f2.toNat []).length : Int) then _ else _) = setFA (if 0 ≤ S.regs.getD y.f3.toNat 0 ∧ S.regs.getD y.f3.toNat 0 < ((S.arrs.getD y.f2.toNat []).length : Int) then _ else _) φ α
  by_cases h : 0 ≤ S.regs.getD y.f3.toNat 0 ∧ S.regs.getD y.f3.toNat 0 < ((S.arrs.getD y.f2.toNat []).length : Int)
  · rw [if_pos h, if_pos h]; rfl
  · rw [if_neg h, if_neg h]; rfl
theorem set_fa (G : Gr) : setS G (setFA S φ α) y = setFA (setS G S y) φ α := by
  unfold setS
  show (if okB (rd_T83 G.l5 y.f1).f1 (S.regs.getD y.f2.toNat 0) = true then _ else _) = setFA (if okB (rd_T83 G.l5 y.f1).f1 (S.regs.getD y.f2.toNat 0) = true then _ else _) φ α
  by_cases h : okB (rd_T83 G.l5 y.f1).f1 (S.regs.getD y.f2.toNat 0) = true
  · rw [if_pos h, if_pos h]; rfl
  · rw [if_neg h, if_neg h]; rfl
theorem store_fa (G : Gr) : storeS G (setFA S φ α) y = setFA (storeS G S y) φ α := by
  unfold storeS
  show (if 0 ≤ S.regs.getD y.f3.toNat 0 ∧ S.regs.getD y.f3.toNat 0 < ((S.arrs.getD y.f2.toNat []).length : Int) then (if okB (rd_T85 G.l6 y.f2).f1 (S.regs.getD y.f1.toNat 0) = true then _ else _) else _) = setFA (if 0 ≤ S.regs.getD y.f3.toNat 0 ∧ S.regs.getD y.f3.toNat 0 < ((S.arrs.getD y.f2.toNat []).length : Int) then (if okB (rd_T85 G.l6 y.f2).f1 (S.regs.getD y.f1.toNat 0) = true then _ else _) else _) φ α
  by_cases h : 0 ≤ S.regs.getD y.f3.toNat 0 ∧ S.regs.getD y.f3.toNat 0 < ((S.arrs.getD y.f2.toNat []).length : Int)
  · rw [if_pos h, if_pos h]
    by_cases hb : okB (rd_T85 G.l6 y.f2).f1 (S.regs.getD y.f1.toNat 0) = true
    · rw [if_pos hb, if_pos hb]; rfl
    · rw [if_neg hb, if_neg hb]; rfl
  · rw [if_neg h, if_neg h]; rfl
theorem read_fa (G : Gr) (sc : List Int) : readS G sc (setFA S φ α) y = setFA (readS G sc S y) φ α := by
  unfold readS
  show (if S.reads = (sc.length : Int) then _ else if rd sc S.reads < (rd_T79 G.l4 y.f2).f2 then _ else if (rd_T79 G.l4 y.f2).f3 < rd sc S.reads then _ else _) = setFA (if S.reads = (sc.length : Int) then _ else if rd sc S.reads < (rd_T79 G.l4 y.f2).f2 then _ else if (rd_T79 G.l4 y.f2).f3 < rd sc S.reads then _ else _) φ α
  by_cases h : S.reads = (sc.length : Int)
  · rw [if_pos h, if_pos h]; rfl
  · rw [if_neg h, if_neg h]
    by_cases h7 : rd sc S.reads < (rd_T79 G.l4 y.f2).f2
    · rw [if_pos h7, if_pos h7]; rfl
    · rw [if_neg h7, if_neg h7]
      by_cases hm : (rd_T79 G.l4 y.f2).f3 < rd sc S.reads
      · rw [if_pos hm, if_pos hm]; rfl
      · rw [if_neg hm, if_neg hm]; rfl
theorem op_fa (G : Gr) (sc : List Int) (op : 1 ≤ y.f0 ∧ y.f0 ≤ 21) (n15 : y.f0 ≠ 15) (n17 : y.f0 ≠ 17) (n20 : y.f0 ≠ 20) : opS G sc (setFA S φ α) y = setFA (opS G sc S y) φ α := by
  have hc : y.f0 = 1 ∨ y.f0 = 2 ∨ y.f0 = 3 ∨ y.f0 = 4 ∨ y.f0 = 5 ∨ y.f0 = 6 ∨ y.f0 = 7 ∨ y.f0 = 8 ∨ y.f0 = 9 ∨ y.f0 = 10 ∨ y.f0 = 11 ∨ y.f0 = 12 ∨ y.f0 = 13 ∨ y.f0 = 14 ∨ y.f0 = 16 ∨ y.f0 = 18 ∨ y.f0 = 19 ∨ y.f0 = 21 := by omega
  unfold opS
  rcases hc with e | e | e | e | e | e | e | e | e | e | e | e | e | e | e | e | e | e <;> rw [e] <;> first | rfl | exact reck_fa S y φ α _ _ | exact div_fa S y φ α | exact load_fa S y φ α | exact set_fa S y φ α G | exact store_fa S y φ α G | exact read_fa S y φ α G sc
end
/-- The code's machine and the document's stand alike. -/
structure Sim (S T : St) : Prop where
  eq : T = { S with fuel := T.fuel, at_ := T.at_ }
  fu : S.fuel = T.fuel ∨ (S.fuel ≤ 0 ∧ T.fuel ≤ 0)
  lo : -9223372036854775808 ≤ T.fuel ∧ T.fuel ≤ 9223372036854775807
  at_ : S.en = 0 → T.at_ = S.at_
theorem sim_step {G : Gr} {sc : List Int} {S T : St} (h : Sim S T) (he : S.en = 0) (op : 1 ≤ (rd_T52 G.l0 S.at_).f0 ∧ (rd_T52 G.l0 S.at_).f0 ≤ 21) : Sim (stepC G sc S) (stepR G sc T) := by
  have ea := h.at_ he
  have eT : T = setFA S T.fuel S.at_ := by rw [← ea]; exact h.eq
  have hfu := h.fu
  have hlo := h.lo
  generalize T.fuel = φ at eT hfu hlo
  subst eT
  unfold stepC stepR
  show Sim _ (finS (setFA S φ S.at_) (rd_T52 G.l0 S.at_) (opS G sc (setFA S φ S.at_) (rd_T52 G.l0 S.at_)))
  generalize rd_T52 G.l0 S.at_ = y at op ⊢
  have e1 : ({ S with at_ := y.f6.f0 } : St) = setFA S S.fuel y.f6.f0 := rfl
  rw [e1]
  by_cases n15 : y.f0 = 15
  · rw [opS_15 n15, opS_15 n15]
    have h0 : (testS (setFA S φ S.at_) y).en = 0 := by unfold testS; split <;> exact he
    unfold finS
    rw [if_pos h0]
    unfold nxtY testS
    show Sim (if testB y.f4 (S.regs.getD y.f2.toNat 0) (S.regs.getD y.f3.toNat 0) = true then _ else _) { (if testB y.f4 (S.regs.getD y.f2.toNat 0) (S.regs.getD y.f3.toNat 0) = true then setFA S φ S.at_ else { setFA S φ S.at_ with at_ := y.f6.f1 } : St) with at_ := if y.f0 = 15 ∧ testB y.f4 (S.regs.getD y.f2.toNat 0) (S.regs.getD y.f3.toNat 0) = false then _ else _ }
    by_cases hb : testB y.f4 (S.regs.getD y.f2.toNat 0) (S.regs.getD y.f3.toNat 0) = true
    · rw [if_pos hb, if_pos hb, if_neg (fun hh => by rw [hb] at hh; exact nomatch hh.2)]
      exact ⟨rfl, hfu, hlo, fun _ => rfl⟩
    · rw [if_neg hb, if_neg hb, if_pos ⟨n15, Bool.eq_false_iff.mpr hb⟩]
      exact ⟨rfl, hfu, hlo, fun _ => rfl⟩
  by_cases n17 : y.f0 = 17
  · rw [opS_17 n17, opS_17 n17]
    unfold loopS
    show Sim (if G.ticks ≠ 0 ∧ S.ticks = G.ticks then _ else if S.fuel ≤ 0 then _ else if S.marks.length < 64 then _ else _) (finS _ _ (if G.ticks ≠ 0 ∧ S.ticks = G.ticks then _ else if φ ≤ 0 then _ else if S.marks.length < 64 then _ else _))
    by_cases hd : G.ticks ≠ 0 ∧ S.ticks = G.ticks
    · rw [if_pos hd, if_pos hd, fin_stop (show (3 : Int) ≠ 0 by decide)]
      exact ⟨rfl, hfu, hlo, fun hh => absurd hh (by show (3 : Int) ≠ 0; decide)⟩
    · rw [if_neg hd, if_neg hd]
      by_cases hf : S.fuel ≤ 0
      · rw [if_pos hf, if_pos (show φ ≤ 0 by omega), fin_stop (show (4 : Int) ≠ 0 by decide)]
        exact ⟨rfl, hfu, hlo, fun hh => absurd hh (by show (4 : Int) ≠ 0; decide)⟩
      · have ef : S.fuel = φ := by omega
        rw [if_neg hf, if_neg (show ¬ φ ≤ 0 by omega)]
        by_cases hm : S.marks.length < 64
        · rw [if_pos hm, if_pos hm, fin_go (by exact he) n15]
          exact ⟨rfl, Or.inl (by show S.fuel - 1 = φ - 1; omega), (by show _ ≤ φ - 1 ∧ φ - 1 ≤ _; omega), fun _ => rfl⟩
        · rw [if_neg hm, if_neg hm, fin_go (by exact he) n15]
          exact ⟨rfl, Or.inl (by show S.fuel - 1 = φ - 1; omega), (by show _ ≤ φ - 1 ∧ φ - 1 ≤ _; omega), fun _ => rfl⟩
  by_cases n20 : y.f0 = 20
  · rw [opS_20 n20, opS_20 n20]
    unfold spendS
    show Sim (if S.fuel ≤ 0 then _ else _) (finS _ _ (if φ ≤ 0 then _ else _))
    by_cases hf : S.fuel ≤ 0
    · rw [if_pos hf, if_pos (show φ ≤ 0 by omega), fin_stop (show (4 : Int) ≠ 0 by decide)]
      exact ⟨rfl, hfu, hlo, fun hh => absurd hh (by show (4 : Int) ≠ 0; decide)⟩
    · have ef : S.fuel = φ := by omega
      rw [if_neg hf, if_neg (show ¬ φ ≤ 0 by omega), fin_go (by exact he) n15]
      exact ⟨rfl, Or.inl (by show S.fuel - 1 = φ - 1; omega), (by show _ ≤ φ - 1 ∧ φ - 1 ≤ _; omega), fun _ => rfl⟩
  rw [op_fa S y _ _ G sc op n15 n17 n20, op_fa S y _ _ G sc op n15 n17 n20]
  by_cases hz : (opS G sc S y).en = 0
  · rw [fin_go (by exact hz) n15]
    exact ⟨rfl, hfu, hlo, fun _ => rfl⟩
  · rw [fin_stop (by exact hz)]
    exact ⟨rfl, hfu, hlo, fun hh => absurd hh hz⟩
/-- A run of the document's machine that comes to its end. -/
structure RunsR (G : Gr) (sc : List Int) (S : St) (N : Nat) : Prop where
  good : ∀ k, k ≤ N → GoodR G sc (stepRN G sc S k)
  go : ∀ k, k < N → (stepRN G sc S k).en = 0 ∧ 0 ≤ (stepRN G sc S k).at_ ∧ (stepRN G sc S k).at_ < (G.l0.length : Int)
  stop : (stepRN G sc S N).en ≠ 0
theorem Sim.good {G : Gr} {sc : List Int} {S T : St} (h : Sim S T) (hS : Good G sc S) : GoodR G sc T := by
  have e := h.eq
  have hl := h.lo
  generalize T.fuel = φ at e hl
  generalize T.at_ = α at e
  subst e
  exact ⟨hS.regs, hl, hS.reads, hS.arrs, hS.sizes⟩
theorem Sim.en {S T : St} (h : Sim S T) : T.en = S.en := by rw [h.eq]
theorem sim_runs {G : Gr} {sc : List Int} {S T : St} (hF : FitOK G) (h : Sim S T) {N : Nat} (hR : Runs G sc S N) : (∀ k, k ≤ N → Sim (stepN G sc S k) (stepRN G sc T k)) ∧ RunsR G sc T N := by
  have hs : ∀ k, k ≤ N → Sim (stepN G sc S k) (stepRN G sc T k) := fun k => by
    induction k with
    | zero => exact fun _ => h
    | succ k ih =>
      intro hk
      have hg := hR.go k (by omega)
      refine sim_step (ih (by omega)) hg.1 ?_
      obtain ⟨ds, hD, hI⟩ := hF.rest
      have I := (hI (stepN G sc S k).at_.toNat (by omega)).op
      rw [show (((stepN G sc S k).at_.toNat : Nat) : Int) = (stepN G sc S k).at_ by omega] at I
      exact I
  refine ⟨hs, fun k hk => (hs k hk).good (hR.good k hk), fun k hk => ?_, ?_⟩
  · have hg := hR.go k hk
    have hq := hs k (by omega)
    rw [hq.en, hq.at_ hg.1]
    exact hg
  · rw [(hs N (Nat.le_refl _)).en]; exact hR.stop
/-- At the beginning both stand alike. -/
theorem sim_begin (G : Gr) (f : Int) (hf : -9223372036854775808 ≤ f ∧ f ≤ 9223372036854775807) (k j : Nat) : Sim (beginS G (mx f 0) k j) (beginS G f k j) := by
  refine ⟨rfl, ?_, hf, fun _ => rfl⟩
  show mx f 0 = f ∨ (mx f 0 ≤ 0 ∧ f ≤ 0)
  unfold mx
  split <;> omega
end Go.Proofs.Ytcalcbeonbfkmaa.P
