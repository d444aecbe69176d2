/- What the law's proof needs of H10. -/
import Derived.Test.YtcalcbeonbfkmaaTrMH8
namespace Go.Proofs.Ytcalcbeonbfkmaa.P
open Go.RowKit Go.Proofs.YtcalcbeonbfkmaaW.PrintWords Go.Proofs.YtcalcbeonbfkmaaW.PrintLast Go.Proofs.YtcalcbeonbfkmaaW.PrintMore Go.Proofs.YtcalcbeonbfkmaaO
attribute [local go_sem] max2_int min2_int max_two min_two max_three min_three max_four min_four
set_option linter.unusedVariables false
set_option linter.unusedSimpArgs false
/-- One step of the document's machine. -/
def stepR (G : Gr) (sc : List Int) (S : St) : St := finS S (rd_T52 G.l0 S.at_) (opS G sc S (rd_T52 G.l0 S.at_))
def stepRN (G : Gr) (sc : List Int) (S : St) : Nat → St
  | 0 => S
  | k + 1 => stepR G sc (stepRN G sc S k)
/-- A run of the document's machine that fits its graph. -/
structure GoodR (G : Gr) (sc : List Int) (S : St) : Prop where
  regs : (S.regs.length : Int) = G.regs
  fuel : -9223372036854775808 ≤ S.fuel ∧ S.fuel ≤ 9223372036854775807
  reads : 0 ≤ S.reads ∧ S.reads ≤ (sc.length : Int)
  arrs : S.arrs.length = G.l6.length
  sizes : ∀ i : Nat, i < G.l6.length → ((S.arrs.getD i []).length : Int) = (rd_T85 G.l6 (i : Int)).f2
def setFA (S : St) (f a : Int) : St := { S with fuel := f, at_ := a }
section
variable (S : St) (y : S52) (φ α : Int)
theorem reck_fa (f : Nat) (c : Bool) : reckS (setFA S φ α) y f c = setFA (reckS S y f c) φ α := by
  unfold reckS
  show (if c = true ∧ okB 3 (rf f (S.regs.getD y.f2.toNat 0) (S.regs.getD y.f3.toNat 0)) = false then _ else _) = setFA (if c = true ∧ okB 3 (rf f (S.regs.getD y.f2.toNat 0) (S.regs.getD y.f3.toNat 0)) = false then _ else _) φ α
  by_cases h : c = true ∧ okB 3 (rf f (S.regs.getD y.f2.toNat 0) (S.regs.getD y.f3.toNat 0)) = false
  · rw [if_pos h, if_pos h]; rfl
  · rw [if_neg h, if_neg h]; rfl
theorem div_fa : divS (setFA S φ α) y = setFA (divS S y) φ α := by
  unfold divS
  show (if S.regs.getD y.f3.toNat 0 = 0 then _ else if y.f0 = 7 then (if S.regs.getD y.f2.toNat 0 = -2147483648 ∧ S.regs.getD y.f3.toNat 0 = -1 then _ else _) else _) = setFA (if S.regs.getD y.f3.toNat 0 = 0 then _ else if y.f0 = 7 then (if S.regs.getD y.f2.toNat 0 = -2147483648 ∧ S.regs.getD y.f3.toNat 0 = -1 then _ else _) else _) φ α
  by_cases h : S.regs.getD y.f3.toNat 0 = 0
  · rw [if_pos h, if_pos h]; rfl
  · rw [if_neg h, if_neg h]
    by_cases h7 : y.f0 = 7
    · rw [if_pos h7, if_pos h7]
      by_cases hm : S.regs.getD y.f2.toNat 0 = -2147483648 ∧ S.regs.getD y.f3.toNat 0 = -1
      · rw [if_pos hm, if_pos hm]; rfl
      · rw [if_neg hm, if_neg hm]; rfl
    · rw [if_neg h7, if_neg h7]; rfl
theorem load_fa : loadS (setFA S φ α) y = setFA (loadS S y) φ α := by
  unfold loadS
  show (if 0 ≤ S.regs.getD y.f3.toNat 0 ∧ S.regs.getD y.f3.toNat 0 < ((S.arrs.getD y.f2.toNat []).length : Int) then _ else _) = setFA (if 0 ≤ S.regs.getD y.f3.toNat 0 ∧ S.regs.getD y.f3.toNat 0 < ((S.arrs.getD y.f2.toNat []).length : Int) then _ else _) φ α
  by_cases h : 0 ≤ S.regs.getD y.f3.toNat 0 ∧ S.regs.getD y.f3.toNat 0 < ((S.arrs.getD y.f2.toNat []).length : Int)
  · rw [if_pos h, if_pos h]; rfl
  · rw [if_neg h, if_neg h]; rfl
theorem set_fa (G : Gr) : setS G (setFA S φ α) y = setFA (setS G S y) φ α := by
  unfold setS
  show (if okB (rd_T83 G.l5 y.f1).f1 (S.regs.getD y.f2.toNat 0) = true then _ else _) = setFA (if okB (rd_T83 G.l5 y.f1).f1 (S.regs.getD y.f2.toNat 0) = true then _ else _) φ α
  by_cases h : okB (rd_T83 G.l5 y.f1).f1 (S.regs.getD y.f2.toNat 0) = true
  · rw [if_pos h, if_pos h]; rfl
  · rw [if_neg h, if_neg h]; rfl
theorem store_fa (G : Gr) : storeS G (setFA S φ α) y = setFA (storeS G S y) φ α := by
  unfold storeS
  show (if 0 ≤ S.regs.getD y.f3.toNat 0 ∧ S.regs.getD y.f3.toNat 0 < ((S.arrs.getD y.f2.toNat []).length : Int) then (if okB (rd_T85 G.l6 y.f2).f1 (S.regs.getD y.f1.toNat 0) = true then _ else _) else _) = setFA (if 0 ≤ S.regs.getD y.f3.toNat 0 ∧ S.regs.getD y.f3.toNat 0 < ((S.arrs.getD y.f2.toNat []).length : Int) then (if okB (rd_T85 G.l6 y.f2).f1 (S.regs.getD y.f1.toNat 0) = true then _ else _) else _) φ α
  by_cases h : 0 ≤ S.regs.getD y.f3.toNat 0 ∧ S.regs.getD y.f3.toNat 0 < ((S.arrs.getD y.f2.toNat []).length : Int)
  · rw [if_pos h, if_pos h]
    by_cases hb : okB (rd_T85 G.l6 y.f2).f1 (S.regs.getD y.f1.toNat 0) = true
    · rw [if_pos hb, if_pos hb]; rfl
    · rw [if_neg hb, if_neg hb]; rfl
  · rw [if_neg h, if_neg h]; rfl
theorem read_fa (G : Gr) (sc : List Int) : readS G sc (setFA S φ α) y = setFA (readS G sc S y) φ α := by
  unfold readS
  show (if S.reads = (sc.length : Int) then _ else if rd sc S.reads < (rd_T79 G.l4 y.f2).f2 then _ else if (rd_T79 G.l4 y.f2).f3 < rd sc S.reads then _ else _) = setFA (if S.reads = (sc.length : Int) then _ else if rd sc S.reads < (rd_T79 G.l4 y.f2).f2 then _ else if (rd_T79 G.l4 y.f2).f3 < rd sc S.reads then _ else _) φ α
  by_cases h : S.reads = (sc.length : Int)
  · rw [if_pos h, if_pos h]; rfl
  · rw [if_neg h, if_neg h]
    by_cases h7 : rd sc S.reads < (rd_T79 G.l4 y.f2).f2
    · rw [if_pos h7, if_pos h7]; rfl
    · rw [if_neg h7, if_neg h7]
      by_cases hm : (rd_T79 G.l4 y.f2).f3 < rd sc S.reads
      · rw [if_pos hm, if_pos hm]; rfl
      · rw [if_neg hm, if_neg hm]; rfl
theorem op_fa (G : Gr) (sc : List Int) (op : 1 ≤ y.f0 ∧ y.f0 ≤ 21) (n15 : y.f0 ≠ 15) (n17 : y.f0 ≠ 17) (n20 : y.f0 ≠ 20) : opS G sc (setFA S φ α) y = setFA (opS G sc S y) φ α := by
  have hc : y.f0 = 1 ∨ y.f0 = 2 ∨ y.f0 = 3 ∨ y.f0 = 4 ∨ y.f0 = 5 ∨ y.f0 = 6 ∨ y.f0 = 7 ∨ y.f0 = 8 ∨ y.f0 = 9 ∨ y.f0 = 10 ∨ y.f0 = 11 ∨ y.f0 = 12 ∨ y.f0 = 13 ∨ y.f0 = 14 ∨ y.f0 = 16 ∨ y.f0 = 18 ∨ y.f0 = 19 ∨ y.f0 = 21 := by omega
  unfold opS
  rcases hc with e | e | e | e | e | e | e | e | e | e | e | e | e | e | e | e | e | e <;> rw [e] <;> first | rfl | exact reck_fa S y φ α _ _ | exact div_fa S y φ α | exact load_fa S y φ α | exact set_fa S y φ α G | exact store_fa S y φ α G | exact read_fa S y φ α G sc
end
/-- The code's machine and the document's stand alike. -/
structure Sim (S T : St) : Prop where
  eq : T = { S with fuel := T.fuel, at_ := T.at_ }
  fu : S.fuel = T.fuel ∨ (S.fuel ≤ 0 ∧ T.fuel ≤ 0)
  lo : -9223372036854775808 ≤ T.fuel ∧ T.fuel ≤ 9223372036854775807
  at_ : S.en = 0 → T.at_ = S.at_
/-- A run of the document's machine that comes to its end. -/
structure RunsR (G : Gr) (sc : List Int) (S : St) (N : Nat) : Prop where
  good : ∀ k, k ≤ N → GoodR G sc (stepRN G sc S k)
  go : ∀ k, k < N → (stepRN G sc S k).en = 0 ∧ 0 ≤ (stepRN G sc S k).at_ ∧ (stepRN G sc S k).at_ < (G.l0.length : Int)
  stop : (stepRN G sc S N).en ≠ 0
theorem Sim.good {G : Gr} {sc : List Int} {S T : St} (h : Sim S T) (hS : Good G sc S) : GoodR G sc T := by
  have e := h.eq
  have hl := h.lo
  generalize T.fuel = φ at e hl
  generalize T.at_ = α at e
  subst e
  exact ⟨hS.regs, hl, hS.reads, hS.arrs, hS.sizes⟩
theorem Sim.en {S T : St} (h : Sim S T) : T.en = S.en := by rw [h.eq]
end Go.Proofs.Ytcalcbeonbfkmaa.P
