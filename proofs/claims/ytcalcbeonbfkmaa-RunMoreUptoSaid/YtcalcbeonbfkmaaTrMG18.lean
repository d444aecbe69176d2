import Derived.Test.YtcalcbeonbfkmaaTrMG16
import Derived.Test.YtcalcbeonbfkmaaTrMH10
import Derived.Test.YtcalcbeonbfkmaaTrMG13
import Derived.Test.YtcalcbeonbfkmaaTrMPx20
/- What the law's proof needs of G17. -/
namespace Go.Proofs.Ytcalcbeonbfkmaa.P
open Go.RowKit Go.Proofs.YtcalcbeonbfkmaaW.PrintWords Go.Proofs.YtcalcbeonbfkmaaW.PrintLast Go.Proofs.YtcalcbeonbfkmaaW.PrintMore Go.Proofs.YtcalcbeonbfkmaaO
attribute [local go_sem] max2_int min2_int max_two min_two max_three min_three max_four min_four
set_option linter.unusedVariables false
set_option linter.unusedSimpArgs false
theorem same_l0 (l : List Int) (hl : l.length ≤ 1000000) : ∀ k m : Nat, m < k → m ≤ l.length → gimbalref06_sameList.l0 k l l ((l.length : Int) - (m : Int)) = some true
  | 0, m, h, _ => absurd h (Nat.not_lt_zero m)
  | k + 1, 0, h, hm => by
    unfold gimbalref06_sameList.l0
    rw [if_neg (by omega)]
  | k + 1, m + 1, h, hm => by
    unfold gimbalref06_sameList.l0
    rw [if_pos (by omega), if_pos (by omega), if_pos (by omega), if_pos rfl, M.wrap64_in _ (by omega), show (l.length : Int) - ((m + 1 : Nat) : Int) + 1 = (l.length : Int) - (m : Int) by omega]
    exact same_l0 l hl k m (by omega) (by omega)
theorem same_l (l : List Int) (hl : l.length ≤ 1000000) (k : Nat) (h : l.length < k) : gimbalref06_sameList.f k l l = some true := by
  unfold gimbalref06_sameList.f
  rw [if_pos rfl]
  have := same_l0 l hl k l.length h (Nat.le_refl _)
  rwa [show (l.length : Int) - (l.length : Int) = 0 by omega] at this
theorem sames_l0 (l : List (List Int)) (hl : l.length ≤ 1000000) (b : Nat) (hb : b ≤ 1000000) (hr : ∀ i : Int, (rd_L9 l i).length ≤ b) : ∀ k m : Nat, m + b < k → m ≤ l.length → gimbalref06_sameLists.l0 k l l ((l.length : Int) - (m : Int)) = some true
  | 0, m, h, _ => absurd h (Nat.not_lt_zero _)
  | k + 1, 0, h, hm => by
    unfold gimbalref06_sameLists.l0
    rw [if_neg (by omega)]
  | k + 1, m + 1, h, hm => by
    unfold gimbalref06_sameLists.l0
    have h1 := hr ((l.length : Int) - ((m + 1 : Nat) : Int))
    rw [if_pos (by omega), if_pos (by omega), if_pos (by omega), same_l _ (by omega) k (by omega), Option.bind_some, if_pos rfl, M.wrap64_in _ (by omega), show (l.length : Int) - ((m + 1 : Nat) : Int) + 1 = (l.length : Int) - (m : Int) by omega]
    exact sames_l0 l hl b hb hr k m (by omega) (by omega)
theorem sames_l (l : List (List Int)) (hl : l.length ≤ 1000000) (b : Nat) (hb : b ≤ 1000000) (hr : ∀ i : Int, (rd_L9 l i).length ≤ b) (k : Nat) (h : l.length + b < k) : gimbalref06_sameLists.f k l l = some true := by
  unfold gimbalref06_sameLists.f
  rw [if_pos rfl]
  have := sames_l0 l hl b hb hr k l.length h (Nat.le_refl _)
  rwa [show (l.length : Int) - (l.length : Int) = 0 by omega] at this
theorem same_f (x0 x1 x2 x3 x4 : Int) (l : List Int) (l1 l2 : List (List Int)) (h0 : l.length ≤ 1000000) (h1 : l1.length ≤ 1000000) (h2 : l2.length ≤ 1000000) (hr1 : ∀ i : Int, (rd_L9 l1 i).length ≤ 1000000) (hr2 : ∀ i : Int, (rd_L9 l2 i).length ≤ 1000000) :
    gimbalref06_Same.f 3000001 x0 x1 x2 x3 x4 l l1 l2 x0 x1 x2 x3 x4 l l1 l2 = some true := by
  unfold gimbalref06_Same.f
  rw [if_pos rfl, if_pos rfl, if_pos rfl, if_pos rfl, if_pos rfl, same_l l h0 _ (by omega), Option.bind_some, if_pos rfl, sames_l l1 h1 1000000 (Nat.le_refl _) hr1 _ (by omega), Option.bind_some, if_pos rfl, sames_l l2 h2 1000000 (Nat.le_refl _) hr2 _ (by omega), Option.bind_some]
/-- The sizes of what a run leaves. -/
structure Sized (G : Gr) (S : St) : Prop where
  regs : S.regs.length ≤ 100000
  arrs : S.arrs.length ≤ 1000
  rows : ∀ i : Int, (rd_L9 S.arrs i).length ≤ 1000
  marks : S.marks.length ≤ 64
  mrow : ∀ i : Int, (rd_L9 S.marks i).length ≤ 100000
theorem rd_L9_le {l : List (List Int)} {b : Nat} (h : ∀ r ∈ l, r.length ≤ b) (i : Int) : (rd_L9 l i).length ≤ b := by
  unfold rd_L9
  rw [List.getD_eq_getElem?_getD]
  by_cases e : i.toNat < l.length
  · rw [List.getElem?_eq_getElem e]
    exact h _ (List.getElem_mem e)
  · rw [List.getElem?_eq_none (by omega)]
    exact Nat.zero_le _
/-- What the marks of a run keep. -/
def MarksOK (G : Gr) (S : St) : Prop := S.marks.length ≤ 64 ∧ ∀ r ∈ S.marks, r.length = G.l5.length
theorem reckS_mk (S : St) (y : S52) (f : Nat) (c : Bool) : (reckS S y f c).marks = S.marks := by unfold reckS; split <;> rfl
theorem divS_mk (S : St) (y : S52) : (divS S y).marks = S.marks := by
  unfold divS
  split
  · rfl
  · split
    · split <;> rfl
    · rfl
theorem loadS_mk (S : St) (y : S52) : (loadS S y).marks = S.marks := by unfold loadS; split <;> rfl
theorem testS_mk (S : St) (y : S52) : (testS S y).marks = S.marks := by unfold testS; split <;> rfl
theorem spendS_mk (S : St) : (spendS S).marks = S.marks := by unfold spendS; split <;> rfl
theorem setS_mk (G : Gr) (S : St) (y : S52) : (setS G S y).marks = S.marks := by unfold setS; split <;> rfl
theorem readS_mk (G : Gr) (sc : List Int) (S : St) (y : S52) : (readS G sc S y).marks = S.marks := by
  unfold readS
  split
  · rfl
  · split
    · rfl
    · split <;> rfl
theorem storeS_mk (G : Gr) (S : St) (y : S52) : (storeS G S y).marks = S.marks := by
  unfold storeS
  split
  · split <;> rfl
  · rfl
theorem marks_op {G : Gr} {sc : List Int} {S : St} (h : MarksOK G S) (h5 : G.l5.length ≤ S.regs.length) (y : S52) : MarksOK G (opS G sc S y) := by
  have key : ∀ T : St, T.marks = S.marks → MarksOK G T := fun T e => by unfold MarksOK; rw [e]; exact h
  by_cases n17 : y.f0 = 17
  · rw [opS_17 n17]
    unfold loopS
    split
    · exact key _ rfl
    · split
      · exact key _ rfl
      · split
        · rename_i hm
          refine ⟨?_, fun r hr => ?_⟩
          · show (S.marks ++ [S.regs.take G.l5.length]).length ≤ 64
            rw [List.length_append, List.length_singleton]
            omega
          · rcases List.mem_append.1 hr with hr | hr
            · exact h.2 r hr
            · rw [List.mem_singleton.1 hr, List.length_take]
              omega
        · exact key _ rfl
  · refine key _ ?_
    unfold opS
    by_cases h1 : y.f0 = 1
    · rw [if_pos h1]
    rw [if_neg h1]
    by_cases h1 : y.f0 = 2
    · rw [if_pos h1]
      exact reckS_mk _ _ _ _
    rw [if_neg h1]
    by_cases h1 : y.f0 = 3
    · rw [if_pos h1]
      exact reckS_mk _ _ _ _
    rw [if_neg h1]
    by_cases h1 : y.f0 = 4
    · rw [if_pos h1]
      exact reckS_mk _ _ _ _
    rw [if_neg h1]
    by_cases h1 : y.f0 = 5
    · rw [if_pos h1]
      exact reckS_mk _ _ _ _
    rw [if_neg h1]
    by_cases h1 : y.f0 = 6
    · rw [if_pos h1]
      exact reckS_mk _ _ _ _
    rw [if_neg h1]
    by_cases h1 : y.f0 = 7
    · rw [if_pos h1]
      exact divS_mk _ _
    rw [if_neg h1]
    by_cases h1 : y.f0 = 8
    · rw [if_pos h1]
      exact divS_mk _ _
    rw [if_neg h1]
    by_cases h1 : y.f0 = 9
    · rw [if_pos h1]
      exact reckS_mk _ _ _ _
    rw [if_neg h1]
    by_cases h1 : y.f0 = 10
    · rw [if_pos h1]
      exact reckS_mk _ _ _ _
    rw [if_neg h1]
    by_cases h1 : y.f0 = 11
    · rw [if_pos h1]
      exact loadS_mk _ _
    rw [if_neg h1]
    by_cases h1 : y.f0 = 12
    · rw [if_pos h1]
      exact readS_mk _ _ _ _
    rw [if_neg h1]
    by_cases h1 : y.f0 = 13
    · rw [if_pos h1]
      exact setS_mk _ _ _
    rw [if_neg h1]
    by_cases h1 : y.f0 = 14
    · rw [if_pos h1]
      exact storeS_mk _ _ _
    rw [if_neg h1]
    by_cases h1 : y.f0 = 15
    · rw [if_pos h1]
      exact testS_mk _ _
    rw [if_neg h1]
    by_cases h1 : y.f0 = 16
    · rw [if_pos h1]
    rw [if_neg h1]
    rw [if_neg n17]
    by_cases h1 : y.f0 = 18
    · rw [if_pos h1]
    rw [if_neg h1]
    by_cases h1 : y.f0 = 19
    · rw [if_pos h1]
    rw [if_neg h1]
    by_cases h1 : y.f0 = 20
    · rw [if_pos h1]
      exact spendS_mk _
    rw [if_neg h1]
    rfl
theorem runs_marks {G : Gr} {sc : List Int} {S : St} {N : Nat} (h : Runs G sc S N) (hm : MarksOK G S) (h5 : (G.l5.length : Int) ≤ G.regs) : ∀ k, k ≤ N → MarksOK G (stepN G sc S k) := fun k => by
  induction k with
  | zero => exact fun _ => hm
  | succ k ih =>
    intro hk
    have hg := (h.good k (by omega)).regs
    have h1 := ih (by omega)
    show MarksOK G (stepC G sc (stepN G sc S k))
    unfold stepC
    exact marks_op (S := { stepN G sc S k with at_ := (rd_T52 G.l0 (stepN G sc S k).at_).f6.f0 }) h1 (by show G.l5.length ≤ (stepN G sc S k).regs.length; omega) _
theorem runs_sized {G : Gr} {sc : List Int} {f : Int} (hF : FitOK G) {N : Nat} (h : Runs G sc (beginS G f G.l5.length G.l6.length) N) {k : Nat} (hk : k ≤ N) : Sized G (stepN G sc (beginS G f G.l5.length G.l6.length) k) := by
  have h5 : (G.l5.length : Int) ≤ G.regs ∧ G.regs ≤ 10000 := by obtain ⟨ds, hD, _⟩ := hF.rest; have := hD.regs; have := hD.le; have := hF.n2; have := hF.parts.n5; omega
  have hg := h.good k hk
  have hm := runs_marks h ⟨Nat.zero_le _, fun r hr => (nomatch hr)⟩ h5.1 k hk
  have h6 := hF.parts.n6
  have hn5 := hF.parts.n5
  refine ⟨by have := hg.regs; omega, by have := hg.arrs; omega, rd_L9_le (fun r hr => ?_), hm.1, rd_L9_le (fun r hr => by rw [hm.2 r hr]; omega)⟩
  obtain ⟨i, hi, e⟩ := List.getElem_of_mem hr
  have hz := hg.sizes i (by have := hg.arrs; omega)
  rw [List.getD_eq_getElem?_getD, List.getElem?_eq_getElem hi] at hz
  have h2 := (hF.parts.ar i (by have := hg.arrs; omega)).2
  have hz2 : ((stepN G sc (beginS G f G.l5.length G.l6.length) k).arrs[i].length : Int) = (rd_T85 G.l6 (i : Int)).f2 := hz
  rw [e] at hz2
  omega
/-- Two outcomes of one run are the same. -/
theorem same_calls {G : Gr} {S : St} (hz : Sized G S) {A1 A2 A3 B1 B2 B3 : Option Addr} {c1 c2 c3 d1 d2 d3 : Nat} (w : World)
    (a1 : Kd.C (Kd.int .i64) w A1 (S.regs.take G.l5.length).length (S.regs.take G.l5.length) ∧ (S.regs.take G.l5.length).length ≤ c1) (a2 : Kd.C kL w A2 S.arrs.length S.arrs ∧ S.arrs.length ≤ c2) (a3 : Kd.C kL w A3 S.marks.length S.marks ∧ S.marks.length ≤ c3)
    (b1 : Kd.C (Kd.int .i64) w B1 (S.regs.take G.l5.length).length (S.regs.take G.l5.length) ∧ (S.regs.take G.l5.length).length ≤ d1) (b2 : Kd.C kL w B2 S.arrs.length S.arrs ∧ S.arrs.length ≤ d2) (b3 : Kd.C kL w B3 S.marks.length S.marks ∧ S.marks.length ≤ d3) :
    Calls Try.prog 9 #[.agg #[.int .i64 S.en, .int .i64 S.site, .int .i64 S.kind, .int .i64 S.ticks, .int .i64 S.reads, .slice A1 (S.regs.take G.l5.length).length c1, .slice A2 S.arrs.length c2, .slice A3 S.marks.length c3], .agg #[.int .i64 S.en, .int .i64 S.site, .int .i64 S.kind, .int .i64 S.ticks, .int .i64 S.reads, .slice B1 (S.regs.take G.l5.length).length d1, .slice B2 S.arrs.length d2, .slice B3 S.marks.length d3]] w fun e w' => e = .returned (.bool true) ∧ Below w.heap.size w w' :=
  gimbalref06_Same.calls 3000001 S.en S.site S.kind S.ticks S.reads A1 c1 _ A2 c2 _ A3 c3 _ S.en S.site S.kind S.ticks S.reads B1 d1 _ B2 d2 _ B3 d3 _ true w a1.1 a1.2 a2.1 a2.2 a3.1 a3.2 b1.1 b1.2 b2.1 b2.2 b3.1 b3.2
    (same_f _ _ _ _ _ _ _ _ (by have := hz.regs; rw [List.length_take]; omega) (by have := hz.arrs; omega) (by have := hz.marks; omega) (fun i => by have := hz.rows i; omega) (fun i => by have := hz.mrow i; omega))
/-- The rows of an outcome, as they are read. -/
structure Rd3 (G : Gr) (S : St) (w : World) (A1 : Option Addr) (c1 : Nat) (A2 : Option Addr) (c2 : Nat) (A3 : Option Addr) (c3 : Nat) : Prop where
  a1 : Kd.C (Kd.int .i64) w A1 (S.regs.take G.l5.length).length (S.regs.take G.l5.length) ∧ (S.regs.take G.l5.length).length ≤ c1
  a2 : Kd.C kL w A2 S.arrs.length S.arrs ∧ S.arrs.length ≤ c2
  a3 : Kd.C kL w A3 S.marks.length S.marks ∧ S.marks.length ≤ c3
abbrev oV (G : Gr) (S : St) (A1 : Option Addr) (c1 : Nat) (A2 : Option Addr) (c2 : Nat) (A3 : Option Addr) (c3 : Nat) : Value := .agg #[.int .i64 S.en, .int .i64 S.site, .int .i64 S.kind, .int .i64 S.ticks, .int .i64 S.reads, .slice A1 (S.regs.take G.l5.length).length c1, .slice A2 S.arrs.length c2, .slice A3 S.marks.length c3]
theorem RetO.rd {e : Ending} {w : World} {G : Gr} {S : St} (h : RetO e w G S) : ∃ A1 c1 A2 c2 A3 c3, e = .returned (oV G S A1 c1 A2 c2 A3 c3) ∧ Rd3 G S w A1 c1 A2 c2 A3 c3 := by
  obtain ⟨A1, c1, A2, c2, A3, c3, b1, b2, ok1, ok2, ok3, he, r1, r2, r3⟩ := h
  have h1 := Kd.R_reads' r1
  have h2 := Kd.S_reads' r2
  have h3 := Kd.R_reads' r3
  exact ⟨A1, c1, A2, c2, A3, c3, he, ⟨h1.2.2, h1.2.1⟩, ⟨h2.2.2, h2.2.1⟩, ⟨h3.2.2, h3.2.1⟩⟩
theorem Rd3.below {G : Gr} {S : St} {w w' : World} {A1 A2 A3 : Option Addr} {c1 c2 c3 : Nat} (h : Rd3 G S w A1 c1 A2 c2 A3 c3) (hb : Below w.heap.size w w') : Rd3 G S w' A1 c1 A2 c2 A3 c3 :=
  ⟨⟨Kd.C_below h.a1.1 hb, h.a1.2⟩, ⟨Kd.C_below h.a2.1 hb, h.a2.2⟩, ⟨Kd.C_below h.a3.1 hb, h.a3.2⟩⟩
theorem Rd3.same {G : Gr} {S : St} {w : World} {A1 A2 A3 B1 B2 B3 : Option Addr} {c1 c2 c3 d1 d2 d3 : Nat} (h : Rd3 G S w A1 c1 A2 c2 A3 c3) (h' : Rd3 G S w B1 d1 B2 d2 B3 d3) (hz : Sized G S) :
    Calls Try.prog 9 #[oV G S A1 c1 A2 c2 A3 c3, oV G S B1 d1 B2 d2 B3 d3] w fun e w' => e = .returned (.bool true) ∧ Below w.heap.size w w' := same_calls hz w h.a1 h.a2 h.a3 h'.a1 h'.a2 h'.a3
end Go.Proofs.Ytcalcbeonbfkmaa.P
/- What the law's proof needs of G18. -/
namespace Go.Proofs.Ytcalcbeonbfkmaa.P
open Go.RowKit Go.Proofs.YtcalcbeonbfkmaaW.PrintWords Go.Proofs.YtcalcbeonbfkmaaW.PrintLast Go.Proofs.YtcalcbeonbfkmaaW.PrintMore Go.Proofs.YtcalcbeonbfkmaaO
attribute [local go_sem] max2_int min2_int max_two min_two max_three min_three max_four min_four
set_option linter.unusedVariables false
set_option linter.unusedSimpArgs false
theorem countP_lt {P Q : Nat → Bool} (h : ∀ x, P x = true → Q x = true) {q : Nat} (h1 : P q = false) (h2 : Q q = true) : ∀ {l : List Nat}, q ∈ l → l.countP P < l.countP Q
  | [], hq => nomatch hq
  | a :: l, hq => by
    rw [List.countP_cons, List.countP_cons]
    by_cases e : q = a
    · subst e
      have := List.countP_mono_left (l := l) (p := P) (q := Q) (fun x _ => h x)
      rw [h1, h2, if_neg (by decide), if_pos rfl]
      omega
    · have hq2 : q ∈ l := (List.mem_cons.1 hq).resolve_left e
      have ih := countP_lt h h1 h2 hq2
      by_cases hp : P a = true
      · rw [if_pos hp, if_pos (h a hp)]; omega
      · rw [if_neg hp]; omega
theorem ranked_small {l : List S52} {f : Nat → Nat} (h : Ranked l f) : ∃ c : Nat → Nat, Ranked l c ∧ ∀ p, c p ≤ l.length := by
  refine ⟨fun p => (List.range l.length).countP (fun x => decide (f x < f p)), fun p hp => ?_, fun p => by have := List.countP_le_length (p := fun x => decide (f x < f p)) (l := List.range l.length); rwa [List.length_range] at this⟩
  refine (h p hp).imp_right (fun hx x hxx => (hx x hxx).imp_right (fun ⟨q, e, hq, hl⟩ => ⟨q, e, hq, ?_⟩))
  exact countP_lt (fun x hp => decide_eq_true (Nat.lt_trans (of_decide_eq_true hp) hl)) (q := q) (decide_eq_false (Nat.lt_irrefl _)) (decide_eq_true hl) (List.mem_range.2 hq)
/-- How long a run may be. -/
theorem runs_bound {G : Gr} {sc : List Int} {S : St} {N : Nat} (hF : FitOK G) (h : Runs G sc S N) (F : Nat) (hf : S.fuel ≤ (F : Int)) : N ≤ F * 4097 + 4097 := by
  obtain ⟨f, hf0⟩ := hF.ends
  obtain ⟨c, hc, hcl⟩ := ranked_small hf0
  have hn := hF.n2
  have hc2 : ∀ p, c p ≤ 4096 := fun p => Nat.le_trans (hcl p) hn
  have key : ∀ k, k < N → (stepN G sc S k).fuel.toNat * 4097 + c (stepN G sc S k).at_.toNat + k ≤ S.fuel.toNat * 4097 + c S.at_.toNat := fun k => by
    induction k with
    | zero =>
      intro _
      show S.fuel.toNat * 4097 + c S.at_.toNat + 0 ≤ S.fuel.toNat * 4097 + c S.at_.toNat
      omega
    | succ k ih =>
      intro hk
      have i1 := ih (by omega)
      obtain ⟨g1, g2, g3⟩ := h.go k (by omega)
      have gd := h.good k (by omega)
      obtain ⟨_, L⟩ := step_law hF hc gd (p := (stepN G sc S k).at_.toNat) (by omega) (by omega)
      obtain ⟨q, hq, eq, hh⟩ := L (h.go (k + 1) hk).1
      have goal : (stepC G sc (stepN G sc S k)).fuel.toNat * 4097 + c (stepC G sc (stepN G sc S k)).at_.toNat + (k + 1) ≤ S.fuel.toNat * 4097 + c S.at_.toNat := by
        have fu := gd.fuel
        have cq := hc2 q
        rw [eq, Int.toNat_natCast]
        generalize (stepC G sc (stepN G sc S k)).fuel = x at hh ⊢
        generalize (stepN G sc S k).fuel = z at hh i1 fu
        generalize c (stepN G sc S k).at_.toNat = u at hh i1
        generalize c q = v at hh cq ⊢
        obtain ⟨R, eR⟩ : ∃ R, S.fuel.toNat * 4097 + c S.at_.toNat = R := ⟨_, rfl⟩
        rw [eR] at i1 ⊢
        clear eR
        rcases hh with ⟨h1, h2⟩ | ⟨h1, h2⟩
        · have ez : z.toNat = x.toNat + 1 := by omega
          rw [ez, Nat.succ_mul] at i1
          generalize x.toNat * 4097 = a at i1 ⊢
          omega
        · rw [h1]
          generalize z.toNat * 4097 = a at i1 ⊢
          omega
      have e : stepN G sc S (k + 1) = stepC G sc (stepN G sc S k) := rfl
      rw [e]
      exact goal
  cases N with
  | zero => omega
  | succ n =>
    have := key n (by omega)
    have := hc2 S.at_.toNat
    omega
/-- What a step leaves of what was. -/
structure Grow (S T : St) : Prop where
  marks : ∃ t, T.marks = S.marks ++ t
  reads : S.reads ≤ T.reads
  ticks : T.ticks = S.ticks ∨ T.ticks = wrap64 (S.ticks + 1)
theorem Grow.same {S T : St} (h1 : T.marks = S.marks) (h2 : T.reads = S.reads) (h3 : T.ticks = S.ticks) : Grow S T := ⟨⟨[], by rw [h1, List.append_nil]⟩, by rw [h2]; exact Int.le_refl _, Or.inl h3⟩
section
variable (S : St) (y : S52)
theorem reckS_gr (f : Nat) (c : Bool) : Grow S (reckS S y f c) := by unfold reckS; split <;> exact Grow.same rfl rfl rfl
theorem divS_gr : Grow S (divS S y) := by
  unfold divS
  split
  · exact Grow.same rfl rfl rfl
  · split
    · split <;> exact Grow.same rfl rfl rfl
    · exact Grow.same rfl rfl rfl
theorem loadS_gr : Grow S (loadS S y) := by unfold loadS; split <;> exact Grow.same rfl rfl rfl
theorem testS_gr : Grow S (testS S y) := by unfold testS; split <;> exact Grow.same rfl rfl rfl
theorem spendS_gr : Grow S (spendS S) := by unfold spendS; split <;> exact Grow.same rfl rfl rfl
theorem setS_gr (G : Gr) : Grow S (setS G S y) := by unfold setS; split <;> exact Grow.same rfl rfl rfl
theorem storeS_gr (G : Gr) : Grow S (storeS G S y) := by
  unfold storeS
  split
  · split <;> exact Grow.same rfl rfl rfl
  · exact Grow.same rfl rfl rfl
theorem readS_gr (G : Gr) (sc : List Int) : Grow S (readS G sc S y) := by
  have more : ∀ T : St, T.marks = S.marks → T.reads = S.reads + 1 → T.ticks = S.ticks → Grow S T := fun T h1 h2 h3 => ⟨⟨[], by rw [h1, List.append_nil]⟩, by rw [h2]; omega, Or.inl h3⟩
  unfold readS
  split
  · exact Grow.same rfl rfl rfl
  · split
    · exact more _ rfl rfl rfl
    · split <;> exact more _ rfl rfl rfl
theorem loopS_gr (G : Gr) : Grow S (loopS G S) := by
  unfold loopS
  split
  · exact Grow.same rfl rfl rfl
  · split
    · exact Grow.same rfl rfl rfl
    · split
      · exact ⟨⟨_, rfl⟩, Int.le_refl _, Or.inl rfl⟩
      · exact Grow.same rfl rfl rfl
theorem op_grow (G : Gr) (sc : List Int) : Grow S (opS G sc S y) := by
  unfold opS
  by_cases h1 : y.f0 = 1
  · rw [if_pos h1]
    exact Grow.same rfl rfl rfl
  rw [if_neg h1]
  by_cases h1 : y.f0 = 2
  · rw [if_pos h1]
    exact reckS_gr _ _ _ _
  rw [if_neg h1]
  by_cases h1 : y.f0 = 3
  · rw [if_pos h1]
    exact reckS_gr _ _ _ _
  rw [if_neg h1]
  by_cases h1 : y.f0 = 4
  · rw [if_pos h1]
    exact reckS_gr _ _ _ _
  rw [if_neg h1]
  by_cases h1 : y.f0 = 5
  · rw [if_pos h1]
    exact reckS_gr _ _ _ _
  rw [if_neg h1]
  by_cases h1 : y.f0 = 6
  · rw [if_pos h1]
    exact reckS_gr _ _ _ _
  rw [if_neg h1]
  by_cases h1 : y.f0 = 7
  · rw [if_pos h1]
    exact divS_gr _ _
  rw [if_neg h1]
  by_cases h1 : y.f0 = 8
  · rw [if_pos h1]
    exact divS_gr _ _
  rw [if_neg h1]
  by_cases h1 : y.f0 = 9
  · rw [if_pos h1]
    exact reckS_gr _ _ _ _
  rw [if_neg h1]
  by_cases h1 : y.f0 = 10
  · rw [if_pos h1]
    exact reckS_gr _ _ _ _
  rw [if_neg h1]
  by_cases h1 : y.f0 = 11
  · rw [if_pos h1]
    exact loadS_gr _ _
  rw [if_neg h1]
  by_cases h1 : y.f0 = 12
  · rw [if_pos h1]
    exact readS_gr _ _ _ _
  rw [if_neg h1]
  by_cases h1 : y.f0 = 13
  · rw [if_pos h1]
    exact setS_gr _ _ _
  rw [if_neg h1]
  by_cases h1 : y.f0 = 14
  · rw [if_pos h1]
    exact storeS_gr _ _ _
  rw [if_neg h1]
  by_cases h1 : y.f0 = 15
  · rw [if_pos h1]
    exact testS_gr _ _
  rw [if_neg h1]
  by_cases h1 : y.f0 = 16
  · rw [if_pos h1]
    exact Grow.same rfl rfl rfl
  rw [if_neg h1]
  by_cases h1 : y.f0 = 17
  · rw [if_pos h1]
    exact loopS_gr _ _
  rw [if_neg h1]
  by_cases h1 : y.f0 = 18
  · rw [if_pos h1]
    exact ⟨⟨[], (List.append_nil _).symm⟩, Int.le_refl _, Or.inr rfl⟩
  rw [if_neg h1]
  by_cases h1 : y.f0 = 19
  · rw [if_pos h1]
    exact Grow.same rfl rfl rfl
  rw [if_neg h1]
  by_cases h1 : y.f0 = 20
  · rw [if_pos h1]
    exact spendS_gr _
  rw [if_neg h1]
  exact Grow.same rfl rfl rfl
variable {S}
theorem reckS_e2 (S : St) (y : S52) (f : Nat) (c : Bool) (he : S.en = 0) : (reckS S y f c).en ≠ 2 := by
  unfold reckS
  split
  · exact (by decide : (1 : Int) ≠ 2)
  · exact fun h => absurd (h.symm.trans he) (by decide)
theorem divS_e2 (S : St) (y : S52) (he : S.en = 0) : (divS S y).en ≠ 2 := by
  unfold divS
  split
  · exact (by decide : (1 : Int) ≠ 2)
  · split
    · split
      · exact (by decide : (1 : Int) ≠ 2)
      · exact fun h => absurd (h.symm.trans he) (by decide)
    · exact fun h => absurd (h.symm.trans he) (by decide)
theorem loadS_e2 (S : St) (y : S52) (he : S.en = 0) : (loadS S y).en ≠ 2 := by
  unfold loadS
  split
  · exact fun h => absurd (h.symm.trans he) (by decide)
  · exact (by decide : (1 : Int) ≠ 2)
theorem testS_e2 (S : St) (y : S52) (he : S.en = 0) : (testS S y).en ≠ 2 := by unfold testS; split <;> exact fun h => absurd (h.symm.trans he) (by decide)
theorem spendS_e2 (S : St) (he : S.en = 0) : (spendS S).en ≠ 2 := by
  unfold spendS
  split
  · exact (by decide : (4 : Int) ≠ 2)
  · exact fun h => absurd (h.symm.trans he) (by decide)
theorem setS_e2 (G : Gr) (S : St) (y : S52) (he : S.en = 0) : (setS G S y).en ≠ 2 := by
  unfold setS
  split
  · exact fun h => absurd (h.symm.trans he) (by decide)
  · exact (by decide : (1 : Int) ≠ 2)
theorem storeS_e2 (G : Gr) (S : St) (y : S52) (he : S.en = 0) : (storeS G S y).en ≠ 2 := by
  unfold storeS
  split
  · split
    · exact fun h => absurd (h.symm.trans he) (by decide)
    · exact (by decide : (1 : Int) ≠ 2)
  · exact (by decide : (1 : Int) ≠ 2)
theorem loopS_e2 (G : Gr) (S : St) (he : S.en = 0) : (loopS G S).en ≠ 2 := by
  unfold loopS
  split
  · exact (by decide : (3 : Int) ≠ 2)
  · split
    · exact (by decide : (4 : Int) ≠ 2)
    · split <;> exact fun h => absurd (h.symm.trans he) (by decide)
theorem readS_e2 (G : Gr) (sc : List Int) (S : St) (y : S52) (he : S.en = 0) : (readS G sc S y).en = 2 → (readS G sc S y).reads = (sc.length : Int) ∧ (readS G sc S y).marks = S.marks ∧ (readS G sc S y).ticks = S.ticks := by
  unfold readS
  split
  · rename_i h; exact fun _ => ⟨h, rfl, rfl⟩
  · split
    · exact fun h => absurd h (by decide : (5 : Int) ≠ 2)
    · split
      · exact fun h => absurd h (by decide : (5 : Int) ≠ 2)
      · exact fun h => absurd (h.symm.trans he) (by decide)
theorem op_e2 (G : Gr) (sc : List Int) (he : S.en = 0) (y : S52) : (opS G sc S y).en = 2 → (opS G sc S y).reads = (sc.length : Int) ∧ (opS G sc S y).marks = S.marks ∧ (opS G sc S y).ticks = S.ticks := by
  unfold opS
  by_cases h1 : y.f0 = 1
  · rw [if_pos h1]
    exact fun h => absurd (h.symm.trans he) (by decide)
  rw [if_neg h1]
  by_cases h1 : y.f0 = 2
  · rw [if_pos h1]
    exact fun h => absurd h (reckS_e2 _ _ _ _ he)
  rw [if_neg h1]
  by_cases h1 : y.f0 = 3
  · rw [if_pos h1]
    exact fun h => absurd h (reckS_e2 _ _ _ _ he)
  rw [if_neg h1]
  by_cases h1 : y.f0 = 4
  · rw [if_pos h1]
    exact fun h => absurd h (reckS_e2 _ _ _ _ he)
  rw [if_neg h1]
  by_cases h1 : y.f0 = 5
  · rw [if_pos h1]
    exact fun h => absurd h (reckS_e2 _ _ _ _ he)
  rw [if_neg h1]
  by_cases h1 : y.f0 = 6
  · rw [if_pos h1]
    exact fun h => absurd h (reckS_e2 _ _ _ _ he)
  rw [if_neg h1]
  by_cases h1 : y.f0 = 7
  · rw [if_pos h1]
    exact fun h => absurd h (divS_e2 _ _ he)
  rw [if_neg h1]
  by_cases h1 : y.f0 = 8
  · rw [if_pos h1]
    exact fun h => absurd h (divS_e2 _ _ he)
  rw [if_neg h1]
  by_cases h1 : y.f0 = 9
  · rw [if_pos h1]
    exact fun h => absurd h (reckS_e2 _ _ _ _ he)
  rw [if_neg h1]
  by_cases h1 : y.f0 = 10
  · rw [if_pos h1]
    exact fun h => absurd h (reckS_e2 _ _ _ _ he)
  rw [if_neg h1]
  by_cases h1 : y.f0 = 11
  · rw [if_pos h1]
    exact fun h => absurd h (loadS_e2 _ _ he)
  rw [if_neg h1]
  by_cases h1 : y.f0 = 12
  · rw [if_pos h1]
    exact readS_e2 _ _ _ _ he
  rw [if_neg h1]
  by_cases h1 : y.f0 = 13
  · rw [if_pos h1]
    exact fun h => absurd h (setS_e2 _ _ _ he)
  rw [if_neg h1]
  by_cases h1 : y.f0 = 14
  · rw [if_pos h1]
    exact fun h => absurd h (storeS_e2 _ _ _ he)
  rw [if_neg h1]
  by_cases h1 : y.f0 = 15
  · rw [if_pos h1]
    exact fun h => absurd h (testS_e2 _ _ he)
  rw [if_neg h1]
  by_cases h1 : y.f0 = 16
  · rw [if_pos h1]
    exact fun h => absurd (h.symm.trans he) (by decide)
  rw [if_neg h1]
  by_cases h1 : y.f0 = 17
  · rw [if_pos h1]
    exact fun h => absurd h (loopS_e2 _ _ he)
  rw [if_neg h1]
  by_cases h1 : y.f0 = 18
  · rw [if_pos h1]
    exact fun h => absurd (h.symm.trans he) (by decide)
  rw [if_neg h1]
  by_cases h1 : y.f0 = 19
  · rw [if_pos h1]
    exact fun h => absurd (h.symm.trans he) (by decide)
  rw [if_neg h1]
  by_cases h1 : y.f0 = 20
  · rw [if_pos h1]
    exact fun h => absurd h (spendS_e2 _ he)
  rw [if_neg h1]
  exact fun h => absurd h (by decide : (1 : Int) ≠ 2)
end
section
variable {G : Gr} {sc : List Int} {S : St}
theorem step_grow (S : St) : Grow S (stepC G sc S) := by
  have h := op_grow { S with at_ := (rd_T52 G.l0 S.at_).f6.f0 } (rd_T52 G.l0 S.at_) G sc
  exact ⟨h.marks, h.reads, h.ticks⟩
theorem stepN_grow (S : St) : ∀ j d : Nat, (∃ t, (stepN G sc S (j + d)).marks = (stepN G sc S j).marks ++ t) ∧ (stepN G sc S j).reads ≤ (stepN G sc S (j + d)).reads
  | j, 0 => ⟨⟨[], (List.append_nil _).symm⟩, Int.le_refl _⟩
  | j, d + 1 => by
    obtain ⟨⟨t, ht⟩, hr⟩ := stepN_grow S j d
    have hg := step_grow (G := G) (sc := sc) (stepN G sc S (j + d))
    obtain ⟨t2, ht2⟩ := hg.marks
    refine ⟨⟨t ++ t2, ?_⟩, Int.le_trans hr hg.reads⟩
    show (stepC G sc (stepN G sc S (j + d))).marks = _
    rw [ht2, ht, List.append_assoc]
theorem stepN_ticks (S : St) (h0 : S.ticks = 0) : ∀ k : Nat, k ≤ 1000000000 → 0 ≤ (stepN G sc S k).ticks ∧ (stepN G sc S k).ticks ≤ (k : Int)
  | 0, _ => by
    show 0 ≤ S.ticks ∧ S.ticks ≤ 0
    omega
  | k + 1, hk => by
    have ih := stepN_ticks S h0 k (by omega)
    have hg := (step_grow (G := G) (sc := sc) (stepN G sc S k)).ticks
    rcases hg with hg | hg
    · have e : (stepN G sc S (k + 1)).ticks = (stepN G sc S k).ticks := hg
      rw [e]; omega
    · have e : (stepN G sc S (k + 1)).ticks = (stepN G sc S k).ticks + 1 := hg.trans (M.wrap64_in _ (by omega))
      rw [e]; omega
theorem stepN_ticks_le (S : St) (h0 : S.ticks = 0) : ∀ j d : Nat, j + d ≤ 1000000000 → (stepN G sc S j).ticks ≤ (stepN G sc S (j + d)).ticks
  | j, 0, _ => Int.le_refl _
  | j, d + 1, hk => by
    have ih := stepN_ticks_le S h0 j d (by omega)
    have hb := stepN_ticks (G := G) (sc := sc) S h0 (j + d) (by omega)
    have hg := (step_grow (G := G) (sc := sc) (stepN G sc S (j + d))).ticks
    rcases hg with hg | hg
    · have e : (stepN G sc S (j + (d + 1))).ticks = (stepN G sc S (j + d)).ticks := hg
      rw [e]; exact ih
    · have e : (stepN G sc S (j + (d + 1))).ticks = (stepN G sc S (j + d)).ticks + 1 := hg.trans (M.wrap64_in _ (by omega))
      rw [e]; omega
/-- A state with more fuel. -/
def upF (S : St) (m : Int) : St := { S with fuel := S.fuel + m }
theorem step_up (he : S.en = 0) (m : Int) (hm : 0 ≤ m) (op : 1 ≤ (rd_T52 G.l0 S.at_).f0 ∧ (rd_T52 G.l0 S.at_).f0 ≤ 21) :
    ((stepC G sc S).en = 4 ∧ (stepC G sc S).marks = S.marks ∧ (stepC G sc S).reads = S.reads) ∨ stepC G sc (upF S m) = upF (stepC G sc S) m := by
  unfold stepC
  show _ ∨ opS G sc (setFA S (S.fuel + m) (rd_T52 G.l0 S.at_).f6.f0) (rd_T52 G.l0 S.at_) = _
  have e1 : ({ S with at_ := (rd_T52 G.l0 S.at_).f6.f0 } : St) = setFA S S.fuel (rd_T52 G.l0 S.at_).f6.f0 := rfl
  rw [e1]
  generalize rd_T52 G.l0 S.at_ = y at op ⊢
  by_cases n15 : y.f0 = 15
  · rw [opS_15 n15, opS_15 n15]
    right
    unfold testS
    show (if testB y.f4 (S.regs.getD y.f2.toNat 0) (S.regs.getD y.f3.toNat 0) = true then _ else _) = upF (if testB y.f4 (S.regs.getD y.f2.toNat 0) (S.regs.getD y.f3.toNat 0) = true then _ else _) m
    by_cases hb : testB y.f4 (S.regs.getD y.f2.toNat 0) (S.regs.getD y.f3.toNat 0) = true
    · rw [if_pos hb, if_pos hb]; rfl
    · rw [if_neg hb, if_neg hb]; rfl
  by_cases n17 : y.f0 = 17
  · rw [opS_17 n17, opS_17 n17]
    unfold loopS
    show ((if G.ticks ≠ 0 ∧ S.ticks = G.ticks then _ else if S.fuel ≤ 0 then _ else if S.marks.length < 64 then _ else _ : St).en = 4 ∧ (if G.ticks ≠ 0 ∧ S.ticks = G.ticks then _ else if S.fuel ≤ 0 then _ else if S.marks.length < 64 then _ else _ : St).marks = S.marks ∧ (if G.ticks ≠ 0 ∧ S.ticks = G.ticks then _ else if S.fuel ≤ 0 then _ else if S.marks.length < 64 then _ else _ : St).reads = S.reads) ∨ (if G.ticks ≠ 0 ∧ S.ticks = G.ticks then _ else if S.fuel + m ≤ 0 then _ else if S.marks.length < 64 then _ else _) = upF (if G.ticks ≠ 0 ∧ S.ticks = G.ticks then _ else if S.fuel ≤ 0 then _ else if S.marks.length < 64 then _ else _) m
    by_cases hd : G.ticks ≠ 0 ∧ S.ticks = G.ticks
    · simp only [if_pos hd]; exact Or.inr rfl
    · simp only [if_neg hd]
      by_cases hf : S.fuel ≤ 0
      · simp only [if_pos hf]; first | exact Or.inl ⟨rfl, rfl, rfl⟩ | exact Or.inl ⟨trivial, trivial, trivial⟩ | (left; simp; exact ⟨rfl, rfl⟩)
      · have hf2 : ¬ S.fuel + m ≤ 0 := by omega
        simp only [if_neg hf, if_neg hf2]
        right
        by_cases hk : S.marks.length < 64
        · simp only [if_pos hk]
          show ({ S with fuel := _, at_ := _, marks := _ } : St) = { S with fuel := _, at_ := _, marks := _ }
          congr 1
          show S.fuel + m - 1 = S.fuel - 1 + m
          omega
        · simp only [if_neg hk]
          show ({ S with fuel := _, at_ := _ } : St) = { S with fuel := _, at_ := _ }
          congr 1
          show S.fuel + m - 1 = S.fuel - 1 + m
          omega
  by_cases n20 : y.f0 = 20
  · rw [opS_20 n20, opS_20 n20]
    unfold spendS
    show ((if S.fuel ≤ 0 then _ else _ : St).en = 4 ∧ (if S.fuel ≤ 0 then _ else _ : St).marks = S.marks ∧ (if S.fuel ≤ 0 then _ else _ : St).reads = S.reads) ∨ (if S.fuel + m ≤ 0 then _ else _) = upF (if S.fuel ≤ 0 then _ else _) m
    by_cases hf : S.fuel ≤ 0
    · simp only [if_pos hf]; first | exact Or.inl ⟨rfl, rfl, rfl⟩ | exact Or.inl ⟨trivial, trivial, trivial⟩ | (left; simp; exact ⟨rfl, rfl⟩)
    · have hf2 : ¬ S.fuel + m ≤ 0 := by omega
      simp only [if_neg hf, if_neg hf2]
      right
      show ({ S with fuel := _, at_ := _ } : St) = { S with fuel := _, at_ := _ }
      congr 1
      show S.fuel + m - 1 = S.fuel - 1 + m
      omega
  right
  rw [op_fa S y _ _ G sc op n15 n17 n20, op_fa S y _ _ G sc op n15 n17 n20]
  rfl
theorem fit_op (hF : FitOK G) {i : Int} (h0 : 0 ≤ i) (h1 : i < (G.l0.length : Int)) : 1 ≤ (rd_T52 G.l0 i).f0 ∧ (rd_T52 G.l0 i).f0 ≤ 21 := by
  obtain ⟨ds, hD, hI⟩ := hF.rest
  have I := (hI i.toNat (by omega)).op
  rw [show ((i.toNat : Nat) : Int) = i by omega] at I
  exact I
/-- With more fuel. -/
theorem runs_up (hF : FitOK G) {m : Int} (hm : 0 ≤ m) {N M : Nat} (h : Runs G sc S N) (h' : Runs G sc (upF S m) M) :
    ((stepN G sc S N).en ≠ 4 → M = N ∧ stepN G sc (upF S m) M = upF (stepN G sc S N) m) ∧ (∃ t, (stepN G sc (upF S m) M).marks = (stepN G sc S N).marks ++ t) ∧ (stepN G sc S N).reads ≤ (stepN G sc (upF S m) M).reads := by
  have key : ∀ k, k ≤ N → stepN G sc (upF S m) k = upF (stepN G sc S k) m ∨ (k = N ∧ (stepN G sc S N).en = 4 ∧ ∃ j, N = j + 1 ∧ (stepN G sc S N).marks = (stepN G sc S j).marks ∧ (stepN G sc S N).reads = (stepN G sc S j).reads ∧ stepN G sc (upF S m) j = upF (stepN G sc S j) m) := fun k => by
    induction k with
    | zero => exact fun _ => Or.inl rfl
    | succ k ih =>
      intro hk
      have hg := h.go k (by omega)
      rcases ih (by omega) with e | ⟨e, _⟩
      · rcases step_up (sc := sc) hg.1 m hm (fit_op hF hg.2.1 hg.2.2) with hh | hh
        · have eN : k + 1 = N := by
            rcases Nat.lt_or_ge (k + 1) N with h2 | h2
            · have := (h.go (k + 1) h2).1
              exact absurd (this.symm.trans hh.1) (by decide)
            · omega
          subst eN
          exact Or.inr ⟨rfl, hh.1, k, rfl, hh.2.1, hh.2.2, e⟩
        · left
          show stepC G sc (stepN G sc (upF S m) k) = _
          rw [e]
          exact hh
      · omega
  have hgo : ∀ k, k < N → (stepN G sc (upF S m) k).en = 0 := fun k hk => by
    rcases key k (by omega) with e | ⟨e, _⟩
    · rw [e]; exact (h.go k hk).1
    · omega
  rcases key N (Nat.le_refl N) with e | ⟨_, h4, j, ej, e1, e2, e3⟩
  · have eM : M = N := runs_len h' hgo (by rw [e]; exact h.stop)
    subst eM
    refine ⟨fun _ => ⟨rfl, e⟩, ⟨[], ?_⟩, ?_⟩
    · rw [e, List.append_nil]; rfl
    · rw [e]; exact Int.le_refl _
  · have hM : j < M := by
      rcases Nat.lt_or_ge j M with h2 | h2
      · exact h2
      · exact absurd (hgo M (by omega)) h'.stop
    have hg := stepN_grow (G := G) (sc := sc) (upF S m) j (M - j)
    rw [show j + (M - j) = M by omega] at hg
    refine ⟨fun h => absurd h4 h, ?_, ?_⟩
    · obtain ⟨t, ht⟩ := hg.1
      exact ⟨t, by rw [ht, e3, e1]; rfl⟩
    · have := hg.2
      rw [e3] at this
      rw [e2]
      exact this
theorem rd_app {l m : List Int} {i : Int} (h0 : 0 ≤ i) (h1 : i < (l.length : Int)) : rd (l ++ m) i = rd l i := by
  unfold rd
  rw [List.getD_eq_getElem?_getD, List.getD_eq_getElem?_getD, List.getElem?_append_left (by omega)]
theorem step_more (more : List Int) (he : S.en = 0) (hr : 0 ≤ S.reads ∧ S.reads ≤ (sc.length : Int)) :
    ((stepC G sc S).en = 2) ∨ stepC G (sc ++ more) S = stepC G sc S := by
  unfold stepC
  generalize rd_T52 G.l0 S.at_ = y
  by_cases n12 : y.f0 = 12
  · have e : ∀ (s : List Int) (S : St), opS G s S y = readS G s S y := fun s S => by unfold opS; simp only [n12]; rfl
    rw [e, e]
    by_cases hq : S.reads = (sc.length : Int)
    · left
      show (readS G sc { S with at_ := y.f6.f0 } y).en = 2
      unfold readS
      rw [if_pos hq]
    · right
      have hrd : rd (sc ++ more) S.reads = rd sc S.reads := rd_app hr.1 (by omega)
      unfold readS
      show (if S.reads = ((sc ++ more).length : Int) then _ else if rd (sc ++ more) S.reads < _ then _ else if _ < rd (sc ++ more) S.reads then _ else _) = (if S.reads = (sc.length : Int) then _ else if rd sc S.reads < _ then _ else if _ < rd sc S.reads then _ else _)
      rw [if_neg hq, if_neg (by rw [List.length_append]; omega), hrd]
  · right
    unfold opS
    simp only [if_neg n12]
/-- With more script. -/
theorem runs_more (hF : FitOK G) (more : List Int) (ht0 : S.ticks = 0) (he0 : S.en = 0) {N M : Nat} (hM : M ≤ 1000000000) (h : Runs G sc S N) (h' : Runs G (sc ++ more) S M) :
    ((stepN G sc S N).en ≠ 2 → M = N ∧ stepN G (sc ++ more) S M = stepN G sc S N) ∧ (∃ t, (stepN G (sc ++ more) S M).marks = (stepN G sc S N).marks ++ t) ∧ (stepN G sc S N).ticks ≤ (stepN G (sc ++ more) S M).ticks ∧ ((stepN G sc S N).en = 2 → (stepN G sc S N).reads = (sc.length : Int)) := by
  have key : ∀ k, k ≤ N → stepN G (sc ++ more) S k = stepN G sc S k ∨ (k = N ∧ (stepN G sc S N).en = 2 ∧ ∃ j, N = j + 1 ∧ stepN G (sc ++ more) S j = stepN G sc S j) := fun k => by
    induction k with
    | zero => exact fun _ => Or.inl rfl
    | succ k ih =>
      intro hk
      have hg := h.go k (by omega)
      have gd := (h.good k (by omega)).reads
      rcases ih (by omega) with e | ⟨e, _⟩
      · rcases step_more (G := G) more hg.1 gd with hh | hh
        · have eN : k + 1 = N := by
            rcases Nat.lt_or_ge (k + 1) N with h2 | h2
            · have := (h.go (k + 1) h2).1
              exact absurd (this.symm.trans hh) (by decide)
            · omega
          subst eN
          exact Or.inr ⟨rfl, hh, k, rfl, e⟩
        · left
          show stepC G (sc ++ more) (stepN G (sc ++ more) S k) = _
          rw [e]
          exact hh
      · omega
  have hgo : ∀ k, k < N → (stepN G (sc ++ more) S k).en = 0 := fun k hk => by
    rcases key k (by omega) with e | ⟨e, _⟩
    · rw [e]; exact (h.go k hk).1
    · omega
  have last : (stepN G sc S N).en = 2 → ∃ j, N = j + 1 ∧ (stepN G sc S N).reads = (sc.length : Int) ∧ (stepN G sc S N).marks = (stepN G sc S j).marks ∧ (stepN G sc S N).ticks = (stepN G sc S j).ticks := fun h2 => by
    cases N with
    | zero => exact absurd ((show S.en = 2 from h2).symm.trans he0) (by decide)
    | succ j =>
      have hg := h.go j (by omega)
      have := op_e2 (S := { stepN G sc S j with at_ := (rd_T52 G.l0 (stepN G sc S j).at_).f6.f0 }) G sc hg.1 (rd_T52 G.l0 (stepN G sc S j).at_) h2
      exact ⟨j, rfl, this.1, this.2.1, this.2.2⟩
  rcases key N (Nat.le_refl N) with e | ⟨_, h4, j, ej, e3⟩
  · have eM : M = N := runs_len h' hgo (by rw [e]; exact h.stop)
    subst eM
    exact ⟨fun _ => ⟨rfl, e⟩, ⟨[], by rw [e, List.append_nil]⟩, by rw [e]; exact Int.le_refl _, fun h2 => (last h2).elim fun _ hh => hh.2.1⟩
  · obtain ⟨j2, ej2, l1, l2, l3⟩ := last h4
    obtain rfl : j2 = j := by omega
    have hjM : j2 < M := by
      rcases Nat.lt_or_ge j2 M with h2 | h2
      · exact h2
      · exact absurd (hgo M (by omega)) h'.stop
    have hg := stepN_grow (G := G) (sc := sc ++ more) S j2 (M - j2)
    have ht := stepN_ticks_le (G := G) (sc := sc ++ more) S ht0 j2 (M - j2) (by omega)
    rw [show j2 + (M - j2) = M by omega] at hg ht
    refine ⟨fun h => absurd h4 h, ?_, ?_, fun _ => l1⟩
    · obtain ⟨t, ht⟩ := hg.1
      exact ⟨t, by rw [ht, e3, l2]⟩
    · rw [l3, ← e3]; exact ht
end
end Go.Proofs.Ytcalcbeonbfkmaa.P
