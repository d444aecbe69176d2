/- What the law's proof needs of M6. -/
import Derived.Test.YtiemdfdebdmchaaTrSM5
import Derived.Test.YtiemdfdebdmchaaTrSPx23
import Derived.Test.YtiemdfdebdmchaaTrSS4
import Derived.Test.YtiemdfdebdmchaaTrSPx24
namespace Go.Proofs.Ytiemdfdebdmchaa.M
open Go.RowKit Go.Proofs.Ytiemdfdebdmchaa.P Go.Proofs.YtiemdfdebdmchaaW.PrintWords Go.Proofs.YtiemdfdebdmchaaW.PrintLast Go.Proofs.YtiemdfdebdmchaaW.PrintMore
def unsgn (x : Int) : Int := if x % 2 = 0 then x / 2 else -(x / 2) - 1
def pSeq {α β : Type} (p : List Int → Option (α × List Int)) (q : α → List Int → Option (β × List Int)) (s : List Int) : Option ((α × β) × List Int) :=
  match p s with
  | none => none
  | some (v, r) => match q v r with
    | none => none
    | some (w, r') => some ((v, w), r')
def ps (s : List Int) : Option (Int × List Int) := match pn s with
  | none => none
  | some (x, r) => some (unsgn x, r)
def pp (s : List Int) : Option (Int × List Int) := match pn s with
  | none => none
  | some (x, r) => if x > 9223372036854775807 then none else some (x, r)
def pm (s : List Int) : Option (Int × List Int) := match pn s with
  | none => none
  | some (x, r) => if x > (r.length : Int) then none else some (x, r)
def rowP (f : List Int → Int) : Nat → List Int → List Int → Option (List Int × List Int)
  | 0, l, s => some (l, s)
  | n + 1, l, s => match ps s with
    | none => none
    | some (x, r) => rowP f n (l ++ [wrap64 (x + f l)]) r
def pr (f : List Int → Int) (s : List Int) : Option (List Int × List Int) := match pm s with
  | none => none
  | some (x, r) => rowP f x.toNat [] r
def lastOf (l : List Int) : Int := bef l l.length
def befOf (o : List Int) (l : List Int) : Int := atS o l.length
def arrP : Nat → List (List Int) → List Int → Option (List (List Int) × List Int)
  | 0, l, s => some (l, s)
  | n + 1, l, s => match pr lastOf s with
    | none => none
    | some (x, r) => arrP n (l ++ [x]) r
def marksP : Nat → List (List Int) → List Int → List Int → Option (List (List Int) × List Int)
  | 0, l, _, s => some (l, s)
  | n + 1, l, o, s => match pr (befOf o) s with
    | none => none
    | some (x, r) => marksP n (l ++ [x]) x r
def parr (s : List Int) : Option (List (List Int) × List Int) := match pm s with
  | none => none
  | some (x, r) => arrP x.toNat [] r
def pmarks (s : List Int) : Option (List (List Int) × List Int) := match pm s with
  | none => none
  | some (x, r) => marksP x.toNat [] [] r
abbrev Tr : Type := Int × List Int × Int × Int × Int × Int × Int × List Int × List (List Int) × List (List Int)
def ptrace : List Int → Option (Tr × List Int) :=
  pSeq ps fun _ => pSeq (pr lastOf) fun _ => pSeq pp fun _ => pSeq pp fun _ => pSeq pp fun _ => pSeq pp fun _ => pSeq pp fun _ => pSeq (pr lastOf) fun _ => pSeq parr fun _ => pmarks
def SpecG {α β : Type} (g : α → Int → Bool → β) (F : Nat → Option β) (T : List Int) (n : Nat) (bad : Bool) (p : Option (α × List Int)) (Q : α → Prop) : Prop :=
  ∃ (v : α) (a : Nat) (b : Bool), Evt F (g v (a : Int) b) ∧ n ≤ a ∧ a ≤ T.length ∧ Q v ∧ (bad = true → b = true) ∧
    (bad = false → (∀ v' s, p = some (v', s) → v = v' ∧ T.drop a = s ∧ b = false) ∧ (p = none → b = true))
theorem Spec.g {α : Type} {F : Nat → Option (α × Int × Bool)} {T : List Int} {n : Nat} {bad : Bool} {p : Option (α × List Int)} {Q : α → Prop} (h : Spec F T n bad p Q) : SpecG (fun v a b => (v, a, b)) F T n bad p Q := h
theorem SpecG.step {α β : Type} {g : α → Int → Bool → β} {F G : Nat → Option β} {T : List Int} {n n' : Nat} {bad : Bool} {p : Option (α × List Int)} {Q : α → Prop} (h : ∀ k, F (k + 1) = G k) (hn : n ≤ n') (hg : SpecG g G T n' bad p Q) : SpecG g F T n bad p Q := by
  obtain ⟨v, a, b, he, h1, h2⟩ := hg
  exact ⟨v, a, b, Evt.step h he, Nat.le_trans hn h1, h2⟩
theorem SpecG.congr {α β : Type} {g : α → Int → Bool → β} {F G : Nat → Option β} {T : List Int} {n : Nat} {bad : Bool} {p : Option (α × List Int)} {Q : α → Prop} (h : ∀ k, F k = G k) (hg : SpecG g G T n bad p Q) : SpecG g F T n bad p Q := by
  obtain ⟨v, a, b, he, h2⟩ := hg
  exact ⟨v, a, b, Evt.congr h he, h2⟩
theorem SpecG.imp {α β : Type} {g : α → Int → Bool → β} {F : Nat → Option β} {T : List Int} {n : Nat} {bad : Bool} {p : Option (α × List Int)} {Q Q' : α → Prop} (h : ∀ v, Q v → Q' v) (hg : SpecG g F T n bad p Q) : SpecG g F T n bad p Q' := by
  obtain ⟨v, a, b, he, h1, h2, h3, h4⟩ := hg
  exact ⟨v, a, b, he, h1, h2, h _ h3, h4⟩
/-- One reader behind another; the later one's parser is handed what the first gave. -/
theorem SpecG.bind {α β γ : Type} {g : γ → Int → Bool → β} {F : Nat → Option (α × Int × Bool)} {G : Nat → α × Int × Bool → Option β} {T : List Int} {n : Nat} {bad : Bool} {p : Option (α × List Int)} {q : α → List Int → Option (γ × List Int)} {p' : Option (γ × List Int)} {Q : α → Prop} {R : γ → Prop}
    (hF : Spec F T n bad p Q) (hG : ∀ v (a : Nat) b, n ≤ a → a ≤ T.length → Q v → (bad = false → b = false → p = some (v, T.drop a)) → SpecG g (fun k => G k (v, (a : Int), b)) T a b (q v (T.drop a)) R)
    (hp : p' = p.bind fun x => q x.1 x.2) : SpecG g (fun k => (F k).bind fun x => G k x) T n bad p' R := by
  subst hp
  obtain ⟨v, a, b, he, h1, h2, h3, h4, h5⟩ := hF
  have hpe : bad = false → b = false → p = some (v, T.drop a) := fun hb hb' => by
    cases hp : p with
    | none => have := (h5 hb).2 hp; rw [hb'] at this; cases this
    | some x => obtain ⟨e1, e2, _⟩ := (h5 hb).1 x.1 x.2 hp; rw [e1, e2]
  obtain ⟨w, a', b', he', h1', h2', h3', h4', h5'⟩ := hG v a b h1 h2 h3 hpe
  refine ⟨w, a', b', Evt.bind he he', by omega, h2', h3', fun hb => h4' (h4 hb), fun hb => ⟨fun v' s hs => ?_, fun hn => ?_⟩⟩
  · cases hp : p with
    | none => rw [hp] at hs; cases hs
    | some x =>
      obtain ⟨rfl, e2, e3⟩ := (h5 hb).1 x.1 x.2 hp
      rw [hp] at hs
      have hs' : q x.1 x.2 = some (v', s) := hs
      rw [← e2] at hs'
      exact (h5' e3).1 v' s hs'
  · cases hp : p with
    | none => exact h4' ((h5 hb).2 hp)
    | some x =>
      obtain ⟨rfl, e2, e3⟩ := (h5 hb).1 x.1 x.2 hp
      rw [hp] at hn
      have hn' : q x.1 x.2 = none := hn
      rw [← e2] at hn'
      exact (h5' e3).2 hn'
/-- What was read is kept beside what comes. -/
theorem SpecG.pair {α β γ : Type} {g : α × γ → Int → Bool → β} {F : Nat → Option (α × Int × Bool)} {G : Nat → α × Int × Bool → Option β} {T : List Int} {n : Nat} {bad : Bool} {p : List Int → Option (α × List Int)} {q : α → List Int → Option (γ × List Int)} {Q : α → Prop} {R : γ → Prop}
    (hF : Spec F T n bad (p (T.drop n)) Q) (hG : ∀ v (a : Nat) b, n ≤ a → a ≤ T.length → Q v → SpecG (fun y => g (v, y)) (fun k => G k (v, (a : Int), b)) T a b (q v (T.drop a)) R) :
    SpecG g (fun k => (F k).bind fun x => G k x) T n bad (pSeq p q (T.drop n)) (fun _ => True) := by
  refine SpecG.bind (q := fun v s => (q v s).map fun y => ((v, y.1), y.2)) hF (fun v a b h1 h2 h3 _ => ?_) ?_
  · obtain ⟨w, a', b', he, e1, e2, e3, e4, e5⟩ := hG v a b h1 h2 h3
    refine ⟨(v, w), a', b', he, e1, e2, trivial, e4, fun hb => ⟨fun v' s hs => ?_, fun hn => ?_⟩⟩
    · obtain ⟨y, hy, hyy⟩ := Option.map_eq_some_iff.1 hs
      injection hyy with q1 q2
      obtain ⟨r1, r2, r3⟩ := (e5 hb).1 y.1 y.2 hy
      exact ⟨by rw [← q1, r1], by rw [r2, q2], r3⟩
    · exact (e5 hb).2 (Option.map_eq_none_iff.1 hn)
  · unfold pSeq
    cases hp : p (T.drop n) with
    | none => rfl
    | some x =>
      show _ = (q x.1 x.2).map _
      cases hq : q x.1 x.2 with
      | none => simp only [hq]; rfl
      | some y => simp only [hq]; rfl
theorem and1_u64 (x : Int) (h0 : 0 ≤ x) (h1 : x < 18446744073709551616) : Go.bits .and .u64 x 1 = x % 2 := by
  rw [u64_and x 1 h0 h1 (by decide) (by decide), show (1 : Int).toNat = 1 from rfl, Nat.and_one_is_mod]
  omega
theorem xor_i64_0 (a : Int) (h0 : -9223372036854775808 ≤ a) (h1 : a < 9223372036854775808) : Go.bits .xor .i64 a 0 = a := by
  unfold Go.bits
  have e : (BitVec.ofInt IntKind.i64.bits 0) = 0#64 := rfl
  rw [e]
  show IntKind.i64.wrap (((BitVec.ofInt 64 a ^^^ 0#64).toNat : Nat) : Int) = a
  rw [BitVec.xor_zero, BitVec.toNat_ofInt]
  have : IntKind.i64.wrap (((a % (2 ^ 64 : Nat)).toNat : Nat) : Int) = wrap64 (((a % (2 ^ 64 : Nat)).toNat : Nat) : Int) := i64_w _
  rw [this]
  unfold wrap64
  omega
theorem xor_i64_1 (a : Int) (h0 : -9223372036854775808 ≤ a) (h1 : a < 9223372036854775808) : Go.bits .xor .i64 a (-1) = -a - 1 := by
  unfold Go.bits
  have e : (BitVec.ofInt IntKind.i64.bits (-1)) = BitVec.allOnes 64 := show BitVec.ofInt 64 (-1) = BitVec.allOnes 64 by decide
  rw [e]
  show IntKind.i64.wrap (((BitVec.ofInt 64 a ^^^ BitVec.allOnes 64).toNat : Nat) : Int) = -a - 1
  rw [BitVec.xor_allOnes, BitVec.toNat_not, BitVec.toNat_ofInt]
  refine (i64_w _).trans ?_
  unfold wrap64
  omega
theorem unsgn_code (x : Int) (h0 : 0 ≤ x) (h1 : x < 18446744073709551616) : Go.bits .xor .i64 (wrap64 (x / 2)) (wrap64 (-(wrap64 (Go.bits .and .u64 x 1)))) = unsgn x := by
  rw [and1_u64 x h0 h1, wrap64_in (x / 2) (by omega), wrap64_in (x % 2) (by omega), wrap64_in _ (by omega)]
  unfold unsgn
  by_cases h : x % 2 = 0
  · rw [if_pos h, h]
    exact xor_i64_0 _ (by omega) (by omega)
  · rw [if_neg h, show x % 2 = 1 by omega]
    exact xor_i64_1 _ (by omega) (by omega)
theorem unsgn_in (x : Int) (h0 : 0 ≤ x) (h1 : x < 18446744073709551616) : -9223372036854775808 ≤ unsgn x ∧ unsgn x < 9223372036854775808 := by
  unfold unsgn
  split <;> omega
theorem last_some (l : List Int) (h : l.length ≤ 1099511627776) : trace_last.f l = some (lastOf l) := by
  unfold trace_last.f lastOf bef
  by_cases h0 : l.length = 0
  · rw [if_pos (by omega), if_pos h0]
  · rw [if_neg (by omega), if_neg h0, wrap64_in _ (by omega), if_pos (by omega), if_pos (by omega)]
    congr 2
    omega
theorem at_some (o : List Int) (n : Nat) : trace_at.f o (n : Int) = some (atS o n) := by
  unfold trace_at.f atS
  by_cases h : n < o.length
  · rw [if_pos (by omega), if_pos (by omega), if_pos h]
  · rw [if_neg (by omega), if_neg h]
section
variable (T : List Int) (hT : Bytes T) (hl : T.length ≤ 1099511627776)
include hT hl
theorem num_spec (bad : Bool) (n : Nat) (hn : n ≤ T.length) : Spec (fun k => trace_reader_number.f k T (n : Int) bad) T n bad (pn (T.drop n)) (fun x => 0 ≤ x ∧ x < 18446744073709551616) :=
  number_spec T hT (by omega) bad n hn
theorem signed_spec (bad : Bool) (n : Nat) (hn : n ≤ T.length) : Spec (fun k => trace_reader_signed.f k T (n : Int) bad) T n bad (ps (T.drop n)) (fun x => -9223372036854775808 ≤ x ∧ x < 9223372036854775808) := by
  obtain ⟨v, a, b, he, h1, h2, h3, h4, h5⟩ := num_spec T hT hl bad n hn
  refine ⟨unsgn v, a, b, ?_, h1, h2, unsgn_in v h3.1 h3.2, h4, fun hb => ⟨fun v' s hs => ?_, fun hn => ?_⟩⟩
  · unfold trace_reader_signed.f
    refine Evt.bind he (Evt.of 0 (fun k => ?_))
    simp only
    rw [unsgn_code v h3.1 h3.2]
  · unfold ps at hs
    cases hp : pn (T.drop n) with
    | none => rw [hp] at hs; cases hs
    | some x =>
      rw [hp] at hs
      obtain ⟨rfl, e2, e3⟩ := (h5 hb).1 x.1 x.2 hp
      injection hs with hs; injection hs with s1 s2
      exact ⟨s1, e2.trans s2, e3⟩
  · unfold ps at hn
    cases hp : pn (T.drop n) with
    | none => exact (h5 hb).2 hp
    | some x => rw [hp] at hn; cases hn
theorem plain_spec (bad : Bool) (n : Nat) (hn : n ≤ T.length) : Spec (fun k => trace_reader_plain.f k T (n : Int) bad) T n bad (pp (T.drop n)) (fun x => 0 ≤ x ∧ x < 9223372036854775808) := by
  obtain ⟨v, a, b, he, h1, h2, h3, h4, h5⟩ := num_spec T hT hl bad n hn
  by_cases hv : v > 9223372036854775807
  · refine ⟨0, a, true, ?_, h1, h2, by decide, fun _ => rfl, fun hb => ⟨fun v' s hs => ?_, fun _ => rfl⟩⟩
    · unfold trace_reader_plain.f
      exact Evt.bind he (Evt.of 0 (fun k => by simp only; rw [if_pos hv]))
    · unfold pp at hs
      cases hp : pn (T.drop n) with
      | none => rw [hp] at hs; cases hs
      | some x =>
        rw [hp] at hs
        obtain ⟨rfl, _, _⟩ := (h5 hb).1 x.1 x.2 hp
        rw [show (match (some x : Option (Int × List Int)) with | none => none | some (x, r) => if x > 9223372036854775807 then none else some (x, r)) = (if x.1 > 9223372036854775807 then none else some (x.1, x.2)) from rfl, if_pos hv] at hs
        cases hs
  · refine ⟨v, a, b, ?_, h1, h2, ⟨h3.1, by omega⟩, h4, fun hb => ⟨fun v' s hs => ?_, fun hn => ?_⟩⟩
    · unfold trace_reader_plain.f
      exact Evt.bind he (Evt.of 0 (fun k => by simp only; rw [if_neg hv, wrap64_in v (by omega)]))
    · unfold pp at hs
      cases hp : pn (T.drop n) with
      | none => rw [hp] at hs; cases hs
      | some x =>
        rw [hp] at hs
        obtain ⟨rfl, e2, e3⟩ := (h5 hb).1 x.1 x.2 hp
        rw [show (match (some x : Option (Int × List Int)) with | none => none | some (x, r) => if x > 9223372036854775807 then none else some (x, r)) = (if x.1 > 9223372036854775807 then none else some (x.1, x.2)) from rfl, if_neg hv] at hs
        injection hs with hs; injection hs with s1 s2
        exact ⟨s1, e2.trans s2, e3⟩
    · unfold pp at hn
      cases hp : pn (T.drop n) with
      | none => exact (h5 hb).2 hp
      | some x =>
        rw [hp] at hn
        obtain ⟨rfl, e2, e3⟩ := (h5 hb).1 x.1 x.2 hp
        rw [show (match (some x : Option (Int × List Int)) with | none => none | some (x, r) => if x > 9223372036854775807 then none else some (x, r)) = (if x.1 > 9223372036854775807 then none else some (x.1, x.2)) from rfl, if_neg hv] at hn
        cases hn
theorem many_spec (bad : Bool) (n : Nat) (hn : n ≤ T.length) : Spec (fun k => trace_reader_many.f k T (n : Int) bad) T n bad (pm (T.drop n)) (fun x => 0 ≤ x ∧ x ≤ (T.length : Int)) := by
  obtain ⟨v, a, b, he, h1, h2, h3, h4, h5⟩ := num_spec T hT hl bad n hn
  have hw : IntKind.u64.wrap (wrap64 ((T.length : Int) - (a : Int))) = ((T.length - a : Nat) : Int) := by
    rw [wrap64_in _ (by omega), wrap_u64 _ (by omega) (by omega)]; omega
  have hpm : ∀ x : Int × List Int, (match (some x : Option (Int × List Int)) with | none => none | some (x, r) => if x > (r.length : Int) then none else some (x, r)) = (if x.1 > (x.2.length : Int) then none else some (x.1, x.2)) := fun _ => rfl
  by_cases hb1 : b = true
  · subst hb1
    refine ⟨0, a, true, ?_, h1, h2, ⟨by decide, by omega⟩, fun _ => rfl, fun hb => ⟨fun v' s hs => ?_, fun _ => rfl⟩⟩
    · unfold trace_reader_many.f
      exact Evt.bind he (Evt.of 0 (fun k => by simp only [if_true]))
    · unfold pm at hs
      cases hp : pn (T.drop n) with
      | none => rw [hp] at hs; cases hs
      | some x => have := ((h5 hb).1 x.1 x.2 hp).2.2; cases this
  · by_cases hv : v > ((T.length - a : Nat) : Int)
    · refine ⟨0, a, true, ?_, h1, h2, ⟨by decide, by omega⟩, fun _ => rfl, fun hb => ⟨fun v' s hs => ?_, fun _ => rfl⟩⟩
      · unfold trace_reader_many.f
        exact Evt.bind he (Evt.of 0 (fun k => by simp only; rw [if_neg hb1, hw, if_pos hv]))
      · unfold pm at hs
        cases hp : pn (T.drop n) with
        | none => rw [hp] at hs; cases hs
        | some x =>
          rw [hp] at hs
          obtain ⟨rfl, e2, _⟩ := (h5 hb).1 x.1 x.2 hp
          rw [hpm, if_pos (by rw [← e2, List.length_drop]; exact hv)] at hs
          cases hs
    · refine ⟨v, a, b, ?_, h1, h2, ⟨h3.1, by omega⟩, h4, fun hb => ⟨fun v' s hs => ?_, fun hn => ?_⟩⟩
      · unfold trace_reader_many.f
        exact Evt.bind he (Evt.of 0 (fun k => by simp only; rw [if_neg hb1, hw, if_neg hv, wrap64_in v (by omega)]))
      · unfold pm at hs
        cases hp : pn (T.drop n) with
        | none => rw [hp] at hs; cases hs
        | some x =>
          rw [hp] at hs
          obtain ⟨rfl, e2, e3⟩ := (h5 hb).1 x.1 x.2 hp
          rw [hpm, if_neg (by rw [← e2, List.length_drop]; exact hv)] at hs
          injection hs with hs; injection hs with s1 s2
          exact ⟨s1, e2.trans s2, e3⟩
      · unfold pm at hn
        cases hp : pn (T.drop n) with
        | none => exact (h5 hb).2 hp
        | some x =>
          rw [hp] at hn
          obtain ⟨rfl, e2, e3⟩ := (h5 hb).1 x.1 x.2 hp
          rw [hpm, if_neg (by rw [← e2, List.length_drop]; exact hv)] at hn
          cases hn
theorem rowlast_l0 : ∀ (m : Nat) (l : List Int) (n : Nat) (bad : Bool), l.length + m ≤ 1099511627776 → n ≤ T.length →
    Spec (fun k => trace_reader_row_trace_last.l0 k l ((l.length + m : Nat) : Int) (l.length : Int) T (n : Int) bad) T n bad (rowP lastOf m l (T.drop n)) (fun l' => l'.length = l.length + m)
  | 0, l, n, bad, hm, hn => ⟨l, n, bad, Evt.of 1 (fun k => by rw [trace_reader_row_trace_last.l0, if_neg (by omega)]), Nat.le_refl _, hn, rfl, fun h => h, fun hb => ⟨fun v' s hs => by
      rw [rowP] at hs; injection hs with hs; injection hs with s1 s2; exact ⟨s1, s2, hb⟩, fun h => by rw [rowP] at h; cases h⟩⟩
  | m + 1, l, n, bad, hm, hn => by
    refine SpecG.step (g := fun v a b => (v, a, b)) (n' := n) (fun k => by rw [trace_reader_row_trace_last.l0, if_pos (show (l.length : Int) < ((l.length + (m + 1) : Nat) : Int) by omega)]) (Nat.le_refl _) ?_
    refine SpecG.bind (q := fun x r => rowP lastOf m (l ++ [wrap64 (x + lastOf l)]) r) (signed_spec T hT hl bad n hn) (fun v a b h1 h2 h3 _ => ?_) ?_
    · have ih := rowlast_l0 m (l ++ [wrap64 (v + lastOf l)]) a b (by simp only [List.length_append, List.length_cons, List.length_nil]; omega) h2
      simp only [List.length_append, List.length_cons, List.length_nil, Nat.zero_add] at ih
      refine SpecG.imp (fun l' h => by rw [h]; omega) (SpecG.congr (fun k => ?_) ih.g)
      simp only
      rw [last_some l (by omega), Option.bind_some, if_pos (by omega), nat_step _ (by omega), show l.length + (m + 1) = l.length + 1 + m by omega]
    · rw [rowP]
      cases hp : ps (T.drop n) with
      | none => rfl
      | some x => rfl
theorem rowbef_l0 (o : List Int) : ∀ (m : Nat) (l : List Int) (n : Nat) (bad : Bool), l.length + m ≤ 1099511627776 → n ≤ T.length →
    Spec (fun k => trace_reader_row_before.l0 k o l ((l.length + m : Nat) : Int) (l.length : Int) T (n : Int) bad) T n bad (rowP (befOf o) m l (T.drop n)) (fun l' => l'.length = l.length + m)
  | 0, l, n, bad, hm, hn => ⟨l, n, bad, Evt.of 1 (fun k => by rw [trace_reader_row_before.l0, if_neg (by omega)]), Nat.le_refl _, hn, rfl, fun h => h, fun hb => ⟨fun v' s hs => by
      rw [rowP] at hs; injection hs with hs; injection hs with s1 s2; exact ⟨s1, s2, hb⟩, fun h => by rw [rowP] at h; cases h⟩⟩
  | m + 1, l, n, bad, hm, hn => by
    refine SpecG.step (g := fun v a b => (v, a, b)) (n' := n) (fun k => by rw [trace_reader_row_before.l0, if_pos (show (l.length : Int) < ((l.length + (m + 1) : Nat) : Int) by omega)]) (Nat.le_refl _) ?_
    refine SpecG.bind (q := fun x r => rowP (befOf o) m (l ++ [wrap64 (x + befOf o l)]) r) (signed_spec T hT hl bad n hn) (fun v a b h1 h2 h3 _ => ?_) ?_
    · have ih := rowbef_l0 o m (l ++ [wrap64 (v + befOf o l)]) a b (by simp only [List.length_append, List.length_cons, List.length_nil]; omega) h2
      simp only [List.length_append, List.length_cons, List.length_nil, Nat.zero_add] at ih
      refine SpecG.imp (fun l' h => by rw [h]; omega) (SpecG.congr (fun k => ?_) ih.g)
      simp only
      rw [at_some o l.length, Option.bind_some, if_pos (by omega), nat_step _ (by omega), show l.length + (m + 1) = l.length + 1 + m by omega]
      rfl
    · rw [rowP]
      cases hp : ps (T.drop n) with
      | none => rfl
      | some x => rfl
theorem rowlast_spec (bad : Bool) (n : Nat) (hn : n ≤ T.length) : Spec (fun k => trace_reader_row_trace_last.f k T (n : Int) bad) T n bad (pr lastOf (T.drop n)) (fun l' => l'.length ≤ T.length) := by
  unfold trace_reader_row_trace_last.f
  refine SpecG.bind (g := fun v a b => (v, a, b)) (q := fun x r => rowP lastOf x.toNat [] r) (many_spec T hT hl bad n hn) (fun v a b h1 h2 h3 _ => ?_) ?_
  · have h := rowlast_l0 T hT hl v.toNat [] a b (by simp only [List.length_nil]; omega) h2
    simp only [List.length_nil, Nat.zero_add] at h
    refine SpecG.imp (fun l' h => by rw [h]; omega) (SpecG.congr (fun k => ?_) h.g)
    simp only
    rw [show ((v.toNat : Nat) : Int) = v by omega]
    rfl
  · unfold pr
    cases hp : pm (T.drop n) with
    | none => rfl
    | some x => rfl
theorem rowbef_spec (o : List Int) (bad : Bool) (n : Nat) (hn : n ≤ T.length) : Spec (fun k => trace_reader_row_before.f k T (n : Int) bad o) T n bad (pr (befOf o) (T.drop n)) (fun l' => l'.length ≤ T.length) := by
  unfold trace_reader_row_before.f
  refine SpecG.bind (g := fun v a b => (v, a, b)) (q := fun x r => rowP (befOf o) x.toNat [] r) (many_spec T hT hl bad n hn) (fun v a b h1 h2 h3 _ => ?_) ?_
  · have h := rowbef_l0 T hT hl o v.toNat [] a b (by simp only [List.length_nil]; omega) h2
    simp only [List.length_nil, Nat.zero_add] at h
    refine SpecG.imp (fun l' h => by rw [h]; omega) (SpecG.congr (fun k => ?_) h.g)
    simp only
    rw [show ((v.toNat : Nat) : Int) = v by omega]
    rfl
  · unfold pr
    cases hp : pm (T.drop n) with
    | none => rfl
    | some x => rfl
theorem marks_l1 (fu : Int) (sr : List Int) (e si ki ti re : Int) (sc : List Int) (ar : List (List Int)) : ∀ (m i : Nat) (ma : List (List Int)) (o : List Int) (n : Nat) (bad : Bool), i + m ≤ 1099511627776 → ma.length ≤ i → n ≤ T.length →
    SpecG (fun ma' a b => (fu, sr, e, si, ki, ti, re, sc, ar, ma', a, b)) (fun k => trace_reader_trace.l1 k ((i + m : Nat) : Int) (i : Int) T (n : Int) bad fu sr e si ki ti re sc ar ma o) T n bad (marksP m ma o (T.drop n)) (fun _ => True)
  | 0, i, ma, o, n, bad, hm, hi, hn => ⟨ma, n, bad, Evt.of 1 (fun k => by rw [trace_reader_trace.l1, if_neg (by omega)]), Nat.le_refl _, hn, trivial, fun h => h, fun hb => ⟨fun v' s hs => by
      rw [marksP] at hs; injection hs with hs; injection hs with s1 s2; exact ⟨s1, s2, hb⟩, fun h => by rw [marksP] at h; cases h⟩⟩
  | m + 1, i, ma, o, n, bad, hm, hi, hn => by
    refine SpecG.step (n' := n) (fun k => by rw [trace_reader_trace.l1, if_pos (show (i : Int) < ((i + (m + 1) : Nat) : Int) by omega)]) (Nat.le_refl _) ?_
    refine SpecG.bind (q := fun x r => marksP m (ma ++ [x]) x r) (rowbef_spec T hT hl o bad n hn) (fun v a b h1 h2 h3 _ => ?_) ?_
    · have ih := marks_l1 fu sr e si ki ti re sc ar m (i + 1) (ma ++ [v]) v a b (by omega) (by simp only [List.length_append, List.length_cons, List.length_nil]; omega) h2
      refine SpecG.congr (fun k => ?_) ih
      simp only
      rw [if_pos (by omega), nat_step _ (by omega), show i + (m + 1) = i + 1 + m by omega]
    · rw [marksP]
      cases hp : pr (befOf o) (T.drop n) with
      | none => rfl
      | some x => rfl
theorem arr_l0 (fu : Int) (sr : List Int) (e si ki ti re : Int) (sc : List Int) : ∀ (m i : Nat) (ar : List (List Int)) (n : Nat) (bad : Bool), i + m ≤ 1099511627776 → ar.length ≤ i → n ≤ T.length →
    SpecG (fun (y : List (List Int) × List (List Int)) a b => (fu, sr, e, si, ki, ti, re, sc, y.1, y.2, a, b)) (fun k => trace_reader_trace.l0 k ((i + m : Nat) : Int) (i : Int) T (n : Int) bad fu sr e si ki ti re sc ar) T n bad (pSeq (arrP m ar) (fun _ => pmarks) (T.drop n)) (fun _ => True)
  | 0, i, ar, n, bad, hm, hi, hn => by
    refine SpecG.step (n' := n) (fun k => by rw [trace_reader_trace.l0, if_neg (by omega)]) (Nat.le_refl _) ?_
    refine SpecG.bind (q := fun x r => (marksP x.toNat [] [] r).map fun z => ((ar, z.1), z.2)) (many_spec T hT hl bad n hn) (fun v a b h1 h2 h3 _ => ?_) ?_
    · have h := marks_l1 T hT hl fu sr e si ki ti re sc ar v.toNat 0 [] [] a b (by omega) (Nat.zero_le _) h2
      obtain ⟨w, a', b', he, e1, e2, e3, e4, e5⟩ := h
      refine ⟨(ar, w), a', b', Evt.congr (fun k => ?_) he, e1, e2, trivial, e4, fun hb => ⟨fun v' s hs => ?_, fun hn => ?_⟩⟩
      · simp only [Nat.zero_add]
        rw [show ((v.toNat : Nat) : Int) = v by omega]
        rfl
      · obtain ⟨y, hy, hyy⟩ := Option.map_eq_some_iff.1 hs
        injection hyy with q1 q2
        obtain ⟨r1, r2, r3⟩ := (e5 hb).1 y.1 y.2 hy
        exact ⟨by rw [← q1, r1], by rw [r2, q2], r3⟩
      · exact (e5 hb).2 (Option.map_eq_none_iff.1 hn)
    · unfold pSeq
      rw [arrP]
      simp only
      unfold pmarks
      cases hp : pm (T.drop n) with
      | none => rfl
      | some x =>
        simp only [Option.bind_some]
        cases hq : marksP x.1.toNat [] [] x.2 with
        | none => rfl
        | some y => rfl
  | m + 1, i, ar, n, bad, hm, hi, hn => by
    refine SpecG.step (n' := n) (fun k => by rw [trace_reader_trace.l0, if_pos (show (i : Int) < ((i + (m + 1) : Nat) : Int) by omega)]) (Nat.le_refl _) ?_
    refine SpecG.bind (q := fun x r => pSeq (arrP m (ar ++ [x])) (fun _ => pmarks) r) (rowlast_spec T hT hl bad n hn) (fun v a b h1 h2 h3 _ => ?_) ?_
    · have ih := arr_l0 fu sr e si ki ti re sc m (i + 1) (ar ++ [v]) a b (by omega) (by simp only [List.length_append, List.length_cons, List.length_nil]; omega) h2
      refine SpecG.congr (fun k => ?_) ih
      simp only
      rw [if_pos (by omega), nat_step _ (by omega), show i + (m + 1) = i + 1 + m by omega]
    · unfold pSeq
      rw [arrP]
      cases hp : pr lastOf (T.drop n) with
      | none => rfl
      | some x => rfl
theorem trace_spec (bad : Bool) (n : Nat) (hn : n ≤ T.length) :
    SpecG (fun (t : Tr) a b => (t.1, t.2.1, t.2.2.1, t.2.2.2.1, t.2.2.2.2.1, t.2.2.2.2.2.1, t.2.2.2.2.2.2.1, t.2.2.2.2.2.2.2.1, t.2.2.2.2.2.2.2.2.1, t.2.2.2.2.2.2.2.2.2, a, b)) (fun k => trace_reader_trace.f k T (n : Int) bad) T n bad (ptrace (T.drop n)) (fun _ => True) := by
  unfold trace_reader_trace.f ptrace
  refine SpecG.pair (R := fun _ => True) (signed_spec T hT hl bad n hn) (fun fu a0 b0 _ g0 _ => ?_)
  refine SpecG.pair (R := fun _ => True) (rowlast_spec T hT hl b0 a0 g0) (fun sr a1 b1 _ g1 _ => ?_)
  refine SpecG.pair (R := fun _ => True) (plain_spec T hT hl b1 a1 g1) (fun e a2 b2 _ g2 _ => ?_)
  refine SpecG.pair (R := fun _ => True) (plain_spec T hT hl b2 a2 g2) (fun si a3 b3 _ g3 _ => ?_)
  refine SpecG.pair (R := fun _ => True) (plain_spec T hT hl b3 a3 g3) (fun ki a4 b4 _ g4 _ => ?_)
  refine SpecG.pair (R := fun _ => True) (plain_spec T hT hl b4 a4 g4) (fun ti a5 b5 _ g5 _ => ?_)
  refine SpecG.pair (R := fun _ => True) (plain_spec T hT hl b5 a5 g5) (fun re a6 b6 _ g6 _ => ?_)
  refine SpecG.pair (R := fun _ => True) (rowlast_spec T hT hl b6 a6 g6) (fun sc a7 b7 _ g7 _ => ?_)
  refine SpecG.bind (q := fun x r => pSeq (arrP x.toNat []) (fun _ => pmarks) r) (many_spec T hT hl b7 a7 g7) (fun v a b h1 h2 h3 _ => ?_) ?_
  · have h := arr_l0 T hT hl fu sr e si ki ti re sc v.toNat 0 [] a b (by omega) (Nat.zero_le _) h2
    refine SpecG.congr (fun k => ?_) h
    simp only [Nat.zero_add]
    rw [show ((v.toNat : Nat) : Int) = v by omega]
    rfl
  · unfold pSeq parr
    cases hp : pm (T.drop a7) with
    | none => rfl
    | some x => rfl
end
end Go.Proofs.Ytiemdfdebdmchaa.M
