/- What the law's proof needs of M5. -/
import Derived.Test.YtiemdfdebdmchaaTrSM3
import Derived.Test.YtiemdfdebdmchaaTrSPx20
import Derived.Test.YtiemdfdebdmchaaTrSPx21
import Derived.Test.YtiemdfdebdmchaaTrSPx22
namespace Go.Proofs.Ytiemdfdebdmchaa.M
open Go.RowKit Go.Proofs.Ytiemdfdebdmchaa.P Go.Proofs.YtiemdfdebdmchaaW.PrintWords Go.Proofs.YtiemdfdebdmchaaW.PrintLast Go.Proofs.YtiemdfdebdmchaaW.PrintMore
/-- A number, from its byte of place j on. -/
def rn : Nat → Nat → Int → List Int → Option (Int × List Int)
  | 0, _, _, _ => none
  | _ + 1, _, _, [] => none
  | m + 1, j, acc, d :: s => if j = 9 ∧ d > 1 ∨ j > 0 ∧ d = 0 then none else if d < 128 then some (acc + d % 128 * 128 ^ j, s) else rn m (j + 1) (acc + d % 128 * 128 ^ j) s
def Bytes (l : List Int) : Prop := ∀ d ∈ l, 0 ≤ d ∧ d < 256
theorem Bytes.tail {d : Int} {l : List Int} (h : Bytes (d :: l)) : Bytes l := fun x hx => h x (List.mem_cons_of_mem _ hx)
theorem Bytes.drop {l : List Int} (h : Bytes l) (n : Nat) : Bytes (l.drop n) := fun x hx => h x (List.mem_of_mem_drop hx)
theorem Bytes.take {l : List Int} (h : Bytes l) (n : Nat) : Bytes (l.take n) := fun x hx => h x (List.mem_of_mem_take hx)
theorem numb_small (n : Nat) (x : Int) (h0 : 0 ≤ x) (h1 : x < 128) : numb n x = [x] := by
  cases n with
  | zero => rw [numb]; congr 1; omega
  | succ n => rw [numb, if_neg (by omega)]; congr 1; omega
theorem numb_cons (n : Nat) (y d : Int) (h0 : 0 ≤ d) (h1 : d < 256) (h2 : 128 ≤ d) (hy : 0 < y) : numb (n + 1) (d % 128 + 128 * y) = d :: numb n y := by
  rw [numb, if_pos (by omega)]
  have e : (d % 128 + 128 * y) / 128 = y := by omega
  rw [e]
  congr 1
  have h := or128 ⟨((d % 128 + 128 * y) % 256).toNat, by omega⟩
  rw [show (((⟨((d % 128 + 128 * y) % 256).toNat, by omega⟩ : Fin 256).1 : Nat) : Int) = (d % 128 + 128 * y) % 256 by simp only; omega] at h
  rw [h]
  simp only
  omega
theorem pow128 (j : Nat) : (0 : Int) < 128 ^ j := Int.pow_pos (by decide)
/-- What is read is what would be written. -/
theorem rn_sound : ∀ (m j : Nat) (acc : Int) (s : List Int) (x : Int) (r : List Int), j + m = 10 → Bytes s → rn m j acc s = some (x, r) →
    ∃ y : Int, x = acc + y * 128 ^ j ∧ s = numb (m - 1) y ++ r ∧ 0 ≤ y ∧ (j > 0 → 0 < y) ∧ y < 2 * 128 ^ (9 - j)
  | 0, _, _, _, _, _, _, _, h => by simp [rn] at h
  | _ + 1, _, _, [], _, _, _, _, h => by simp [rn] at h
  | m + 1, j, acc, d :: s, x, r, hj, hb, h => by
    obtain ⟨hd0, hd1⟩ := hb d List.mem_cons_self
    have hp9 := pow128 (9 - j)
    rw [rn] at h
    split at h
    · cases h
    · rename_i hn
      split at h
      · rename_i hd
        injection h with h; injection h with h1 h2; subst h1; subst h2
        have e : d % 128 = d := by omega
        refine ⟨d, by rw [e], ?_, hd0, fun hj0 => ?_, ?_⟩
        · rw [numb_small _ d hd0 hd]; rfl
        · rcases Int.lt_or_le 0 d with h | h
          · exact h
          · exact absurd (.inr ⟨hj0, by omega⟩) hn
        · by_cases h9 : j = 9
          · subst h9
            have : ¬ d > 1 := fun h => hn (.inl ⟨rfl, h⟩)
            simp; omega
          · have h128 : (128 : Int) ≤ 128 ^ (9 - j) := by
              rw [show 9 - j = (8 - j) + 1 by omega, Int.pow_succ]
              have := pow128 (8 - j)
              omega
            omega
      · rename_i hd
        by_cases h9 : j = 9
        · exact absurd (.inl ⟨h9, by omega⟩) hn
        · obtain ⟨y, hx, hs, hy0, hy1, hy2⟩ := rn_sound m (j + 1) _ s x r (by omega) hb.tail h
          have hy := hy1 (by omega)
          obtain ⟨m', rfl⟩ : ∃ m', m = m' + 1 := ⟨m - 1, by omega⟩
          refine ⟨d % 128 + 128 * y, ?_, ?_, by omega, fun _ => by omega, ?_⟩
          · rw [hx, Int.pow_succ, Int.add_mul, Int.add_assoc]
            congr 2
            rw [Int.mul_comm (128 ^ j) 128, Int.mul_comm 128 y, Int.mul_assoc]
          · rw [hs]
            rw [show m' + 1 + 1 - 1 = m' + 1 from rfl, show m' + 1 - 1 = m' from rfl, numb_cons m' y d hd0 hd1 (by omega) hy]
            rfl
          · rw [show 9 - j = (9 - (j + 1)) + 1 by omega, Int.pow_succ]
            have := pow128 (9 - (j + 1))
            omega
/-- What is written is read. -/
theorem rn_back : ∀ (m j : Nat) (acc y : Int) (r : List Int), j + m = 10 → 0 < m → 0 ≤ y → (j > 0 → 0 < y) → y < 2 * 128 ^ (9 - j) → rn m j acc (numb (m - 1) y ++ r) = some (acc + y * 128 ^ j, r)
  | 0, _, _, _, _, _, h, _, _, _ => by omega
  | m + 1, j, acc, y, r, hj, _, h0, h1, h2 => by
    rw [show m + 1 - 1 = m from rfl]
    by_cases hy : y < 128
    · rw [numb_small m y h0 hy]
      show rn (m + 1) j acc (y :: r) = _
      rw [rn, if_neg, if_pos hy]
      · rw [show y % 128 = y by omega]
      · rintro (⟨h9, hd⟩ | ⟨hj0, hd⟩)
        · subst h9; simp at h2; omega
        · have := h1 hj0; omega
    · by_cases h9 : j = 9
      · subst h9; simp at h2; omega
      · obtain ⟨m', rfl⟩ : ∃ m', m = m' + 1 := ⟨m - 1, by omega⟩
        have hq : y = (y % 128 + 128) % 128 + 128 * (y / 128) := by omega
        have hn : numb (m' + 1) y = (y % 128 + 128) :: numb m' (y / 128) := by
          conv => lhs; rw [hq]
          exact numb_cons m' (y / 128) (y % 128 + 128) (by omega) (by omega) (by omega) (by omega)
        rw [hn]
        show rn (m' + 1 + 1) j acc ((y % 128 + 128) :: (numb m' (y / 128) ++ r)) = _
        rw [rn, if_neg (by rintro (⟨h, _⟩ | ⟨_, h⟩) <;> omega), if_neg (by omega)]
        have hp := pow128 (9 - (j + 1))
        have ih := rn_back (m' + 1) (j + 1) (acc + (y % 128 + 128) % 128 * 128 ^ j) (y / 128) r (by omega) (by omega) (by omega) (fun _ => by omega) (by
          rw [show 9 - j = (9 - (j + 1)) + 1 by omega, Int.pow_succ] at h2
          omega)
        rw [show m' + 1 - 1 = m' from rfl] at ih
        rw [ih]
        congr 2
        rw [Int.pow_succ, Int.add_assoc, ← Int.mul_assoc, Int.mul_right_comm, ← Int.add_mul]
        congr 2
        omega
/-- A number at the head of s. -/
def pn (s : List Int) : Option (Int × List Int) := rn 10 0 0 s
theorem pn_sound {s : List Int} {x : Int} {r : List Int} (hb : Bytes s) (h : pn s = some (x, r)) : s = numb 9 x ++ r ∧ 0 ≤ x ∧ x < 18446744073709551616 := by
  obtain ⟨y, hx, hs, h0, _, h2⟩ := rn_sound 10 0 0 s x r rfl hb h
  rw [Int.zero_add, Int.pow_zero, Int.mul_one] at hx
  subst hx
  exact ⟨hs, h0, by simpa using h2⟩
theorem pn_back (x : Int) (r : List Int) (h0 : 0 ≤ x) (h1 : x < 18446744073709551616) : pn (numb 9 x ++ r) = some (x, r) := by
  have h := rn_back 10 0 0 x r rfl (by decide) h0 (by omega) (by simpa using h1)
  rw [Int.zero_add, Int.pow_zero, Int.mul_one] at h
  exact h
theorem and127 : ∀ b : Fin 256, Go.bits .and .u8 ((b.1 : Nat) : Int) 127 = ((b.1 % 128 : Nat) : Int) := by decide +kernel
theorem and127' (d : Int) (h0 : 0 ≤ d) (h1 : d < 256) : Go.bits .and .u8 d 127 = d % 128 := by
  have h := and127 ⟨d.toNat, by omega⟩
  rw [show (((⟨d.toNat, by omega⟩ : Fin 256).1 : Nat) : Int) = d by simp only; omega] at h
  rw [h]
  simp only
  omega
theorem pow_two (j : Nat) : (128 : Int) ^ j = 2 ^ (7 * j) := by rw [show (128 : Int) = 2 ^ 7 by decide, ← Int.pow_mul]
/-- One byte laid onto what was read. -/
theorem lay (acc d : Int) (j : Nat) (hj : j ≤ 9) (ha0 : 0 ≤ acc) (ha1 : acc < 128 ^ j) (hd0 : 0 ≤ d) (hd1 : d < 256) (h9 : j = 9 → d ≤ 1) :
    Go.bits .or .u64 acc (shl .u64 (IntKind.u64.wrap (Go.bits .and .u8 d 127)) (wrap64 (7 * (j : Int)))) = acc + d % 128 * 128 ^ j := by
  have hp := pow128 j
  have e1 : wrap64 (7 * (j : Int)) = ((7 * j : Nat) : Int) := by rw [wrap64_in _ (by omega)]; omega
  have hlt : d % 128 * 128 ^ j < 18446744073709551616 := by
    by_cases h : j = 9
    · subst h
      have := h9 rfl
      have : d % 128 ≤ 1 := by omega
      calc d % 128 * 128 ^ 9 ≤ 1 * 128 ^ 9 := Int.mul_le_mul_of_nonneg_right this (by decide)
        _ < 18446744073709551616 := by decide
    · have h8 : (128 : Int) ^ j ≤ 128 ^ 8 := by
        rw [pow_two, pow_two]
        exact_mod_cast Nat.pow_le_pow_right (show 0 < 2 by decide) (by omega)
      calc d % 128 * 128 ^ j ≤ 127 * 128 ^ 8 := Int.mul_le_mul (by omega) h8 (by omega) (by decide)
        _ < 18446744073709551616 := by decide
  have hnn : 0 ≤ d % 128 * 128 ^ j := Int.mul_nonneg (by omega) (by omega)
  have e2 : shl .u64 (IntKind.u64.wrap (Go.bits .and .u8 d 127)) (wrap64 (7 * (j : Int))) = d % 128 * 128 ^ j := by
    rw [and127' d hd0 hd1, wrap_u64 (d % 128) (by omega) (by omega), e1]
    have hb : (IntKind.u64.bits) = 64 := rfl
    refine (shl_small (k := .u64) (x := d % 128) (y := ((7 * j : Nat) : Int)) rfl (by rw [hb]; omega)).symm.trans ?_
    rw [Int.toNat_natCast, ← pow_two, wrap_u64 _ hnn hlt]
  rw [e2]
  have hacc : acc < 18446744073709551616 := by
    have h9' : (128 : Int) ^ j ≤ 128 ^ 9 := by
      rw [pow_two, pow_two]
      exact_mod_cast Nat.pow_le_pow_right (show 0 < 2 by decide) (by omega)
    have : (128 : Int) ^ 9 < 18446744073709551616 := by decide
    omega
  rw [u64_or acc _ ha0 hacc hnn hlt]
  obtain ⟨a, rfl⟩ := Int.eq_ofNat_of_zero_le ha0
  obtain ⟨b, hb⟩ := Int.eq_ofNat_of_zero_le (show 0 ≤ d % 128 by omega)
  rw [hb, pow_two]
  rw [pow_two] at ha1
  have ha2 : a < 2 ^ (7 * j) := by exact_mod_cast ha1
  have := Nat.two_pow_add_eq_or_of_lt ha2 b
  rw [show ((b : Int) * 2 ^ (7 * j)).toNat = 2 ^ (7 * j) * b by rw [show ((b : Int) * 2 ^ (7 * j)) = ((2 ^ (7 * j) * b : Nat) : Int) by push_cast; rw [Int.mul_comm]]; exact Int.toNat_natCast _, Int.toNat_natCast, Nat.or_comm, ← this]
  push_cast
  rw [Int.mul_comm ((2 : Int) ^ (7 * j)), Int.add_comm]
/-- A reader's step: what it gives, where it stands then, and that it is spoilt if nothing can be read. -/
def Spec {α : Type} (F : Nat → Option (α × Int × Bool)) (T : List Int) (n : Nat) (bad : Bool) (p : Option (α × List Int)) (Q : α → Prop) : Prop :=
  ∃ (v : α) (a : Nat) (b : Bool), Evt F (v, (a : Int), b) ∧ n ≤ a ∧ a ≤ T.length ∧ Q v ∧ (bad = true → b = true) ∧
    (bad = false → (∀ v' s, p = some (v', s) → v = v' ∧ T.drop a = s ∧ b = false) ∧ (p = none → b = true))
theorem Spec.step {α : Type} {F G : Nat → Option (α × Int × Bool)} {T : List Int} {n n' : Nat} {bad : Bool} {p : Option (α × List Int)} {Q : α → Prop} (h : ∀ k, F (k + 1) = G k) (hn : n ≤ n') (hg : Spec G T n' bad p Q) : Spec F T n bad p Q := by
  obtain ⟨v, a, b, he, h1, h2⟩ := hg
  exact ⟨v, a, b, Evt.step h he, Nat.le_trans hn h1, h2⟩
theorem Spec.congr {α : Type} {F G : Nat → Option (α × Int × Bool)} {T : List Int} {n : Nat} {bad : Bool} {p : Option (α × List Int)} {Q : α → Prop} (h : ∀ k, F k = G k) (hg : Spec G T n bad p Q) : Spec F T n bad p Q := by
  obtain ⟨v, a, b, he, h2⟩ := hg
  exact ⟨v, a, b, Evt.congr h he, h2⟩
theorem drop_cons {T : List Int} {n : Nat} (h : n < T.length) : T.drop n = T[n] :: T.drop (n + 1) := List.drop_eq_getElem_cons h
theorem code_num (T : List Int) (hT : Bytes T) (hl : T.length ≤ 1099511627776) (bad : Bool) : ∀ (m j : Nat) (acc : Int) (n : Nat), j + m = 10 → 0 ≤ acc → acc < 128 ^ j → n ≤ T.length →
    Spec (fun k => trace_reader_number.l0 k acc (j : Int) T (n : Int) bad) T n bad (rn m j acc (T.drop n)) (fun x => 0 ≤ x ∧ x < 18446744073709551616)
  | 0, j, acc, n, hj, _, _, hn => by
    refine ⟨0, n, true, ?_, Nat.le_refl _, hn, by decide, fun _ => rfl, fun _ => ⟨fun v' s h => by simp [rn] at h, fun _ => rfl⟩⟩
    refine Evt.step (fun k => by rw [trace_reader_number.l0, if_neg (by omega)]) ?_
    refine Evt.of 1 (fun k => ?_)
    rw [trace_reader_number.j1, if_neg (by simp)]
  | m + 1, j, acc, n, hj, ha0, ha1, hn => by
    by_cases hlt : n < T.length
    case neg =>
      refine ⟨0, n, true, ?_, Nat.le_refl _, hn, by decide, fun _ => rfl, fun _ => ⟨fun v' s h => ?_, fun _ => rfl⟩⟩
      · refine Evt.step (fun k => by rw [trace_reader_number.l0, if_pos (by omega)]) ?_
        refine Evt.of 1 (fun k => ?_)
        rw [trace_reader_number.j1, if_neg (by simp; omega)]
      · rw [List.drop_eq_nil_of_le (by omega)] at h; simp [rn] at h
    case pos =>
      have hd := hT T[n] (List.getElem_mem hlt)
      rw [drop_cons hlt]
      have hr : rd T (n : Int) = T[n] := rd_get hlt
      have hw : wrap64 ((n : Int) + 1) = ((n + 1 : Nat) : Int) := nat_step n (by omega)
      refine Spec.step (n' := n) (fun k => by rw [trace_reader_number.l0, if_pos (show (j : Int) < 10 by omega), decide_eq_true (show (n : Int) < (T.length : Int) by omega)]) (Nat.le_refl _) ?_
      have key : ∀ (sp : Bool), (sp = true ↔ (j = 9 ∧ T[n] > 1 ∨ j > 0 ∧ T[n] = 0)) → Spec (fun k => trace_reader_number.j2 k acc (j : Int) (rd T (n : Int)) sp T (wrap64 ((n : Int) + 1)) bad) T n bad (rn (m + 1) j acc (T[n] :: T.drop (n + 1))) (fun x => 0 ≤ x ∧ x < 18446744073709551616) := by
        intro sp hsp
        rw [hr, hw]
        cases sp with
        | true =>
          have hs := hsp.1 rfl
          refine ⟨0, n + 1, true, Evt.of 1 (fun k => by rw [trace_reader_number.j2, if_pos rfl]), by omega, by omega, by decide, fun _ => rfl, fun _ => ⟨fun v' s h => ?_, fun _ => rfl⟩⟩
          rw [rn, if_pos hs] at h
          cases h
        | false =>
          have hs : ¬ (j = 9 ∧ T[n] > 1 ∨ j > 0 ∧ T[n] = 0) := fun h => by have := hsp.2 h; cases this
          have hlay := lay acc T[n] j (by omega) ha0 ha1 hd.1 hd.2 (fun h9 => by
            rcases Int.lt_or_le 1 T[n] with h | h
            · exact absurd (.inl ⟨h9, h⟩) hs
            · exact h)
          have hp := pow128 j
          have hm0 : 0 ≤ T[n] % 128 := by omega
          have hm1 : T[n] % 128 ≤ 127 := by omega
          have hnn : 0 ≤ T[n] % 128 * 128 ^ j := Int.mul_nonneg hm0 (by omega)
          have hup : T[n] % 128 * 128 ^ j ≤ 127 * 128 ^ j := Int.mul_le_mul_of_nonneg_right hm1 (by omega)
          have hw7 : 0 ≤ wrap64 (7 * (j : Int)) := by rw [wrap64_in _ (by omega)]; omega
          by_cases hc : T[n] < 128
          · have hlt64 : acc + T[n] % 128 * 128 ^ j < 18446744073709551616 := by
              have := bits_hi_u64 .or acc (shl .u64 (IntKind.u64.wrap (Go.bits .and .u8 T[n] 127)) (wrap64 (7 * (j : Int))))
              rw [hlay] at this
              omega
            refine ⟨acc + T[n] % 128 * 128 ^ j, n + 1, bad, Evt.of 1 (fun k => by rw [trace_reader_number.j2, if_neg (by simp), if_pos hw7, if_pos hc, hlay]), by omega, by omega, ⟨by omega, hlt64⟩, fun h => h, fun hb => ⟨fun v' s h => ?_, fun h => ?_⟩⟩
            · rw [rn, if_neg hs, if_pos hc] at h
              injection h with h; injection h with h1 h2
              exact ⟨h1, h2, hb⟩
            · rw [rn, if_neg hs, if_pos hc] at h
              cases h
          · have hj9 : j ≠ 9 := fun h => hs (.inl ⟨h, by omega⟩)
            have ih := code_num T hT hl bad m (j + 1) (acc + T[n] % 128 * 128 ^ j) (n + 1) (by omega) (by omega) (by rw [Int.pow_succ]; omega) (by omega)
            rw [rn, if_neg hs, if_neg hc]
            refine Spec.step (n' := n + 1) (fun k => ?_) (by omega) ih
            rw [trace_reader_number.j2, if_neg (by simp), if_pos hw7, if_neg hc, hlay, nat_step j (by omega)]
      refine Spec.step (n' := n) (fun k => by rw [trace_reader_number.j1, if_pos rfl, if_pos (show (0 : Int) ≤ (n : Int) by omega), if_pos (show (n : Int) < (T.length : Int) by omega)]) (Nat.le_refl _) ?_
      by_cases h9 : j = 9
      · by_cases h1 : T[n] > 1
        · exact Spec.congr (fun k => by rw [if_pos (show (j : Int) = 9 by omega), if_pos (by rw [hr]; exact h1)]) (key true ⟨fun _ => .inl ⟨h9, h1⟩, fun _ => rfl⟩)
        · refine Spec.congr (fun k => by rw [if_pos (show (j : Int) = 9 by omega), if_neg (by rw [hr]; exact h1), if_pos (show (j : Int) > 0 by omega)]) (key _ ?_)
          rw [hr]
          simp only [beq_iff_eq]
          exact ⟨fun h => .inr ⟨by omega, h⟩, fun h => h.elim (fun h => absurd h.2 h1) (fun h => h.2)⟩
      · by_cases h0 : j > 0
        · refine Spec.congr (fun k => by rw [if_neg (show ¬ (j : Int) = 9 by omega), if_pos (show (j : Int) > 0 by omega)]) (key _ ?_)
          rw [hr]
          simp only [beq_iff_eq]
          exact ⟨fun h => .inr ⟨h0, h⟩, fun h => h.elim (fun h => absurd h.1 h9) (fun h => h.2)⟩
        · refine Spec.congr (fun k => by rw [if_neg (show ¬ (j : Int) = 9 by omega), if_neg (show ¬ (j : Int) > 0 by omega)]) (key false ⟨fun h => (by cases h), fun h => h.elim (fun h => absurd h.1 h9) (fun h => absurd h.1 h0)⟩)
theorem number_spec (T : List Int) (hT : Bytes T) (hl : T.length ≤ 1099511627776) (bad : Bool) (n : Nat) (hn : n ≤ T.length) : Spec (fun k => trace_reader_number.f k T (n : Int) bad) T n bad (pn (T.drop n)) (fun x => 0 ≤ x ∧ x < 18446744073709551616) :=
  code_num T hT hl bad 10 0 0 n rfl (by decide) (by decide) hn
end Go.Proofs.Ytiemdfdebdmchaa.M
