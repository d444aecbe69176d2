/- What the law's proof needs of PureLinearRules. -/
import Derived.Test.YtllfopbchdahoaaTrLM7
import Derived.Test.YtllfopbchdahoaaTrLPx20
namespace Go.Proofs.Ytllfopbchdahoaa.Pure
open Go.RowKit Go.Proofs.Ytllfopbchdahoaa.P Go.Proofs.Ytllfopbchdahoaa.M Go.Proofs.YtllfopbchdahoaaW.PrintWords Go.Proofs.YtllfopbchdahoaaW.PrintLast
theorem awk2 : Evt (fun k => (gimballaw14_awake.f k).bind fun t => (some t)) true := Evt.bind awake_ev (Evt.of 0 (fun k => rfl))
def zs : List Int := List.replicate 41 0
theorem rd_zs (j : Int) : rd zs j = 0 := by
  unfold rd zs
  rw [List.getD_eq_getElem?_getD, List.getElem?_replicate]
  split <;> rfl
theorem rd_set (i : Nat) (hi : i < 41) (j : Int) (hj : 0 ≤ j) : rd (zs.set i 1) j = if j = i then 1 else 0 := by
  unfold rd
  rw [List.getD_eq_getElem?_getD, List.getElem?_set]
  by_cases h : j = i
  · rw [if_pos h, if_pos (by omega), if_pos (by unfold zs; simp; omega)]
    rfl
  · rw [if_neg h, if_neg (by omega)]
    have := rd_zs j
    unfold rd at this
    rw [List.getD_eq_getElem?_getD] at this
    exact this
theorem set_back (i : Nat) : (zs.set i 1).set i 0 = zs := by
  rw [List.set_set]
  refine List.ext_getElem? (fun j => ?_)
  rw [List.getElem?_set]
  unfold zs
  by_cases h : i = j
  · rw [if_pos h]
    subst h
    by_cases hlt : i < (List.replicate 41 (0 : Int)).length
    · rw [if_pos hlt, List.getElem?_eq_getElem hlt, List.getElem_replicate]
    · rw [if_neg hlt, List.getElem?_eq_none (by omega)]
  · rw [if_neg h]
theorem clp0 : clp 0 = 0 := by decide +kernel
theorem clp1 : clp 1 = 1 := by decide +kernel
theorem val_zs {l : L5} (h : Fit l) (hi : inr l 41) : val5 l zs = l.c := by
  unfold val5
  rw [if_pos ⟨h, hi.1, hi.2⟩, rd_zs, rd_zs, clp0]
  omega
theorem val_unit {l : L5} (h : Fit l) (hi : inr l 41) (i : Nat) (h41 : i < 41) : val5 l (zs.set i 1) = l.c + cf l i := by
  obtain ⟨_, _, px, py, _, _⟩ := fit_signs h
  have hl : (zs.set i 1).length = 41 := by rw [List.length_set]; rfl
  unfold val5
  rw [if_pos ⟨h, by rw [hl]; exact hi.1, by rw [hl]; exact hi.2⟩]
  unfold cf
  have e1 : l.s * clp (rd (zs.set i 1) l.x) = if l.x = (i : Int) then l.s else 0 := by
    by_cases hs : l.s = 0
    · rw [hs, Int.zero_mul, ite_self]
    · rw [rd_set i h41 _ (px hs)]
      by_cases he : l.x = (i : Int)
      · rw [if_pos he, if_pos he, clp1]; omega
      · rw [if_neg he, if_neg he, clp0]; omega
  have e2 : l.t * clp (rd (zs.set i 1) l.y) = if l.y = (i : Int) then l.t else 0 := by
    by_cases hs : l.t = 0
    · rw [hs, Int.zero_mul, ite_self]
    · rw [rd_set i h41 _ (py hs)]
      by_cases he : l.y = (i : Int)
      · rw [if_pos he, if_pos he, clp1]; omega
      · rw [if_neg he, if_neg he, clp0]; omega
  rw [e1, e2]
  omega
def eqs (a b : L5) (n : Nat) : Prop := a.c = b.c ∧ ∀ j : Nat, j < n → cf a j = cf b j
theorem eqs_all {a b : L5} (fa : Fit a) (fb : Fit b) (ia : inr a 41) (ib : inr b 41) : eqs a b 41 ↔ a = b := by
  constructor
  · intro h
    refine same5 fa fb h.1 (fun z => ?_)
    obtain ⟨_, _, ax, ay, _, _⟩ := fit_signs fa
    obtain ⟨_, _, bx, by_, _, _⟩ := fit_signs fb
    by_cases hz : 0 ≤ z ∧ z < 41
    · have := h.2 z.toNat (by omega)
      rw [show ((z.toNat : Nat) : Int) = z by omega] at this
      exact this
    · have na : cf a z = 0 := by
        by_cases h0 : cf a z = 0
        · exact h0
        · exfalso
          rcases cf_ne h0 with ⟨e, hs⟩ | ⟨e, hs⟩
          · have := ia.1 hs; have := ax hs; omega
          · have := ia.2 hs; have := ay hs; omega
      have nb : cf b z = 0 := by
        by_cases h0 : cf b z = 0
        · exact h0
        · exfalso
          rcases cf_ne h0 with ⟨e, hs⟩ | ⟨e, hs⟩
          · have := ib.1 hs; have := bx hs; omega
          · have := ib.2 hs; have := by_ hs; omega
      rw [na, nb]
  · rintro rfl
    exact ⟨rfl, fun _ _ => rfl⟩
theorem rules_l0 (a b : L5) (fa : Fit a) (fb : Fit b) (ia : inr a 41) (ib : inr b 41) : ∀ (m i : Nat) (same : Bool), i + m = 41 → (same = true ↔ eqs a b i) →
    Evt (fun k => gimballaw14_LinearRules.l0 k zs same (i : Int) a.x a.s a.y a.t a.c b.x b.s b.y b.t b.c) true
  | 0, i, same, hi, hs => by
    have e41 : i = 41 := by omega
    subst e41
    refine Evt.step (fun k => by rw [gimballaw14_LinearRules.l0, if_neg (by decide)]) ?_
    refine Evt.congr (fun k => if_pos ?_) awk2
    have h2 : (a.x == b.x && (a.s == b.s && (a.y == b.y && (a.t == b.t && (a.c == b.c))))) = true ↔ a = b := by
      simp only [Bool.and_eq_true, beq_iff_eq]
      constructor
      · rintro ⟨h1, h2, h3, h4, h5⟩
        cases a; cases b
        simp only at h1 h2 h3 h4 h5
        subst h1 h2 h3 h4 h5
        rfl
      · rintro rfl
        exact ⟨rfl, rfl, rfl, rfl, rfl⟩
    have h3 := hs.trans ((eqs_all fa fb ia ib).trans h2.symm)
    rw [beq_iff_eq]
    exact Bool.eq_iff_iff.2 h3
  | m + 1, i, same, hi, hs => by
    have hlt : i < 41 := by omega
    have st : ∀ k, gimballaw14_LinearRules.l0 (k + 1) zs same (i : Int) a.x a.s a.y a.t a.c b.x b.s b.y b.t b.c = (if same = true then ((linear_Value.f k a.x a.s a.y a.t a.c (zs.set i 1)).bind fun t562 => ((linear_Value.f k b.x b.s b.y b.t b.c (zs.set i 1)).bind fun t563 => gimballaw14_LinearRules.l0 k zs (t562 == t563) ((i + 1 : Nat) : Int) a.x a.s a.y a.t a.c b.x b.s b.y b.t b.c)) else gimballaw14_LinearRules.l0 k zs false ((i + 1 : Nat) : Int) a.x a.s a.y a.t a.c b.x b.s b.y b.t b.c) := by
      intro k
      rw [gimballaw14_LinearRules.l0, if_pos (by omega), if_pos (by omega), if_pos (by show (i : Int) < ((zs.length : Nat) : Int); unfold zs; simp; omega)]
      simp only [Option.bind_some, Int.toNat_natCast, set_back, nat_step i (by omega)]
    refine Evt.step st ?_
    cases same with
    | false =>
      refine Evt.congr (fun k => if_neg Bool.false_ne_true) ?_
      refine rules_l0 a b fa fb ia ib m (i + 1) false (by omega) ⟨fun h => (by cases h), fun h => ?_⟩
      exact hs.2 ⟨h.1, fun j hj => h.2 j (by omega)⟩
    | true =>
      refine Evt.congr (fun k => if_pos rfl) ?_
      refine Evt.bind (value_ev a (zs.set i 1)) ?_
      refine Evt.bind (value_ev b (zs.set i 1)) ?_
      refine rules_l0 a b fa fb ia ib m (i + 1) _ (by omega) ?_
      rw [beq_iff_eq, val_unit fa ia i hlt, val_unit fb ib i hlt]
      have h0 := hs.1 rfl
      constructor
      · intro h
        refine ⟨h0.1, fun j hj => ?_⟩
        by_cases hji : j = i
        · rw [hji]; have := h0.1; omega
        · exact h0.2 j (by omega)
      · intro h
        have := h.2 i (by omega)
        have := h0.1
        omega
theorem rules_j2 (a b : L5) (x : Bool) (h : x = false → Fit a ∧ Fit b ∧ inr a 41 ∧ inr b 41) : Evt (fun k => gimballaw14_LinearRules.j2 k x a.x a.s a.y a.t a.c b.x b.s b.y b.t b.c) true := by
  cases x with
  | true => exact Evt.step (fun k => by rw [gimballaw14_LinearRules.j2, if_pos rfl]) awk2
  | false =>
    obtain ⟨fa, fb, ia, ib⟩ := h rfl
    refine Evt.step (g := fun k => (linear_Value.f k a.x a.s a.y a.t a.c zs).bind fun t559 => ((linear_Value.f k b.x b.s b.y b.t b.c zs).bind fun t560 => gimballaw14_LinearRules.l0 k zs (t559 == t560) 0 a.x a.s a.y a.t a.c b.x b.s b.y b.t b.c)) (fun k => by rw [gimballaw14_LinearRules.j2, if_neg (by decide), if_pos (by decide)]; rfl) ?_
    refine Evt.bind (value_ev a zs) ?_
    refine Evt.bind (value_ev b zs) ?_
    refine rules_l0 a b fa fb ia ib 41 0 _ (by omega) ?_
    rw [beq_iff_eq, val_zs fa ia, val_zs fb ib]
    exact ⟨fun h => ⟨h, fun j hj => absurd hj (by omega)⟩, fun h => h.1⟩
theorem rules_j1 (a b : L5) : Evt (fun k => gimballaw14_LinearRules.j1 k a.x a.s a.y a.t a.c b.x b.s b.y b.t b.c) true := by
  refine Evt.step (fun k => by rw [gimballaw14_LinearRules.j1]) ?_
  have bad := rules_j2 a b true (fun h => by cases h)
  refine Evt.bind (fit_ev a) ?_
  by_cases fa : Fit a
  · refine Evt.congr (fun k => if_pos (decide_eq_true fa)) ?_
    refine Evt.bind (fit_ev b) ?_
    by_cases fb : Fit b
    · refine Evt.congr (fun k => if_pos (decide_eq_true fb)) ?_
      by_cases h1 : a.x > 40
      · exact Evt.congr (fun k => if_pos h1) bad
      · refine Evt.congr (fun k => if_neg h1) ?_
        by_cases h2 : a.y > 40
        · exact Evt.congr (fun k => if_pos h2) bad
        · refine Evt.congr (fun k => if_neg h2) ?_
          by_cases h3 : b.x > 40
          · exact Evt.congr (fun k => if_pos h3) bad
          · refine Evt.congr (fun k => if_neg h3) ?_
            refine rules_j2 a b _ (fun h => ?_)
            have h4 := of_decide_eq_false h
            exact ⟨fa, fb, ⟨fun _ => by omega, fun _ => by omega⟩, ⟨fun _ => by omega, fun _ => by omega⟩⟩
    · exact Evt.congr (fun k => if_neg (by rw [decide_eq_false fb]; decide)) bad
  · exact Evt.congr (fun k => if_neg (by rw [decide_eq_false fa]; decide)) bad
theorem rules_j0 (a b : L5) : Evt (fun k => gimballaw14_LinearRules.j0 k (tup (subr a b)).2.2.2.2.2 (tup (negr b)).2.2.2.2.2 ((tup (negr b)).2.2.2.2.2 != decide (Fit b)) a.x a.s a.y a.t a.c b.x b.s b.y b.t b.c (tup (subr a b)).1 (tup (subr a b)).2.1 (tup (subr a b)).2.2.1 (tup (subr a b)).2.2.2.1 (tup (subr a b)).2.2.2.2.1 (tup (negr b)).1 (tup (negr b)).2.1 (tup (negr b)).2.2.1 (tup (negr b)).2.2.2.1 (tup (negr b)).2.2.2.2.1) true := by
  by_cases fb : Fit b
  · have e1 : negr b = (neg5 b, true) := if_pos fb
    have e2 : subr a b = add5 a (neg5 b) := if_pos fb
    rw [e1, e2, decide_eq_true fb]
    refine Evt.step (fun k => by rw [gimballaw14_LinearRules.j0, if_neg (show ¬ (((tup (neg5 b, true)).2.2.2.2.2 != true) = true) from (show ¬ ((true != true) = true) by decide)), if_pos (by rfl)]) ?_
    refine Evt.bind (add_eq a (neg5 b)) ?_
    refine Evt.bind (neg_eq (neg5 b)) ?_
    have e3 : negr (neg5 b) = (b, true) := by
      unfold negr
      rw [if_pos (neg5_fit fb), neg5_neg]
    rw [e3]
    refine Evt.congr (fun k => if_neg (by simp)) ?_
    refine Evt.congr (fun k => if_neg (by simp)) ?_
    refine Evt.congr (fun k => if_neg (by simp [tup])) ?_
    refine Evt.congr (fun k => if_pos rfl) ?_
    exact rules_j1 a b
  · have e1 : negr b = (zero5, false) := if_neg fb
    rw [e1, decide_eq_false fb]
    refine Evt.step (fun k => by rw [gimballaw14_LinearRules.j0, if_neg (show ¬ (((tup (zero5, false)).2.2.2.2.2 != false) = true) from (show ¬ ((false != false) = true) by decide)), if_neg (show ¬ ((tup (zero5, false)).2.2.2.2.2 = true) from Bool.false_ne_true)]) ?_
    exact rules_j1 a b
theorem LinearRules : gimballaw14_LinearRules.Pure := by
  intro x s y t c x' s' y' t' c' _ _ _ _ _ _ _ _ _ _
  refine Evt.is (r := true) ?_
  unfold gimballaw14_LinearRules.f
  refine Evt.bind (add_eq ⟨x, s, y, t, c⟩ ⟨x', s', y', t', c'⟩) ?_
  refine Evt.bind (add_eq ⟨x', s', y', t', c'⟩ ⟨x, s, y, t, c⟩) ?_
  refine Evt.bind (sub_eq ⟨x, s, y, t, c⟩ ⟨x', s', y', t', c'⟩) ?_
  refine Evt.bind (neg_eq ⟨x', s', y', t', c'⟩) ?_
  rw [add5_comm ⟨x', s', y', t', c'⟩ ⟨x, s, y, t, c⟩]
  refine Evt.congr (fun k => if_neg (by simp)) ?_
  refine Evt.congr (fun k => if_neg (by simp)) ?_
  refine Evt.bind (fit_ev ⟨x', s', y', t', c'⟩) ?_
  exact rules_j0 ⟨x, s, y, t, c⟩ ⟨x', s', y', t', c'⟩
end Go.Proofs.Ytllfopbchdahoaa.Pure
