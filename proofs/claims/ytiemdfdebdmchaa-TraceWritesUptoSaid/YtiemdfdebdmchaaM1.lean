/- Where two runs part: the program and the document tell one place, whichever run comes first. Plain lists and numbers. -/
import Derived.Test.YtiemdfdebdmchaaPx15
import Derived.Test.YtiemdfdebdmchaaPx17
import Derived.Test.YtiemdfdebdmchaaPx20
namespace Go.Proofs.Ytiemdfdebdmchaa.M
open Go.RowKit Go.Proofs.Ytiemdfdebdmchaa.P Go.Proofs.YtiemdfdebdmchaaW.PrintWords Go.Proofs.YtiemdfdebdmchaaW.PrintLast
/-- From some number of rounds on. -/
def Evt {α : Type} (f : Nat → Option α) (r : α) : Prop := ∃ n, ∀ k, n ≤ k → f k = some r
theorem Evt.step {α : Type} {f g : Nat → Option α} {r : α} (h : ∀ k, f (k + 1) = g k) (hg : Evt g r) : Evt f r := by
  obtain ⟨n, hn⟩ := hg
  refine ⟨n + 1, fun k hk => ?_⟩
  obtain ⟨j, rfl⟩ : ∃ j, k = j + 1 := ⟨k - 1, by omega⟩
  rw [h]
  exact hn j (by omega)
theorem Evt.of {α : Type} {f : Nat → Option α} {r : α} (n : Nat) (h : ∀ k, f (k + n) = some r) : Evt f r := by
  refine ⟨n, fun k hk => ?_⟩
  obtain ⟨j, rfl⟩ : ∃ j, k = j + n := ⟨k - n, by omega⟩
  exact h j
theorem Evt.up {α : Type} {f : Nat → Option α} {r : α} (hm : ∀ k, LeO (f k) (f (k + 1))) (n : Nat) (h : f n = some r) : Evt f r := by
  refine ⟨n, fun k hk => ?_⟩
  obtain ⟨j, rfl⟩ : ∃ j, k = n + j := ⟨k - n, by omega⟩
  clear hk
  induction j with
  | zero => exact h
  | succ j ih => exact hm _ _ ih
theorem Evt.bind {α β : Type} {f : Nat → Option α} {g : Nat → α → Option β} {a : α} {b : β} (hf : Evt f a) (hg : Evt (fun k => g k a) b) : Evt (fun k => (f k).bind fun x => g k x) b := by
  obtain ⟨n, hn⟩ := hf
  obtain ⟨m, hm⟩ := hg
  refine ⟨n + m, fun k hk => ?_⟩
  simp only [hn k (by omega), Option.bind_some]
  exact hm k (by omega)
theorem Evt.congr {α : Type} {f g : Nat → Option α} {r : α} (h : ∀ k, f k = g k) (hg : Evt g r) : Evt f r := by
  obtain ⟨n, hn⟩ := hg
  exact ⟨n, fun k hk => (h k).trans (hn k hk)⟩
theorem Evt.is {α : Type} {f : Nat → Option α} {r : α} (h : Evt f r) : ∃ k, f k = some r := by
  obtain ⟨n, hn⟩ := h
  exact ⟨n, hn n (Nat.le_refl _)⟩
theorem wrap64_in (n : Int) (h : -9223372036854775808 ≤ n ∧ n ≤ 9223372036854775807) : wrap64 n = n := by unfold wrap64; omega
theorem nat_step (n : Nat) (h : n < 9223372036854775807) : wrap64 ((n : Int) + 1) = ((n + 1 : Nat) : Int) := by
  rw [wrap64_in _ (by omega)]; omega
theorem rd_get {l : List Int} {n : Nat} (h : n < l.length) : rd l (n : Int) = l[n] := by
  unfold rd
  rw [Int.toNat_natCast, List.getD_eq_getElem?_getD, List.getElem?_eq_getElem h, Option.getD_some]
theorem equal_loop : ∀ (m : Nat) (x y : List Int) (n : Nat), n + m = x.length → x.length = y.length → x.length ≤ 9223372036854775807 →
    Evt (fun k => slices_Equal_int64_int64.l0 k x y (x.length : Int) (n : Int)) (decide (x.drop n = y.drop n))
  | 0, x, y, n, hn, hl, hx => by
    rw [List.drop_eq_nil_of_le (by omega), List.drop_eq_nil_of_le (by omega), decide_eq_true rfl]
    refine Evt.of 1 (fun k => ?_)
    rw [slices_Equal_int64_int64.l0, if_neg (by omega)]
  | m + 1, x, y, n, hn, hl, hx => by
    have h1 : n < x.length := by omega
    have h2 : n < y.length := by omega
    by_cases he : x[n] = y[n]
    · have e : decide (x.drop n = y.drop n) = decide (x.drop (n + 1) = y.drop (n + 1)) := by
        rw [List.drop_eq_getElem_cons h1, List.drop_eq_getElem_cons h2, he]
        exact decide_eq_decide.2 ⟨fun h => (List.cons.inj h).2, fun h => by rw [h]⟩
      rw [e]
      refine Evt.step (fun k => ?_) (equal_loop m x y (n + 1) (by omega) hl hx)
      rw [slices_Equal_int64_int64.l0, if_pos (by omega), if_pos (by omega), if_pos (by omega), if_pos (by omega), if_pos (by rw [rd_get h1, rd_get h2, he]), nat_step n (by omega)]
    · have e : decide (x.drop n = y.drop n) = false := by
        rw [List.drop_eq_getElem_cons h1, List.drop_eq_getElem_cons h2]
        exact decide_eq_false (fun h => he (List.cons.inj h).1)
      rw [e]
      refine Evt.of 1 (fun k => ?_)
      rw [slices_Equal_int64_int64.l0, if_pos (by omega), if_pos (by omega), if_pos (by omega), if_pos (by omega), if_neg (by rw [rd_get h1, rd_get h2]; exact he)]
theorem equal_ev (x y : List Int) (hx : x.length ≤ 9223372036854775807) : Evt (fun k => slices_Equal_int64_int64.f k x y) (decide (x = y)) := by
  unfold slices_Equal_int64_int64.f
  by_cases hl : x.length = y.length
  · refine Evt.congr (fun k => if_pos (by omega)) ?_
    exact equal_loop x.length x y 0 (by omega) hl hx
  · refine Evt.congr (fun k => if_neg (by omega)) ?_
    rw [decide_eq_false (fun h => hl (by rw [h]))]
    exact Evt.of 0 (fun k => rfl)
theorem same_loop : ∀ (m : Nat) (x y : List Int) (n : Nat), n + m = x.length → x.length = y.length → x.length ≤ 9223372036854775807 →
    Evt (fun k => gimbalref33_sameRow.l0 k x y (x.length : Int) (n : Int)) (decide (x.drop n = y.drop n))
  | 0, x, y, n, hn, hl, hx => by
    rw [List.drop_eq_nil_of_le (by omega), List.drop_eq_nil_of_le (by omega), decide_eq_true rfl]
    refine Evt.of 1 (fun k => ?_)
    rw [gimbalref33_sameRow.l0, if_neg (by omega)]
  | m + 1, x, y, n, hn, hl, hx => by
    have h1 : n < x.length := by omega
    have h2 : n < y.length := by omega
    by_cases he : x[n] = y[n]
    · have e : decide (x.drop n = y.drop n) = decide (x.drop (n + 1) = y.drop (n + 1)) := by
        rw [List.drop_eq_getElem_cons h1, List.drop_eq_getElem_cons h2, he]
        exact decide_eq_decide.2 ⟨fun h => (List.cons.inj h).2, fun h => by rw [h]⟩
      rw [e]
      refine Evt.step (fun k => ?_) (same_loop m x y (n + 1) (by omega) hl hx)
      rw [gimbalref33_sameRow.l0, if_pos (by omega), if_pos (by omega), if_pos (by omega), if_pos (by omega), if_pos (by rw [rd_get h1, rd_get h2, he]), nat_step n (by omega)]
    · have e : decide (x.drop n = y.drop n) = false := by
        rw [List.drop_eq_getElem_cons h1, List.drop_eq_getElem_cons h2]
        exact decide_eq_false (fun h => he (List.cons.inj h).1)
      rw [e]
      refine Evt.of 1 (fun k => ?_)
      rw [gimbalref33_sameRow.l0, if_pos (by omega), if_pos (by omega), if_pos (by omega), if_pos (by omega), if_neg (by rw [rd_get h1, rd_get h2]; exact he)]
theorem same_ev (x y : List Int) (hx : x.length ≤ 9223372036854775807) : Evt (fun k => gimbalref33_sameRow.f k x y) (decide (x = y)) := by
  unfold gimbalref33_sameRow.f
  by_cases hl : x.length = y.length
  · refine Evt.congr (fun k => if_pos (by omega)) ?_
    exact same_loop x.length x y 0 (by omega) hl hx
  · refine Evt.congr (fun k => if_neg (by omega)) ?_
    rw [decide_eq_false (fun h => hl (by rw [h]))]
    exact Evt.of 0 (fun k => rfl)
/-- Where two rows of rows part, from a place on. -/
def part (x y : List (List Int)) : Nat → Nat → Int × Bool
  | 0, _ => (0, false)
  | m + 1, n => if n < x.length ∨ n < y.length then (if n < x.length ∧ n < y.length ∧ rd_L1 x n = rd_L1 y n then part x y m (n + 1) else (n, true)) else (0, false)
theorem part_swap (x y : List (List Int)) : ∀ m n, part x y m n = part y x m n
  | 0, n => rfl
  | m + 1, n => by
    unfold part
    rw [part_swap x y m (n + 1)]
    have h1 : (n < x.length ∨ n < y.length) ↔ (n < y.length ∨ n < x.length) := or_comm
    have h2 : (n < x.length ∧ n < y.length ∧ rd_L1 x n = rd_L1 y n) ↔ (n < y.length ∧ n < x.length ∧ rd_L1 y n = rd_L1 x n) := ⟨fun ⟨a, b, c⟩ => ⟨b, a, c.symm⟩, fun ⟨a, b, c⟩ => ⟨b, a, c.symm⟩⟩
    by_cases a : n < x.length ∨ n < y.length
    · rw [if_pos a, if_pos (h1.1 a)]
      by_cases b : n < x.length ∧ n < y.length ∧ rd_L1 x n = rd_L1 y n
      · rw [if_pos b, if_pos (h2.1 b)]
      · rw [if_neg b, if_neg (fun h => b (h2.2 h))]
    · rw [if_neg a, if_neg (fun h => a (h1.2 h))]
theorem rd_mem {x : List (List Int)} {n : Nat} (h : n < x.length) : rd_L1 x (n : Int) ∈ x := by
  unfold rd_L1
  rw [Int.toNat_natCast, List.getD_eq_getElem?_getD, List.getElem?_eq_getElem h, Option.getD_some]
  exact List.getElem_mem h
theorem part_loop (x y : List (List Int)) (hx : x.length ≤ 9223372036854775807) (hy : y.length ≤ 9223372036854775807) (hr : ∀ r ∈ x, r.length ≤ 9223372036854775807) :
    ∀ (m n : Nat), x.length < n + m → y.length < n + m → n ≤ x.length ∨ n ≤ y.length → Evt (fun k => trace_Part.l0 k x y (n : Int)) (part x y m n)
  | 0, n, h1, h2, h3 => by omega
  | m + 1, n, h1, h2, h3 => by
    by_cases hn : n < x.length ∨ n < y.length
    · have hj : ∀ k, trace_Part.l0 (k + 1) x y (n : Int) = trace_Part.j1 k x y (n : Int) true := by
        intro k
        rw [trace_Part.l0]
        by_cases ha : n < x.length
        · rw [if_pos (by omega)]
        · rw [if_neg (by omega), decide_eq_true (by omega)]
      refine Evt.step hj ?_
      by_cases ha : n < x.length
      · by_cases hb : n < y.length
        · have hs : ∀ k, trace_Part.j1 (k + 1) x y (n : Int) true = (slices_Equal_int64_int64.f k (rd_L1 x n) (rd_L1 y n)).bind fun t326 => (if t326 = true then (trace_Part.l0 k x y ((n + 1 : Nat) : Int)) else (some ((n : Int), true))) := by
            intro k
            rw [trace_Part.j1, if_pos rfl, if_neg (by omega), if_neg (by omega), if_pos (by omega), if_pos (by omega), if_pos (by omega), nat_step n (by omega)]
          refine Evt.step hs (Evt.bind (equal_ev _ _ (hr _ (rd_mem ha))) ?_)
          by_cases he : rd_L1 x n = rd_L1 y n
          · rw [show part x y (m + 1) n = part x y m (n + 1) from by rw [part, if_pos hn, if_pos ⟨ha, hb, he⟩]]
            refine Evt.congr (fun k => if_pos (decide_eq_true he)) ?_
            exact part_loop x y hx hy hr m (n + 1) (by omega) (by omega) (by omega)
          · rw [show part x y (m + 1) n = ((n : Int), true) from by rw [part, if_pos hn, if_neg (fun h => he h.2.2)]]
            refine Evt.congr (fun k => if_neg (by rw [decide_eq_false he]; simp)) ?_
            exact Evt.of 0 (fun k => rfl)
        · rw [show part x y (m + 1) n = ((n : Int), true) from by rw [part, if_pos hn, if_neg (fun h => hb h.2.1)]]
          refine Evt.of 1 (fun k => ?_)
          rw [trace_Part.j1, if_pos rfl, if_neg (by omega), if_pos (by omega)]
      · rw [show part x y (m + 1) n = ((n : Int), true) from by rw [part, if_pos hn, if_neg (fun h => ha h.1)]]
        refine Evt.of 1 (fun k => ?_)
        rw [trace_Part.j1, if_pos rfl, if_pos (by omega)]
    · rw [show part x y (m + 1) n = (0, false) from by rw [part, if_neg hn]]
      refine Evt.of 2 (fun k => ?_)
      rw [trace_Part.l0, if_neg (by omega), decide_eq_false (by omega), trace_Part.j1, if_neg (by simp)]
theorem refpart_loop (a0 : Int) (b0 : List Int) (c0 d0 e0 f0 g0 : Int) (h0 : List Int) (i0 : List (List Int)) (x : List (List Int)) (a1 : Int) (b1 : List Int) (c1 d1 e1 f1 g1 : Int) (h1 : List Int) (i1 : List (List Int)) (y : List (List Int)) (hx : x.length ≤ 9223372036854775807) (hy : y.length ≤ 9223372036854775807) (hr : ∀ r ∈ x, r.length ≤ 9223372036854775807) :
    ∀ (m n : Nat), x.length < n + m → y.length < n + m → n ≤ x.length ∨ n ≤ y.length → Evt (fun k => gimbalref33_Part.l0 k (n : Int) a0 b0 c0 d0 e0 f0 g0 h0 i0 x a1 b1 c1 d1 e1 f1 g1 h1 i1 y) (part x y m n)
  | 0, n, k1, k2, k3 => by omega
  | m + 1, n, k1, k2, k3 => by
    by_cases hn : n < x.length ∨ n < y.length
    · have hj : ∀ k, gimbalref33_Part.l0 (k + 1) (n : Int) a0 b0 c0 d0 e0 f0 g0 h0 i0 x a1 b1 c1 d1 e1 f1 g1 h1 i1 y = gimbalref33_Part.j1 k (n : Int) true a0 b0 c0 d0 e0 f0 g0 h0 i0 x a1 b1 c1 d1 e1 f1 g1 h1 i1 y := by
        intro k
        rw [gimbalref33_Part.l0]
        by_cases ha : n < x.length
        · rw [if_pos (by omega)]
        · rw [if_neg (by omega), decide_eq_true (by omega)]
      refine Evt.step hj ?_
      by_cases ha : n < x.length
      · by_cases hb : n < y.length
        · have hs : ∀ k, gimbalref33_Part.j1 (k + 1) (n : Int) true a0 b0 c0 d0 e0 f0 g0 h0 i0 x a1 b1 c1 d1 e1 f1 g1 h1 i1 y = (gimbalref33_sameRow.f k (rd_L1 x n) (rd_L1 y n)).bind fun t326 => (if t326 = true then (gimbalref33_Part.l0 k ((n + 1 : Nat) : Int) a0 b0 c0 d0 e0 f0 g0 h0 i0 x a1 b1 c1 d1 e1 f1 g1 h1 i1 y) else (some ((n : Int), true))) := by
            intro k
            rw [gimbalref33_Part.j1, if_pos rfl, if_neg (by omega), if_neg (by omega), if_pos (by omega), if_pos (by omega), if_pos (by omega), nat_step n (by omega)]
          refine Evt.step hs (Evt.bind (same_ev _ _ (hr _ (rd_mem ha))) ?_)
          by_cases he : rd_L1 x n = rd_L1 y n
          · rw [show part x y (m + 1) n = part x y m (n + 1) from by rw [part, if_pos hn, if_pos ⟨ha, hb, he⟩]]
            refine Evt.congr (fun k => if_pos (decide_eq_true he)) ?_
            exact refpart_loop a0 b0 c0 d0 e0 f0 g0 h0 i0 x a1 b1 c1 d1 e1 f1 g1 h1 i1 y hx hy hr m (n + 1) (by omega) (by omega) (by omega)
          · rw [show part x y (m + 1) n = ((n : Int), true) from by rw [part, if_pos hn, if_neg (fun h => he h.2.2)]]
            refine Evt.congr (fun k => if_neg (by rw [decide_eq_false he]; simp)) ?_
            exact Evt.of 0 (fun k => rfl)
        · rw [show part x y (m + 1) n = ((n : Int), true) from by rw [part, if_pos hn, if_neg (fun h => hb h.2.1)]]
          refine Evt.of 1 (fun k => ?_)
          rw [gimbalref33_Part.j1, if_pos rfl, if_neg (by omega), if_pos (by omega)]
      · rw [show part x y (m + 1) n = ((n : Int), true) from by rw [part, if_pos hn, if_neg (fun h => ha h.1)]]
        refine Evt.of 1 (fun k => ?_)
        rw [gimbalref33_Part.j1, if_pos rfl, if_pos (by omega)]
    · rw [show part x y (m + 1) n = (0, false) from by rw [part, if_neg hn]]
      refine Evt.of 2 (fun k => ?_)
      rw [gimbalref33_Part.l0, if_neg (by omega), decide_eq_false (by omega), gimbalref33_Part.j1, if_neg (by simp)]
theorem awake_ev : Evt (fun k => gimballaw33_awake.f k) true :=
  Evt.up gimballaw33_awake.mono 200 (by kernel_rfl)
end Go.Proofs.Ytiemdfdebdmchaa.M
