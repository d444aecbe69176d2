/- What the law's proof needs of M1. -/
import Derived.Test.YtiemdfdebdmchaaTrBU2
import Derived.Test.YtiemdfdebdmchaaTrBU
import Derived.Test.YtiemdfdebdmchaaTrBPx0
import Derived.Test.YtiemdfdebdmchaaTrBPx16
import Derived.Test.YtiemdfdebdmchaaTrBPx60
namespace Go.Proofs.Ytiemdfdebdmchaa.M
open Go.RowKit Go.Proofs.Ytiemdfdebdmchaa.P Go.Proofs.YtiemdfdebdmchaaW.PrintWords Go.Proofs.YtiemdfdebdmchaaW.PrintLast
/-- From some number of rounds on. -/
def Evt {α : Type} (f : Nat → Option α) (r : α) : Prop := ∃ n, ∀ k, n ≤ k → f k = some r
theorem Evt.step {α : Type} {f g : Nat → Option α} {r : α} (h : ∀ k, f (k + 1) = g k) (hg : Evt g r) : Evt f r := by
  obtain ⟨n, hn⟩ := hg
  refine ⟨n + 1, fun k hk => ?_⟩
  obtain ⟨j, rfl⟩ : ∃ j, k = j + 1 := ⟨k - 1, by omega⟩
  rw [h]
  exact hn j (by omega)
theorem Evt.of {α : Type} {f : Nat → Option α} {r : α} (n : Nat) (h : ∀ k, f (k + n) = some r) : Evt f r := by
  refine ⟨n, fun k hk => ?_⟩
  obtain ⟨j, rfl⟩ : ∃ j, k = j + n := ⟨k - n, by omega⟩
  exact h j
theorem Evt.up {α : Type} {f : Nat → Option α} {r : α} (hm : ∀ k, LeO (f k) (f (k + 1))) (n : Nat) (h : f n = some r) : Evt f r := by
  refine ⟨n, fun k hk => ?_⟩
  obtain ⟨j, rfl⟩ : ∃ j, k = n + j := ⟨k - n, by omega⟩
  clear hk
  induction j with
  | zero => exact h
  | succ j ih => exact hm _ _ ih
theorem Evt.bind {α β : Type} {f : Nat → Option α} {g : Nat → α → Option β} {a : α} {b : β} (hf : Evt f a) (hg : Evt (fun k => g k a) b) : Evt (fun k => (f k).bind fun x => g k x) b := by
  obtain ⟨n, hn⟩ := hf
  obtain ⟨m, hm⟩ := hg
  refine ⟨n + m, fun k hk => ?_⟩
  simp only [hn k (by omega), Option.bind_some]
  exact hm k (by omega)
theorem Evt.congr {α : Type} {f g : Nat → Option α} {r : α} (h : ∀ k, f k = g k) (hg : Evt g r) : Evt f r := by
  obtain ⟨n, hn⟩ := hg
  exact ⟨n, fun k hk => (h k).trans (hn k hk)⟩
theorem Evt.is {α : Type} {f : Nat → Option α} {r : α} (h : Evt f r) : ∃ k, f k = some r := by
  obtain ⟨n, hn⟩ := h
  exact ⟨n, hn n (Nat.le_refl _)⟩
theorem wrap64_in (n : Int) (h : -9223372036854775808 ≤ n ∧ n ≤ 9223372036854775807) : wrap64 n = n := by unfold wrap64; omega
theorem nat_step (n : Nat) (h : n < 9223372036854775807) : wrap64 ((n : Int) + 1) = ((n + 1 : Nat) : Int) := by
  rw [wrap64_in _ (by omega)]; omega
theorem rd_get {l : List Int} {n : Nat} (h : n < l.length) : rd l (n : Int) = l[n] := by
  unfold rd
  rw [Int.toNat_natCast, List.getD_eq_getElem?_getD, List.getElem?_eq_getElem h, Option.getD_some]
theorem same_loop : ∀ (m : Nat) (x y : List Int) (n : Nat), n + m = x.length → x.length = y.length → x.length ≤ 9223372036854775807 →
    Evt (fun k => gimbalref33_sameRow.l0 k x y (x.length : Int) (n : Int)) (decide (x.drop n = y.drop n))
  | 0, x, y, n, hn, hl, hx => by
    rw [List.drop_eq_nil_of_le (by omega), List.drop_eq_nil_of_le (by omega), decide_eq_true rfl]
    refine Evt.of 1 (fun k => ?_)
    rw [gimbalref33_sameRow.l0, if_neg (by omega)]
  | m + 1, x, y, n, hn, hl, hx => by
    have h1 : n < x.length := by omega
    have h2 : n < y.length := by omega
    by_cases he : x[n] = y[n]
    · have e : decide (x.drop n = y.drop n) = decide (x.drop (n + 1) = y.drop (n + 1)) := by
        rw [List.drop_eq_getElem_cons h1, List.drop_eq_getElem_cons h2, he]
        exact decide_eq_decide.2 ⟨fun h => (List.cons.inj h).2, fun h => by rw [h]⟩
      rw [e]
      refine Evt.step (fun k => ?_) (same_loop m x y (n + 1) (by omega) hl hx)
      rw [gimbalref33_sameRow.l0, if_pos (by omega), if_pos (by omega), if_pos (by omega), if_pos (by omega), if_pos (by rw [rd_get h1, rd_get h2, he]), nat_step n (by omega)]
    · have e : decide (x.drop n = y.drop n) = false := by
        rw [List.drop_eq_getElem_cons h1, List.drop_eq_getElem_cons h2]
        exact decide_eq_false (fun h => he (List.cons.inj h).1)
      rw [e]
      refine Evt.of 1 (fun k => ?_)
      rw [gimbalref33_sameRow.l0, if_pos (by omega), if_pos (by omega), if_pos (by omega), if_pos (by omega), if_neg (by rw [rd_get h1, rd_get h2]; exact he)]
theorem same_ev (x y : List Int) (hx : x.length ≤ 9223372036854775807) : Evt (fun k => gimbalref33_sameRow.f k x y) (decide (x = y)) := by
  unfold gimbalref33_sameRow.f
  by_cases hl : x.length = y.length
  · refine Evt.congr (fun k => if_pos (by omega)) ?_
    exact same_loop x.length x y 0 (by omega) hl hx
  · refine Evt.congr (fun k => if_neg (by omega)) ?_
    rw [decide_eq_false (fun h => hl (by rw [h]))]
    exact Evt.of 0 (fun k => rfl)
theorem awake_ev : Evt (fun k => gimballaw33_awake.f k) true :=
  Evt.up gimballaw33_awake.mono 200 (by kernel_rfl)
end Go.Proofs.Ytiemdfdebdmchaa.M
