/- What the law's proof needs of M7. -/
import Derived.Test.YtllfopbchdahoaaTrSM5
namespace Go.Proofs.Ytllfopbchdahoaa.M
open Go.RowKit Go.Proofs.Ytllfopbchdahoaa.P Go.Proofs.YtllfopbchdahoaaW.PrintWords Go.Proofs.YtllfopbchdahoaaW.PrintLast
def dot (f g : Int → Int) : Nat → Int
  | 0 => 0
  | n + 1 => dot f g n + f n * g n
theorem dot_add (f h g : Int → Int) : ∀ n, dot (fun z => f z + h z) g n = dot f g n + dot h g n
  | 0 => rfl
  | n + 1 => by simp only [dot, dot_add f h g n, Int.add_mul]; omega
theorem dot_congr {f h g : Int → Int} (e : ∀ z, f z = h z) (n : Nat) : dot f g n = dot h g n := by
  rw [show f = h from funext e]
theorem dot_one (x s : Int) (g : Int → Int) : ∀ n : Nat, dot (fun z => if x = z then s else 0) g n = if 0 ≤ x ∧ x < n then s * g x else 0
  | 0 => by simp only [dot]; rw [if_neg (by omega)]
  | n + 1 => by
    simp only [dot, dot_one x s g n]
    by_cases h : x = (n : Int)
    · rw [if_neg (by omega), if_pos h, if_pos (by omega), h]; omega
    · rw [if_neg h, Int.zero_mul]
      by_cases h2 : 0 ≤ x ∧ x < (n : Int)
      · rw [if_pos h2, if_pos (by omega)]; omega
      · rw [if_neg h2, if_neg (by omega)]; rfl
def inr (l : L5) (n : Nat) : Prop := (l.s ≠ 0 → l.x < n) ∧ (l.t ≠ 0 → l.y < n)
theorem dot_cf {l : L5} (h : Fit l) {n : Nat} (hn : inr l n) (g : Int → Int) : dot (cf l) g n = l.s * g l.x + l.t * g l.y := by
  obtain ⟨_, _, px, py, _, _⟩ := fit_signs h
  have e : dot (cf l) g n = dot (fun z => (if l.x = z then l.s else 0) + (if l.y = z then l.t else 0)) g n := rfl
  rw [e, dot_add, dot_one, dot_one]
  have e1 : (if 0 ≤ l.x ∧ l.x < (n : Int) then l.s * g l.x else 0) = l.s * g l.x := by
    by_cases hs : l.s = 0
    · rw [hs, Int.zero_mul, ite_self]
    · rw [if_pos ⟨px hs, hn.1 hs⟩]
  have e2 : (if 0 ≤ l.y ∧ l.y < (n : Int) then l.t * g l.y else 0) = l.t * g l.y := by
    by_cases hs : l.t = 0
    · rw [hs, Int.zero_mul, ite_self]
    · rw [if_pos ⟨py hs, hn.2 hs⟩]
  rw [e1, e2]
theorem val_dot {l : L5} (h : Fit l) {v : List Int} (hn : inr l v.length) : val5 l v = l.c + dot (cf l) (fun z => clp (rd v z)) v.length := by
  rw [dot_cf h hn]
  unfold val5
  rw [if_pos ⟨h, hn.1, hn.2⟩]
  omega
theorem val_bound (l : L5) (v : List Int) : -3298534883328 ≤ val5 l v ∧ val5 l v ≤ 3298534883328 := by
  unfold val5
  split
  · rename_i h
    obtain ⟨hs, ht, _, _, _, hc⟩ := fit_signs h.1
    have h1 := sign_mul hs (clp_bound (rd v l.x))
    have h2 := sign_mul ht (clp_bound (rd v l.y))
    omega
  · omega
theorem inr_sum {a b l : L5} {n : Nat} (hl : Fit l) (ha : inr a n) (hb : inr b n) (h : ∀ z, cf l z = cf a z + cf b z) : inr l n := by
  have key : ∀ z, cf l z ≠ 0 → z < n := by
    intro z hz
    rw [h] at hz
    by_cases h1 : cf a z = 0
    · rcases cf_ne (l := b) (z := z) (by omega) with ⟨e, hs⟩ | ⟨e, hs⟩
      · rw [e]; exact hb.1 hs
      · rw [e]; exact hb.2 hs
    · rcases cf_ne h1 with ⟨e, hs⟩ | ⟨e, hs⟩
      · rw [e]; exact ha.1 hs
      · rw [e]; exact ha.2 hs
  exact ⟨fun hs => key l.x (by rw [cf_x hl]; exact hs), fun ht => key l.y (by rw [cf_y hl ht]; exact ht)⟩
theorem val_add {a b l : L5} {v : List Int} (h : add5 a b = (l, true)) (ha : inr a v.length) (hb : inr b v.length) : Fit l ∧ val5 l v = val5 a v + val5 b v := by
  obtain ⟨fa, fb, fl, hc, hz⟩ := add5_says h
  refine ⟨fl, ?_⟩
  rw [val_dot fl (inr_sum fl ha hb hz), val_dot fa ha, val_dot fb hb, dot_congr hz, dot_add]
  omega
theorem neg5_inr {a : L5} {n : Nat} (h : inr a n) : inr (neg5 a) n := by
  refine ⟨fun hs => h.1 (fun e => hs ?_), fun ht => h.2 (fun e => ht ?_)⟩
  · unfold neg5; simp only; omega
  · unfold neg5; simp only; omega
theorem val_neg {a : L5} {v : List Int} (fa : Fit a) (ha : inr a v.length) : val5 (neg5 a) v = -val5 a v := by
  unfold val5
  rw [if_pos ⟨neg5_fit fa, (neg5_inr ha).1, (neg5_inr ha).2⟩, if_pos ⟨fa, ha.1, ha.2⟩]
  unfold neg5
  simp only [Int.neg_mul]
  omega
end Go.Proofs.Ytllfopbchdahoaa.M
