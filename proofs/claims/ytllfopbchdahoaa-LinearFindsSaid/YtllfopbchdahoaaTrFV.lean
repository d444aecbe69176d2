/- What the law's proof needs of V. -/
import Derived.Test.YtllfopbchdahoaaTrFO
namespace Go.Proofs.YtllfopbchdahoaaW.PrintWords
open Go Go.RowKit
/-- An element of a pair, by its place. -/
def pk2 (j a b : Int) : Int := if j = 0 then a else b
/-- x[:h:h]. -/
theorem cut_full {P : Program} (t e : TypeId) (kh : IntKind) {i : TypeInfo} (ht : P.underlying t = some (.slice e)) (hi : P.info? e = some i) (A : Option Addr) (n c : Nat) (j : Int) (h0 : 0 ≤ j) (hm : j ≤ n) (hc : n ≤ c) :
    ∀ W : World, (Instr.slice t (.slice A n c) none (some (.int kh j)) (some (.int kh j))).run P W = .ok (.slice A j.toNat j.toNat) W := by
  intro W
  have hel : P.elem t = e := by simp [Program.elem, ht]
  have hu : P.underlying t = some (.slice (P.elem t)) := by rw [hel]; exact ht
  have ha : (A.map fun x => x.add 0) = A := by cases A <;> simp [Addr.add]
  rw [run_slice_hm W t A n c hu kh kh j j h0 (Int.le_refl _) (by omega), hel]
  simp [sizeOf, typeInfo, hi, sliced, Result.andThen, ha]
namespace Kd
/-- What such an append leaves: a new row. -/
theorem full_run {P : Program} {o : Oper} {α : Type} {W : World} (d : Kd α) {Rx Ry : α → List Value → Prop} (base : Nat) (t e : TypeId) (z : Value) (bytes : Nat)
    (ht : P.underlying t = some (.slice e)) (hinfo : (P.info? e).map (fun i => (i.zero, i.size, i.bytes)) = some (some z, d.sz, bytes)) (hz : z.cells.size = d.sz) (_ : 0 < d.sz) (hb0 : 0 < bytes)
    (xs ys : List α) (A B : Option Addr) (n m c : Nat) (ok okp : Nat → Prop) 
    (HX : ReadsRow Rx d.sz W A n xs) (HY : ReadsRow Ry d.sz W B m ys) (hm : 0 < m) (hKX : ∀ x cs, Rx x cs → d.M W base okp x cs) (hKY : ∀ x cs, Ry x cs → d.M W base okp x cs) (hokp : ∀ k, okp k → ok k ∧ some k ≠ (Value.slice none 0 0).ownBlock) (hfresh : ∀ k, W.heap.size ≤ k → ok k)
    (hbase : base ≤ W.heap.size) (hl : (xs.length + m) * bytes ≤ 140737488355328) :
    ∃ v1 w1, (Builtin.append_ #[t, t] o.type #[.slice A n n, .slice B m c]).run P W = .ok v1 w1 ∧ d.R e w1 base ok v1 (xs ++ ys) ∧ W.grownBy w1 (Value.slice none 0 0).ownBlock ∧ (v1.ownBlock = (Value.slice none 0 0).ownBlock ∨ ∃ b, v1.ownBlock = some b ∧ W.heap.size ≤ b) := by
  obtain ⟨i0, hi, hzz⟩ := Option.map_eq_some_iff.1 hinfo
  simp only [Prod.mk.injEq] at hzz
  obtain ⟨hz0, hz1, hz2⟩ := hzz
  have hxn : xs.length = n := HX.1
  have hyn : ys.length = m := HY.1
  have hlen : xs.length + m ≤ 140737488355328 := Nat.le_trans (Nat.le_mul_of_pos_right _ hb0) hl
  obtain ⟨bd, rfl, _⟩ := HY.2.2 hm
  obtain ⟨news, hnr, hnc⟩ := ReadsRow.inner_ HY
  obtain ⟨olds, hor, hoc⟩ : ∃ olds, Reps Rx d.sz xs olds ∧ (∀ ad, A = some ad → ∀ j u, olds[j]? = some u → W.cell? (ad.add j) = some u) := by
    rcases A with _ | ad
    · have h0 : n = 0 := by
        rcases Nat.eq_zero_or_pos n with h0 | h0
        · exact h0
        · obtain ⟨ad, h, _⟩ := HX.2.2 h0
          cases h
      subst h0
      obtain rfl : xs = [] := List.eq_nil_of_length_eq_zero hxn
      exact ⟨[], ⟨by simp, fun j p hj => by simp at hj⟩, fun ad he => by cases he⟩
    · obtain ⟨olds, h1, h2⟩ := ReadsRow.inner_ HX
      exact ⟨olds, h1, fun ad' he => by cases he; exact h2⟩
  have hnM : Reps (d.M W base okp) d.sz ys news := hnr.imp_ (fun p c hp => hKY p c hp)
  have hoM : Reps (d.M W base okp) d.sz xs olds := hor.imp_ (fun p c hp => hKX p c hp)
  have key : ∀ cap, n + m ≤ cap → cap ≤ maxLen →
      ∃ w1, w1 = W.drew.alloc (.cells (olds.toArray ++ news.toArray ++ Builtin.zeroCells z.cells (cap - (n + m))) e) ∧
      d.R e w1 base ok (.slice (some ⟨W.heap.size, 0, none⟩) (n + m) cap) (xs ++ ys) ∧ W.grownBy w1 (Value.slice none 0 0).ownBlock := by
    intro cap hcap hmx
    refine ⟨_, rfl, ?_, ?_⟩
    · refine ⟨fun k hk => ?_, olds ++ news, ⟨?_, .inr ⟨W.heap.size, cap, _, by rw [List.length_append, hxn, hyn], hbase, heap_alloc_new W.drew _, by rw [List.length_append, hxn, hyn]; exact hcap, hmx, ?_, ?_⟩⟩, reps_append (hoM.imp_ (fun q c hq => ?_)) (hnM.imp_ (fun q c hq => ?_))⟩
      · simp only [Value.ownBlock, Option.some.injEq] at hk
        exact hfresh k (by omega)
      · rw [List.length_append, List.length_append, hnM.1, hoM.1, ← Nat.add_mul]
      · simp only [Array.size_append, List.size_toArray, size_zeroCells, hz, hnM.1, hoM.1, hxn, hyn, ← Nat.add_mul]
        congr 1
        omega
      · simp only [Array.toList_append, List.append_assoc]
        rw [← List.append_assoc, show (xs ++ ys).length * d.sz = (olds ++ news).length from by rw [List.length_append, List.length_append, hnM.1, hoM.1, ← Nat.add_mul]]
        exact List.take_left
      all_goals
        refine d.M_mono (ok := fun k => (okp k) ∧ k < W.heap.size) (fun k hk => ⟨(hokp k hk.1).1, by simp only [Value.ownBlock, ne_eq, Option.some.injEq]; have := hk.2; omega⟩) (d.M_move (w := W) (fun k hk => heap_alloc_old W.drew _ hk.2) (d.M_mono (fun k hk => ⟨hk.1, hk.2.2.1⟩) (d.M_bound hq)))
    · exact ⟨rfl, rfl, rfl, by simp, fun k hk _ => heap_alloc_old W.drew _ hk⟩
  rcases A with _ | ad
  · have h0 : n = 0 := by
      rcases Nat.eq_zero_or_pos n with h0 | h0
      · exact h0
      · obtain ⟨ad, h, _⟩ := HX.2.2 h0
        cases h
    subst h0
    obtain rfl : xs = [] := List.eq_nil_of_length_eq_zero hxn
    have ho0 : olds = [] := List.eq_nil_of_length_eq_zero (by rw [hoM.1]; simp)
    subst ho0
    have hr := run_append_nil (P := P) W t o.type e i0 z ht hi hz0 bd m c news (by rw [hnM.1, hyn, hz1]) hnc hm (by omega) (by rw [hz2]; have := hl; simp only [List.length_nil, Nat.zero_add] at this; omega)
    obtain ⟨w1, hw, hR, hg⟩ := key (grownCap W m 0 e) (by have := grownCap_ge W m 0 e; omega) (grownCap_le_maxLen W m 0 e (by simp only [maxLen]; simp only [List.length_nil, Nat.zero_add] at hlen; omega))
    subst hw
    simp only [Nat.zero_add, List.nil_append, Array.empty_append] at hR hg ⊢
    exact ⟨_, _, hr, hR, hg, .inr ⟨_, rfl, Nat.le_refl _⟩⟩
  · have hr := run_append_grow (P := P) W t o.type e i0 z ht hi hz0 ad n n olds (by rw [hoM.1, hxn, hz1]) (hoc ad rfl) bd m c news (by rw [hnM.1, hyn, hz1]) hnc (by omega) (by omega) (growslice_fits (by omega) (by rw [hz2, ← hxn]; exact hl))
    obtain ⟨w1, hw, hR, hg⟩ := key (grownCap W (n + m) n e) (grownCap_ge W (n + m) n e) (grownCap_le_maxLen W (n + m) n e (by simp only [maxLen]; omega))
    subst hw
    exact ⟨_, _, hr, hR, hg, .inr ⟨_, rfl, Nat.le_refl _⟩⟩
/-- The same as a step of a region. -/
theorem R_append_full_step {P : Program} {ops : Array Oper} {o : Oper} {a : Act} {Q : Exit → Act → World → Prop} {Kc : Act → World → Prop} {α : Type} {W : World} (d : Kd α) {Rx Ry : α → List Value → Prop} {w0 : World} (base : Nat) (hw : Region.wanted o (yielded ops a.tmps) = true) (s x : Operand) (t e : TypeId) (z : Value) (bytes : Nat)
    (ho : o.op = .call { callee := .builtin .append, args := #[s, x], argTypes := #[t, t] })
    (ht : P.underlying t = some (.slice e)) (hinfo : (P.info? e).map (fun i => (i.zero, i.size, i.bytes)) = some (some z, d.sz, bytes)) (hz : z.cells.size = d.sz) (hs0 : 0 < d.sz) (hb0 : 0 < bytes)
    (xs ys : List α) (A B : Option Addr) (n m c : Nat) (ok okp : Nat → Prop) (hs : a.eval s = .slice A n n) (hx : a.eval x = .slice B m c) (_ : d.R e W base ok (.slice none 0 0) [])
    (HX : ReadsRow Rx d.sz W A n xs) (HY : ReadsRow Ry d.sz W B m ys) (hm : 0 < m) (hKX : ∀ x cs, Rx x cs → d.M W base okp x cs) (hKY : ∀ x cs, Ry x cs → d.M W base okp x cs) (hokp : ∀ k, okp k → ok k ∧ some k ≠ (Value.slice none 0 0).ownBlock) (hfresh : ∀ k, W.heap.size ≤ k → ok k)
    (HB : Below base w0 W) (hbase : base ≤ W.heap.size) (hl : (xs.length + m) * bytes ≤ 140737488355328)
    (h : ∀ v1 w1, d.R e w1 base ok v1 (xs ++ ys) → Below base w0 w1 → W.grownBy w1 (Value.slice none 0 0).ownBlock → (v1.ownBlock = (Value.slice none 0 0).ownBlock ∨ ∃ b, v1.ownBlock = some b ∧ W.heap.size ≤ b) → Kc (a.put o.dst v1) w1) :
    if Region.wanted o (yielded ops a.tmps) = true then Oper.wp P o a W Kc Q else Kc (a.put o.dst undef) W := by
  obtain ⟨v1, w1, hr1, h1, hg, hat⟩ := full_run (P := P) (o := o) d base t e z bytes ht hinfo hz hs0 hb0 xs ys A B n m c ok okp HX HY hm hKX hKY hokp hfresh hbase hl
  rw [if_pos hw]
  unfold Oper.wp execOp
  simp only [ho, resolve, invoke, builtin, Sem.run_bind, Sem.run_pure, Result.andThen_ok, List.map_toArray, List.map_cons, List.map_nil, hs, hx, hr1]
  exact h v1 w1 h1 (HB.grown hg hbase (fun k hk => by simp [Value.ownBlock] at hk)) hg hat
end Kd
end Go.Proofs.YtllfopbchdahoaaW.PrintWords
