/- What the law's proof needs of R3. -/
import Derived.Lib.SmallJoins
import Derived.OpenShut
import Derived.ShutString
import Derived.ChangeOld
import Derived.ChangeSame
import Derived.Deep.Slices
import Derived.Deep.Fields
import Derived.Test.YtiemdfdebdmchaaTrSPx0
import Derived.Test.YtiemdfdebdmchaaTrSM7
import Derived.Test.YtiemdfdebdmchaaRows
namespace Go.Proofs.Ytiemdfdebdmchaa.R3
open Go.ChangeShapes Go.WideShapes Go.ChangeAt Go.Deep Go.RowKit Go.Proofs.YtiemdfdebdmchaaW.PrintWords
section
variable {H : Type} {enc : TypeId × Value → H} {w : World}
theorem one_le (d : DataW H) : 1 ≤ Rows.uptoBulk d := by
  cases d with
  | lit l => cases l <;> simp [Rows.uptoBulk]
  | nil => simp [Rows.uptoBulk]
  | ptr d => simp [Rows.uptoBulk]
  | slice elems spare => simp [Rows.uptoBulk]
  | agg parts => simp [Rows.uptoBulk]
  | iface t d => simp [Rows.uptoBulk]
  | map entries => simp [Rows.uptoBulk]
  | held h => simp [Rows.uptoBulk]
theorem all_len (l : List (DataW H)) : l.length ≤ Rows.uptoBulkAll l := by
  induction l with
  | nil => simp [Rows.uptoBulkAll]
  | cons x r ih => have := one_le x; simp only [Rows.uptoBulkAll, List.length_cons]; omega
theorem tot_le (D : Nat → DataW H) : ∀ (l : List (List Int)) (n : Nat), (∀ i a, l[i]? = some a → a.length + 1 ≤ Rows.uptoBulk (D (n + i))) → M.tot l ≤ Rows.uptoBulkAll ((List.range' n l.length).map D)
  | [], n, h => Nat.zero_le _
  | a :: l, n, h => by
    have h1 : a.length + 1 ≤ Rows.uptoBulk (D n) := h 0 a rfl
    have h2 := tot_le D l (n + 1) (fun i b hb => by
      have := h (i + 1) b (by simpa using hb)
      rw [show n + 1 + i = n + (i + 1) by omega]
      exact this)
    simp only [List.length_cons, List.range'_succ, List.map_cons, Rows.uptoBulkAll, M.tot]
    omega
theorem ints1 {fuel : Nat} {c : Value} {x : DataW H × List MemPlace} (hf : DataW.trod enc Try.prog w 0 (fun _ => true) true fuel 22 [c] = some x) :
    ∃ (A : Option Addr) (cap : Nat) (l : List Int), c = .slice A l.length cap ∧ Kd.C (Kd.int .i64) w A l.length l ∧ l.length ≤ cap ∧ l.length ≤ maxLen ∧ (∀ n ∈ l, (Lit.int .i64 n).wf = true) ∧ l.length + 1 ≤ Rows.uptoBulk x.1 := by
  have hrow : ∃ (A : Option Addr) (len cap : Nat) (zs : List Int), c = .slice A len cap ∧ len + 1 ≤ Rows.uptoBulk x.1 ∧ ((A = none ∧ len = 0 ∧ cap = 0 ∧ zs = []) ∨ ∃ x, A = some x ∧ len ≤ cap ∧ cap ≤ maxLen ∧ zs.length = cap ∧ (∀ i, i < zs.length → w.cell? (x.add i) = some (.int .i64 (zs.getD i 0))) ∧ ∀ n ∈ zs, (Lit.int .i64 n).wf = true) := by
    rcases open_ints Try.underlying22 Try.underlying2 (by kernel_rfl) hf with ⟨hcs, _⟩ | ⟨y, l, c', zs, hcs, _, hl, hm, hz, hx, hcell, hwz⟩
    · simp at hcs
      exact ⟨none, 0, 0, [], hcs, one_le _, .inl ⟨rfl, rfl, rfl, rfl⟩⟩
    · simp at hcs
      refine ⟨some y, l, c', zs, hcs, ?_, .inr ⟨y, rfl, hl, hm, by simpa using hz, hcell, hwz⟩⟩
      rw [hx]
      have h1 := all_len (lits (H := H) .i64 (zs.take l))
      have h2 : (lits (H := H) .i64 (zs.take l)).length = l := by simp [lits]; simp at hz; omega
      simp only [Rows.uptoBulk]
      omega
  obtain ⟨A, len, cap, zs, rfl, hbk, hr⟩ := hrow
  obtain ⟨l, rfl, h1, h2, hw, h4⟩ := ReadsInt.ofRowC hr
  exact ⟨A, cap, l, rfl, Kd.C_of_reads (d := (0 : Int)) (h1 := fun _ => rfl) h1, h4, h2, hw, hbk⟩
theorem choose_list {α : Type} (R : Nat → α → Prop) : ∀ n, (∀ i, i < n → ∃ a, R i a) → ∃ l : List α, l.length = n ∧ ∀ i a, l[i]? = some a → R i a
  | 0, _ => ⟨[], rfl, fun i a h => by simp at h⟩
  | n + 1, h => by
    obtain ⟨l, hl, hr⟩ := choose_list R n (fun i hi => h i (by omega))
    obtain ⟨a, ha⟩ := h n (by omega)
    refine ⟨l ++ [a], by simp [hl], fun i b hb => ?_⟩
    by_cases hi : i < n
    · rw [List.getElem?_append_left (by omega)] at hb
      exact hr i b hb
    · have hin : i = n := by
        have := (List.getElem?_eq_some_iff.1 hb).1
        simp at this
        omega
      subst hin
      rw [List.getElem?_append_right (by omega)] at hb
      simp [hl] at hb
      rw [← hb]; exact ha
theorem rows1 {fuel : Nat} {c : Value} {x : DataW H × List MemPlace} (hf : DataW.trod enc Try.prog w 0 (fun _ => true) true fuel 23 [c] = some x) :
    ∃ (A : Option Addr) (cap : Nat) (l : List (List Int)), c = .slice A l.length cap ∧ Kd.C (Kd.slice 2 (Kd.int .i64)) w A l.length l ∧ l.length ≤ cap ∧ l.length ≤ maxLen ∧ (∀ r ∈ l, ∀ n ∈ r, (Lit.int .i64 n).wf = true) ∧ M.tot l + 1 ≤ Rows.uptoBulk x.1 := by
  rcases open_slice Try.underlying23 hf with ⟨hcs, _⟩ | ⟨a, len, cap, m, n, D, Pl, hcs, _, hl, hm, hmm, hx, hi⟩
  · simp at hcs
    exact ⟨none, 0, [], hcs, Kd.C_nil _ _, Nat.le_refl _, by simp, fun r hr => by (cases hr), one_le _⟩
  · simp at hcs
    have h22 : Try.prog.cellsOf 22 = 1 := by kernel_rfl
    have each : ∀ i, i < len → ∃ r : List Int, (r.length + 1 ≤ Rows.uptoBulk (D i) ∧ ∀ n ∈ r, (Lit.int .i64 n).wf = true) ∧ ∃ cs, cs.length = 1 ∧ (Kd.slice 2 (Kd.int .i64)).K w r cs ∧ ∀ j u, cs[j]? = some u → w.cell? (a.add (i * 1 + j)) = some u := by
      intro i hlt
      obtain ⟨cs', hc, ht⟩ := hi i (by rw [hmm]; simp; omega)
      rw [h22] at hc
      obtain ⟨_, hcl, hat⟩ := World.cells?_some hc
      obtain ⟨c0, rfl⟩ : ∃ c0, cs' = [c0] := by
        match cs', hcl with
        | [c0], _ => exact ⟨c0, rfl⟩
      obtain ⟨A, cap', r, rfl, hC, hle, _, hwr, hbk⟩ := ints1 ht
      refine ⟨r, ⟨hbk, hwr⟩, [.slice A r.length cap'], rfl, ⟨A, cap', rfl, hle, hC⟩, fun j u hu => ?_⟩
      have h0 : j = 0 := by
        rcases Nat.eq_zero_or_pos j with h0 | h0
        · exact h0
        · rw [List.getElem?_eq_none (by simp; omega)] at hu; cases hu
      subst h0
      have := hat 0 (by omega)
      rw [Go.Deep.add_add] at this
      rw [this]
      exact hu
    obtain ⟨l, hll, hr⟩ := choose_list _ len each
    subst hll
    refine ⟨some a, cap, l, hcs, ⟨rfl, by simp only [maxLen] at hm; omega, fun _ => ⟨a, rfl, fun j p hj => ?_⟩⟩, hl, by omega, ?_, ?_⟩
    · obtain ⟨_, cs, h1, h2, h3⟩ := hr j p hj
      exact ⟨cs, h1, h2, h3⟩
    · intro r hr'
      obtain ⟨i, hi'⟩ := List.mem_iff_getElem?.1 hr'
      exact (hr i r hi').1.2
    · have h1 := tot_le D l 0 (fun i r hr' => by rw [Nat.zero_add]; exact (hr i r hr').1.1)
      rw [← List.range_eq_range'] at h1
      rw [hx]
      simp only [Rows.uptoBulk]
      omega
theorem int1 {fuel : Nat} {c : Value} {x : DataW H × List MemPlace} {t : TypeId} (ht : Try.prog.underlying t = some (.int .i64)) (hf : DataW.trod enc Try.prog w 0 (fun _ => true) true fuel t [c] = some x) : ∃ n : Int, c = .int .i64 n ∧ (Lit.int .i64 n).wf = true := by
  obtain ⟨a, e, _, hw⟩ := DataW.trod_int ht hf
  simp at e
  exact ⟨a, e, hw⟩
theorem list10 {α : Type} : ∀ {l : List α}, l.length = 10 → ∃ a b c d e f g h i j, l = [a, b, c, d, e, f, g, h, i, j]
  | [a, b, c, d, e, f, g, h, i, j], _ => ⟨a, b, c, d, e, f, g, h, i, j, rfl⟩
theorem open_trace {r : Reach} {b0 : Nat} {v : Value} {d : DataW H} {p : List MemPlace} (hv : Value.okWide Try.prog w r b0 27 v) (h : DataW.Trod enc Try.prog w 0 (fun _ => true) true 27 v d p) :
    ∃ (a0 : Int) (A1 : Option Addr) (c1 : Nat) (l1 : List Int) (a2 a3 a4 a5 a6 : Int) (A7 : Option Addr) (c7 : Nat) (l7 : List Int) (A8 : Option Addr) (c8 : Nat) (l8 : List (List Int)) (A9 : Option Addr) (c9 : Nat) (l9 : List (List Int)),
      ((Lit.int .i64 a0).wf = true ∧ (Lit.int .i64 a2).wf = true ∧ (Lit.int .i64 a3).wf = true ∧ (Lit.int .i64 a4).wf = true ∧ (Lit.int .i64 a5).wf = true ∧ (Lit.int .i64 a6).wf = true ∧ (∀ n ∈ l1, (Lit.int .i64 n).wf = true) ∧ (∀ n ∈ l7, (Lit.int .i64 n).wf = true) ∧ (∀ r ∈ l8, ∀ n ∈ r, (Lit.int .i64 n).wf = true) ∧ (∀ r ∈ l9, ∀ n ∈ r, (Lit.int .i64 n).wf = true)) ∧ l1.length + l7.length + M.tot l8 + M.tot l9 ≤ Rows.uptoBulk d ∧ v = .agg #[.int .i64 a0, .slice A1 l1.length c1, .int .i64 a2, .int .i64 a3, .int .i64 a4, .int .i64 a5, .int .i64 a6, .slice A7 l7.length c7, .slice A8 l8.length c8, .slice A9 l9.length c9] ∧
      (Kd.C (Kd.int .i64) w A1 l1.length l1 ∧ l1.length ≤ c1 ∧ l1.length ≤ maxLen) ∧ (Kd.C (Kd.int .i64) w A7 l7.length l7 ∧ l7.length ≤ c7 ∧ l7.length ≤ maxLen) ∧
      (Kd.C (Kd.slice 2 (Kd.int .i64)) w A8 l8.length l8 ∧ l8.length ≤ c8 ∧ l8.length ≤ maxLen) ∧ (Kd.C (Kd.slice 2 (Kd.int .i64)) w A9 l9.length l9 ∧ l9.length ≤ c9 ∧ l9.length ≤ maxLen) := by
  obtain ⟨cs, rfl, hsz⟩ := okWide_struct Try.underlying27 hv
  obtain ⟨fuel, hf⟩ := h
  obtain ⟨ys, n, _, hx, _, hyl, hg⟩ := DataW.trod_struct Try.underlying27 hf
  obtain ⟨c0, c1, c2, c3, c4, c5, c6, c7, c8, c9, hc⟩ := list10 (l := cs.toList) (by rw [Array.length_toList, hsz]; kernel_rfl)
  obtain rfl : cs = #[c0, c1, c2, c3, c4, c5, c6, c7, c8, c9] := by rw [← Array.toArray_toList (xs := cs), hc]
  obtain ⟨y0, y1, y2, rfl⟩ : ∃ y0 y1 y2, ys = [y0, y1, y2] := by
    match ys, hyl with
    | [a, b, c], _ => exact ⟨a, b, c, rfl⟩
  have e2 : Try.prog.cellsOf 2 = 1 := by kernel_rfl
  have e3 : Try.prog.cellsOf 3 = 1 := by kernel_rfl
  have e22 : Try.prog.cellsOf 22 = 1 := by kernel_rfl
  have e23 : Try.prog.cellsOf 23 = 1 := by kernel_rfl
  have e25 : Try.prog.cellsOf 25 = 8 := by kernel_rfl
  have h0 : DataW.trod enc Try.prog w 0 (fun _ => true) true n 2 (List.take (Try.prog.cellsOf 2) [c0, c1, c2, c3, c4, c5, c6, c7, c8, c9]) = some y0 := hg 0 _ rfl
  rw [e2] at h0
  have h1 : DataW.trod enc Try.prog w 0 (fun _ => true) true n 22 (List.take (Try.prog.cellsOf 22) [c1, c2, c3, c4, c5, c6, c7, c8, c9]) = some y1 := hg 1 _ rfl
  rw [e22] at h1
  have h2 : DataW.trod enc Try.prog w 0 (fun _ => true) true n 25 (List.take (Try.prog.cellsOf 25) [c2, c3, c4, c5, c6, c7, c8, c9]) = some y2 := hg 2 _ rfl
  rw [e25] at h2
  obtain ⟨zs, n2, _, hx2, _, hzl, hk⟩ := DataW.trod_struct Try.underlying25 (show DataW.trod enc Try.prog w 0 (fun _ => true) true n 25 [c2, c3, c4, c5, c6, c7, c8, c9] = some y2 from h2)
  obtain ⟨z0, z1, z2, z3, z4, z5, z6, z7, rfl⟩ : ∃ z0 z1 z2 z3 z4 z5 z6 z7, zs = [z0, z1, z2, z3, z4, z5, z6, z7] := by
    match zs, hzl with
    | [a, b, c, d, e, f, g, h], _ => exact ⟨a, b, c, d, e, f, g, h, rfl⟩
  have k0 : DataW.trod enc Try.prog w 0 (fun _ => true) true n2 3 (List.take (Try.prog.cellsOf 3) [c2, c3, c4, c5, c6, c7, c8, c9]) = some z0 := hk 0 _ rfl
  rw [e3] at k0
  have k1 : DataW.trod enc Try.prog w 0 (fun _ => true) true n2 3 (List.take (Try.prog.cellsOf 3) [c3, c4, c5, c6, c7, c8, c9]) = some z1 := hk 1 _ rfl
  rw [e3] at k1
  have k2 : DataW.trod enc Try.prog w 0 (fun _ => true) true n2 3 (List.take (Try.prog.cellsOf 3) [c4, c5, c6, c7, c8, c9]) = some z2 := hk 2 _ rfl
  rw [e3] at k2
  have k3 : DataW.trod enc Try.prog w 0 (fun _ => true) true n2 2 (List.take (Try.prog.cellsOf 2) [c5, c6, c7, c8, c9]) = some z3 := hk 3 _ rfl
  rw [e2] at k3
  have k4 : DataW.trod enc Try.prog w 0 (fun _ => true) true n2 3 (List.take (Try.prog.cellsOf 3) [c6, c7, c8, c9]) = some z4 := hk 4 _ rfl
  rw [e3] at k4
  have k5 : DataW.trod enc Try.prog w 0 (fun _ => true) true n2 22 (List.take (Try.prog.cellsOf 22) [c7, c8, c9]) = some z5 := hk 5 _ rfl
  rw [e22] at k5
  have k6 : DataW.trod enc Try.prog w 0 (fun _ => true) true n2 23 (List.take (Try.prog.cellsOf 23) [c8, c9]) = some z6 := hk 6 _ rfl
  rw [e23] at k6
  have k7 : DataW.trod enc Try.prog w 0 (fun _ => true) true n2 23 (List.take (Try.prog.cellsOf 23) [c9]) = some z7 := hk 7 _ rfl
  rw [e23] at k7
  obtain ⟨a0, rfl, wf0⟩ := int1 Try.underlying2 (show DataW.trod enc Try.prog w 0 (fun _ => true) true n 2 [c0] = some y0 from h0)
  obtain ⟨A1, p1, l1, rfl, q1, q1b, q1c, q1w, q1d⟩ := ints1 (show DataW.trod enc Try.prog w 0 (fun _ => true) true n 22 [c1] = some y1 from h1)
  obtain ⟨a2, rfl, wf2⟩ := int1 Try.underlying3 (show DataW.trod enc Try.prog w 0 (fun _ => true) true n2 3 [c2] = some z0 from k0)
  obtain ⟨a3, rfl, wf3⟩ := int1 Try.underlying3 (show DataW.trod enc Try.prog w 0 (fun _ => true) true n2 3 [c3] = some z1 from k1)
  obtain ⟨a4, rfl, wf4⟩ := int1 Try.underlying3 (show DataW.trod enc Try.prog w 0 (fun _ => true) true n2 3 [c4] = some z2 from k2)
  obtain ⟨a5, rfl, wf5⟩ := int1 Try.underlying2 (show DataW.trod enc Try.prog w 0 (fun _ => true) true n2 2 [c5] = some z3 from k3)
  obtain ⟨a6, rfl, wf6⟩ := int1 Try.underlying3 (show DataW.trod enc Try.prog w 0 (fun _ => true) true n2 3 [c6] = some z4 from k4)
  obtain ⟨A7, p7, l7, rfl, q7, q7b, q7c, q7w, q7d⟩ := ints1 (show DataW.trod enc Try.prog w 0 (fun _ => true) true n2 22 [c7] = some z5 from k5)
  obtain ⟨A8, p8, l8, rfl, q8, q8b, q8c, q8w, q8d⟩ := rows1 (show DataW.trod enc Try.prog w 0 (fun _ => true) true n2 23 [c8] = some z6 from k6)
  obtain ⟨A9, p9, l9, rfl, q9, q9b, q9c, q9w, q9d⟩ := rows1 (show DataW.trod enc Try.prog w 0 (fun _ => true) true n2 23 [c9] = some z7 from k7)
  refine ⟨a0, A1, p1, l1, a2, a3, a4, a5, a6, A7, p7, l7, A8, p8, l8, A9, p9, l9, ⟨wf0, wf2, wf3, wf4, wf5, wf6, q1w, q7w, q8w, q9w⟩, ?_, rfl, ⟨q1, q1b, q1c⟩, ⟨q7, q7b, q7c⟩, ⟨q8, q8b, q8c⟩, ⟨q9, q9b, q9c⟩⟩
  have e1 : d = .agg [y0.1, y1.1, y2.1] := (Prod.mk.inj hx).1
  have e2 : y2.1 = .agg [z0.1, z1.1, z2.1, z3.1, z4.1, z5.1, z6.1, z7.1] := by rw [hx2]; rfl
  rw [e1]
  simp only [Rows.uptoBulk, Rows.uptoBulkAll]
  rw [e2]
  simp only [Rows.uptoBulk, Rows.uptoBulkAll]
  omega
end
theorem wf64 {n : Int} (h : (Lit.int .i64 n).wf = true) : M.In64 n := by
  simp only [Lit.wf, Bool.and_eq_true, decide_eq_true_eq] at h
  have e1 : IntKind.i64.min = -9223372036854775808 := by decide
  have e2 : IntKind.i64.max = 9223372036854775807 := by decide
  rw [e1, e2] at h
  unfold M.In64
  omega
theorem wf8 {n : Int} (h : (Lit.int .u8 n).wf = true) : 0 ≤ n ∧ n < 256 := by
  simp only [Lit.wf, Bool.and_eq_true, decide_eq_true_eq] at h
  have e1 : IntKind.u8.min = 0 := by decide
  have e2 : IntKind.u8.max = 255 := by decide
  rw [e1, e2] at h
  omega
end Go.Proofs.Ytiemdfdebdmchaa.R3
