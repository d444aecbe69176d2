/- What the law's proof needs of R14. -/
import Derived.Lib.SmallJoins
import Derived.OpenShut
import Derived.ShutString
import Derived.ChangeOld
import Derived.ChangeSame
import Derived.Deep.Slices
import Derived.Deep.Fields
import Derived.Test.YtcalcbeonbfkmaaTrRF3
import Derived.Test.YtcalcbeonbfkmaaRows
namespace Go.Proofs.Ytcalcbeonbfkmaa.R14
open Go.ChangeShapes Go.WideShapes Go.ChangeAt Go.Deep Go.RowKit Go.Proofs.YtcalcbeonbfkmaaW.PrintWords Go.Proofs.Ytcalcbeonbfkmaa.P
section
variable {H : Type} {enc : TypeId × Value → H} {w : World}
theorem choose_list {α : Type} (R : Nat → α → Prop) : ∀ n, (∀ i, i < n → ∃ a, R i a) → ∃ l : List α, l.length = n ∧ ∀ i a, l[i]? = some a → R i a
  | 0, _ => ⟨[], rfl, fun i a h => by simp at h⟩
  | n + 1, h => by
    obtain ⟨l, hl, hr⟩ := choose_list R n (fun i hi => h i (by omega))
    obtain ⟨a, ha⟩ := h n (by omega)
    refine ⟨l ++ [a], by simp [hl], fun i b hb => ?_⟩
    by_cases hi : i < n
    · rw [List.getElem?_append_left (by omega)] at hb
      exact hr i b hb
    · have hin : i = n := by
        have := (List.getElem?_eq_some_iff.1 hb).1
        simp at this
        omega
      subst hin
      rw [List.getElem?_append_right (by omega)] at hb
      simp [hl] at hb
      rw [← hb]; exact ha
theorem rowsG {α : Type} (d : Kd α) {s t : TypeId} (hs : Try.prog.underlying s = some (.slice t)) (ht : Try.prog.cellsOf t = d.sz) (P : α → Prop)
    (each : ∀ fuel cs x, cs.length = d.sz → DataW.trod enc Try.prog w 0 (fun _ => true) true fuel t cs = some x → ∃ y, P y ∧ d.K w y cs) {fuel : Nat} {c : Value} {x : DataW H × List MemPlace} (hf : DataW.trod enc Try.prog w 0 (fun _ => true) true fuel s [c] = some x) :
    ∃ (A : Option Addr) (cap : Nat) (l : List α), c = .slice A l.length cap ∧ Kd.C d w A l.length l ∧ l.length ≤ cap ∧ l.length ≤ maxLen ∧ ∀ y ∈ l, P y := by
  rcases open_slice hs hf with ⟨hcs, _⟩ | ⟨a, len, cap, m, n, D, Pl, hcs, _, hl, hm, hmm, hx, hi⟩
  · simp at hcs
    exact ⟨none, 0, [], hcs, Kd.C_nil _ _, Nat.le_refl _, by simp, fun y hy => by cases hy⟩
  · simp at hcs
    have each2 : ∀ i, i < len → ∃ y : α, P y ∧ ∃ cs, cs.length = d.sz ∧ d.K w y cs ∧ ∀ j u, cs[j]? = some u → w.cell? (a.add (i * d.sz + j)) = some u := by
      intro i hlt
      obtain ⟨cs', hc, htt⟩ := hi i (by rw [hmm]; simp; omega)
      rw [ht] at hc
      obtain ⟨_, hcl, hat⟩ := World.cells?_some hc
      obtain ⟨y, hP, hK⟩ := each _ _ _ hcl htt
      refine ⟨y, hP, cs', hcl, hK, fun j u hu => ?_⟩
      have hj : j < d.sz := by rw [← hcl]; exact (List.getElem?_eq_some_iff.1 hu).1
      have := hat j hj
      rw [Go.Deep.add_add] at this
      rw [this]
      exact hu
    obtain ⟨l, hll, hr⟩ := choose_list _ len each2
    subst hll
    refine ⟨some a, cap, l, hcs, ⟨rfl, by simp only [maxLen] at hm; omega, fun _ => ⟨a, rfl, fun j p hj => ?_⟩⟩, hl, by omega, fun y hy => ?_⟩
    · obtain ⟨_, cs, h1, h2, h3⟩ := hr j p hj
      exact ⟨cs, h1, h2, h3⟩
    · obtain ⟨i, hi'⟩ := List.mem_iff_getElem?.1 hy
      exact (hr i y hi').1
theorem int1 {fuel : Nat} {c : Value} {x : DataW H × List MemPlace} {t : TypeId} (ht : Try.prog.underlying t = some (.int .i64)) (hf : DataW.trod enc Try.prog w 0 (fun _ => true) true fuel t [c] = some x) : ∃ n : Int, c = .int .i64 n ∧ (Lit.int .i64 n).wf = true := by
  obtain ⟨a, e, _, hw⟩ := DataW.trod_int ht hf
  simp at e
  exact ⟨a, e, hw⟩
theorem str1 {fuel : Nat} {c : Value} {x : DataW H × List MemPlace} (hf : DataW.trod enc Try.prog w 0 (fun _ => true) true fuel 9 [c] = some x) : ∃ s : ByteArray, c = .string s := by
  obtain ⟨s, e, _, _⟩ := DataW.trod_string Try.underlying9 hf
  simp at e
  exact ⟨s, e⟩
theorem list2 {α : Type} : ∀ {l : List α}, l.length = 2 → ∃ a0 a1, l = [a0, a1]
  | [a0, a1], _ => ⟨a0, a1, rfl⟩
theorem list3 {α : Type} : ∀ {l : List α}, l.length = 3 → ∃ a0 a1 a2, l = [a0, a1, a2]
  | [a0, a1, a2], _ => ⟨a0, a1, a2, rfl⟩
theorem list4 {α : Type} : ∀ {l : List α}, l.length = 4 → ∃ a0 a1 a2 a3, l = [a0, a1, a2, a3]
  | [a0, a1, a2, a3], _ => ⟨a0, a1, a2, a3, rfl⟩
theorem list8 {α : Type} : ∀ {l : List α}, l.length = 8 → ∃ a0 a1 a2 a3 a4 a5 a6 a7, l = [a0, a1, a2, a3, a4, a5, a6, a7]
  | [a0, a1, a2, a3, a4, a5, a6, a7], _ => ⟨a0, a1, a2, a3, a4, a5, a6, a7, rfl⟩
theorem g77 (fuel : Nat) (cs : List Value) (x : DataW H × List MemPlace) (hl : cs.length = 2) (hf : DataW.trod enc Try.prog w 0 (fun _ => true) true fuel 77 cs = some x) : ∃ y : S77, True ∧ k77.K w y cs := by
  obtain ⟨c0, c1, rfl⟩ := list2 hl
  obtain ⟨ys, n, _, hx, _, hyl, hg⟩ := DataW.trod_struct Try.underlying77 hf
  obtain ⟨y0, y1, rfl⟩ : ∃ y0 y1, ys = [y0, y1] := by
    match ys, hyl with
    | [y0, y1], _ => exact ⟨y0, y1, rfl⟩
  have e3_0 : Try.prog.cellsOf 3 = 1 := by kernel_rfl
  have h0 : DataW.trod enc Try.prog w 0 (fun _ => true) true n 3 (List.take (Try.prog.cellsOf 3) [c0, c1]) = some y0 := hg 0 _ rfl
  rw [e3_0] at h0
  obtain ⟨x0, rfl, w0⟩ := int1 Try.underlying3 (show DataW.trod enc Try.prog w 0 (fun _ => true) true n 3 [c0] = some y0 from h0)
  have e3_1 : Try.prog.cellsOf 3 = 1 := by kernel_rfl
  have h1 : DataW.trod enc Try.prog w 0 (fun _ => true) true n 3 (List.take (Try.prog.cellsOf 3) [c1]) = some y1 := hg 1 _ rfl
  rw [e3_1] at h1
  obtain ⟨x1, rfl, w1⟩ := int1 Try.underlying3 (show DataW.trod enc Try.prog w 0 (fun _ => true) true n 3 [c1] = some y1 from h1)
  exact ⟨⟨x0, x1⟩, trivial, k77_mk w ⟨x0, x1⟩⟩
theorem g79 (fuel : Nat) (cs : List Value) (x : DataW H × List MemPlace) (hl : cs.length = 4) (hf : DataW.trod enc Try.prog w 0 (fun _ => true) true fuel 79 cs = some x) : ∃ y : S79, True ∧ k79.K w y cs := by
  obtain ⟨c0, c1, c2, c3, rfl⟩ := list4 hl
  obtain ⟨ys, n, _, hx, _, hyl, hg⟩ := DataW.trod_struct Try.underlying79 hf
  obtain ⟨y0, y1, y2, y3, rfl⟩ : ∃ y0 y1 y2 y3, ys = [y0, y1, y2, y3] := by
    match ys, hyl with
    | [y0, y1, y2, y3], _ => exact ⟨y0, y1, y2, y3, rfl⟩
  have e9_0 : Try.prog.cellsOf 9 = 1 := by kernel_rfl
  have h0 : DataW.trod enc Try.prog w 0 (fun _ => true) true n 9 (List.take (Try.prog.cellsOf 9) [c0, c1, c2, c3]) = some y0 := hg 0 _ rfl
  rw [e9_0] at h0
  obtain ⟨x0, rfl⟩ := str1 (show DataW.trod enc Try.prog w 0 (fun _ => true) true n 9 [c0] = some y0 from h0)
  have e3_1 : Try.prog.cellsOf 3 = 1 := by kernel_rfl
  have h1 : DataW.trod enc Try.prog w 0 (fun _ => true) true n 3 (List.take (Try.prog.cellsOf 3) [c1, c2, c3]) = some y1 := hg 1 _ rfl
  rw [e3_1] at h1
  obtain ⟨x1, rfl, w1⟩ := int1 Try.underlying3 (show DataW.trod enc Try.prog w 0 (fun _ => true) true n 3 [c1] = some y1 from h1)
  have e2_2 : Try.prog.cellsOf 2 = 1 := by kernel_rfl
  have h2 : DataW.trod enc Try.prog w 0 (fun _ => true) true n 2 (List.take (Try.prog.cellsOf 2) [c2, c3]) = some y2 := hg 2 _ rfl
  rw [e2_2] at h2
  obtain ⟨x2, rfl, w2⟩ := int1 Try.underlying2 (show DataW.trod enc Try.prog w 0 (fun _ => true) true n 2 [c2] = some y2 from h2)
  have e2_3 : Try.prog.cellsOf 2 = 1 := by kernel_rfl
  have h3 : DataW.trod enc Try.prog w 0 (fun _ => true) true n 2 (List.take (Try.prog.cellsOf 2) [c3]) = some y3 := hg 3 _ rfl
  rw [e2_3] at h3
  obtain ⟨x3, rfl, w3⟩ := int1 Try.underlying2 (show DataW.trod enc Try.prog w 0 (fun _ => true) true n 2 [c3] = some y3 from h3)
  exact ⟨⟨x0, x1, x2, x3⟩, trivial, k79_mk w ⟨x0, x1, x2, x3⟩⟩
theorem g83 (fuel : Nat) (cs : List Value) (x : DataW H × List MemPlace) (hl : cs.length = 3) (hf : DataW.trod enc Try.prog w 0 (fun _ => true) true fuel 83 cs = some x) : ∃ y : S83, True ∧ k83.K w y cs := by
  obtain ⟨c0, c1, c2, rfl⟩ := list3 hl
  obtain ⟨ys, n, _, hx, _, hyl, hg⟩ := DataW.trod_struct Try.underlying83 hf
  obtain ⟨y0, y1, y2, rfl⟩ : ∃ y0 y1 y2, ys = [y0, y1, y2] := by
    match ys, hyl with
    | [y0, y1, y2], _ => exact ⟨y0, y1, y2, rfl⟩
  have e9_0 : Try.prog.cellsOf 9 = 1 := by kernel_rfl
  have h0 : DataW.trod enc Try.prog w 0 (fun _ => true) true n 9 (List.take (Try.prog.cellsOf 9) [c0, c1, c2]) = some y0 := hg 0 _ rfl
  rw [e9_0] at h0
  obtain ⟨x0, rfl⟩ := str1 (show DataW.trod enc Try.prog w 0 (fun _ => true) true n 9 [c0] = some y0 from h0)
  have e3_1 : Try.prog.cellsOf 3 = 1 := by kernel_rfl
  have h1 : DataW.trod enc Try.prog w 0 (fun _ => true) true n 3 (List.take (Try.prog.cellsOf 3) [c1, c2]) = some y1 := hg 1 _ rfl
  rw [e3_1] at h1
  obtain ⟨x1, rfl, w1⟩ := int1 Try.underlying3 (show DataW.trod enc Try.prog w 0 (fun _ => true) true n 3 [c1] = some y1 from h1)
  have e2_2 : Try.prog.cellsOf 2 = 1 := by kernel_rfl
  have h2 : DataW.trod enc Try.prog w 0 (fun _ => true) true n 2 (List.take (Try.prog.cellsOf 2) [c2]) = some y2 := hg 2 _ rfl
  rw [e2_2] at h2
  obtain ⟨x2, rfl, w2⟩ := int1 Try.underlying2 (show DataW.trod enc Try.prog w 0 (fun _ => true) true n 2 [c2] = some y2 from h2)
  exact ⟨⟨x0, x1, x2⟩, trivial, k83_mk w ⟨x0, x1, x2⟩⟩
theorem g85 (fuel : Nat) (cs : List Value) (x : DataW H × List MemPlace) (hl : cs.length = 4) (hf : DataW.trod enc Try.prog w 0 (fun _ => true) true fuel 85 cs = some x) : ∃ y : S85, True ∧ k85.K w y cs := by
  obtain ⟨c0, c1, c2, c3, rfl⟩ := list4 hl
  obtain ⟨ys, n, _, hx, _, hyl, hg⟩ := DataW.trod_struct Try.underlying85 hf
  obtain ⟨y0, y1, y2, y3, rfl⟩ : ∃ y0 y1 y2 y3, ys = [y0, y1, y2, y3] := by
    match ys, hyl with
    | [y0, y1, y2, y3], _ => exact ⟨y0, y1, y2, y3, rfl⟩
  have e9_0 : Try.prog.cellsOf 9 = 1 := by kernel_rfl
  have h0 : DataW.trod enc Try.prog w 0 (fun _ => true) true n 9 (List.take (Try.prog.cellsOf 9) [c0, c1, c2, c3]) = some y0 := hg 0 _ rfl
  rw [e9_0] at h0
  obtain ⟨x0, rfl⟩ := str1 (show DataW.trod enc Try.prog w 0 (fun _ => true) true n 9 [c0] = some y0 from h0)
  have e3_1 : Try.prog.cellsOf 3 = 1 := by kernel_rfl
  have h1 : DataW.trod enc Try.prog w 0 (fun _ => true) true n 3 (List.take (Try.prog.cellsOf 3) [c1, c2, c3]) = some y1 := hg 1 _ rfl
  rw [e3_1] at h1
  obtain ⟨x1, rfl, w1⟩ := int1 Try.underlying3 (show DataW.trod enc Try.prog w 0 (fun _ => true) true n 3 [c1] = some y1 from h1)
  have e3_2 : Try.prog.cellsOf 3 = 1 := by kernel_rfl
  have h2 : DataW.trod enc Try.prog w 0 (fun _ => true) true n 3 (List.take (Try.prog.cellsOf 3) [c2, c3]) = some y2 := hg 2 _ rfl
  rw [e3_2] at h2
  obtain ⟨x2, rfl, w2⟩ := int1 Try.underlying3 (show DataW.trod enc Try.prog w 0 (fun _ => true) true n 3 [c2] = some y2 from h2)
  have e2_3 : Try.prog.cellsOf 2 = 1 := by kernel_rfl
  have h3 : DataW.trod enc Try.prog w 0 (fun _ => true) true n 2 (List.take (Try.prog.cellsOf 2) [c3]) = some y3 := hg 3 _ rfl
  rw [e2_3] at h3
  obtain ⟨x3, rfl, w3⟩ := int1 Try.underlying2 (show DataW.trod enc Try.prog w 0 (fun _ => true) true n 2 [c3] = some y3 from h3)
  exact ⟨⟨x0, x1, x2, x3⟩, trivial, k85_mk w ⟨x0, x1, x2, x3⟩⟩
set_option maxRecDepth 100000 in
theorem g52 (fuel : Nat) (cs : List Value) (x : DataW H × List MemPlace) (hl : cs.length = 8) (hf : DataW.trod enc Try.prog w 0 (fun _ => true) true fuel 52 cs = some x) : ∃ y : S52, (Lit.int .i64 y.f1).wf = true ∧ k52.K w y cs := by
  obtain ⟨c0, c1, c2, c3, c4, c5, c6, c7, rfl⟩ := list8 hl
  obtain ⟨ys, n, _, hx, _, hyl, hg⟩ := DataW.trod_struct Try.underlying52 hf
  obtain ⟨y0, y1, y2, y3, y4, y5, y6, rfl⟩ : ∃ y0 y1 y2 y3 y4 y5 y6, ys = [y0, y1, y2, y3, y4, y5, y6] := by
    match ys, hyl with
    | [y0, y1, y2, y3, y4, y5, y6], _ => exact ⟨y0, y1, y2, y3, y4, y5, y6, rfl⟩
  have e3_0 : Try.prog.cellsOf 3 = 1 := by kernel_rfl
  have h0 : DataW.trod enc Try.prog w 0 (fun _ => true) true n 3 (List.take (Try.prog.cellsOf 3) [c0, c1, c2, c3, c4, c5, c6, c7]) = some y0 := hg 0 _ rfl
  rw [e3_0] at h0
  obtain ⟨x0, rfl, w0⟩ := int1 Try.underlying3 (show DataW.trod enc Try.prog w 0 (fun _ => true) true n 3 [c0] = some y0 from h0)
  have e3_1 : Try.prog.cellsOf 3 = 1 := by kernel_rfl
  have h1 : DataW.trod enc Try.prog w 0 (fun _ => true) true n 3 (List.take (Try.prog.cellsOf 3) [c1, c2, c3, c4, c5, c6, c7]) = some y1 := hg 1 _ rfl
  rw [e3_1] at h1
  obtain ⟨x1, rfl, w1⟩ := int1 Try.underlying3 (show DataW.trod enc Try.prog w 0 (fun _ => true) true n 3 [c1] = some y1 from h1)
  have e3_2 : Try.prog.cellsOf 3 = 1 := by kernel_rfl
  have h2 : DataW.trod enc Try.prog w 0 (fun _ => true) true n 3 (List.take (Try.prog.cellsOf 3) [c2, c3, c4, c5, c6, c7]) = some y2 := hg 2 _ rfl
  rw [e3_2] at h2
  obtain ⟨x2, rfl, w2⟩ := int1 Try.underlying3 (show DataW.trod enc Try.prog w 0 (fun _ => true) true n 3 [c2] = some y2 from h2)
  have e3_3 : Try.prog.cellsOf 3 = 1 := by kernel_rfl
  have h3 : DataW.trod enc Try.prog w 0 (fun _ => true) true n 3 (List.take (Try.prog.cellsOf 3) [c3, c4, c5, c6, c7]) = some y3 := hg 3 _ rfl
  rw [e3_3] at h3
  obtain ⟨x3, rfl, w3⟩ := int1 Try.underlying3 (show DataW.trod enc Try.prog w 0 (fun _ => true) true n 3 [c3] = some y3 from h3)
  have e2_4 : Try.prog.cellsOf 2 = 1 := by kernel_rfl
  have h4 : DataW.trod enc Try.prog w 0 (fun _ => true) true n 2 (List.take (Try.prog.cellsOf 2) [c4, c5, c6, c7]) = some y4 := hg 4 _ rfl
  rw [e2_4] at h4
  obtain ⟨x4, rfl, w4⟩ := int1 Try.underlying2 (show DataW.trod enc Try.prog w 0 (fun _ => true) true n 2 [c4] = some y4 from h4)
  have e3_5 : Try.prog.cellsOf 3 = 1 := by kernel_rfl
  have h5 : DataW.trod enc Try.prog w 0 (fun _ => true) true n 3 (List.take (Try.prog.cellsOf 3) [c5, c6, c7]) = some y5 := hg 5 _ rfl
  rw [e3_5] at h5
  obtain ⟨x5, rfl, w5⟩ := int1 Try.underlying3 (show DataW.trod enc Try.prog w 0 (fun _ => true) true n 3 [c5] = some y5 from h5)
  have e50_6 : Try.prog.cellsOf 50 = 2 := by kernel_rfl
  have h6 : DataW.trod enc Try.prog w 0 (fun _ => true) true n 50 (List.take (Try.prog.cellsOf 50) [c6, c7]) = some y6 := hg 6 _ rfl
  rw [e50_6] at h6
  obtain ⟨zs, m2, _, _, _, hzl, hk⟩ := DataW.trod_array Try.underlying50 (show DataW.trod enc Try.prog w 0 (fun _ => true) true n 50 [c6, c7] = some y6 from h6)
  have e3z : Try.prog.cellsOf 3 = 1 := by kernel_rfl
  obtain ⟨z0, z1, rfl⟩ := list2 hzl
  have k0 := hk 0 (by decide)
  have k1 := hk 1 (by decide)
  rw [e3z] at k0 k1
  obtain ⟨x6, rfl, w6⟩ := int1 Try.underlying3 (show DataW.trod enc Try.prog w 0 (fun _ => true) true m2 3 [c6] = some z0 from k0)
  obtain ⟨x7, rfl, w7⟩ := int1 Try.underlying3 (show DataW.trod enc Try.prog w 0 (fun _ => true) true m2 3 [c7] = some z1 from k1)
  exact ⟨⟨x0, x1, x2, x3, x4, x5, ⟨x6, x7⟩⟩, w1, k52_mk w ⟨x0, x1, x2, x3, x4, x5, ⟨x6, x7⟩⟩⟩
theorem wf64 {n : Int} (h : (Lit.int .i64 n).wf = true) : -9223372036854775808 ≤ n ∧ n ≤ 9223372036854775807 := by
  simp only [Lit.wf, Bool.and_eq_true, decide_eq_true_eq] at h
  have e1 : IntKind.i64.min = -9223372036854775808 := by decide
  have e2 : IntKind.i64.max = 9223372036854775807 := by decide
  rw [e1, e2] at h
  omega
set_option maxRecDepth 100000 in
theorem open_graph {r : Reach} {b0 : Nat} {v : Value} {d : DataW H} {p : List MemPlace} (hv : Value.okWide Try.prog w r b0 28 v) (h : DataW.Trod enc Try.prog w 0 (fun _ => true) true 28 v d p) :
    ∃ G : Gr, v = G.v ∧ G.Held w ∧ ∀ q : Nat, q < G.l0.length → -9223372036854775808 ≤ (rd_T52 G.l0 (q : Int)).f1 ∧ (rd_T52 G.l0 (q : Int)).f1 ≤ 9223372036854775807 := by
  obtain ⟨cs0, rfl, hsz⟩ := okWide_struct Try.underlying28 hv
  obtain ⟨fuel, hf⟩ := h
  have hl : cs0.toList.length = 8 := by rw [Array.length_toList, hsz]; kernel_rfl
  obtain ⟨c0, c1, c2, c3, c4, c5, c6, c7, hc⟩ := list8 hl
  obtain rfl : cs0 = #[c0, c1, c2, c3, c4, c5, c6, c7] := by rw [← Array.toArray_toList (xs := cs0), hc]
  obtain ⟨ys, n, _, hx, _, hyl, hg⟩ := DataW.trod_struct Try.underlying28 hf
  obtain ⟨y0, y1, y2, y3, y4, y5, y6, y7, rfl⟩ : ∃ y0 y1 y2 y3 y4 y5 y6 y7, ys = [y0, y1, y2, y3, y4, y5, y6, y7] := by
    match ys, hyl with
    | [a, b, c, d, e, f, g, h], _ => exact ⟨a, b, c, d, e, f, g, h, rfl⟩
  have e0 : Try.prog.cellsOf 22 = 1 := by kernel_rfl
  have h0 : DataW.trod enc Try.prog w 0 (fun _ => true) true n 22 (List.take (Try.prog.cellsOf 22) [c0, c1, c2, c3, c4, c5, c6, c7]) = some y0 := hg 0 _ rfl
  rw [e0] at h0
  obtain ⟨A0, p0, l0, rfl, q0, _, q0c, q0P⟩ := rowsG k52 Try.underlying22 (by kernel_rfl) (fun y => (Lit.int .i64 y.f1).wf = true) (fun fuel cs x hl hf => g52 fuel cs x hl hf) (show DataW.trod enc Try.prog w 0 (fun _ => true) true n 22 [c0] = some y0 from h0)
  have e1 : Try.prog.cellsOf 3 = 1 := by kernel_rfl
  have h1 : DataW.trod enc Try.prog w 0 (fun _ => true) true n 3 (List.take (Try.prog.cellsOf 3) [c1, c2, c3, c4, c5, c6, c7]) = some y1 := hg 1 _ rfl
  rw [e1] at h1
  obtain ⟨a1, rfl, w1⟩ := int1 Try.underlying3 (show DataW.trod enc Try.prog w 0 (fun _ => true) true n 3 [c1] = some y1 from h1)
  have e2 : Try.prog.cellsOf 3 = 1 := by kernel_rfl
  have h2 : DataW.trod enc Try.prog w 0 (fun _ => true) true n 3 (List.take (Try.prog.cellsOf 3) [c2, c3, c4, c5, c6, c7]) = some y2 := hg 2 _ rfl
  rw [e2] at h2
  obtain ⟨a2, rfl, w2⟩ := int1 Try.underlying3 (show DataW.trod enc Try.prog w 0 (fun _ => true) true n 3 [c2] = some y2 from h2)
  have e3 : Try.prog.cellsOf 2 = 1 := by kernel_rfl
  have h3 : DataW.trod enc Try.prog w 0 (fun _ => true) true n 2 (List.take (Try.prog.cellsOf 2) [c3, c4, c5, c6, c7]) = some y3 := hg 3 _ rfl
  rw [e3] at h3
  obtain ⟨a3, rfl, w3⟩ := int1 Try.underlying2 (show DataW.trod enc Try.prog w 0 (fun _ => true) true n 2 [c3] = some y3 from h3)
  have e4 : Try.prog.cellsOf 23 = 1 := by kernel_rfl
  have h4 : DataW.trod enc Try.prog w 0 (fun _ => true) true n 23 (List.take (Try.prog.cellsOf 23) [c4, c5, c6, c7]) = some y4 := hg 4 _ rfl
  rw [e4] at h4
  obtain ⟨A4, p4, l4, rfl, q4, _, q4c, q4P⟩ := rowsG k79 Try.underlying23 (by kernel_rfl) (fun _ => True) (fun fuel cs x hl hf => g79 fuel cs x hl hf) (show DataW.trod enc Try.prog w 0 (fun _ => true) true n 23 [c4] = some y4 from h4)
  have e5 : Try.prog.cellsOf 24 = 1 := by kernel_rfl
  have h5 : DataW.trod enc Try.prog w 0 (fun _ => true) true n 24 (List.take (Try.prog.cellsOf 24) [c5, c6, c7]) = some y5 := hg 5 _ rfl
  rw [e5] at h5
  obtain ⟨A5, p5, l5, rfl, q5, _, q5c, q5P⟩ := rowsG k83 Try.underlying24 (by kernel_rfl) (fun _ => True) (fun fuel cs x hl hf => g83 fuel cs x hl hf) (show DataW.trod enc Try.prog w 0 (fun _ => true) true n 24 [c5] = some y5 from h5)
  have e6 : Try.prog.cellsOf 25 = 1 := by kernel_rfl
  have h6 : DataW.trod enc Try.prog w 0 (fun _ => true) true n 25 (List.take (Try.prog.cellsOf 25) [c6, c7]) = some y6 := hg 6 _ rfl
  rw [e6] at h6
  obtain ⟨A6, p6, l6, rfl, q6, _, q6c, q6P⟩ := rowsG k85 Try.underlying25 (by kernel_rfl) (fun _ => True) (fun fuel cs x hl hf => g85 fuel cs x hl hf) (show DataW.trod enc Try.prog w 0 (fun _ => true) true n 25 [c6] = some y6 from h6)
  have e7 : Try.prog.cellsOf 26 = 1 := by kernel_rfl
  have h7 : DataW.trod enc Try.prog w 0 (fun _ => true) true n 26 (List.take (Try.prog.cellsOf 26) [c7]) = some y7 := hg 7 _ rfl
  rw [e7] at h7
  obtain ⟨A7, p7, l7, rfl, q7, _, q7c, q7P⟩ := rowsG k77 Try.underlying26 (by kernel_rfl) (fun _ => True) (fun fuel cs x hl hf => g77 fuel cs x hl hf) (show DataW.trod enc Try.prog w 0 (fun _ => true) true n 26 [c7] = some y7 from h7)
  have big : maxLen ≤ 9223372036854775807 := by decide
  refine ⟨⟨A0, p0, l0, a1, a2, a3, A4, p4, l4, A5, p5, l5, A6, p6, l6, A7, p7, l7⟩, rfl, ⟨q0, q4, q5, q6, q7, Nat.le_trans q0c big, Nat.le_trans q5c big, Nat.le_trans q7c big⟩, fun q hq => ?_⟩
  have hm : rd_T52 l0 (q : Int) ∈ l0 := by
    unfold rd_T52
    rw [Int.toNat_natCast, List.getD_eq_getElem?_getD, List.getElem?_eq_getElem hq]
    exact List.getElem_mem hq
  exact wf64 (q0P _ hm)
theorem int_g (fuel : Nat) (cs : List Value) (x : DataW H × List MemPlace) (hl : cs.length = 1) (hf : DataW.trod enc Try.prog w 0 (fun _ => true) true fuel 2 cs = some x) : ∃ y : Int, True ∧ (Kd.int .i64).K w y cs := by
  match cs, hl with
  | [c], _ =>
    obtain ⟨n, rfl, hw⟩ := int1 Try.underlying2 hf
    exact ⟨n, trivial, rfl⟩
end
end Go.Proofs.Ytcalcbeonbfkmaa.R14
