/- What the law's proof needs of R2. -/
import Derived.Lib.SmallJoins
import Derived.OpenShut
import Derived.ShutString
import Derived.ChangeOld
import Derived.ChangeSame
import Derived.Deep.Slices
import Derived.Deep.Fields
import Derived.Test.YtcalcbeonbfkmaaTrMPx0
import Derived.Test.YtcalcbeonbfkmaaRows
namespace Go.Proofs.Ytcalcbeonbfkmaa.R2
open Go.ChangeShapes Go.WideShapes Go.ChangeAt Go.Deep Go.RowKit Go.Proofs.YtcalcbeonbfkmaaW.PrintWords
section
variable {H : Type} {enc : TypeId × Value → H} {w : World}
theorem one_le (d : DataW H) : 1 ≤ Rows.uptoBulk d := by
  cases d with
  | lit l => cases l <;> simp [Rows.uptoBulk]
  | nil => simp [Rows.uptoBulk]
  | ptr d => simp [Rows.uptoBulk]
  | slice elems spare => simp [Rows.uptoBulk]
  | agg parts => simp [Rows.uptoBulk]
  | iface t d => simp [Rows.uptoBulk]
  | map entries => simp [Rows.uptoBulk]
  | held h => simp [Rows.uptoBulk]
theorem all_len (l : List (DataW H)) : l.length ≤ Rows.uptoBulkAll l := by
  induction l with
  | nil => simp [Rows.uptoBulkAll]
  | cons x r ih => have := one_le x; simp only [Rows.uptoBulkAll, List.length_cons]; omega
theorem ints1 {fuel : Nat} {c : Value} {x : DataW H × List MemPlace} (hf : DataW.trod enc Try.prog w 0 (fun _ => true) true fuel 29 [c] = some x) :
    ∃ (A : Option Addr) (cap : Nat) (l : List Int), c = .slice A l.length cap ∧ Kd.C (Kd.int .i64) w A l.length l ∧ l.length ≤ cap ∧ l.length ≤ maxLen ∧ (∀ n ∈ l, (Lit.int .i64 n).wf = true) ∧ l.length + 1 ≤ Rows.uptoBulk x.1 := by
  have hrow : ∃ (A : Option Addr) (len cap : Nat) (zs : List Int), c = .slice A len cap ∧ len + 1 ≤ Rows.uptoBulk x.1 ∧ ((A = none ∧ len = 0 ∧ cap = 0 ∧ zs = []) ∨ ∃ x, A = some x ∧ len ≤ cap ∧ cap ≤ maxLen ∧ zs.length = cap ∧ (∀ i, i < zs.length → w.cell? (x.add i) = some (.int .i64 (zs.getD i 0))) ∧ ∀ n ∈ zs, (Lit.int .i64 n).wf = true) := by
    rcases open_ints Try.underlying29 Try.underlying2 (by kernel_rfl) hf with ⟨hcs, _⟩ | ⟨y, l, c', zs, hcs, _, hl, hm, hz, hx, hcell, hwz⟩
    · simp at hcs
      exact ⟨none, 0, 0, [], hcs, one_le _, .inl ⟨rfl, rfl, rfl, rfl⟩⟩
    · simp at hcs
      refine ⟨some y, l, c', zs, hcs, ?_, .inr ⟨y, rfl, hl, hm, by simpa using hz, hcell, hwz⟩⟩
      rw [hx]
      have h1 := all_len (lits (H := H) .i64 (zs.take l))
      have h2 : (lits (H := H) .i64 (zs.take l)).length = l := by simp [lits]; simp at hz; omega
      simp only [Rows.uptoBulk]
      omega
  obtain ⟨A, len, cap, zs, rfl, hbk, hr⟩ := hrow
  obtain ⟨l, rfl, h1, h2, hw, h4⟩ := ReadsInt.ofRowC hr
  exact ⟨A, cap, l, rfl, Kd.C_of_reads (d := (0 : Int)) (h1 := fun _ => rfl) h1, h4, h2, hw, hbk⟩
end
end Go.Proofs.Ytcalcbeonbfkmaa.R2
