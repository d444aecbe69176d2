/- My own words: an argument that is a struct of five one-cell fields, by value, laid open. -/
import Derived.Lib.SmallJoins
import Derived.Test.YtiemdfdebdmchaaWWords
import Derived.OpenShut
import Derived.ShutString
import Derived.ChangeOld
namespace Go.Proofs.Ytiemdfdebdmchaa
open Go.ChangeShapes Go.WideShapes Go.ChangeAt Go.Deep
section
variable {H : Type} {enc : TypeId × Value → H} {P : Program} {w : World} {base : Nat} {spare : Nat → Bool} {held : Bool}
theorem list5 {α : Type} : ∀ {l : List α}, l.length = 5 → ∃ a b c d e, l = [a, b, c, d, e]
  | [a, b, c, d, e], _ => ⟨a, b, c, d, e, rfl⟩
theorem open_agg5 {r : Reach} {b0 : Nat} {t : TypeId} {f0 f1 f2 f3 f4 : Field} {v : Value} {d : DataW H} {p : List MemPlace} (hs : P.underlying t = some (.struct #[f0, f1, f2, f3, f4])) (hone : oneCellFields P #[f0, f1, f2, f3, f4] = true) (hC : P.cellsOf t = 5)
    (hv : Value.okWide P w r b0 t v) (h : DataW.Trod enc P w base spare held t v d p) :
    ∃ (v0 v1 v2 v3 v4 : Value) (y0 y1 y2 y3 y4 : DataW H × List MemPlace) (n : Nat), v = .agg #[v0, v1, v2, v3, v4] ∧ d = .agg [y0.1, y1.1, y2.1, y3.1, y4.1] ∧ p = y0.2 ++ (y1.2 ++ (y2.2 ++ (y3.2 ++ y4.2))) ∧
      DataW.trod enc P w base spare held n f0.type [v0] = some y0 ∧ DataW.trod enc P w base spare held n f1.type [v1] = some y1 ∧ DataW.trod enc P w base spare held n f2.type [v2] = some y2 ∧ DataW.trod enc P w base spare held n f3.type [v3] = some y3 ∧ DataW.trod enc P w base spare held n f4.type [v4] = some y4 := by
  obtain ⟨cs, rfl, hsz⟩ := okWide_struct hs hv
  obtain ⟨fuel, hf⟩ := h
  obtain ⟨ys, n, _, hx, _, hyl, hg⟩ := DataW.trod_struct hs hf
  obtain ⟨c0, c1, c2, c3, c4, hc⟩ := list5 (l := cs.toList) (by rw [Array.length_toList, hsz, hC])
  obtain ⟨y0, y1, y2, y3, y4, rfl⟩ := list5 (l := ys) hyl
  obtain rfl : cs = #[c0, c1, c2, c3, c4] := by rw [← Array.toArray_toList (xs := cs), hc]
  simp only [Prod.mk.injEq] at hx
  have each : ∀ (j : Nat) (f : Field), #[f0, f1, f2, f3, f4][j]? = some f → DataW.trod enc P w base spare held n f.type (([c0, c1, c2, c3, c4].drop j).take 1) = [y0, y1, y2, y3, y4][j]? := by
    intro j f hj
    obtain ⟨ho, hk⟩ := hone_of hone j f hj
    have h1 := hg j f hj
    rw [ho, hk] at h1
    exact h1
  refine ⟨c0, c1, c2, c3, c4, y0, y1, y2, y3, y4, n, rfl, hx.1, ?_, each 0 f0 rfl, each 1 f1 rfl, each 2 f2 rfl, each 3 f3 rfl, each 4 f4 rfl⟩
  rw [hx.2]
  simp
end
end Go.Proofs.Ytiemdfdebdmchaa
