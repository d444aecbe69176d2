/- What the law's proof needs of U3. -/
import Derived.Test.YtiemdfdebdmchaaTrVU2
namespace Go.Proofs.YtiemdfdebdmchaaO
open Go Go.RowKit Go.Proofs.YtiemdfdebdmchaaW.PrintWords Go.Proofs.YtiemdfdebdmchaaW.PrintLast Go.Proofs.YtiemdfdebdmchaaW.PrintMore
/-- What a block holds, some steps behind that store elsewhere. -/
theorem pkF {w0 w : World} {g : Nat} {o : Obj} (h0 : Aside0 (w0.heap[g]? = some o)) (h : w0.heap[g]? = some o → w.heap[g]? = some o := by (intro hq_; (with_reducible repeat (first | exact hq_ | refine blk_drewN ?_ _ | refine blk_drew ?_ | refine blk_alloc ?_ _ | refine blk_far ?_ (Aside0.out (by assumption)) _)); all_goals exact hq_)) : w.heap[g]? = some o := h h0.out
theorem bbF {w0 w w1 : World} {g : Nat} {o : Obj} (h0 : Aside0 (w0.heap[g]? = some o)) (hb : Below w.heap.size w w1) (h : w0.heap[g]? = some o → w.heap[g]? = some o := by (intro hq_; (with_reducible repeat (first | exact hq_ | refine blk_drewN ?_ _ | refine blk_drew ?_ | refine blk_alloc ?_ _ | refine blk_far ?_ (Aside0.out (by assumption)) _)); all_goals exact hq_)) : Aside0 (w1.heap[g]? = some o) := ⟨blk_below (h h0.out) hb⟩
theorem bput {w0 w : World} {g : Nat} {t : TypeId} {cs cs' : Array Value} (i : Nat) {u : Value} (h0 : w0.heap[g]? = some (.cells cs t (0, 0))) (h : w0.heap[g]? = some (.cells cs t (0, 0)) → w.heap[g]? = some (.cells cs t (0, 0)) := by (intro hq_; (with_reducible repeat (first | refine blk_drewN ?_ _ | refine blk_drew ?_ | refine blk_alloc ?_ _)); exact hq_)) (e : cs.setIfInBounds i u = cs' := by first | rfl | (subst_vars; rfl)) : (w.setCell ⟨g, i, none⟩ u).heap[g]? = some (.cells cs' t (0, 0)) := blk_put (h h0) i u e
theorem nn {a b c d : Nat} (h : Aside0 (a ≠ b)) (h2 : Aside0 (c ≠ d)) : a ≠ b ∧ c ≠ d := ⟨h.out, h2.out⟩
theorem bfz {w : World} {g : Nat} {t : TypeId} {cs : Array Value} (h : Aside0 (w.heap[g]? = some (.cells cs t (0, 0)))) (i : Nat) : w.frozen? ⟨g, i, none⟩ = false := blk_frozen h.out i
theorem bnH {α β : Type} {o : Option α} {f : α → Option β} {b : β} (h : o.bind f = some b) : ∃ a, o = some a ∧ f a = some b := Option.bind_eq_some_iff.mp h
end Go.Proofs.YtiemdfdebdmchaaO
