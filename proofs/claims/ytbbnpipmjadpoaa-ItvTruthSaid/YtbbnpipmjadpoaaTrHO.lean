/- What the law's proof needs of O. -/
import Derived.Test.YtbbnpipmjadpoaaTrHWMore
import Derived.Laws.CopyOwn
namespace Go.Proofs.YtbbnpipmjadpoaaO
open Go Go.RowKit Go.Proofs.YtbbnpipmjadpoaaW.PrintWords Go.Proofs.YtbbnpipmjadpoaaW.PrintLast Go.Proofs.YtbbnpipmjadpoaaW.PrintMore
/-- What a block holds, at a world that stands some plain steps behind. -/
theorem pk {w0 w : World} {g : Nat} {o : Obj} (h0 : w0.heap[g]? = some o) (h : w0.heap[g]? = some o → w.heap[g]? = some o := by (intro hq_; (with_reducible repeat (first | refine blk_drewN ?_ _ | refine blk_drew ?_ | refine blk_alloc ?_ _)); exact hq_)) : w.heap[g]? = some o := h h0
theorem bbw {w0 w w1 : World} {g : Nat} {o : Obj} (h0 : Aside0 (w0.heap[g]? = some o)) (hb : Below w.heap.size w w1) (h : w0.heap[g]? = some o → w.heap[g]? = some o := by (intro hq_; (with_reducible repeat (first | refine blk_drewN ?_ _ | refine blk_drew ?_ | refine blk_alloc ?_ _)); exact hq_)) : Aside0 (w1.heap[g]? = some o) := ⟨blk_below (h h0.out) hb⟩
/-- A table in memory, read at any place. -/
theorem box_at {w : World} {g : Nat} {t : TypeId} {l : List Int} (h : w.heap[g]? = some (.cells (l.map (Value.int .i64)).toArray t (0, 0))) (i : Int) (h0 : 0 ≤ i) (h1 : i < (l.length : Int)) : w.cell? ((⟨g, 0, none⟩ : Addr).add i.toNat) = some (.int .i64 (rd l i)) := by
  rw [add_plain, blk_cell h, List.getElem?_toArray, List.getElem?_map, List.getElem?_eq_getElem (by omega)]
  unfold rd
  rw [List.getD_eq_getElem?_getD, List.getElem?_eq_getElem (by omega)]
  rfl
theorem box_at2 {w : World} {g : Nat} {t : TypeId} {l : List Int} (h : w.heap[g]? = some (.cells (l.map (Value.int .i64)).toArray t (0, 0))) (i : Int) (h0 : 0 ≤ i) (h1 : i < (l.length : Int)) : w.cell? ⟨g, i.toNat, none⟩ = some (.int .i64 (rd l i)) := by
  rw [← add_plain]; exact box_at h i h0 h1
end Go.Proofs.YtbbnpipmjadpoaaO
