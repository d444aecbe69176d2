/- What the law's proof needs of U2. -/
import Derived.Test.YtiemdfdebdmchaaTrVU
namespace Go.Proofs.YtiemdfdebdmchaaO
open Go Go.RowKit Go.Proofs.YtiemdfdebdmchaaW.PrintWords Go.Proofs.YtiemdfdebdmchaaW.PrintLast Go.Proofs.YtiemdfdebdmchaaW.PrintMore
/-- What a block holds, some plain steps behind. -/
theorem pkB {w0 w : World} {g : Nat} {o : Obj} (h0 : w0.heap[g]? = some o) (h : w0.heap[g]? = some o → w.heap[g]? = some o := by (intro hq_; (with_reducible repeat (first | refine blk_drewN ?_ _ | refine blk_drew ?_ | refine blk_alloc ?_ _)); exact hq_)) : w.heap[g]? = some o := h h0
end Go.Proofs.YtiemdfdebdmchaaO
