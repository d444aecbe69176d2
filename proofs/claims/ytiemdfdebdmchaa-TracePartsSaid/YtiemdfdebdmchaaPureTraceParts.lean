/- Part of any two traces is what the document tells, both ways. -/
import Derived.Test.YtiemdfdebdmchaaM1
import Derived.Test.YtiemdfdebdmchaaPx18
namespace Go.Proofs.Ytiemdfdebdmchaa.Pure
open Go.RowKit Go.Proofs.Ytiemdfdebdmchaa.P Go.Proofs.Ytiemdfdebdmchaa.M Go.Proofs.YtiemdfdebdmchaaW.PrintWords Go.Proofs.YtiemdfdebdmchaaW.PrintLast
theorem TraceParts (a0 : Int) (b0 : List Int) (c0 d0 e0 f0 g0 : Int) (h0 : List Int) (i0 x : List (List Int)) (a1 : Int) (b1 : List Int) (c1 d1 e1 f1 g1 : Int) (h1 : List Int) (i1 y : List (List Int)) (hx : x.length ≤ 9223372036854775807) (hy : y.length ≤ 9223372036854775807) (hr : ∀ r ∈ x, r.length ≤ 9223372036854775807) (hs : ∀ r ∈ y, r.length ≤ 9223372036854775807) :
    ∃ k, gimballaw33_TraceParts.f k a0 b0 c0 d0 e0 f0 g0 h0 i0 x a1 b1 c1 d1 e1 f1 g1 h1 i1 y = some true := by
  refine Evt.is ?_
  unfold gimballaw33_TraceParts.f
  refine Evt.bind (a := M.part x y (x.length + y.length + 1) 0) (by unfold trace_Part.f; exact part_loop x y hx hy hr (x.length + y.length + 1) 0 (by omega) (by omega) (by omega)) ?_
  refine Evt.bind (a := M.part x y (x.length + y.length + 1) 0) (by unfold gimbalref33_Part.f; exact refpart_loop _ _ _ _ _ _ _ _ _ x _ _ _ _ _ _ _ _ _ y hx hy hr (x.length + y.length + 1) 0 (by omega) (by omega) (by omega)) ?_
  refine Evt.bind (a := M.part x y (x.length + y.length + 1) 0) (by rw [part_swap]; unfold trace_Part.f; exact part_loop y x hy hx hs (x.length + y.length + 1) 0 (by omega) (by omega) (by omega)) ?_
  refine Evt.congr (fun k => if_pos rfl) ?_
  refine Evt.congr (fun k => if_pos (beq_self_eq_true _)) ?_
  refine Evt.congr (fun k => if_pos rfl) ?_
  refine Evt.congr (fun k => if_pos (beq_self_eq_true _)) ?_
  exact Evt.bind awake_ev (Evt.of 0 (fun k => rfl))
end Go.Proofs.Ytiemdfdebdmchaa.Pure
