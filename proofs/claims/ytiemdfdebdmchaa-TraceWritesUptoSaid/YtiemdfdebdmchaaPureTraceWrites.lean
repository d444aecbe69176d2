/- Encode of any trace (that isn't too long) is the document's file. Plain lists and numbers. -/
import Derived.Test.YtiemdfdebdmchaaM4
import Derived.Test.YtiemdfdebdmchaaPx13
import Derived.Test.YtiemdfdebdmchaaPx20
namespace Go.Proofs.Ytiemdfdebdmchaa.Pure
open Go.RowKit Go.Proofs.Ytiemdfdebdmchaa.P Go.Proofs.Ytiemdfdebdmchaa.M Go.Proofs.YtiemdfdebdmchaaW.PrintWords Go.Proofs.YtiemdfdebdmchaaW.PrintLast
theorem TraceWrites (fu : Int) (sr : List Int) (e si ki ti re : Int) (sc : List Int) (ar ma : List (List Int)) (h0 : -9223372036854775808 ≤ fu) (h1 : fu < 9223372036854775808) (har : ar.length ≤ 9223372036854775807) (hma : ma.length ≤ 9223372036854775807) (hb : 10 * sr.length + 10 * sc.length + 10 * tot ar + 10 * tot ma + 500 < 140737488355328) :
    ∃ k, gimballaw33_TraceWrites.f k fu sr e si ki ti re sc ar ma = some true := by
  refine Evt.is ?_
  unfold gimballaw33_TraceWrites.f
  refine Evt.bind (encode_ev fu sr e si ki ti re sc ar ma har hma hb) ?_
  refine Evt.bind (refencode_ev fu sr e si ki ti re sc ar ma h0 h1 har hma hb) ?_
  refine Evt.congr (fun k => if_pos rfl) ?_
  refine Evt.congr (fun k => if_pos rfl) ?_
  exact Evt.bind awake_ev (Evt.of 0 (fun k => rfl))
end Go.Proofs.Ytiemdfdebdmchaa.Pure
