/- What the law's proof needs of PureTraceBack. -/
import Derived.Test.YtiemdfdebdmchaaTrBM9
import Derived.Test.YtiemdfdebdmchaaTrBPx35
import Derived.Test.YtiemdfdebdmchaaTrBPx60
namespace Go.Proofs.Ytiemdfdebdmchaa.Pure
open Go.RowKit Go.Proofs.Ytiemdfdebdmchaa.P Go.Proofs.Ytiemdfdebdmchaa.M Go.Proofs.YtiemdfdebdmchaaW.PrintWords Go.Proofs.YtiemdfdebdmchaaW.PrintLast
theorem back_j0 (b : List Int) (hb : Bytes b) (hl : b.length ≤ 1099511627776) : Evt (fun k => gimballaw33_TraceBack.j0 k b) true := by
  refine Evt.step (fun k => by rw [gimballaw33_TraceBack.j0]) ?_
  refine Evt.bind (decode_ev b hb hl) ?_
  by_cases h : (decR b).2 = 0
  · obtain ⟨t, v, f, e, rfl⟩ := decR_ok b hb hl h
    rw [e]
    obtain ⟨fu, sr, e', si, ki, ti, re, sc, ar, ma⟩ := t
    have ht := encT_tot (fu, sr, e', si, ki, ti, re, sc, ar, ma)
    have hc := closed_len (body (fu, sr, e', si, ki, ti, re, sc, ar, ma))
    have hbo : (body (fu, sr, e', si, ki, ti, re, sc, ar, ma)).length = 5 + (encT (fu, sr, e', si, ki, ti, re, sc, ar, ma)).length := by unfold body; rw [List.length_append]; rfl
    have ha := tot_len ar
    have hm := tot_len ma
    simp only at ht
    refine Evt.congr (fun k => if_pos rfl) ?_
    simp only [outT]
    refine Evt.bind (encode_ev fu sr e' si ki ti re sc ar ma (by omega) (by omega) (by omega)) ?_
    rw [if_pos (show Fit e' si ki ti re ma from f)]
    refine Evt.congr (fun k => if_pos rfl) ?_
    rw [file_eq fu sr e' si ki ti re sc ar ma v]
    refine Evt.congr (fun k => if_pos rfl) ?_
    exact Evt.bind awake_ev (Evt.of 0 (fun k => rfl))
  · refine Evt.congr (fun k => if_neg ?_) (Evt.bind awake_ev (Evt.of 0 (fun k => rfl)))
    have e : (outT (decR b)).2.2.2.2.2.2.2.2.2.2 = (decR b).2 := by
      generalize decR b = x
      obtain ⟨o, e⟩ := x
      cases o <;> rfl
    rw [e]
    exact h
theorem TraceBack (fu : Int) (sr : List Int) (e si ki ti re : Int) (sc : List Int) (ar ma : List (List Int)) (b : List Int) (h0 : In64 fu) (h1 : Row sr) (h2 : In64 e) (h3 : In64 si) (h4 : In64 ki) (h5 : In64 ti) (h6 : In64 re) (h7 : Row sc) (h8 : Rws ar) (h9 : Rws ma) (hb : Bytes b) (hl : b.length ≤ 1099511627776)
    (hs : sr.length + sc.length + tot ar + tot ma ≤ 2097152) : ∃ k, gimballaw33_TraceBack.f k fu sr e si ki ti re sc ar ma b = some true := by
  refine Evt.is ?_
  have ha := tot_len ar
  have hm := tot_len ma
  unfold gimballaw33_TraceBack.f
  refine Evt.bind (encode_ev fu sr e si ki ti re sc ar ma (by omega) (by omega) (by omega)) ?_
  refine Evt.bind (Evt.of 0 (fun k => reffit_eq fu sr e si ki ti re sc ar ma)) ?_
  by_cases hf : Fit e si ki ti re ma
  · rw [if_pos hf]
    refine Evt.congr (fun k => if_pos (decide_eq_true hf)) ?_
    have hv : VT (fu, sr, e, si, ki, ti, re, sc, ar, ma) := ⟨h0, h1, ⟨show 0 ≤ e by have := hf.1; omega, h2.2⟩, ⟨hf.2.2.1, h3.2⟩, ⟨hf.2.2.2.1, h4.2⟩, ⟨hf.2.2.2.2.1, h5.2⟩, ⟨hf.2.2.2.2.2.1, h6.2⟩, h7, h8, h9⟩
    have hfl := file_len fu sr e si ki ti re sc ar ma
    rw [file_eq fu sr e si ki ti re sc ar ma hv] at hfl ⊢
    refine Evt.bind (decode_ev (closed (body (fu, sr, e, si, ki, ti, re, sc, ar, ma))) (closed_bytes _ hv) (by omega)) ?_
    rw [decR_file _ hv hf]
    simp only [outT]
    refine Evt.congr (fun k => by simp only [if_true]; rfl) ?_
    refine Evt.bind (Same_ev (fu, sr, e, si, ki, ti, re, sc, ar, ma) hv) ?_
    exact Evt.congr (fun k => if_pos rfl) (back_j0 b hb hl)
  · rw [if_neg hf]
    refine Evt.congr (fun k => by rw [if_neg (by rw [decide_eq_false hf]; simp), if_pos rfl, if_pos (by rfl)]) ?_
    exact back_j0 b hb hl
end Go.Proofs.Ytiemdfdebdmchaa.Pure
