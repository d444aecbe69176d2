/- What the law's proof needs of M9. -/
import Derived.Test.YtiemdfdebdmchaaTrBM8
import Derived.Test.YtiemdfdebdmchaaTrBPx33
namespace Go.Proofs.Ytiemdfdebdmchaa.M
open Go.RowKit Go.Proofs.Ytiemdfdebdmchaa.P Go.Proofs.YtiemdfdebdmchaaW.PrintWords Go.Proofs.YtiemdfdebdmchaaW.PrintLast Go.Proofs.YtiemdfdebdmchaaW.PrintMore
theorem sames_loop (x : List (List Int)) (hr : ∀ r ∈ x, r.length ≤ 9223372036854775807) (hx : x.length ≤ 9223372036854775807) : ∀ (m n : Nat), n + m = x.length →
    Evt (fun k => gimbalref33_sameRows.l0 k x x (x.length : Int) (n : Int)) true
  | 0, n, hn => Evt.of 1 (fun k => by rw [gimbalref33_sameRows.l0, if_neg (by omega)])
  | m + 1, n, hn => by
    have h1 : n < x.length := by omega
    refine Evt.step (fun k => by rw [gimbalref33_sameRows.l0, if_pos (by omega), if_pos (by omega), if_pos (by omega), if_pos (by omega), rdL_get h1, nat_step n (by omega)]) ?_
    refine Evt.bind (same_ev x[n] x[n] (hr _ (List.getElem_mem h1))) ?_
    exact Evt.congr (fun k => if_pos (by simp)) (sames_loop x hr hx m (n + 1) (by omega))
theorem sames_ev (x : List (List Int)) (hr : ∀ r ∈ x, r.length ≤ 9223372036854775807) (hx : x.length ≤ 9223372036854775807) : Evt (fun k => gimbalref33_sameRows.f k x x) true := by
  unfold gimbalref33_sameRows.f
  exact Evt.congr (fun k => if_pos rfl) (sames_loop x hr hx x.length 0 (by omega))
theorem rows_le {l : List (List Int)} (h : Rws l) : (∀ r ∈ l, r.length ≤ 9223372036854775807) ∧ l.length ≤ 9223372036854775807 := ⟨fun r hr => by have := (h.1 r hr).2; omega, by have := h.2; omega⟩
theorem Same_ev (t : Tr) (h : VT t) : Evt (fun k => gimbalref33_Same.f k t.1 t.2.1 t.2.2.1 t.2.2.2.1 t.2.2.2.2.1 t.2.2.2.2.2.1 t.2.2.2.2.2.2.1 t.2.2.2.2.2.2.2.1 t.2.2.2.2.2.2.2.2.1 t.2.2.2.2.2.2.2.2.2 t.1 t.2.1 t.2.2.1 t.2.2.2.1 t.2.2.2.2.1 t.2.2.2.2.2.1 t.2.2.2.2.2.2.1 t.2.2.2.2.2.2.2.1 t.2.2.2.2.2.2.2.2.1 t.2.2.2.2.2.2.2.2.2) true := by
  obtain ⟨fu, sr, e, si, ki, ti, re, sc, ar, ma⟩ := t
  obtain ⟨_, h1, _, _, _, _, _, h7, h8, h9⟩ := h
  simp only at h1 h7 h8 h9 ⊢
  unfold gimbalref33_Same.f
  refine Evt.congr (fun k => if_pos rfl) ?_
  refine Evt.bind (same_ev sr sr (by have := h1.2; omega)) ?_
  refine Evt.congr (fun k => if_pos (by simp)) ?_
  refine Evt.bind (a := true) ?_ (Evt.of 0 (fun k => rfl))
  unfold gimbalref33_SameOut.f
  refine Evt.congr (fun k => by rw [if_pos rfl, if_pos rfl, if_pos rfl, if_pos rfl, if_pos rfl]) ?_
  refine Evt.bind (same_ev sc sc (by have := h7.2; omega)) ?_
  refine Evt.congr (fun k => if_pos (by simp)) ?_
  refine Evt.bind (sames_ev ar (rows_le h8).1 (rows_le h8).2) ?_
  refine Evt.congr (fun k => if_pos rfl) ?_
  exact Evt.bind (sames_ev ma (rows_le h9).1 (rows_le h9).2) (Evt.of 0 (fun k => rfl))
theorem Bytes.append {a b : List Int} (ha : Bytes a) (hb : Bytes b) : Bytes (a ++ b) := fun x hx => (List.mem_append.1 hx).elim (ha x) (hb x)
theorem Bytes.nil : Bytes [] := fun x hx => by cases hx
theorem numb_bytes : ∀ (n : Nat) (x : Int), 0 ≤ x → Bytes (numb n x)
  | 0, x, _ => fun d hd => by rw [numb] at hd; exact (List.mem_cons.1 hd).elim (fun h => by omega) (fun h => by cases h)
  | n + 1, x, h0 => by
    rw [numb]
    split
    · intro d hd
      rcases List.mem_cons.1 hd with h | h
      · have := or128 ⟨(x % 256).toNat, by omega⟩
        rw [show (((⟨(x % 256).toNat, by omega⟩ : Fin 256).1 : Nat) : Int) = x % 256 by simp only; omega] at this
        rw [h, this]
        simp only
        omega
      · exact numb_bytes n (x / 128) (by omega) d h
    · intro d hd
      rcases List.mem_cons.1 hd with h | h
      · omega
      · cases h
theorem encR_bytes (f : List Int → Int) : ∀ l xs, Bytes (encR f l xs)
  | _, [] => Bytes.nil
  | l, x :: xs => by
    rw [encR]
    exact (numb_bytes 9 _ (sgn_in _ (wrap64_in64 _)).1).append (encR_bytes f _ xs)
theorem eR_bytes (f : List Int → Int) (l : List Int) : Bytes (eR f l) := (numb_bytes 9 _ (by omega)).append (encR_bytes f [] l)
theorem encA_bytes : ∀ xs, Bytes (encA xs)
  | [] => Bytes.nil
  | x :: xs => by rw [encA]; exact (eR_bytes _ x).append (encA_bytes xs)
theorem encM_bytes : ∀ o xs, Bytes (encM o xs)
  | _, [] => Bytes.nil
  | o, x :: xs => by rw [encM]; exact (eR_bytes _ x).append (encM_bytes x xs)
theorem encT_bytes (t : Tr) (h : VT t) : Bytes (encT t) := by
  obtain ⟨h0, _, h2, h3, h4, h5, h6, _, _, _⟩ := h
  unfold encT
  exact (numb_bytes 9 _ (sgn_in _ h0).1).append ((eR_bytes _ _).append ((numb_bytes 9 _ h2.1).append ((numb_bytes 9 _ h3.1).append ((numb_bytes 9 _ h4.1).append ((numb_bytes 9 _ h5.1).append ((numb_bytes 9 _ h6.1).append ((eR_bytes _ _).append (((numb_bytes 9 _ (by omega)).append (encA_bytes _)).append ((numb_bytes 9 _ (by omega)).append (encM_bytes _ _))))))))))
theorem sumBytes_bytes (s : Int) : Bytes (sumBytes s) := by
  intro d hd
  simp only [sumBytes, List.mem_cons, List.not_mem_nil, or_false] at hd
  omega
theorem closed_bytes (t : Tr) (h : VT t) : Bytes (closed (body t)) := (bytes_magic.append (encT_bytes t h)).append (sumBytes_bytes _)
theorem eR_len (f : List Int → Int) (l : List Int) : l.length + 1 ≤ (eR f l).length := by
  have h1 := numb_ne 9 (l.length : Int)
  have h2 := encR_len f [] l
  unfold eR
  rw [List.length_append]
  omega
theorem encA_tot : ∀ xs, tot xs ≤ (encA xs).length
  | [] => Nat.le_refl _
  | x :: xs => by
    have h1 := eR_len lastOf x
    have h2 := encA_tot xs
    rw [encA, List.length_append, tot]
    omega
theorem encM_tot : ∀ o xs, tot xs ≤ (encM o xs).length
  | _, [] => Nat.le_refl _
  | o, x :: xs => by
    have h1 := eR_len (befOf o) x
    have h2 := encM_tot x xs
    rw [encM, List.length_append, tot]
    omega
theorem encT_tot (t : Tr) : t.2.1.length + t.2.2.2.2.2.2.2.1.length + tot t.2.2.2.2.2.2.2.2.1 + tot t.2.2.2.2.2.2.2.2.2 ≤ (encT t).length := by
  have h1 := eR_len lastOf t.2.1
  have h2 := eR_len lastOf t.2.2.2.2.2.2.2.1
  have h3 := encA_tot t.2.2.2.2.2.2.2.2.1
  have h4 := encM_tot [] t.2.2.2.2.2.2.2.2.2
  unfold encT eA eM
  simp only [List.length_append]
  omega
theorem file_len (fu : Int) (sr : List Int) (e si ki ti re : Int) (sc : List Int) (ar ma : List (List Int)) : (file fu sr e si ki ti re sc ar ma).length ≤ 10 * sr.length + 10 * sc.length + 10 * tot ar + 10 * tot ma + 200 := by
  have l0 := start_len fu sr
  have l1 := encNum_len (start fu sr) e
  have l2 := encNum_len (encNum (start fu sr) e) si
  have l3 := encNum_len (encNum (encNum (start fu sr) e) si) ki
  have l4 := encNum_len (encNum (encNum (encNum (start fu sr) e) si) ki) ti
  have l5 := encNum_len (encNum (encNum (encNum (encNum (start fu sr) e) si) ki) ti) re
  have l6 := rowA_len (encNum (encNum (encNum (encNum (encNum (start fu sr) e) si) ki) ti) re) sc
  have l7 := encNum_len (rowA (encNum (encNum (encNum (encNum (encNum (start fu sr) e) si) ki) ti) re) sc) (ar.length : Int)
  have l8 := flatA_len ar (encNum (rowA (encNum (encNum (encNum (encNum (encNum (start fu sr) e) si) ki) ti) re) sc) (ar.length : Int))
  have l9 := encNum_len (flatA ar (encNum (rowA (encNum (encNum (encNum (encNum (encNum (start fu sr) e) si) ki) ti) re) sc) (ar.length : Int))) (ma.length : Int)
  have l10 := flatM_len ma [] (encNum (flatA ar (encNum (rowA (encNum (encNum (encNum (encNum (encNum (start fu sr) e) si) ki) ti) re) sc) (ar.length : Int))) (ma.length : Int))
  unfold file
  rw [closed_len]
  unfold tail
  omega
theorem tot_len : ∀ (l : List (List Int)), l.length ≤ tot l
  | [] => Nat.le_refl _
  | x :: l => by have := tot_len l; rw [tot, List.length_cons]; omega
theorem tot_row : ∀ (l : List (List Int)), ∀ x ∈ l, x.length ≤ tot l
  | [], _, h => by cases h
  | y :: l, x, h => by
    rw [tot]
    rcases List.mem_cons.1 h with h | h
    · subst h; omega
    · have := tot_row l x h; omega
end Go.Proofs.Ytiemdfdebdmchaa.M
