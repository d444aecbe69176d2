/- What the law's proof needs of M9. -/
import Derived.Test.YtiemdfdebdmchaaTrSM8
import Derived.Test.YtiemdfdebdmchaaTrSU2
import Derived.Test.YtiemdfdebdmchaaTrSU
import Derived.Test.YtiemdfdebdmchaaTrSPx0
namespace Go.Proofs.Ytiemdfdebdmchaa.M
open Go.RowKit Go.Proofs.Ytiemdfdebdmchaa.P Go.Proofs.YtiemdfdebdmchaaW.PrintWords Go.Proofs.YtiemdfdebdmchaaW.PrintLast Go.Proofs.YtiemdfdebdmchaaW.PrintMore
theorem Bytes.append {a b : List Int} (ha : Bytes a) (hb : Bytes b) : Bytes (a ++ b) := fun x hx => (List.mem_append.1 hx).elim (ha x) (hb x)
theorem Bytes.nil : Bytes [] := fun x hx => by cases hx
theorem numb_bytes : ∀ (n : Nat) (x : Int), 0 ≤ x → Bytes (numb n x)
  | 0, x, _ => fun d hd => by rw [numb] at hd; exact (List.mem_cons.1 hd).elim (fun h => by omega) (fun h => by cases h)
  | n + 1, x, h0 => by
    rw [numb]
    split
    · intro d hd
      rcases List.mem_cons.1 hd with h | h
      · have := or128 ⟨(x % 256).toNat, by omega⟩
        rw [show (((⟨(x % 256).toNat, by omega⟩ : Fin 256).1 : Nat) : Int) = x % 256 by simp only; omega] at this
        rw [h, this]
        simp only
        omega
      · exact numb_bytes n (x / 128) (by omega) d h
    · intro d hd
      rcases List.mem_cons.1 hd with h | h
      · omega
      · cases h
theorem encR_bytes (f : List Int → Int) : ∀ l xs, Bytes (encR f l xs)
  | _, [] => Bytes.nil
  | l, x :: xs => by
    rw [encR]
    exact (numb_bytes 9 _ (sgn_in _ (wrap64_in64 _)).1).append (encR_bytes f _ xs)
theorem eR_bytes (f : List Int → Int) (l : List Int) : Bytes (eR f l) := (numb_bytes 9 _ (by omega)).append (encR_bytes f [] l)
theorem encA_bytes : ∀ xs, Bytes (encA xs)
  | [] => Bytes.nil
  | x :: xs => by rw [encA]; exact (eR_bytes _ x).append (encA_bytes xs)
theorem encM_bytes : ∀ o xs, Bytes (encM o xs)
  | _, [] => Bytes.nil
  | o, x :: xs => by rw [encM]; exact (eR_bytes _ x).append (encM_bytes x xs)
theorem encT_bytes (t : Tr) (h : VT t) : Bytes (encT t) := by
  obtain ⟨h0, _, h2, h3, h4, h5, h6, _, _, _⟩ := h
  unfold encT
  exact (numb_bytes 9 _ (sgn_in _ h0).1).append ((eR_bytes _ _).append ((numb_bytes 9 _ h2.1).append ((numb_bytes 9 _ h3.1).append ((numb_bytes 9 _ h4.1).append ((numb_bytes 9 _ h5.1).append ((numb_bytes 9 _ h6.1).append ((eR_bytes _ _).append (((numb_bytes 9 _ (by omega)).append (encA_bytes _)).append ((numb_bytes 9 _ (by omega)).append (encM_bytes _ _))))))))))
theorem sumBytes_bytes (s : Int) : Bytes (sumBytes s) := by
  intro d hd
  simp only [sumBytes, List.mem_cons, List.not_mem_nil, or_false] at hd
  omega
theorem closed_bytes (t : Tr) (h : VT t) : Bytes (closed (body t)) := (bytes_magic.append (encT_bytes t h)).append (sumBytes_bytes _)
theorem file_len (fu : Int) (sr : List Int) (e si ki ti re : Int) (sc : List Int) (ar ma : List (List Int)) : (file fu sr e si ki ti re sc ar ma).length ≤ 10 * sr.length + 10 * sc.length + 10 * tot ar + 10 * tot ma + 200 := by
  have l0 := start_len fu sr
  have l1 := encNum_len (start fu sr) e
  have l2 := encNum_len (encNum (start fu sr) e) si
  have l3 := encNum_len (encNum (encNum (start fu sr) e) si) ki
  have l4 := encNum_len (encNum (encNum (encNum (start fu sr) e) si) ki) ti
  have l5 := encNum_len (encNum (encNum (encNum (encNum (start fu sr) e) si) ki) ti) re
  have l6 := rowA_len (encNum (encNum (encNum (encNum (encNum (start fu sr) e) si) ki) ti) re) sc
  have l7 := encNum_len (rowA (encNum (encNum (encNum (encNum (encNum (start fu sr) e) si) ki) ti) re) sc) (ar.length : Int)
  have l8 := flatA_len ar (encNum (rowA (encNum (encNum (encNum (encNum (encNum (start fu sr) e) si) ki) ti) re) sc) (ar.length : Int))
  have l9 := encNum_len (flatA ar (encNum (rowA (encNum (encNum (encNum (encNum (encNum (start fu sr) e) si) ki) ti) re) sc) (ar.length : Int))) (ma.length : Int)
  have l10 := flatM_len ma [] (encNum (flatA ar (encNum (rowA (encNum (encNum (encNum (encNum (encNum (start fu sr) e) si) ki) ti) re) sc) (ar.length : Int))) (ma.length : Int))
  unfold file
  rw [closed_len]
  unfold tail
  omega
theorem tot_len : ∀ (l : List (List Int)), l.length ≤ tot l
  | [] => Nat.le_refl _
  | x :: l => by have := tot_len l; rw [tot, List.length_cons]; omega
theorem tot_row : ∀ (l : List (List Int)), ∀ x ∈ l, x.length ≤ tot l
  | [], _, h => by cases h
  | y :: l, x, h => by
    rw [tot]
    rcases List.mem_cons.1 h with h | h
    · subst h; omega
    · have := tot_row l x h; omega
end Go.Proofs.Ytiemdfdebdmchaa.M
