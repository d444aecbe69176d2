/- What the law's proof needs of PureTraceSpoilt. -/
import Derived.Test.YtiemdfdebdmchaaTrSM9
import Derived.Test.YtiemdfdebdmchaaTrSM10
import Derived.Test.YtiemdfdebdmchaaTrSPx36
import Derived.Test.YtiemdfdebdmchaaTrSPx60
namespace Go.Proofs.Ytiemdfdebdmchaa.Pure
open Go.RowKit Go.Proofs.Ytiemdfdebdmchaa.P Go.Proofs.Ytiemdfdebdmchaa.M Go.Proofs.YtiemdfdebdmchaaW.PrintWords Go.Proofs.YtiemdfdebdmchaaW.PrintLast Go.Proofs.YtiemdfdebdmchaaW.PrintMore
/-- A file that is cut off isn't one. -/
theorem cut_off (t : Tr) (v : VT t) (c : Nat) (hc : c < (closed (body t)).length) (hl : (closed (body t)).length ≤ 1099511627776) : (decR ((closed (body t)).take c)).2 ≠ 0 := by
  intro h
  have hb := closed_bytes t v
  obtain ⟨t', v', _, _, e⟩ := decR_ok _ (hb.take c) (by rw [List.length_take]; omega) h
  have e1 : closed (body t) = closed (body t') ++ (closed (body t)).drop c := by rw [← e, List.take_append_drop]
  have e2 : encT t ++ sumBytes (sumOf (body t)) = encT t' ++ (sumBytes (sumOf (body t')) ++ (closed (body t)).drop c) := by
    have := congrArg (List.drop 5) e1
    rw [← List.append_assoc]
    exact this
  have p1 := reads_trace.back t (sumBytes (sumOf (body t))) v
  have p2 := reads_trace.back t' (sumBytes (sumOf (body t')) ++ (closed (body t)).drop c) v'
  rw [e2, p2] at p1
  injection p1 with p1
  injection p1 with _ p1
  have := congrArg List.length p1
  rw [List.length_append, sumBytes_len, sumBytes_len, List.length_drop] at this
  omega
def errs (p N : Nat) (a : Nat) (i q : Nat) : Bool := decide (p ≤ q ∧ q < p + i ∧ q < N) && a.testBit (q - p)
structure Inv (l : List Int) (p a i : Nat) (x : List Int) (ch : Bool) : Prop where
  len : x.length = l.length
  bytes : Bytes x
  head : x.take 5 = l.take 5
  bit : ∀ q, q < 8 * l.length → bitAt x q = (bitAt l q ^^ errs p (8 * l.length) a i q)
  quiet : ch = false → x = l
  loud : ch = true → ∃ q, errs p (8 * l.length) a i q = true
theorem ends (t : Tr) (v : VT t) (f : FitT t) (hl : (closed (body t)).length ≤ 1099511627776) (p a i : Nat) (hi : i ≤ 32) (x : List Int) (ch : Bool) (h : Inv (closed (body t)) p a i x ch) :
    Evt (fun k => (trace_Decode.f k x).bind fun bt816 => (if ((bt816.2.2.2.2.2.2.2.2.2.2 == 332) == ch) = true then (if ((bt816.2.2.2.2.2.2.2.2.2.2 == 0) == (!ch)) = true then ((gimballaw33_awake.f k).bind fun t836 => (some t836)) else (some false)) else (some false))) true := by
  have hb := closed_bytes t v
  have hlen := closed_len (body t)
  have h5 := body_len t
  refine Evt.bind (decode_ev x h.bytes (by rw [h.len]; exact hl)) ?_
  cases ch with
  | false =>
    rw [h.quiet rfl, decR_file t v f]
    exact Evt.congr (fun k => (if_pos (show (((0 : Int) == 332) == false) = true by decide)).trans (if_pos (show (((0 : Int) == 0) == !false) = true by decide))) (Evt.bind awake_ev (Evt.of 0 (fun k => rfl)))
  | true =>
    obtain ⟨q, hq⟩ := h.loud rfl
    have hq' := hq
    unfold errs at hq'
    simp only [Bool.and_eq_true, decide_eq_true_eq] at hq'
    have hne := burst (closed (body t)) x hb h.bytes h.len (by omega) (errs p (8 * (closed (body t)).length) a i) p q (fun j hj => by
      unfold errs at hj
      simp only [Bool.and_eq_true, decide_eq_true_eq] at hj
      omega) hq hq'.1.2.2 h.bit (by rw [closed_drop, closed_take]; rfl)
    have e : decR x = (none, 332) := by
      unfold decR
      rw [if_neg (by rw [h.len]; omega), if_neg (fun h1 => h1 (h.head.trans rfl)), if_pos (show x.drop (x.length - 4) ≠ sumBytes (sumOf (x.take (x.length - 4))) from hne)]
    rw [e]
    exact Evt.congr (fun k => (if_pos (show (((332 : Int) == 332) == true) = true by decide)).trans (if_pos (show (((332 : Int) == 0) == !true) = true by decide))) (Evt.bind awake_ev (Evt.of 0 (fun k => rfl)))
theorem bit_cond (a : Int) (h0 : 0 ≤ a) (h1 : a < 4294967296) (i : Nat) (hi : i < 32) : (Go.bits .and .u32 (shr .u32 a (IntKind.u64.wrap (i : Int))) 1 = 1) ↔ a.toNat.testBit i = true := by
  obtain ⟨b, rfl⟩ := Int.eq_ofNat_of_zero_le h0
  have e : shr .u32 (b : Int) (IntKind.u64.wrap (i : Int)) = ((b / 2 ^ i : Nat) : Int) := by
    rw [wrap_u64 _ (by omega) (by omega)]
    have hb : IntKind.u32.bits = 32 := rfl
    refine (shr_small (k := .u32) (x := (b : Int)) (y := (i : Int)) rfl (by rw [hb]; omega)).symm.trans ?_
    rw [Int.toNat_natCast, Int.natCast_ediv, Int.natCast_pow]
    rfl
  have hlt : b / 2 ^ i ≤ b := Nat.div_le_self _ _
  rw [e, Int.toNat_natCast, Nat.testBit_eq_decide_div_mod_eq, decide_eq_true_eq]
  generalize b / 2 ^ i = y at hlt ⊢
  rw [and1 _ (by omega) (by omega)]
  omega
theorem getD_set (x : List Int) (j n : Nat) (v : Int) (hj : j < x.length) : (x.set j v).getD n 0 = if n = j then v else x.getD n 0 := by
  rw [List.getD_eq_getElem?_getD, List.getD_eq_getElem?_getD, List.getElem?_set]
  by_cases h : j = n
  · subst h; simp [hj]
  · rw [if_neg h, if_neg (fun e => h e.symm)]
theorem flip (x : List Int) (hb : Bytes x) (j r : Nat) (hj : j < x.length) (hr : r < 8) :
    Bytes (x.set j (Go.bits .xor .u8 (rd x (j : Int)) (shl .u8 1 (r : Int)))) ∧ ∀ q, bitAt (x.set j (Go.bits .xor .u8 (rd x (j : Int)) (shl .u8 1 (r : Int)))) q = (bitAt x q ^^ decide (q = 8 * j + r)) := by
  have hx := hb x[j] (List.getElem_mem hj)
  have e1 : shl .u8 1 (r : Int) = ((2 ^ r : Nat) : Int) := by
    have hbts : IntKind.u8.bits = 8 := rfl
    refine (shl_small (k := .u8) (x := 1) (y := (r : Int)) rfl (by rw [hbts]; omega)).symm.trans ?_
    rw [Int.toNat_natCast, Int.one_mul]
    have : ∀ r : Fin 8, IntKind.u8.wrap (2 ^ r.1) = ((2 ^ r.1 : Nat) : Int) := by decide
    exact this ⟨r, hr⟩
  have hp : (2 : Nat) ^ r < 256 := Nat.lt_of_lt_of_le (Nat.pow_lt_pow_right (by decide) hr) (by decide)
  have e2 : Go.bits .xor .u8 (rd x (j : Int)) (shl .u8 1 (r : Int)) = ((x[j].toNat ^^^ 2 ^ r : Nat) : Int) := by
    rw [e1, rd_get hj, u8_xor _ _ hx.1 hx.2 (Int.natCast_nonneg _) (Int.ofNat_lt.2 hp), Int.toNat_natCast]
  have hlt : x[j].toNat ^^^ 2 ^ r < 2 ^ 8 := Nat.xor_lt_two_pow (by omega) hp
  rw [e2]
  refine ⟨fun d hd => ?_, fun q => ?_⟩
  · rcases List.mem_or_eq_of_mem_set hd with h | h
    · exact hb d h
    · rw [h]; omega
  · unfold bitAt
    rw [getD_set x j (q / 8) _ hj]
    by_cases h : q / 8 = j
    · rw [if_pos h, Int.toNat_natCast, Nat.testBit_xor, Nat.testBit_two_pow, h, List.getD_eq_getElem?_getD, List.getElem?_eq_getElem hj, Option.getD_some]
      congr 1
      exact decide_eq_decide.2 (by omega)
    · rw [if_neg h, decide_eq_false (by omega), Bool.xor_false]
theorem errs_step (p N a i q : Nat) : errs p N a (i + 1) q = (errs p N a i q ^^ (decide (q = p + i ∧ q < N) && a.testBit i)) := by
  unfold errs
  by_cases hq : q = p + i
  · subst hq
    rw [Nat.add_sub_cancel_left, decide_eq_false (show ¬ (p ≤ p + i ∧ p + i < p + i ∧ p + i < N) by omega), Bool.false_and, Bool.false_xor]
    congr 1
    exact decide_eq_decide.2 (by omega)
  · rw [decide_eq_false (show ¬ (q = p + i ∧ q < N) from fun h => hq h.1), Bool.false_and, Bool.xor_false]
    congr 1
    exact decide_eq_decide.2 (by omega)
theorem idx_lt {A L N X : Nat} (h : A < N) (hN : N = 8 * (L - 5)) (hx : X = L) : 5 + A / 8 < X := by omega
theorem pos_eq (A : Nat) : 8 * (5 + A / 8) + A % 8 = 40 + A := by omega
theorem in_lt {A L N : Nat} (h : A < N) (hN : N = 8 * (L - 5)) : 40 + A < 8 * L := by omega
theorem w_at (A B : Nat) (h : A + B < 9223372036854775808) : wrap64 ((A : Int) + (B : Int)) = ((A + B : Nat) : Int) := by rw [wrap64_in _ (by omega)]; omega
theorem w_div (A : Nat) (h : A < 9223372036854775808) : wrap64 (Int.tdiv ((A : Nat) : Int) 8) = ((A / 8 : Nat) : Int) := by
  rw [Int.tdiv_eq_ediv_of_nonneg (by omega), wrap64_in _ (by omega)]; omega
theorem w_idx (A : Nat) (h : A < 9223372036854775) : wrap64 (5 + ((A : Nat) : Int)) = ((5 + A : Nat) : Int) := by rw [wrap64_in _ (by omega)]; omega
theorem w_mod (A : Nat) : IntKind.u64.wrap (Int.tmod ((A : Nat) : Int) 8) = ((A % 8 : Nat) : Int) := by
  have e8 : Int.tmod ((A : Nat) : Int) 8 = ((A % 8 : Nat) : Int) := (Int.tmod_eq_emod_of_nonneg (Int.natCast_nonneg _)).trans (Int.natCast_emod A 8).symm
  have hlt8 : A % 8 < 8 := Nat.mod_lt _ (by decide)
  generalize A % 8 = y at e8 hlt8 ⊢
  rw [e8]
  exact wrap_u64 _ (Int.natCast_nonneg _) (by omega)
theorem bound {L N A : Nat} (hl : L ≤ 1099511627776) (hN : N = 8 * (L - 5)) (h : A < N) : A < 8796093022208 := by omega
abbrev rest (k : Nat) (x : List Int) (ch : Bool) : Option Bool := (trace_Decode.f k x).bind fun bt816 => (if ((bt816.2.2.2.2.2.2.2.2.2.2 == 332) == ch) = true then (if ((bt816.2.2.2.2.2.2.2.2.2.2 == 0) == (!ch)) = true then ((gimballaw33_awake.f k).bind fun t836 => (some t836)) else (some false)) else (some false))
theorem round (l : List Int) (N : Nat) (hN : N = 8 * (l.length - 5)) (p a i A : Nat) (hp : p + i = 40 + A) (hA : A < N) (x : List Int) (ch : Bool) (h : Inv l p a i x ch) (hbit : a.testBit i = true) :
    Inv l p a (i + 1) (x.set (5 + A / 8) (Go.bits .xor .u8 (rd x ((5 + A / 8 : Nat) : Int)) (shl .u8 1 ((A % 8 : Nat) : Int)))) true := by
  obtain ⟨fb, fbit⟩ := flip x h.bytes (5 + A / 8) (A % 8) (idx_lt hA hN h.len) (Nat.mod_lt _ (by decide))
  have hin := in_lt hA hN
  refine ⟨by rw [List.length_set, h.len], fb, by rw [List.take_set_of_le (Nat.le_add_right _ _), h.head], fun q hq8 => ?_, fun h => (by cases h), fun _ => ⟨p + i, ?_⟩⟩
  · rw [fbit q, h.bit q hq8, errs_step, Bool.xor_assoc, hbit, Bool.and_true, pos_eq, ← hp]
    congr 2
    exact decide_eq_decide.2 ⟨fun h => ⟨h, hq8⟩, fun h => h.1⟩
  · unfold errs
    rw [decide_eq_true (by omega), Nat.add_sub_cancel_left, hbit]
    rfl
theorem round0 (l : List Int) (p a i : Nat) (x : List Int) (ch : Bool) (h : Inv l p a i x ch) (hbit : ¬ a.testBit i = true) : Inv l p a (i + 1) x ch := by
  have same : ∀ q, errs p (8 * l.length) a (i + 1) q = errs p (8 * l.length) a i q := fun q => by rw [errs_step, Bool.eq_false_iff.2 hbit, Bool.and_false, Bool.xor_false]
  exact ⟨h.len, h.bytes, h.head, fun q hq => by rw [same]; exact h.bit q hq, h.quiet, fun hc => by obtain ⟨q, hq⟩ := h.loud hc; exact ⟨q, by rw [same]; exact hq⟩⟩
theorem loop (l : List Int) (N : Nat) (hN : N = 8 * (l.length - 5)) (hl : l.length ≤ 1099511627776) (at_ : Nat) (hend : ∀ (a i : Nat) (x : List Int) (ch : Bool), i ≤ 32 → Inv l (40 + at_) a i x ch → Evt (fun k => rest k x ch) true) (a2 : Int) (h0 : 0 ≤ a2) (h1 : a2 < 4294967296) (hat : at_ < N) : ∀ (m i : Nat) (x : List Int) (ch : Bool), i + m = 32 → Inv l (40 + at_) a2.toNat i x ch →
    Evt (fun k => gimballaw33_TraceSpoilt.l0 k (at_ : Int) a2 x (N : Int) ch (i : Int)) true
  | 0, i, x, ch, hi, h => by
    refine Evt.step (fun k => by rw [gimballaw33_TraceSpoilt.l0, if_neg (by omega)]) ?_
    refine Evt.step (fun k => by rw [gimballaw33_TraceSpoilt.j1, if_neg (by simp)]) ?_
    exact hend _ i x ch (by omega) h
  | m + 1, i, x, ch, hi, h => by
    have hi32 : i < 32 := by omega
    have hb := bound hl hN hat
    refine Evt.step (fun k => by rw [gimballaw33_TraceSpoilt.l0, if_pos (by omega), w_at at_ i (by omega)]) ?_
    by_cases hlt : at_ + i < N
    case neg =>
      refine Evt.step (fun k => by rw [gimballaw33_TraceSpoilt.j1, decide_eq_false (by omega), if_neg (by simp)]) ?_
      exact hend _ i x ch (by omega) h
    case pos =>
      have hA := bound hl hN hlt
      have c1 : decide (((at_ + i : Nat) : Int) < (N : Int)) = true := decide_eq_true (by omega)
      have hu : 0 ≤ IntKind.u64.wrap (i : Int) := (u64_in _).1
      have hstep : wrap64 ((i : Int) + 1) = ((i + 1 : Nat) : Int) := nat_step i (by omega)
      have hn : i + 1 + m = 32 := by omega
      by_cases hbit : a2.toNat.testBit i = true
      · have ih := loop l N hN hl at_ hend a2 h0 h1 hat m (i + 1) _ true hn (round l N hN (40 + at_) a2.toNat i (at_ + i) (Nat.add_assoc _ _ _) hlt x ch h hbit)
        have c4 : ((5 + (at_ + i) / 8 : Nat) : Int) < (x.length : Int) := Int.ofNat_lt.2 (idx_lt hlt hN h.len)
        have hB : at_ + i < 9223372036854775 := by omega
        have hw := w_at at_ i (Nat.lt_of_lt_of_le hB (by decide))
        have hidx := w_idx ((at_ + i) / 8) (Nat.lt_of_le_of_lt (Nat.div_le_self _ _) hB)
        have hq := w_div (at_ + i) (Nat.lt_of_lt_of_le hB (by decide))
        have hr := w_mod (at_ + i)
        have c2 := (bit_cond a2 h0 h1 i hi32).2 hbit
        refine Evt.step (fun k => ?_) ih
        rw [gimballaw33_TraceSpoilt.j1, if_pos c1, if_pos hu, if_pos c2, hw, hq, hidx, if_pos (Int.natCast_nonneg _), if_pos c4, hr, if_pos (Int.natCast_nonneg _), hstep, Int.toNat_natCast]
      · have ih := loop l N hN hl at_ hend a2 h0 h1 hat m (i + 1) x ch hn (round0 l (40 + at_) a2.toNat i x ch h hbit)
        refine Evt.step (fun k => ?_) ih
        rw [gimballaw33_TraceSpoilt.j1, if_pos c1, if_pos hu, if_neg (fun hc => hbit ((bit_cond a2 h0 h1 i hi32).1 hc)), hstep]
theorem mod_nat (a n : Int) (hn : 0 < n) (hn2 : n < 9223372036854775808) : ∃ c : Nat, wrap64 (Int.tmod (IntKind.u64.wrap a) n) = (c : Int) ∧ (c : Int) < n := by
  have h := u64_in a
  have h1 := Int.emod_nonneg (IntKind.u64.wrap a) (show n ≠ 0 by omega)
  have h2 := Int.emod_lt_of_pos (IntKind.u64.wrap a) hn
  rw [Int.tmod_eq_emod_of_nonneg h.1, wrap64_in _ (by omega)]
  exact ⟨(IntKind.u64.wrap a % n).toNat, by omega, by omega⟩
theorem TraceSpoilt (fu : Int) (sr : List Int) (e si ki ti re : Int) (sc : List Int) (ar ma : List (List Int)) (a1 a2 a3 : Int) (h0 : In64 fu) (h1 : Row sr) (h2 : In64 e) (h3 : In64 si) (h4 : In64 ki) (h5 : In64 ti) (h6 : In64 re) (h7 : Row sc) (h8 : Rws ar) (h9 : Rws ma)
    (hb0 : 0 ≤ a2) (hb1 : a2 < 4294967296) (hs : sr.length + sc.length + tot ar + tot ma ≤ 2097152) : ∃ k, gimballaw33_TraceSpoilt.f k fu sr e si ki ti re sc ar ma a1 a2 a3 = some true := by
  refine Evt.is ?_
  have ha := tot_len ar
  have hm := tot_len ma
  unfold gimballaw33_TraceSpoilt.f
  refine Evt.bind (encode_ev fu sr e si ki ti re sc ar ma (by omega) (by omega) (by omega)) ?_
  by_cases hf : Fit e si ki ti re ma
  case neg =>
    rw [if_neg hf]
    refine Evt.congr (fun k => if_neg (by decide)) ?_
    refine Evt.bind (Evt.of 0 (fun k => reffit_eq fu sr e si ki ti re sc ar ma)) ?_
    refine Evt.congr (fun k => if_neg (by rw [decide_eq_false hf]; simp)) ?_
    exact Evt.bind awake_ev (Evt.of 0 (fun k => rfl))
  case pos =>
    rw [if_pos hf]
    have hv : VT (fu, sr, e, si, ki, ti, re, sc, ar, ma) := ⟨h0, h1, ⟨show 0 ≤ e by have := hf.1; omega, h2.2⟩, ⟨hf.2.2.1, h3.2⟩, ⟨hf.2.2.2.1, h4.2⟩, ⟨hf.2.2.2.2.1, h5.2⟩, ⟨hf.2.2.2.2.2.1, h6.2⟩, h7, h8, h9⟩
    have hfl := file_len fu sr e si ki ti re sc ar ma
    rw [file_eq fu sr e si ki ti re sc ar ma hv] at hfl ⊢
    obtain ⟨t, ht⟩ : ∃ t : Tr, t = (fu, sr, e, si, ki, ti, re, sc, ar, ma) := ⟨_, rfl⟩
    have hft : FitT t := by rw [ht]; exact hf
    rw [← ht] at hv hfl ⊢
    have hlen := closed_len (body t)
    have hb5 := body_len t
    have hwl : IntKind.u64.wrap ((closed (body t)).length : Int) = ((closed (body t)).length : Int) := wrap_u64 _ (by omega) (by omega)
    obtain ⟨c, hc, hcl⟩ := mod_nat a3 ((closed (body t)).length : Int) (by omega) (by omega)
    refine Evt.congr (fun k => by simp only; rw [if_pos trivial, if_neg (by omega), hwl, if_neg (by omega), hc, if_pos (by omega), if_pos (by omega), Int.toNat_natCast]) ?_
    refine Evt.bind (decode_ev ((closed (body t)).take c) ((closed_bytes t hv).take c) (by rw [List.length_take]; omega)) ?_
    have hcut := cut_off t hv c (by omega) (by omega)
    have e0 : (outT (decR ((closed (body t)).take c))).2.2.2.2.2.2.2.2.2.2 = (decR ((closed (body t)).take c)).2 := by
      generalize decR ((closed (body t)).take c) = x
      obtain ⟨o, e⟩ := x
      cases o <;> rfl
    have hn : wrap64 (8 * (wrap64 (((closed (body t)).length : Int) - 5))) = ((8 * ((closed (body t)).length - 5) : Nat) : Int) := by
      rw [wrap64_in (((closed (body t)).length : Int) - 5) (by omega), wrap64_in _ (by omega)]; omega
    have hnu : IntKind.u64.wrap ((8 * ((closed (body t)).length - 5) : Nat) : Int) = ((8 * ((closed (body t)).length - 5) : Nat) : Int) := wrap_u64 _ (by omega) (by omega)
    obtain ⟨at_, hat, hatl⟩ := mod_nat a1 ((8 * ((closed (body t)).length - 5) : Nat) : Int) (by omega) (by omega)
    refine Evt.congr (fun k => by rw [if_neg (by rw [e0]; exact hcut), hn, hnu, if_neg (by omega), hat]) ?_
    exact loop (closed (body t)) (8 * ((closed (body t)).length - 5)) rfl (by omega) at_ (fun a i x ch hi h => ends t hv hft (by omega) _ a i hi x ch h) a2 hb0 hb1 (by omega) 32 0 _ false rfl ⟨rfl, closed_bytes t hv, rfl, fun q _ => by unfold errs; rw [decide_eq_false (by omega), Bool.false_and, Bool.xor_false], fun _ => rfl, fun h => by cases h⟩
end Go.Proofs.Ytiemdfdebdmchaa.Pure
