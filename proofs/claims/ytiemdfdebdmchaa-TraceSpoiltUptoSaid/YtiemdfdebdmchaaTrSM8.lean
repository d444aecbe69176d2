/- What the law's proof needs of M8. -/
import Derived.Test.YtiemdfdebdmchaaTrSM7
import Derived.Test.YtiemdfdebdmchaaTrSPx19
import Derived.Test.YtiemdfdebdmchaaTrSS5
namespace Go.Proofs.Ytiemdfdebdmchaa.M
open Go.RowKit Go.Proofs.Ytiemdfdebdmchaa.P Go.Proofs.YtiemdfdebdmchaaW.PrintWords Go.Proofs.YtiemdfdebdmchaaW.PrintLast Go.Proofs.YtiemdfdebdmchaaW.PrintMore
theorem bequal_loop : ∀ (m : Nat) (x y : List Int) (n : Nat), n + m = x.length → x.length = y.length → x.length ≤ 9223372036854775807 →
    Evt (fun k => slices_Equal_byte_byte.l0 k x y (x.length : Int) (n : Int)) (decide (x.drop n = y.drop n))
  | 0, x, y, n, hn, hl, hx => by
    rw [List.drop_eq_nil_of_le (by omega), List.drop_eq_nil_of_le (by omega), decide_eq_true rfl]
    refine Evt.of 1 (fun k => ?_)
    rw [slices_Equal_byte_byte.l0, if_neg (by omega)]
  | m + 1, x, y, n, hn, hl, hx => by
    have h1 : n < x.length := by omega
    have h2 : n < y.length := by omega
    by_cases he : x[n] = y[n]
    · have e : decide (x.drop n = y.drop n) = decide (x.drop (n + 1) = y.drop (n + 1)) := by
        rw [List.drop_eq_getElem_cons h1, List.drop_eq_getElem_cons h2, he]
        exact decide_eq_decide.2 ⟨fun h => (List.cons.inj h).2, fun h => by rw [h]⟩
      rw [e]
      refine Evt.step (fun k => ?_) (bequal_loop m x y (n + 1) (by omega) hl hx)
      rw [slices_Equal_byte_byte.l0, if_pos (by omega), if_pos (by omega), if_pos (by omega), if_pos (by omega), if_pos (by rw [rd_get h1, rd_get h2, he]), nat_step n (by omega)]
    · have e : decide (x.drop n = y.drop n) = false := by
        rw [List.drop_eq_getElem_cons h1, List.drop_eq_getElem_cons h2]
        exact decide_eq_false (fun h => he (List.cons.inj h).1)
      rw [e]
      refine Evt.of 1 (fun k => ?_)
      rw [slices_Equal_byte_byte.l0, if_pos (by omega), if_pos (by omega), if_pos (by omega), if_pos (by omega), if_neg (by rw [rd_get h1, rd_get h2]; exact he)]
theorem bequal_ev (x y : List Int) (hx : x.length ≤ 9223372036854775807) : Evt (fun k => slices_Equal_byte_byte.f k x y) (decide (x = y)) := by
  unfold slices_Equal_byte_byte.f
  by_cases hl : x.length = y.length
  · refine Evt.congr (fun k => if_pos (by omega)) ?_
    exact bequal_loop x.length x y 0 (by omega) hl hx
  · refine Evt.congr (fun k => if_neg (by omega)) ?_
    rw [decide_eq_false (fun h => hl (by rw [h]))]
    exact Evt.of 0 (fun k => rfl)
theorem str_list (a : List Int) : (strOfNums a).toList = a.map (fun n => UInt8.ofNat n.toNat) := by rw [ByteArray.toList_eq]; unfold strOfNums; simp
theorem str_inj : ∀ {a b : List Int}, Bytes a → Bytes b → (strOfNums a).toList = (strOfNums b).toList → a = b
  | [], [], _, _, _ => rfl
  | [], _ :: _, _, _, h => by rw [str_list, str_list] at h; simp at h
  | _ :: _, [], _, _, h => by rw [str_list, str_list] at h; simp at h
  | x :: a, y :: b, ha, hb, h => by
    have hx := ha x List.mem_cons_self
    have hy := hb y List.mem_cons_self
    rw [str_list, str_list, List.map_cons, List.map_cons] at h
    injection h with h1 h2
    have e := congrArg UInt8.toNat h1
    rw [UInt8.toNat_ofNat', UInt8.toNat_ofNat'] at e
    rw [show x = y by omega, str_inj ha.tail hb.tail (by rw [str_list, str_list]; exact h2)]
theorem bytes_magic : Bytes magic := by intro d hd; simp only [magic, List.mem_cons, List.not_mem_nil, or_false] at hd; omega
theorem str_magic : (strOfNums magic).toList = ([71, 84, 82, 67, 1] : List UInt8) := by rw [str_list]; rfl
def FitT (t : Tr) : Prop := Fit t.2.2.1 t.2.2.2.1 t.2.2.2.2.1 t.2.2.2.2.2.1 t.2.2.2.2.2.2.1 t.2.2.2.2.2.2.2.2.2
instance (t : Tr) : Decidable (FitT t) := by unfold FitT; infer_instance
def readT (s : List Int) : Option Tr := match ptrace s with
  | some (t, []) => if FitT t then some t else none
  | _ => none
def decR (l : List Int) : Option Tr × Int :=
  if l.length < 9 then (none, 330) else if l.take 5 ≠ magic then (none, 331) else if l.drop (l.length - 4) ≠ sumBytes (sumOf (l.take (l.length - 4))) then (none, 332) else
    match readT ((l.take (l.length - 4)).drop 5) with
    | some t => (some t, 0)
    | none => (none, 333)
def outT (x : Option Tr × Int) : Int × List Int × Int × Int × Int × Int × Int × List Int × List (List Int) × List (List Int) × Int := match x.1 with
  | some t => (t.1, t.2.1, t.2.2.1, t.2.2.2.1, t.2.2.2.2.1, t.2.2.2.2.2.1, t.2.2.2.2.2.2.1, t.2.2.2.2.2.2.2.1, t.2.2.2.2.2.2.2.2.1, t.2.2.2.2.2.2.2.2.2, x.2)
  | none => (0, [], 0, 0, 0, 0, 0, [], [], [], x.2)
theorem decode_ev (l : List Int) (hb : Bytes l) (hl : l.length ≤ 1099511627776) : Evt (fun k => trace_Decode.f k l) (outT (decR l)) := by
  unfold trace_Decode.f decR
  by_cases h9 : l.length < 9
  · rw [if_pos h9]
    exact Evt.of 0 (fun k => by rw [if_pos (by omega)]; rfl)
  rw [if_neg h9]
  refine Evt.congr (fun k => by rw [if_neg (by omega), if_pos (by omega)]) ?_
  by_cases hm : l.take 5 = magic
  case neg =>
    rw [if_pos hm]
    exact Evt.of 0 (fun k => by rw [if_neg (fun h => hm (str_inj (hb.take 5) bytes_magic (h.trans str_magic.symm)))]; rfl)
  rw [if_neg (fun h => h hm)]
  have hw : wrap64 ((l.length : Int) - 4) = ((l.length - 4 : Nat) : Int) := by rw [wrap64_in _ (by omega)]; omega
  have hT : (wrap64 ((l.length : Int) - 4)).toNat = l.length - 4 := by rw [hw, Int.toNat_natCast]
  have hTl : (l.take (l.length - 4)).length = l.length - 4 := by rw [List.length_take]; omega
  refine Evt.congr (fun k => by rw [if_pos (show (strOfNums (l.take 5)).toList = ([71, 84, 82, 67, 1] : List UInt8) by rw [hm]; exact str_magic), if_pos (show 0 ≤ wrap64 ((l.length : Int) - 4) by rw [hw]; omega), if_pos (show wrap64 ((l.length : Int) - 4) ≤ (l.length : Int) by rw [hw]; omega), hT]) ?_
  refine Evt.bind (code_ev (l.take (l.length - 4)) (by omega)) ?_
  refine Evt.bind (bequal_ev (l.drop (l.length - 4)) (sumBytes (sumOf (l.take (l.length - 4)))) (by rw [List.length_drop]; omega)) ?_
  by_cases hs : l.drop (l.length - 4) = sumBytes (sumOf (l.take (l.length - 4)))
  case neg =>
    rw [if_pos hs]
    exact Evt.of 0 (fun k => by rw [if_neg (by rw [decide_eq_false hs]; simp)]; rfl)
  rw [if_neg (fun h => h hs)]
  refine Evt.congr (fun k => if_pos (decide_eq_true hs)) ?_
  obtain ⟨t, a, b, he, h1, h2, _, _, h5⟩ := trace_spec (l.take (l.length - 4)) (hb.take _) (by omega) false 5 (by omega)
  obtain ⟨h6, h7⟩ := h5 rfl
  refine Evt.bind he ?_
  have bad333 : readT ((l.take (l.length - 4)).drop 5) = none → outT (match readT ((l.take (l.length - 4)).drop 5) with | some t => (some t, 0) | none => (none, 333)) = (0, [], 0, 0, 0, 0, 0, [], [], [], 333) := fun h => by rw [h]; rfl
  cases hp : ptrace ((l.take (l.length - 4)).drop 5) with
  | none =>
    rw [bad333 (by unfold readT; rw [hp])]
    exact Evt.of 0 (fun k => if_pos (h7 hp))
  | some x =>
    obtain ⟨t', s⟩ := x
    obtain ⟨rfl, e2, rfl⟩ := h6 t' s hp
    by_cases hs0 : s = []
    case neg =>
      rw [bad333 (by unfold readT; rw [hp]; cases s with | nil => exact absurd rfl hs0 | cons _ _ => rfl)]
      refine Evt.of 0 (fun k => ?_)
      simp only
      rw [if_neg (by simp), if_neg (fun h => hs0 (by rw [← e2]; exact List.drop_eq_nil_of_le (by omega)))]
    subst hs0
    have ha : a = (l.take (l.length - 4)).length := by
      have := congrArg List.length e2
      rw [List.length_drop, List.length_nil] at this
      omega
    refine Evt.congr (fun k => by simp only; rw [if_neg (by simp), if_pos (by omega)]) ?_
    refine Evt.bind (Evt.of 0 (fun k => fit_eq _ _ _ _ _ _ _ _ _ _)) ?_
    by_cases hf : FitT t
    · have er : readT ((l.take (l.length - 4)).drop 5) = some t := by unfold readT; rw [hp]; exact if_pos hf
      rw [er]
      exact Evt.of 0 (fun k => (if_pos (decide_eq_true (show Fit _ _ _ _ _ _ from hf))).trans rfl)
    · rw [bad333 (by unfold readT; rw [hp]; exact if_neg hf)]
      exact Evt.of 0 (fun k => if_neg (fun h => hf (of_decide_eq_true h)))
theorem sumBytes_len (s : Int) : (sumBytes s).length = 4 := rfl
theorem closed_take (b : List Int) : (closed b).take ((closed b).length - 4) = b := by
  unfold closed
  rw [List.length_append, sumBytes_len, Nat.add_sub_cancel, List.take_left']
  rfl
theorem closed_drop (b : List Int) : (closed b).drop ((closed b).length - 4) = sumBytes (sumOf b) := by
  unfold closed
  rw [List.length_append, sumBytes_len, Nat.add_sub_cancel, List.drop_left']
  rfl
theorem closed_len (b : List Int) : (closed b).length = b.length + 4 := by unfold closed; rw [List.length_append, sumBytes_len]
theorem body_len (t : Tr) : 5 ≤ (body t).length := by unfold body; rw [List.length_append]; exact Nat.le_add_right _ _
theorem body_drop (t : Tr) : (body t).drop 5 = encT t := rfl
theorem decR_file (t : Tr) (h : VT t) (hf : FitT t) : decR (closed (body t)) = (some t, 0) := by
  have hl := closed_len (body t)
  have h5 := body_len t
  unfold decR
  rw [if_neg (by omega), if_neg, if_neg]
  · rw [closed_take, body_drop]
    have hb := reads_trace.back t [] h
    rw [List.append_nil] at hb
    unfold readT
    rw [hb]
    simp only
    rw [if_pos hf]
  · rw [closed_take, closed_drop]
    exact fun h => h rfl
  · intro hne
    apply hne
    rfl
theorem decR_ok (l : List Int) (hb : Bytes l) (hl : l.length ≤ 1099511627776) (h : (decR l).2 = 0) : ∃ t, VT t ∧ FitT t ∧ decR l = (some t, 0) ∧ l = closed (body t) := by
  unfold decR at h ⊢
  by_cases h9 : l.length < 9
  · rw [if_pos h9] at h; exact absurd h (by decide)
  rw [if_neg h9] at h ⊢
  by_cases hm : l.take 5 = magic
  case neg => rw [if_pos hm] at h; exact absurd h (by decide)
  rw [if_neg (fun h => h hm)] at h ⊢
  by_cases hs : l.drop (l.length - 4) = sumBytes (sumOf (l.take (l.length - 4)))
  case neg => rw [if_pos hs] at h; exact absurd h (by decide)
  rw [if_neg (fun h => h hs)] at h ⊢
  cases hr : readT ((l.take (l.length - 4)).drop 5) with
  | none => rw [hr] at h; exact absurd h (by decide)
  | some t =>
    have hr' := hr
    unfold readT at hr'
    cases hp : ptrace ((l.take (l.length - 4)).drop 5) with
    | none => rw [hp] at hr'; cases hr'
    | some x =>
      obtain ⟨t', s⟩ := x
      rw [hp] at hr'
      cases s with
      | cons _ _ => cases hr'
      | nil =>
        simp only at hr'
        split at hr'
        · rename_i hf
          injection hr' with hr'
          subst hr'
          obtain ⟨e1, v1⟩ := reads_trace.sound ((hb.take _).drop _) (by unfold Short; rw [List.length_drop, List.length_take]; omega) hp
          rw [List.append_nil] at e1
          refine ⟨t', v1, hf, rfl, ?_⟩
          have e5 : (l.take (l.length - 4)).take 5 = magic := by rw [List.take_take, Nat.min_eq_left (by omega), hm]
          have e0 : l.take (l.length - 4) = body t' := by
            rw [← List.take_append_drop 5 (l.take (l.length - 4)), e5, e1]
            rfl
          rw [← List.take_append_drop (l.length - 4) l, hs, e0]
          rfl
        · cases hr'
end Go.Proofs.Ytiemdfdebdmchaa.M
