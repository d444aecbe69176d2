/- What the law's proof needs of PureTraceReads. -/
import Derived.Test.YtiemdfdebdmchaaTrVU4
import Derived.Test.YtiemdfdebdmchaaTrVU
import Derived.Test.YtiemdfdebdmchaaTrVPx0
import Derived.Test.YtiemdfdebdmchaaTrVPx16
import Derived.Test.YtiemdfdebdmchaaTrVPx60
import Derived.Laws.BitsAllLaws
import Derived.Test.YtiemdfdebdmchaaTrVS1
import Derived.Test.YtiemdfdebdmchaaTrVPx4
import Derived.Test.YtiemdfdebdmchaaTrVPx7
import Derived.Test.YtiemdfdebdmchaaTrVPx8
import Derived.Test.YtiemdfdebdmchaaTrVPx9
import Derived.Test.YtiemdfdebdmchaaTrVPx5
import Derived.Test.YtiemdfdebdmchaaTrVPx6
import Derived.Test.YtiemdfdebdmchaaTrVPx11
import Derived.Test.YtiemdfdebdmchaaTrVPx20
import Derived.Test.YtiemdfdebdmchaaTrVPx21
import Derived.Test.YtiemdfdebdmchaaTrVPx22
import Derived.Test.YtiemdfdebdmchaaTrVPx23
import Derived.Test.YtiemdfdebdmchaaTrVS4
import Derived.Test.YtiemdfdebdmchaaTrVPx24
import Derived.Laws.Strings
import Derived.Test.YtiemdfdebdmchaaTrVPx19
import Derived.Test.YtiemdfdebdmchaaTrVS5
import Derived.Test.YtiemdfdebdmchaaTrVPx33
import Derived.Test.YtiemdfdebdmchaaTrVPx26
import Derived.Test.YtiemdfdebdmchaaTrVPx27
import Derived.Test.YtiemdfdebdmchaaTrVPx28
import Derived.Test.YtiemdfdebdmchaaTrVPx29
import Derived.Test.YtiemdfdebdmchaaTrVPx30
namespace Go.Proofs.Ytiemdfdebdmchaa.M
open Go.RowKit Go.Proofs.Ytiemdfdebdmchaa.P Go.Proofs.YtiemdfdebdmchaaW.PrintWords Go.Proofs.YtiemdfdebdmchaaW.PrintLast
/-- From some number of rounds on. -/
def Evt {α : Type} (f : Nat → Option α) (r : α) : Prop := ∃ n, ∀ k, n ≤ k → f k = some r
theorem Evt.step {α : Type} {f g : Nat → Option α} {r : α} (h : ∀ k, f (k + 1) = g k) (hg : Evt g r) : Evt f r := by
  obtain ⟨n, hn⟩ := hg
  refine ⟨n + 1, fun k hk => ?_⟩
  obtain ⟨j, rfl⟩ : ∃ j, k = j + 1 := ⟨k - 1, by omega⟩
  rw [h]
  exact hn j (by omega)
theorem Evt.of {α : Type} {f : Nat → Option α} {r : α} (n : Nat) (h : ∀ k, f (k + n) = some r) : Evt f r := by
  refine ⟨n, fun k hk => ?_⟩
  obtain ⟨j, rfl⟩ : ∃ j, k = j + n := ⟨k - n, by omega⟩
  exact h j
theorem Evt.up {α : Type} {f : Nat → Option α} {r : α} (hm : ∀ k, LeO (f k) (f (k + 1))) (n : Nat) (h : f n = some r) : Evt f r := by
  refine ⟨n, fun k hk => ?_⟩
  obtain ⟨j, rfl⟩ : ∃ j, k = n + j := ⟨k - n, by omega⟩
  clear hk
  induction j with
  | zero => exact h
  | succ j ih => exact hm _ _ ih
theorem Evt.bind {α β : Type} {f : Nat → Option α} {g : Nat → α → Option β} {a : α} {b : β} (hf : Evt f a) (hg : Evt (fun k => g k a) b) : Evt (fun k => (f k).bind fun x => g k x) b := by
  obtain ⟨n, hn⟩ := hf
  obtain ⟨m, hm⟩ := hg
  refine ⟨n + m, fun k hk => ?_⟩
  simp only [hn k (by omega), Option.bind_some]
  exact hm k (by omega)
theorem Evt.congr {α : Type} {f g : Nat → Option α} {r : α} (h : ∀ k, f k = g k) (hg : Evt g r) : Evt f r := by
  obtain ⟨n, hn⟩ := hg
  exact ⟨n, fun k hk => (h k).trans (hn k hk)⟩
theorem wrap64_in (n : Int) (h : -9223372036854775808 ≤ n ∧ n ≤ 9223372036854775807) : wrap64 n = n := by unfold wrap64; omega
theorem nat_step (n : Nat) (h : n < 9223372036854775807) : wrap64 ((n : Int) + 1) = ((n + 1 : Nat) : Int) := by
  rw [wrap64_in _ (by omega)]; omega
theorem rd_get {l : List Int} {n : Nat} (h : n < l.length) : rd l (n : Int) = l[n] := by
  unfold rd
  rw [Int.toNat_natCast, List.getD_eq_getElem?_getD, List.getElem?_eq_getElem h, Option.getD_some]
theorem same_loop : ∀ (m : Nat) (x y : List Int) (n : Nat), n + m = x.length → x.length = y.length → x.length ≤ 9223372036854775807 →
    Evt (fun k => gimbalref33_sameRow.l0 k x y (x.length : Int) (n : Int)) (decide (x.drop n = y.drop n))
  | 0, x, y, n, hn, hl, hx => by
    rw [List.drop_eq_nil_of_le (by omega), List.drop_eq_nil_of_le (by omega), decide_eq_true rfl]
    refine Evt.of 1 (fun k => ?_)
    rw [gimbalref33_sameRow.l0, if_neg (by omega)]
  | m + 1, x, y, n, hn, hl, hx => by
    have h1 : n < x.length := by omega
    have h2 : n < y.length := by omega
    by_cases he : x[n] = y[n]
    · have e : decide (x.drop n = y.drop n) = decide (x.drop (n + 1) = y.drop (n + 1)) := by
        rw [List.drop_eq_getElem_cons h1, List.drop_eq_getElem_cons h2, he]
        exact decide_eq_decide.2 ⟨fun h => (List.cons.inj h).2, fun h => by rw [h]⟩
      rw [e]
      refine Evt.step (fun k => ?_) (same_loop m x y (n + 1) (by omega) hl hx)
      rw [gimbalref33_sameRow.l0, if_pos (by omega), if_pos (by omega), if_pos (by omega), if_pos (by omega), if_pos (by rw [rd_get h1, rd_get h2, he]), nat_step n (by omega)]
    · have e : decide (x.drop n = y.drop n) = false := by
        rw [List.drop_eq_getElem_cons h1, List.drop_eq_getElem_cons h2]
        exact decide_eq_false (fun h => he (List.cons.inj h).1)
      rw [e]
      refine Evt.of 1 (fun k => ?_)
      rw [gimbalref33_sameRow.l0, if_pos (by omega), if_pos (by omega), if_pos (by omega), if_pos (by omega), if_neg (by rw [rd_get h1, rd_get h2]; exact he)]
theorem same_ev (x y : List Int) (hx : x.length ≤ 9223372036854775807) : Evt (fun k => gimbalref33_sameRow.f k x y) (decide (x = y)) := by
  unfold gimbalref33_sameRow.f
  by_cases hl : x.length = y.length
  · refine Evt.congr (fun k => if_pos (by omega)) ?_
    exact same_loop x.length x y 0 (by omega) hl hx
  · refine Evt.congr (fun k => if_neg (by omega)) ?_
    rw [decide_eq_false (fun h => hl (by rw [h]))]
    exact Evt.of 0 (fun k => rfl)
theorem awake_ev : Evt (fun k => gimballaw33_awake.f k) true :=
  Evt.up gimballaw33_awake.mono 200 (by kernel_rfl)
theorem xor32_in (a b : Int) : 0 ≤ Go.bits .xor .u32 a b ∧ Go.bits .xor .u32 a b < 4294967296 := by
  have h := bits_within .xor .u32 a b
  have e1 : IntKind.u32.min = 0 := by decide
  have e2 : IntKind.u32.max = 4294967295 := by decide
  omega
theorem and1 (c : Int) (h0 : 0 ≤ c) (h1 : c < 4294967296) : Go.bits .and .u32 c 1 = c % 2 := by
  rw [u32_and c 1 h0 h1 (by decide) (by decide), show (1 : Int).toNat = 1 from rfl, Nat.and_one_is_mod]
  omega
theorem xor0 (c : Int) (h0 : 0 ≤ c) (h1 : c < 4294967296) : Go.bits .xor .u32 c 0 = c := by
  rw [u32_xor c 0 h0 h1 (by decide) (by decide), show (0 : Int).toNat = 0 from rfl, Nat.xor_zero]
  omega
def cstep (c : Int) : Int := if c % 2 = 1 then Go.bits .xor .u32 (c / 2) 3988292384 else c / 2
theorem cstep_in (c : Int) (h0 : 0 ≤ c) (h1 : c < 4294967296) : 0 ≤ cstep c ∧ cstep c < 4294967296 := by
  unfold cstep
  split
  · exact xor32_in _ _
  · omega
theorem cstep_code (c : Int) (h0 : 0 ≤ c) (h1 : c < 4294967296) : Go.bits .xor .u32 (c / 2) ((3988292384 * (Go.bits .and .u32 c 1)) % 4294967296) = cstep c := by
  rw [and1 c h0 h1]
  unfold cstep
  by_cases h : c % 2 = 1
  · rw [if_pos h, h]; rfl
  · have h2 : c % 2 = 0 := by omega
    rw [if_neg h, h2]
    exact xor0 _ (by omega) (by omega)
def cit : Nat → Int → Int
  | 0, c => c
  | m + 1, c => cit m (cstep c)
def cbyte (c b : Int) : Int := cit 8 (Go.bits .xor .u32 c (b % 4294967296))
def crc (l : List Int) (c : Int) : Int := l.foldl cbyte c
theorem code_l1 {r : Int} (l : List Int) (n i : Int) : ∀ (m j : Nat) (c : Int), j + m = 8 → 0 ≤ c → c < 4294967296 → Evt (fun k => code_Sum.l0 k (cit m c) l n (wrap64 (i + 1))) r → Evt (fun k => code_Sum.l1 k c l n i (j : Int)) r
  | 0, j, c, hj, h0, h1, h => by
    refine Evt.step (fun k => ?_) h
    rw [code_Sum.l1, if_neg (by omega)]
    rfl
  | m + 1, j, c, hj, h0, h1, h => by
    refine Evt.step (fun k => ?_) (code_l1 l n i m (j + 1) (cstep c) (by omega) (cstep_in c h0 h1).1 (cstep_in c h0 h1).2 h)
    rw [code_Sum.l1, if_pos (by omega), cstep_code c h0 h1, nat_step j (by omega)]
theorem code_l0 (l : List Int) (hl : l.length ≤ 9223372036854775807) : ∀ (m n : Nat) (c : Int), n + m = l.length → Evt (fun k => code_Sum.l0 k c l (l.length : Int) (n : Int)) (Go.bits .xor .u32 4294967295 (crc (l.drop n) c))
  | 0, n, c, hn => by
    rw [List.drop_eq_nil_of_le (by omega)]
    refine Evt.of 1 (fun k => ?_)
    rw [code_Sum.l0, if_neg (by omega)]
    rfl
  | m + 1, n, c, hn => by
    have h1 : n < l.length := by omega
    have ih := code_l0 l hl m (n + 1) (cbyte c l[n]) (by omega)
    rw [List.drop_eq_getElem_cons h1]
    rw [← nat_step n (by omega)] at ih
    refine Evt.step (fun k => ?_) (code_l1 l (l.length : Int) (n : Int) 8 0 (Go.bits .xor .u32 c (l[n] % 4294967296)) (by decide) (xor32_in _ _).1 (xor32_in _ _).2 ih)
    rw [code_Sum.l0, if_pos (by omega), if_pos (by omega), if_pos (by omega), rd_get h1]
    rfl
def sumOf (l : List Int) : Int := Go.bits .xor .u32 4294967295 (crc l 4294967295)
theorem code_ev (l : List Int) (hl : l.length ≤ 9223372036854775807) : Evt (fun k => code_Sum.f k l) (sumOf l) := code_l0 l hl l.length 0 4294967295 (by omega)
theorem ref_l1 {r : Int} (l : List Int) (n i : Int) : ∀ (m j : Nat) (c : Int), j + m = 8 → 0 ≤ c → c < 4294967296 → Evt (fun k => gimbalref27_Sum.l0 k (cit m c) l n (wrap64 (i + 1))) r → Evt (fun k => gimbalref27_Sum.l1 k c (j : Int) l n i) r
  | 0, j, c, hj, h0, h1, h => by
    refine Evt.step (fun k => ?_) h
    rw [gimbalref27_Sum.l1, if_neg (by omega)]
    rfl
  | m + 1, j, c, hj, h0, h1, h => by
    refine Evt.step (fun k => ?_) (ref_l1 l n i m (j + 1) (cstep c) (by omega) (cstep_in c h0 h1).1 (cstep_in c h0 h1).2 h)
    rw [gimbalref27_Sum.l1, if_pos (by omega), and1 c h0 h1, nat_step j (by omega)]
    unfold cstep
    by_cases h : c % 2 = 1
    · rw [if_pos h, if_pos h]
    · rw [if_neg h, if_neg h]
theorem ref_l0 (l : List Int) (hl : l.length ≤ 9223372036854775807) : ∀ (m n : Nat) (c : Int), n + m = l.length → Evt (fun k => gimbalref27_Sum.l0 k c l (l.length : Int) (n : Int)) (Go.bits .xor .u32 4294967295 (crc (l.drop n) c))
  | 0, n, c, hn => by
    rw [List.drop_eq_nil_of_le (by omega)]
    refine Evt.of 1 (fun k => ?_)
    rw [gimbalref27_Sum.l0, if_neg (by omega)]
    rfl
  | m + 1, n, c, hn => by
    have h1 : n < l.length := by omega
    have ih := ref_l0 l hl m (n + 1) (cbyte c l[n]) (by omega)
    rw [List.drop_eq_getElem_cons h1]
    rw [← nat_step n (by omega)] at ih
    refine Evt.step (fun k => ?_) (ref_l1 l (l.length : Int) (n : Int) 8 0 (Go.bits .xor .u32 c (l[n] % 4294967296)) (by decide) (xor32_in _ _).1 (xor32_in _ _).2 ih)
    rw [gimbalref27_Sum.l0, if_pos (by omega), if_pos (by omega), if_pos (by omega), rd_get h1]
    rfl
theorem refsum_ev (l : List Int) (hl : l.length ≤ 9223372036854775807) : Evt (fun k => gimbalref27_Sum.f k l) (sumOf l) := ref_l0 l hl l.length 0 4294967295 (by omega)
theorem u64_mod (n : Int) : IntKind.u64.wrap n = n % 18446744073709551616 := by simp [IntKind.wrap, IntKind.bits, IntKind.signed]
theorem wrap_u64 (x : Int) (h0 : 0 ≤ x) (h1 : x < 18446744073709551616) : IntKind.u64.wrap x = x := by rw [u64_mod]; omega
theorem or128 : ∀ b : Fin 256, Go.bits .or .u8 ((b.1 : Nat) : Int) 128 = ((b.1 % 128 + 128 : Nat) : Int) := by decide +kernel
theorem byte128 (x : Int) (h0 : 0 ≤ x) : ((Int.tmod x 128) + 128) % 256 = Go.bits .or .u8 (x % 256) 128 := by
  have h := or128 ⟨(x % 256).toNat, by omega⟩
  rw [show (((⟨(x % 256).toNat, by omega⟩ : Fin 256).1 : Nat) : Int) = x % 256 by simp only; omega] at h
  rw [h, Int.tmod_eq_emod_of_nonneg h0]
  simp only
  omega
theorem refnum_l0 (n : Nat) : ∀ (k : Nat) (b : List Int) (x : Int), 0 ≤ x → x < 18446744073709551616 → x < lim n → n < k → b.length + n < 140737488355328 → gimbalref27_Number.l0 k x b = some (b ++ numb n x) := by
  induction n with
  | zero =>
    intro k b x h0 h1 hx hk hb
    obtain ⟨k, rfl⟩ : ∃ j, k = j + 1 := ⟨k - 1, by omega⟩
    simp only [lim] at hx
    unfold gimbalref27_Number.l0 numb
    rw [if_neg (by omega), if_pos (by omega)]
  | succ n ih =>
    intro k b x h0 h1 hx hk hb
    obtain ⟨k, rfl⟩ : ∃ j, k = j + 1 := ⟨k - 1, by omega⟩
    simp only [lim] at hx
    unfold gimbalref27_Number.l0 numb
    by_cases h : x ≥ 128
    · rw [if_pos h, if_pos h, if_pos (by omega), byte128 x h0, Int.tdiv_eq_ediv_of_nonneg h0, wrap_u64 (x / 128) (by omega) (by omega), ih k _ (x / 128) (by omega) (by omega) (by omega) (by omega) (by simp only [List.length_append, List.length_cons, List.length_nil]; omega)]
      simp
    · rw [if_neg h, if_neg h, if_pos (by omega)]
theorem refnum_ev (x : Int) (h0 : 0 ≤ x) (h1 : x < 18446744073709551616) : Evt (fun k => gimbalref27_Number.f k x) (numb 9 x) :=
  Evt.of 10 (fun k => refnum_l0 9 (k + 10) [] x h0 h1 (by rw [lim9]; omega) (by omega) (by simp))
theorem u64_in (a : Int) : 0 ≤ IntKind.u64.wrap a ∧ IntKind.u64.wrap a < 18446744073709551616 := by
  have h := wrap_within .u64 a
  have e1 : IntKind.u64.min = 0 := by decide
  have e2 : IntKind.u64.max = 18446744073709551615 := by decide
  omega
theorem count_ev (a : Int) : Evt (fun k => gimbalref33_count.f k a) (numb 9 (IntKind.u64.wrap a)) := by
  unfold gimbalref33_count.f
  exact Evt.bind (refnum_ev _ (u64_in a).1 (u64_in a).2) (Evt.of 0 (fun k => rfl))
theorem xor64_0 (x : Int) (h0 : 0 ≤ x) (h1 : x < 18446744073709551616) : Go.bits .xor .u64 x 0 = x := by
  rw [u64_xor x 0 h0 h1 (by decide) (by decide), show (0 : Int).toNat = 0 from rfl, Nat.xor_zero]
  omega
theorem xor64_all (x : Int) (h0 : 0 ≤ x) (h1 : x < 18446744073709551616) : Go.bits .xor .u64 x 18446744073709551615 = 18446744073709551615 - x := by
  rw [u64_xor x 18446744073709551615 h0 h1 (by decide) (by decide)]
  have h : x.toNat ^^^ 18446744073709551615 = 18446744073709551615 - x.toNat := by
    have hx : x.toNat < 2 ^ 64 := by omega
    have := congrArg BitVec.toNat (BitVec.xor_allOnes (x := BitVec.ofNat 64 x.toNat))
    rw [BitVec.toNat_xor, BitVec.toNat_not, BitVec.toNat_ofNat, Nat.mod_eq_of_lt hx] at this
    simpa using this
  rw [show (18446744073709551615 : Int).toNat = 18446744073709551615 from rfl, h]
  omega
theorem sgn_nonneg (a : Int) (h0 : 0 ≤ a) (h1 : a < 9223372036854775808) : sgn a = 2 * a := by
  unfold sgn
  rw [wrap_u64 a h0 (by omega), wrap_u64 (a * 2) (by omega) (by omega), show a / 9223372036854775808 = 0 by omega, show IntKind.u64.wrap 0 = 0 by decide, xor64_0 _ (by omega) (by omega)]
  omega
theorem u64_neg (a : Int) (h0 : -18446744073709551616 ≤ a) (h1 : a < 0) : IntKind.u64.wrap a = a + 18446744073709551616 := by
  rw [u64_mod]
  omega
theorem sgn_neg (a : Int) (h0 : -9223372036854775808 ≤ a) (h1 : a < 0) : sgn a = -2 * a - 1 := by
  unfold sgn
  have e1 : IntKind.u64.wrap (IntKind.u64.wrap a * 2) = 2 * a + 18446744073709551616 := by
    rw [u64_neg a (by omega) h1]
    rw [u64_mod]
    omega
  rw [e1, show a / 9223372036854775808 = -1 by omega, show IntKind.u64.wrap (-1) = 18446744073709551615 by decide, xor64_all _ (by omega) (by omega)]
  omega
theorem refsigned_ev (a : Int) (h0 : -9223372036854775808 ≤ a) (h1 : a < 9223372036854775808) : Evt (fun k => gimbalref33_signed.f k a) (numb 9 (sgn a)) := by
  unfold gimbalref33_signed.f
  by_cases h : a < 0
  · refine Evt.congr (fun k => if_pos h) ?_
    have e : IntKind.u64.wrap ((IntKind.u64.wrap ((IntKind.u64.wrap (wrap64 (-(wrap64 (a + 1))))) * 2)) + 1) = sgn a := by
      rw [sgn_neg a h0 h, wrap64_in (a + 1) (by omega), wrap64_in _ (by omega), wrap_u64 (-(a + 1)) (by omega) (by omega), wrap_u64 (-(a + 1) * 2) (by omega) (by omega), wrap_u64 (-(a + 1) * 2 + 1) (by omega) (by omega)]
      omega
    rw [e]
    exact Evt.bind (refnum_ev _ (by rw [sgn_neg a h0 h]; omega) (by rw [sgn_neg a h0 h]; omega)) (Evt.of 0 (fun k => rfl))
  · refine Evt.congr (fun k => if_neg h) ?_
    have e : IntKind.u64.wrap ((IntKind.u64.wrap a) * 2) = sgn a := by
      rw [sgn_nonneg a (by omega) h1, wrap_u64 a (by omega) (by omega), wrap_u64 _ (by omega) (by omega)]
      omega
    rw [e]
    exact Evt.bind (refnum_ev _ (by rw [sgn_nonneg a (by omega) h1]; omega) (by rw [sgn_nonneg a (by omega) h1]; omega)) (Evt.of 0 (fun k => rfl))
theorem rowOf_app : ∀ (ps : List (Int × Int)) (a b : List Int), rowOf ps (a ++ b) = a ++ rowOf ps b
  | [], a, b => rfl
  | p :: ps, a, b => by
    have e : ∀ c, rowOf (p :: ps) c = rowOf ps (c ++ numb 9 (sgn (wrap64 (p.1 - p.2)))) := fun _ => rfl
    rw [e, e, List.append_assoc, rowOf_app ps]
def encNum (b : List Int) (x : Int) : List Int := b ++ numb 9 (IntKind.u64.wrap x)
def rowA (b l : List Int) : List Int := rowOf (stepsOf l) (encNum b (l.length : Int))
def rowB (b l o : List Int) : List Int := rowOf (besideOf l o) (encNum b (l.length : Int))
def flatA (rs : List (List Int)) (b : List Int) : List Int := rs.foldl rowA b
def flatM : List (List Int) → List Int → List Int → List Int
  | [], _, b => b
  | r :: rs, o, b => flatM rs r (rowB b r o)
def tot : List (List Int) → Nat
  | [] => 0
  | r :: rs => r.length + 1 + tot rs
theorem encNum_app (a b : List Int) (x : Int) : encNum (a ++ b) x = a ++ encNum b x := by unfold encNum; rw [List.append_assoc]
theorem rowA_app (a l : List Int) : a ++ rowA [] l = rowA a l := by
  unfold rowA
  rw [← rowOf_app, ← encNum_app, List.append_nil]
theorem rowB_app (a l o : List Int) : a ++ rowB [] l o = rowB a l o := by
  unfold rowB
  rw [← rowOf_app, ← encNum_app, List.append_nil]
theorem encNum_len (b : List Int) (x : Int) : (encNum b x).length ≤ b.length + 10 := by
  have := numb_length 9 (IntKind.u64.wrap x)
  unfold encNum
  rw [List.length_append]
  omega
theorem rowA_len (b l : List Int) : (rowA b l).length ≤ b.length + 10 * l.length + 10 := by
  have h := rowOf_length (stepsOf l) (encNum b (l.length : Int))
  have h2 := encNum_len b (l.length : Int)
  rw [show (stepsOf l).length = l.length from upto_length _ _] at h
  unfold rowA
  omega
theorem rowB_len (b l o : List Int) : (rowB b l o).length ≤ b.length + 10 * l.length + 10 := by
  have h := rowOf_length (besideOf l o) (encNum b (l.length : Int))
  have h2 := encNum_len b (l.length : Int)
  rw [show (besideOf l o).length = l.length from upto_length _ _] at h
  unfold rowB
  omega
theorem tot_drop {x : List (List Int)} {n : Nat} (h : n < x.length) : x.drop n = x[n] :: x.drop (n + 1) := List.drop_eq_getElem_cons h
theorem rdL_get {x : List (List Int)} {n : Nat} (h : n < x.length) : rd_L1 x (n : Int) = x[n] := by
  unfold rd_L1
  rw [Int.toNat_natCast, List.getD_eq_getElem?_getD, List.getElem?_eq_getElem h, Option.getD_some]
def sumBytes (s : Int) : List Int := [s % 256, (s / 256) % 256, (s / 65536) % 256, (s / 16777216) % 256]
def closed (b : List Int) : List Int := b ++ sumBytes (sumOf b)
theorem w01 : wrap64 (0 + 1) = 1 := nat_step 0 (by decide)
theorem w12 : wrap64 (1 + 1) = 2 := nat_step 1 (by decide)
theorem w23 : wrap64 (2 + 1) = 3 := nat_step 2 (by decide)
theorem w34 : wrap64 (3 + 1) = 4 := nat_step 3 (by decide)
theorem w45 : wrap64 (4 + 1) = 5 := nat_step 4 (by decide)
/-- What stands behind the numbers. -/
def tail (b sc : List Int) (ar ma : List (List Int)) : List Int := flatM ma [] (encNum (flatA ar (encNum (rowA b sc) (ar.length : Int))) (ma.length : Int))
abbrev Fit (e si ki ti re : Int) (ma : List (List Int)) : Prop := 1 ≤ e ∧ e ≤ 5 ∧ 0 ≤ si ∧ 0 ≤ ki ∧ 0 ≤ ti ∧ 0 ≤ re ∧ ma.length ≤ 64
def start (fu : Int) (sr : List Int) : List Int := rowA ([71, 84, 82, 67, 1] ++ numb 9 (sgn fu)) sr
def file (fu : Int) (sr : List Int) (e si ki ti re : Int) (sc : List Int) (ar ma : List (List Int)) : List Int := closed (tail (encNum (encNum (encNum (encNum (encNum (start fu sr) e) si) ki) ti) re) sc ar ma)
theorem fit_eq (fu : Int) (sr : List Int) (e si ki ti re : Int) (sc : List Int) (ar ma : List (List Int)) : trace_fit.f fu sr e si ki ti re sc ar ma = some (decide (Fit e si ki ti re ma)) := by
  unfold trace_fit.f
  by_cases h1 : e ≥ 1
  · by_cases h2 : e ≤ 5
    · by_cases h3 : si ≥ 0
      · by_cases h4 : ki ≥ 0
        · by_cases h5 : ti ≥ 0
          · by_cases h6 : re ≥ 0
            · rw [if_pos h1, if_pos h2, if_pos h3, if_pos h4, if_pos h5, if_pos h6]
              exact congrArg some (decide_eq_decide.2 ⟨fun h => ⟨h1, h2, h3, h4, h5, h6, by omega⟩, fun h => by have := h.2.2.2.2.2.2; omega⟩)
            · rw [if_pos h1, if_pos h2, if_pos h3, if_pos h4, if_pos h5, if_neg h6, decide_eq_false (fun h => h6 h.2.2.2.2.2.1)]
          · rw [if_pos h1, if_pos h2, if_pos h3, if_pos h4, if_neg h5, decide_eq_false (fun h => h5 h.2.2.2.2.1)]
        · rw [if_pos h1, if_pos h2, if_pos h3, if_neg h4, decide_eq_false (fun h => h4 h.2.2.2.1)]
      · rw [if_pos h1, if_pos h2, if_neg h3, decide_eq_false (fun h => h3 h.2.2.1)]
    · rw [if_pos h1, if_neg h2, decide_eq_false (fun h => h2 h.2.1)]
  · rw [if_neg h1, decide_eq_false (fun h => h1 h.1)]
theorem start_len (fu : Int) (sr : List Int) : (start fu sr).length ≤ 10 * sr.length + 30 := by
  have := rowA_len ([71, 84, 82, 67, 1] ++ numb 9 (sgn fu)) sr
  have h := numb_length 9 (sgn fu)
  rw [List.length_append, show ([71, 84, 82, 67, 1] : List Int).length = 5 from rfl] at this
  unfold start
  omega
theorem wrap_in64 (a : Int) : -9223372036854775808 ≤ wrap64 a ∧ wrap64 a < 9223372036854775808 := by unfold wrap64; omega
theorem rsig_ev (a : Int) : Evt (fun k => gimbalref33_signed.f k (wrap64 a)) (numb 9 (sgn (wrap64 a))) := refsigned_ev _ (wrap_in64 a).1 (wrap_in64 a).2
/-- Rows, from a place on. -/
def rowN (f : Nat → Int × Int) : Nat → Nat → List Int → List Int
  | 0, _, b => b
  | m + 1, n, b => rowN f m (n + 1) (b ++ numb 9 (sgn (wrap64 ((f n).1 - (f n).2))))
theorem rowN_eq (f : Nat → Int × Int) : ∀ m n b, rowN f m n b = rowOf ((List.range' n m).map f) b
  | 0, n, b => rfl
  | m + 1, n, b => by
    rw [rowN, rowN_eq f m (n + 1), List.range'_succ, List.map_cons]
    rfl
theorem rowN_upto (f : Nat → Int × Int) (m : Nat) (b : List Int) : rowN f m 0 b = rowOf (upto f m) b := by
  rw [rowN_eq, upto, List.range_eq_range']
theorem numb_len9 (x : Int) : (numb 9 x).length ≤ 10 := numb_length 9 x
theorem refrow_true (l : List Int) (hl : l.length ≤ 9223372036854775807) : ∀ (m n : Nat) (b : List Int), n + m = l.length → b.length + 10 * m + 20 < 140737488355328 →
    Evt (fun k => gimbalref33_row.l0 k l [] true b l (l.length : Int) (n : Int)) (rowN (fun j => (rd l (j : Int), bef l j)) m n b)
  | 0, n, b, hn, hb => by
    refine Evt.of 1 (fun k => ?_)
    rw [gimbalref33_row.l0, if_neg (by omega)]
    rfl
  | m + 1, n, b, hn, hb => by
    have h1 : n < l.length := by omega
    have h9 := numb_len9 (sgn (wrap64 (rd l (n : Int) - bef l n)))
    have ih := refrow_true l hl m (n + 1) (b ++ numb 9 (sgn (wrap64 (rd l (n : Int) - bef l n)))) (by omega) (by rw [List.length_append]; omega)
    rw [← nat_step n (by omega)] at ih
    rw [rowN]
    refine Evt.step (fun k => by rw [gimbalref33_row.l0, if_pos (by omega), if_pos (by omega), if_pos (by omega), if_pos rfl]) ?_
    by_cases h0 : n = 0
    · subst h0
      have e : bef l 0 = 0 := rfl
      rw [e] at ih h9 ⊢
      refine Evt.step (fun k => by rw [gimbalref33_row.j1, if_neg (by simp), if_pos rfl]) ?_
      refine Evt.bind (rsig_ev _) ?_
      exact Evt.congr (fun k => if_pos (by omega)) ih
    · have e : bef l n = rd l (wrap64 ((n : Int) - 1)) := by
        rw [wrap64_in _ (by omega)]
        unfold bef
        rw [if_neg h0]
        congr 1
        omega
      rw [e] at ih h9 ⊢
      have e1 : wrap64 ((n : Int) - 1) = (n : Int) - 1 := wrap64_in _ (by omega)
      refine Evt.step (fun k => by rw [gimbalref33_row.j1, if_pos (decide_eq_true (by omega)), if_pos (by omega), if_pos (by omega), if_pos rfl]) ?_
      refine Evt.bind (rsig_ev _) ?_
      exact Evt.congr (fun k => if_pos (by omega)) ih
theorem refrow_false (l o : List Int) (hl : l.length ≤ 9223372036854775807) : ∀ (m n : Nat) (b : List Int), n + m = l.length → b.length + 10 * m + 20 < 140737488355328 →
    Evt (fun k => gimbalref33_row.l0 k l o false b l (l.length : Int) (n : Int)) (rowN (fun j => (rd l (j : Int), atS o j)) m n b)
  | 0, n, b, hn, hb => by
    refine Evt.of 1 (fun k => ?_)
    rw [gimbalref33_row.l0, if_neg (by omega)]
    rfl
  | m + 1, n, b, hn, hb => by
    have h1 : n < l.length := by omega
    have h9 := numb_len9 (sgn (wrap64 (rd l (n : Int) - atS o n)))
    have ih := refrow_false l o hl m (n + 1) (b ++ numb 9 (sgn (wrap64 (rd l (n : Int) - atS o n)))) (by omega) (by rw [List.length_append]; omega)
    rw [← nat_step n (by omega)] at ih
    rw [rowN]
    refine Evt.step (fun k => by rw [gimbalref33_row.l0, if_pos (by omega), if_pos (by omega), if_pos (by omega), if_neg (by simp)]) ?_
    by_cases h0 : n < o.length
    · have e : atS o n = rd o (n : Int) := if_pos h0
      rw [e] at ih h9 ⊢
      refine Evt.step (fun k => by rw [gimbalref33_row.j1, if_neg (by simp), if_neg (by simp), if_pos (by omega), if_pos (by omega)]) ?_
      refine Evt.bind (rsig_ev _) ?_
      exact Evt.congr (fun k => if_pos (by omega)) ih
    · have e : atS o n = 0 := if_neg h0
      rw [e] at ih h9 ⊢
      refine Evt.step (fun k => by rw [gimbalref33_row.j1, if_neg (by simp), if_neg (by simp), if_neg (by omega)]) ?_
      refine Evt.bind (rsig_ev _) ?_
      exact Evt.congr (fun k => if_pos (by omega)) ih
theorem refrowA_ev (l : List Int) (hb : 10 * l.length + 100 < 140737488355328) : Evt (fun k => gimbalref33_row.f k l [] true) (rowA [] l) := by
  have h9 := numb_len9 (IntKind.u64.wrap (l.length : Int))
  unfold gimbalref33_row.f
  refine Evt.bind (count_ev _) ?_
  have h := refrow_true l (by omega) l.length 0 (numb 9 (IntKind.u64.wrap (l.length : Int))) (by omega) (by omega)
  rw [rowN_upto] at h
  exact h
theorem refrowB_ev (l o : List Int) (hb : 10 * l.length + 100 < 140737488355328) : Evt (fun k => gimbalref33_row.f k l o false) (rowB [] l o) := by
  have h9 := numb_len9 (IntKind.u64.wrap (l.length : Int))
  unfold gimbalref33_row.f
  refine Evt.bind (count_ev _) ?_
  have h := refrow_false l o (by omega) l.length 0 (numb 9 (IntKind.u64.wrap (l.length : Int))) (by omega) (by omega)
  rw [rowN_upto] at h
  exact h
theorem rowA0_len (l : List Int) : (rowA [] l).length ≤ 10 * l.length + 10 := by have := rowA_len [] l; simpa using this
theorem rowB0_len (l o : List Int) : (rowB [] l o).length ≤ 10 * l.length + 10 := by have := rowB_len [] l o; simpa using this
theorem file_l2 : ∀ (m n : Nat) (x : List (List Int)) (o b : List Int), n + m = x.length → x.length ≤ 9223372036854775807 → b.length + 10 * tot (x.drop n) + 100 < 140737488355328 →
    Evt (fun k => gimbalref33_file.l2 k b o x (x.length : Int) (n : Int)) (closed (flatM (x.drop n) o b))
  | 0, n, x, o, b, hn, hx, hb => by
    rw [List.drop_eq_nil_of_le (by omega)]
    refine Evt.step (fun k => by rw [gimbalref33_file.l2, if_neg (by omega)]) ?_
    refine Evt.bind (refsum_ev b (by omega)) ?_
    refine Evt.congr (fun k => if_pos (by simp; omega)) ?_
    exact Evt.of 0 (fun k => rfl)
  | m + 1, n, x, o, b, hn, hx, hb => by
    have h1 : n < x.length := by omega
    rw [tot_drop h1] at hb ⊢
    rw [tot] at hb
    have hl := rowB_len b x[n] o
    have hl0 := rowB0_len x[n] o
    refine Evt.step (fun k => by rw [gimbalref33_file.l2, if_pos (by omega), if_pos (by omega), if_pos (by omega), rdL_get h1, nat_step n (by omega)]) ?_
    refine Evt.bind (refrowB_ev x[n] o (by omega)) ?_
    refine Evt.congr (fun k => by rw [if_pos (by omega), rowB_app]) ?_
    exact file_l2 m (n + 1) x x[n] (rowB b x[n] o) (by omega) hx (by omega)
theorem file_l1 (ma : List (List Int)) (hma : ma.length ≤ 9223372036854775807) (c0 : Int) (c1 : List Int) (c2 c3 c4 c5 c6 : Int) (c7 : List Int) (c8 : List (List Int)) : ∀ (m n : Nat) (x : List (List Int)) (b : List Int), n + m = x.length → x.length ≤ 9223372036854775807 → b.length + 10 * tot (x.drop n) + 10 * tot ma + 200 < 140737488355328 →
    Evt (fun k => gimbalref33_file.l1 k b x (x.length : Int) (n : Int) c0 c1 c2 c3 c4 c5 c6 c7 c8 ma) (closed (flatM ma [] (encNum (flatA (x.drop n) b) (ma.length : Int))))
  | 0, n, x, b, hn, hx, hb => by
    rw [List.drop_eq_nil_of_le (by omega)] at hb ⊢
    rw [tot] at hb
    have hl := encNum_len b (ma.length : Int)
    have h9 := numb_len9 (IntKind.u64.wrap (ma.length : Int))
    refine Evt.step (fun k => by rw [gimbalref33_file.l1, if_neg (by omega)]) ?_
    refine Evt.bind (count_ev (ma.length : Int)) ?_
    refine Evt.congr (fun k => if_pos (by omega)) ?_
    exact file_l2 ma.length 0 ma [] (encNum b (ma.length : Int)) (by omega) hma (by simp only [List.drop_zero]; omega)
  | m + 1, n, x, b, hn, hx, hb => by
    have h1 : n < x.length := by omega
    rw [tot_drop h1] at hb ⊢
    rw [tot] at hb
    have hl := rowA_len b x[n]
    have hl0 := rowA0_len x[n]
    refine Evt.step (fun k => by rw [gimbalref33_file.l1, if_pos (by omega), if_pos (by omega), if_pos (by omega), rdL_get h1, nat_step n (by omega)]) ?_
    refine Evt.bind (refrowA_ev x[n] (by omega)) ?_
    refine Evt.congr (fun k => by rw [if_pos (by omega), rowA_app]) ?_
    exact file_l1 ma hma c0 c1 c2 c3 c4 c5 c6 c7 c8 m (n + 1) x (rowA b x[n]) (by omega) hx (by omega)
theorem file_l0 (fu : Int) (sr : List Int) (e si ki ti re : Int) (sc : List Int) (ar ma : List (List Int)) (b : List Int) (har : ar.length ≤ 9223372036854775807) (hma : ma.length ≤ 9223372036854775807) (hb : b.length + 10 * sc.length + 10 * tot ar + 10 * tot ma + 400 < 140737488355328) :
    Evt (fun k => gimbalref33_file.l0 k b [IntKind.u64.wrap e, IntKind.u64.wrap si, IntKind.u64.wrap ki, IntKind.u64.wrap ti, IntKind.u64.wrap re] 5 0 fu sr e si ki ti re sc ar ma) (closed (tail (encNum (encNum (encNum (encNum (encNum b e) si) ki) ti) re) sc ar ma)) := by
  have l1 := encNum_len b e
  have l2 := encNum_len (encNum b e) si
  have l3 := encNum_len (encNum (encNum b e) si) ki
  have l4 := encNum_len (encNum (encNum (encNum b e) si) ki) ti
  have l5 := encNum_len (encNum (encNum (encNum (encNum b e) si) ki) ti) re
  have l6 := rowA_len (encNum (encNum (encNum (encNum (encNum b e) si) ki) ti) re) sc
  have l60 := rowA0_len sc
  have l7 := encNum_len (rowA (encNum (encNum (encNum (encNum (encNum b e) si) ki) ti) re) sc) (ar.length : Int)
  have n1 := numb_len9 (IntKind.u64.wrap e)
  have n2 := numb_len9 (IntKind.u64.wrap si)
  have n3 := numb_len9 (IntKind.u64.wrap ki)
  have n4 := numb_len9 (IntKind.u64.wrap ti)
  have n5 := numb_len9 (IntKind.u64.wrap re)
  have n6 := numb_len9 (IntKind.u64.wrap (ar.length : Int))
  refine Evt.step (g := fun k => (gimbalref27_Number.f k (IntKind.u64.wrap e)).bind fun t257 => if (b : List Int).length + t257.length < 140737488355328 then gimbalref33_file.l0 k (b ++ t257) [IntKind.u64.wrap e, IntKind.u64.wrap si, IntKind.u64.wrap ki, IntKind.u64.wrap ti, IntKind.u64.wrap re] 5 1 fu sr e si ki ti re sc ar ma else none) (fun k => by rw [gimbalref33_file.l0, if_pos (by decide), if_pos (by decide), if_pos (by simp only [List.length_cons, List.length_nil]; decide), w01]; rfl) ?_
  refine Evt.bind (refnum_ev _ (u64_in e).1 (u64_in e).2) ?_
  refine Evt.congr (fun k => if_pos (by omega)) ?_
  refine Evt.step (g := fun k => (gimbalref27_Number.f k (IntKind.u64.wrap si)).bind fun t257 => if ((encNum b e) : List Int).length + t257.length < 140737488355328 then gimbalref33_file.l0 k ((encNum b e) ++ t257) [IntKind.u64.wrap e, IntKind.u64.wrap si, IntKind.u64.wrap ki, IntKind.u64.wrap ti, IntKind.u64.wrap re] 5 2 fu sr e si ki ti re sc ar ma else none) (fun k => by rw [gimbalref33_file.l0, if_pos (by decide), if_pos (by decide), if_pos (by simp only [List.length_cons, List.length_nil]; decide), w12]; rfl) ?_
  refine Evt.bind (refnum_ev _ (u64_in si).1 (u64_in si).2) ?_
  refine Evt.congr (fun k => if_pos (by omega)) ?_
  refine Evt.step (g := fun k => (gimbalref27_Number.f k (IntKind.u64.wrap ki)).bind fun t257 => if ((encNum (encNum b e) si) : List Int).length + t257.length < 140737488355328 then gimbalref33_file.l0 k ((encNum (encNum b e) si) ++ t257) [IntKind.u64.wrap e, IntKind.u64.wrap si, IntKind.u64.wrap ki, IntKind.u64.wrap ti, IntKind.u64.wrap re] 5 3 fu sr e si ki ti re sc ar ma else none) (fun k => by rw [gimbalref33_file.l0, if_pos (by decide), if_pos (by decide), if_pos (by simp only [List.length_cons, List.length_nil]; decide), w23]; rfl) ?_
  refine Evt.bind (refnum_ev _ (u64_in ki).1 (u64_in ki).2) ?_
  refine Evt.congr (fun k => if_pos (by omega)) ?_
  refine Evt.step (g := fun k => (gimbalref27_Number.f k (IntKind.u64.wrap ti)).bind fun t257 => if ((encNum (encNum (encNum b e) si) ki) : List Int).length + t257.length < 140737488355328 then gimbalref33_file.l0 k ((encNum (encNum (encNum b e) si) ki) ++ t257) [IntKind.u64.wrap e, IntKind.u64.wrap si, IntKind.u64.wrap ki, IntKind.u64.wrap ti, IntKind.u64.wrap re] 5 4 fu sr e si ki ti re sc ar ma else none) (fun k => by rw [gimbalref33_file.l0, if_pos (by decide), if_pos (by decide), if_pos (by simp only [List.length_cons, List.length_nil]; decide), w34]; rfl) ?_
  refine Evt.bind (refnum_ev _ (u64_in ti).1 (u64_in ti).2) ?_
  refine Evt.congr (fun k => if_pos (by omega)) ?_
  refine Evt.step (g := fun k => (gimbalref27_Number.f k (IntKind.u64.wrap re)).bind fun t257 => if ((encNum (encNum (encNum (encNum b e) si) ki) ti) : List Int).length + t257.length < 140737488355328 then gimbalref33_file.l0 k ((encNum (encNum (encNum (encNum b e) si) ki) ti) ++ t257) [IntKind.u64.wrap e, IntKind.u64.wrap si, IntKind.u64.wrap ki, IntKind.u64.wrap ti, IntKind.u64.wrap re] 5 5 fu sr e si ki ti re sc ar ma else none) (fun k => by rw [gimbalref33_file.l0, if_pos (by decide), if_pos (by decide), if_pos (by simp only [List.length_cons, List.length_nil]; decide), w45]; rfl) ?_
  refine Evt.bind (refnum_ev _ (u64_in re).1 (u64_in re).2) ?_
  refine Evt.congr (fun k => if_pos (by omega)) ?_
  refine Evt.step (g := fun k => (gimbalref33_row.f k sc [] true).bind fun t263 => if ((encNum (encNum (encNum (encNum (encNum b e) si) ki) ti) re) : List Int).length + t263.length < 140737488355328 then (some ((encNum (encNum (encNum (encNum (encNum b e) si) ki) ti) re) ++ t263)).bind fun y266 => (gimbalref33_count.f k (ar.length : Int)).bind fun t269 => if y266.length + t269.length < 140737488355328 then gimbalref33_file.l1 k (y266 ++ t269) ar (ar.length : Int) 0 fu sr e si ki ti re sc ar ma else none else none) (fun k => by rw [gimbalref33_file.l0, if_neg (by decide)]; rfl) ?_
  refine Evt.bind (refrowA_ev sc (by omega)) ?_
  refine Evt.congr (fun k => by rw [if_pos (by omega), rowA_app, Option.bind_some]) ?_
  refine Evt.bind (count_ev (ar.length : Int)) ?_
  refine Evt.congr (fun k => if_pos (by omega)) ?_
  exact file_l1 ma hma fu sr e si ki ti re sc ar ar.length 0 ar (encNum (rowA (encNum (encNum (encNum (encNum (encNum b e) si) ki) ti) re) sc) (ar.length : Int)) (by omega) har (by simp only [List.drop_zero]; omega)
theorem file_ev (fu : Int) (sr : List Int) (e si ki ti re : Int) (sc : List Int) (ar ma : List (List Int)) (h0 : -9223372036854775808 ≤ fu) (h1 : fu < 9223372036854775808) (har : ar.length ≤ 9223372036854775807) (hma : ma.length ≤ 9223372036854775807) (hb : 10 * sr.length + 10 * sc.length + 10 * tot ar + 10 * tot ma + 500 < 140737488355328) :
    Evt (fun k => gimbalref33_file.f k fu sr e si ki ti re sc ar ma) (file fu sr e si ki ti re sc ar ma) := by
  have hs := start_len fu sr
  have h9 := numb_len9 (sgn fu)
  have l0 := rowA0_len sr
  unfold gimbalref33_file.f
  refine Evt.congr (fun k => by simp only [Option.bind_some]; rw [if_pos (by decide)]) ?_
  refine Evt.bind (refsigned_ev fu h0 h1) ?_
  refine Evt.congr (fun k => if_pos (by simp only [List.length_append, List.length_cons, List.length_nil]; omega)) ?_
  refine Evt.bind (refrowA_ev sr (by omega)) ?_
  refine Evt.congr (fun k => by rw [if_pos (by simp only [List.length_append, List.length_cons, List.length_nil]; omega), rowA_app]) ?_
  exact file_l0 fu sr e si ki ti re sc ar ma (start fu sr) har hma (by omega)
theorem reffit_eq (fu : Int) (sr : List Int) (e si ki ti re : Int) (sc : List Int) (ar ma : List (List Int)) : gimbalref33_Fit.f fu sr e si ki ti re sc ar ma = some (decide (Fit e si ki ti re ma)) := fit_eq fu sr e si ki ti re sc ar ma
/-- A number, from its byte of place j on. -/
def rn : Nat → Nat → Int → List Int → Option (Int × List Int)
  | 0, _, _, _ => none
  | _ + 1, _, _, [] => none
  | m + 1, j, acc, d :: s => if j = 9 ∧ d > 1 ∨ j > 0 ∧ d = 0 then none else if d < 128 then some (acc + d % 128 * 128 ^ j, s) else rn m (j + 1) (acc + d % 128 * 128 ^ j) s
def Bytes (l : List Int) : Prop := ∀ d ∈ l, 0 ≤ d ∧ d < 256
theorem Bytes.tail {d : Int} {l : List Int} (h : Bytes (d :: l)) : Bytes l := fun x hx => h x (List.mem_cons_of_mem _ hx)
theorem Bytes.drop {l : List Int} (h : Bytes l) (n : Nat) : Bytes (l.drop n) := fun x hx => h x (List.mem_of_mem_drop hx)
theorem Bytes.take {l : List Int} (h : Bytes l) (n : Nat) : Bytes (l.take n) := fun x hx => h x (List.mem_of_mem_take hx)
theorem rn_len : ∀ (m j : Nat) (acc : Int) (s : List Int) (x : Int) (r : List Int), rn m j acc s = some (x, r) → r.length < s.length
  | 0, _, _, _, _, _, h => by simp [rn] at h
  | _ + 1, _, _, [], _, _, h => by simp [rn] at h
  | m + 1, j, acc, d :: s, x, r, h => by
    rw [rn] at h
    split at h
    · cases h
    · split at h
      · injection h with h; injection h with _ h; subst h; simp
      · have := rn_len m _ _ s x r h; simp only [List.length_cons]; omega
theorem numb_small (n : Nat) (x : Int) (h0 : 0 ≤ x) (h1 : x < 128) : numb n x = [x] := by
  cases n with
  | zero => rw [numb]; congr 1; omega
  | succ n => rw [numb, if_neg (by omega)]; congr 1; omega
theorem numb_cons (n : Nat) (y d : Int) (h0 : 0 ≤ d) (h1 : d < 256) (h2 : 128 ≤ d) (hy : 0 < y) : numb (n + 1) (d % 128 + 128 * y) = d :: numb n y := by
  rw [numb, if_pos (by omega)]
  have e : (d % 128 + 128 * y) / 128 = y := by omega
  rw [e]
  congr 1
  have h := or128 ⟨((d % 128 + 128 * y) % 256).toNat, by omega⟩
  rw [show (((⟨((d % 128 + 128 * y) % 256).toNat, by omega⟩ : Fin 256).1 : Nat) : Int) = (d % 128 + 128 * y) % 256 by simp only; omega] at h
  rw [h]
  simp only
  omega
theorem pow128 (j : Nat) : (0 : Int) < 128 ^ j := Int.pow_pos (by decide)
/-- What is read is what would be written. -/
theorem rn_sound : ∀ (m j : Nat) (acc : Int) (s : List Int) (x : Int) (r : List Int), j + m = 10 → Bytes s → rn m j acc s = some (x, r) →
    ∃ y : Int, x = acc + y * 128 ^ j ∧ s = numb (m - 1) y ++ r ∧ 0 ≤ y ∧ (j > 0 → 0 < y) ∧ y < 2 * 128 ^ (9 - j)
  | 0, _, _, _, _, _, _, _, h => by simp [rn] at h
  | _ + 1, _, _, [], _, _, _, _, h => by simp [rn] at h
  | m + 1, j, acc, d :: s, x, r, hj, hb, h => by
    obtain ⟨hd0, hd1⟩ := hb d List.mem_cons_self
    have hp9 := pow128 (9 - j)
    rw [rn] at h
    split at h
    · cases h
    · rename_i hn
      split at h
      · rename_i hd
        injection h with h; injection h with h1 h2; subst h1; subst h2
        have e : d % 128 = d := by omega
        refine ⟨d, by rw [e], ?_, hd0, fun hj0 => ?_, ?_⟩
        · rw [numb_small _ d hd0 hd]; rfl
        · rcases Int.lt_or_le 0 d with h | h
          · exact h
          · exact absurd (.inr ⟨hj0, by omega⟩) hn
        · by_cases h9 : j = 9
          · subst h9
            have : ¬ d > 1 := fun h => hn (.inl ⟨rfl, h⟩)
            simp; omega
          · have h128 : (128 : Int) ≤ 128 ^ (9 - j) := by
              rw [show 9 - j = (8 - j) + 1 by omega, Int.pow_succ]
              have := pow128 (8 - j)
              omega
            omega
      · rename_i hd
        by_cases h9 : j = 9
        · exact absurd (.inl ⟨h9, by omega⟩) hn
        · obtain ⟨y, hx, hs, hy0, hy1, hy2⟩ := rn_sound m (j + 1) _ s x r (by omega) hb.tail h
          have hy := hy1 (by omega)
          obtain ⟨m', rfl⟩ : ∃ m', m = m' + 1 := ⟨m - 1, by omega⟩
          refine ⟨d % 128 + 128 * y, ?_, ?_, by omega, fun _ => by omega, ?_⟩
          · rw [hx, Int.pow_succ, Int.add_mul, Int.add_assoc]
            congr 2
            rw [Int.mul_comm (128 ^ j) 128, Int.mul_comm 128 y, Int.mul_assoc]
          · rw [hs]
            rw [show m' + 1 + 1 - 1 = m' + 1 from rfl, show m' + 1 - 1 = m' from rfl, numb_cons m' y d hd0 hd1 (by omega) hy]
            rfl
          · rw [show 9 - j = (9 - (j + 1)) + 1 by omega, Int.pow_succ]
            have := pow128 (9 - (j + 1))
            omega
/-- What is written is read. -/
theorem rn_back : ∀ (m j : Nat) (acc y : Int) (r : List Int), j + m = 10 → 0 < m → 0 ≤ y → (j > 0 → 0 < y) → y < 2 * 128 ^ (9 - j) → rn m j acc (numb (m - 1) y ++ r) = some (acc + y * 128 ^ j, r)
  | 0, _, _, _, _, _, h, _, _, _ => by omega
  | m + 1, j, acc, y, r, hj, _, h0, h1, h2 => by
    rw [show m + 1 - 1 = m from rfl]
    by_cases hy : y < 128
    · rw [numb_small m y h0 hy]
      show rn (m + 1) j acc (y :: r) = _
      rw [rn, if_neg, if_pos hy]
      · rw [show y % 128 = y by omega]
      · rintro (⟨h9, hd⟩ | ⟨hj0, hd⟩)
        · subst h9; simp at h2; omega
        · have := h1 hj0; omega
    · by_cases h9 : j = 9
      · subst h9; simp at h2; omega
      · obtain ⟨m', rfl⟩ : ∃ m', m = m' + 1 := ⟨m - 1, by omega⟩
        have hq : y = (y % 128 + 128) % 128 + 128 * (y / 128) := by omega
        have hn : numb (m' + 1) y = (y % 128 + 128) :: numb m' (y / 128) := by
          conv => lhs; rw [hq]
          exact numb_cons m' (y / 128) (y % 128 + 128) (by omega) (by omega) (by omega) (by omega)
        rw [hn]
        show rn (m' + 1 + 1) j acc ((y % 128 + 128) :: (numb m' (y / 128) ++ r)) = _
        rw [rn, if_neg (by rintro (⟨h, _⟩ | ⟨_, h⟩) <;> omega), if_neg (by omega)]
        have hp := pow128 (9 - (j + 1))
        have ih := rn_back (m' + 1) (j + 1) (acc + (y % 128 + 128) % 128 * 128 ^ j) (y / 128) r (by omega) (by omega) (by omega) (fun _ => by omega) (by
          rw [show 9 - j = (9 - (j + 1)) + 1 by omega, Int.pow_succ] at h2
          omega)
        rw [show m' + 1 - 1 = m' from rfl] at ih
        rw [ih]
        congr 2
        rw [Int.pow_succ, Int.add_assoc, ← Int.mul_assoc, Int.mul_right_comm, ← Int.add_mul]
        congr 2
        omega
/-- A number at the head of s. -/
def pn (s : List Int) : Option (Int × List Int) := rn 10 0 0 s
theorem pn_sound {s : List Int} {x : Int} {r : List Int} (hb : Bytes s) (h : pn s = some (x, r)) : s = numb 9 x ++ r ∧ 0 ≤ x ∧ x < 18446744073709551616 := by
  obtain ⟨y, hx, hs, h0, _, h2⟩ := rn_sound 10 0 0 s x r rfl hb h
  rw [Int.zero_add, Int.pow_zero, Int.mul_one] at hx
  subst hx
  exact ⟨hs, h0, by simpa using h2⟩
theorem pn_back (x : Int) (r : List Int) (h0 : 0 ≤ x) (h1 : x < 18446744073709551616) : pn (numb 9 x ++ r) = some (x, r) := by
  have h := rn_back 10 0 0 x r rfl (by decide) h0 (by omega) (by simpa using h1)
  rw [Int.zero_add, Int.pow_zero, Int.mul_one] at h
  exact h
theorem pn_len {s : List Int} {x : Int} {r : List Int} (h : pn s = some (x, r)) : r.length < s.length := rn_len _ _ _ _ _ _ h
theorem and127 : ∀ b : Fin 256, Go.bits .and .u8 ((b.1 : Nat) : Int) 127 = ((b.1 % 128 : Nat) : Int) := by decide +kernel
theorem and127' (d : Int) (h0 : 0 ≤ d) (h1 : d < 256) : Go.bits .and .u8 d 127 = d % 128 := by
  have h := and127 ⟨d.toNat, by omega⟩
  rw [show (((⟨d.toNat, by omega⟩ : Fin 256).1 : Nat) : Int) = d by simp only; omega] at h
  rw [h]
  simp only
  omega
theorem pow_two (j : Nat) : (128 : Int) ^ j = 2 ^ (7 * j) := by rw [show (128 : Int) = 2 ^ 7 by decide, ← Int.pow_mul]
/-- One byte laid onto what was read. -/
theorem lay (acc d : Int) (j : Nat) (hj : j ≤ 9) (ha0 : 0 ≤ acc) (ha1 : acc < 128 ^ j) (hd0 : 0 ≤ d) (hd1 : d < 256) (h9 : j = 9 → d ≤ 1) :
    Go.bits .or .u64 acc (shl .u64 (IntKind.u64.wrap (Go.bits .and .u8 d 127)) (wrap64 (7 * (j : Int)))) = acc + d % 128 * 128 ^ j := by
  have hp := pow128 j
  have e1 : wrap64 (7 * (j : Int)) = ((7 * j : Nat) : Int) := by rw [wrap64_in _ (by omega)]; omega
  have hlt : d % 128 * 128 ^ j < 18446744073709551616 := by
    by_cases h : j = 9
    · subst h
      have := h9 rfl
      have : d % 128 ≤ 1 := by omega
      calc d % 128 * 128 ^ 9 ≤ 1 * 128 ^ 9 := Int.mul_le_mul_of_nonneg_right this (by decide)
        _ < 18446744073709551616 := by decide
    · have h8 : (128 : Int) ^ j ≤ 128 ^ 8 := by
        rw [pow_two, pow_two]
        exact_mod_cast Nat.pow_le_pow_right (show 0 < 2 by decide) (by omega)
      calc d % 128 * 128 ^ j ≤ 127 * 128 ^ 8 := Int.mul_le_mul (by omega) h8 (by omega) (by decide)
        _ < 18446744073709551616 := by decide
  have hnn : 0 ≤ d % 128 * 128 ^ j := Int.mul_nonneg (by omega) (by omega)
  have e2 : shl .u64 (IntKind.u64.wrap (Go.bits .and .u8 d 127)) (wrap64 (7 * (j : Int))) = d % 128 * 128 ^ j := by
    rw [and127' d hd0 hd1, wrap_u64 (d % 128) (by omega) (by omega), e1]
    have hb : (IntKind.u64.bits) = 64 := rfl
    refine (shl_small (k := .u64) (x := d % 128) (y := ((7 * j : Nat) : Int)) rfl (by rw [hb]; omega)).symm.trans ?_
    rw [Int.toNat_natCast, ← pow_two, wrap_u64 _ hnn hlt]
  rw [e2]
  have hacc : acc < 18446744073709551616 := by
    have h9' : (128 : Int) ^ j ≤ 128 ^ 9 := by
      rw [pow_two, pow_two]
      exact_mod_cast Nat.pow_le_pow_right (show 0 < 2 by decide) (by omega)
    have : (128 : Int) ^ 9 < 18446744073709551616 := by decide
    omega
  rw [u64_or acc _ ha0 hacc hnn hlt]
  obtain ⟨a, rfl⟩ := Int.eq_ofNat_of_zero_le ha0
  obtain ⟨b, hb⟩ := Int.eq_ofNat_of_zero_le (show 0 ≤ d % 128 by omega)
  rw [hb, pow_two]
  rw [pow_two] at ha1
  have ha2 : a < 2 ^ (7 * j) := by exact_mod_cast ha1
  have := Nat.two_pow_add_eq_or_of_lt ha2 b
  rw [show ((b : Int) * 2 ^ (7 * j)).toNat = 2 ^ (7 * j) * b by rw [show ((b : Int) * 2 ^ (7 * j)) = ((2 ^ (7 * j) * b : Nat) : Int) by push_cast; rw [Int.mul_comm]]; exact Int.toNat_natCast _, Int.toNat_natCast, Nat.or_comm, ← this]
  push_cast
  rw [Int.mul_comm ((2 : Int) ^ (7 * j)), Int.add_comm]
/-- A reader's step: what it gives, where it stands then, and that it is spoilt if nothing can be read. -/
def Spec {α : Type} (F : Nat → Option (α × Int × Bool)) (T : List Int) (n : Nat) (bad : Bool) (p : Option (α × List Int)) (Q : α → Prop) : Prop :=
  ∃ (v : α) (a : Nat) (b : Bool), Evt F (v, (a : Int), b) ∧ n ≤ a ∧ a ≤ T.length ∧ Q v ∧ (bad = true → b = true) ∧
    (bad = false → (∀ v' s, p = some (v', s) → v = v' ∧ T.drop a = s ∧ b = false) ∧ (p = none → b = true))
theorem Spec.step {α : Type} {F G : Nat → Option (α × Int × Bool)} {T : List Int} {n n' : Nat} {bad : Bool} {p : Option (α × List Int)} {Q : α → Prop} (h : ∀ k, F (k + 1) = G k) (hn : n ≤ n') (hg : Spec G T n' bad p Q) : Spec F T n bad p Q := by
  obtain ⟨v, a, b, he, h1, h2⟩ := hg
  exact ⟨v, a, b, Evt.step h he, Nat.le_trans hn h1, h2⟩
theorem Spec.congr {α : Type} {F G : Nat → Option (α × Int × Bool)} {T : List Int} {n : Nat} {bad : Bool} {p : Option (α × List Int)} {Q : α → Prop} (h : ∀ k, F k = G k) (hg : Spec G T n bad p Q) : Spec F T n bad p Q := by
  obtain ⟨v, a, b, he, h2⟩ := hg
  exact ⟨v, a, b, Evt.congr h he, h2⟩
theorem drop_cons {T : List Int} {n : Nat} (h : n < T.length) : T.drop n = T[n] :: T.drop (n + 1) := List.drop_eq_getElem_cons h
theorem code_num (T : List Int) (hT : Bytes T) (hl : T.length ≤ 1099511627776) (bad : Bool) : ∀ (m j : Nat) (acc : Int) (n : Nat), j + m = 10 → 0 ≤ acc → acc < 128 ^ j → n ≤ T.length →
    Spec (fun k => trace_reader_number.l0 k acc (j : Int) T (n : Int) bad) T n bad (rn m j acc (T.drop n)) (fun x => 0 ≤ x ∧ x < 18446744073709551616)
  | 0, j, acc, n, hj, _, _, hn => by
    refine ⟨0, n, true, ?_, Nat.le_refl _, hn, by decide, fun _ => rfl, fun _ => ⟨fun v' s h => by simp [rn] at h, fun _ => rfl⟩⟩
    refine Evt.step (fun k => by rw [trace_reader_number.l0, if_neg (by omega)]) ?_
    refine Evt.of 1 (fun k => ?_)
    rw [trace_reader_number.j1, if_neg (by simp)]
  | m + 1, j, acc, n, hj, ha0, ha1, hn => by
    by_cases hlt : n < T.length
    case neg =>
      refine ⟨0, n, true, ?_, Nat.le_refl _, hn, by decide, fun _ => rfl, fun _ => ⟨fun v' s h => ?_, fun _ => rfl⟩⟩
      · refine Evt.step (fun k => by rw [trace_reader_number.l0, if_pos (by omega)]) ?_
        refine Evt.of 1 (fun k => ?_)
        rw [trace_reader_number.j1, if_neg (by simp; omega)]
      · rw [List.drop_eq_nil_of_le (by omega)] at h; simp [rn] at h
    case pos =>
      have hd := hT T[n] (List.getElem_mem hlt)
      rw [drop_cons hlt]
      have hr : rd T (n : Int) = T[n] := rd_get hlt
      have hw : wrap64 ((n : Int) + 1) = ((n + 1 : Nat) : Int) := nat_step n (by omega)
      refine Spec.step (n' := n) (fun k => by rw [trace_reader_number.l0, if_pos (show (j : Int) < 10 by omega), decide_eq_true (show (n : Int) < (T.length : Int) by omega)]) (Nat.le_refl _) ?_
      have key : ∀ (sp : Bool), (sp = true ↔ (j = 9 ∧ T[n] > 1 ∨ j > 0 ∧ T[n] = 0)) → Spec (fun k => trace_reader_number.j2 k acc (j : Int) (rd T (n : Int)) sp T (wrap64 ((n : Int) + 1)) bad) T n bad (rn (m + 1) j acc (T[n] :: T.drop (n + 1))) (fun x => 0 ≤ x ∧ x < 18446744073709551616) := by
        intro sp hsp
        rw [hr, hw]
        cases sp with
        | true =>
          have hs := hsp.1 rfl
          refine ⟨0, n + 1, true, Evt.of 1 (fun k => by rw [trace_reader_number.j2, if_pos rfl]), by omega, by omega, by decide, fun _ => rfl, fun _ => ⟨fun v' s h => ?_, fun _ => rfl⟩⟩
          rw [rn, if_pos hs] at h
          cases h
        | false =>
          have hs : ¬ (j = 9 ∧ T[n] > 1 ∨ j > 0 ∧ T[n] = 0) := fun h => by have := hsp.2 h; cases this
          have hlay := lay acc T[n] j (by omega) ha0 ha1 hd.1 hd.2 (fun h9 => by
            rcases Int.lt_or_le 1 T[n] with h | h
            · exact absurd (.inl ⟨h9, h⟩) hs
            · exact h)
          have hp := pow128 j
          have hm0 : 0 ≤ T[n] % 128 := by omega
          have hm1 : T[n] % 128 ≤ 127 := by omega
          have hnn : 0 ≤ T[n] % 128 * 128 ^ j := Int.mul_nonneg hm0 (by omega)
          have hup : T[n] % 128 * 128 ^ j ≤ 127 * 128 ^ j := Int.mul_le_mul_of_nonneg_right hm1 (by omega)
          have hw7 : 0 ≤ wrap64 (7 * (j : Int)) := by rw [wrap64_in _ (by omega)]; omega
          by_cases hc : T[n] < 128
          · have hlt64 : acc + T[n] % 128 * 128 ^ j < 18446744073709551616 := by
              have := bits_hi_u64 .or acc (shl .u64 (IntKind.u64.wrap (Go.bits .and .u8 T[n] 127)) (wrap64 (7 * (j : Int))))
              rw [hlay] at this
              omega
            refine ⟨acc + T[n] % 128 * 128 ^ j, n + 1, bad, Evt.of 1 (fun k => by rw [trace_reader_number.j2, if_neg (by simp), if_pos hw7, if_pos hc, hlay]), by omega, by omega, ⟨by omega, hlt64⟩, fun h => h, fun hb => ⟨fun v' s h => ?_, fun h => ?_⟩⟩
            · rw [rn, if_neg hs, if_pos hc] at h
              injection h with h; injection h with h1 h2
              exact ⟨h1, h2, hb⟩
            · rw [rn, if_neg hs, if_pos hc] at h
              cases h
          · have hj9 : j ≠ 9 := fun h => hs (.inl ⟨h, by omega⟩)
            have ih := code_num T hT hl bad m (j + 1) (acc + T[n] % 128 * 128 ^ j) (n + 1) (by omega) (by omega) (by rw [Int.pow_succ]; omega) (by omega)
            rw [rn, if_neg hs, if_neg hc]
            refine Spec.step (n' := n + 1) (fun k => ?_) (by omega) ih
            rw [trace_reader_number.j2, if_neg (by simp), if_pos hw7, if_neg hc, hlay, nat_step j (by omega)]
      refine Spec.step (n' := n) (fun k => by rw [trace_reader_number.j1, if_pos rfl, if_pos (show (0 : Int) ≤ (n : Int) by omega), if_pos (show (n : Int) < (T.length : Int) by omega)]) (Nat.le_refl _) ?_
      by_cases h9 : j = 9
      · by_cases h1 : T[n] > 1
        · exact Spec.congr (fun k => by rw [if_pos (show (j : Int) = 9 by omega), if_pos (by rw [hr]; exact h1)]) (key true ⟨fun _ => .inl ⟨h9, h1⟩, fun _ => rfl⟩)
        · refine Spec.congr (fun k => by rw [if_pos (show (j : Int) = 9 by omega), if_neg (by rw [hr]; exact h1), if_pos (show (j : Int) > 0 by omega)]) (key _ ?_)
          rw [hr]
          simp only [beq_iff_eq]
          exact ⟨fun h => .inr ⟨by omega, h⟩, fun h => h.elim (fun h => absurd h.2 h1) (fun h => h.2)⟩
      · by_cases h0 : j > 0
        · refine Spec.congr (fun k => by rw [if_neg (show ¬ (j : Int) = 9 by omega), if_pos (show (j : Int) > 0 by omega)]) (key _ ?_)
          rw [hr]
          simp only [beq_iff_eq]
          exact ⟨fun h => .inr ⟨h0, h⟩, fun h => h.elim (fun h => absurd h.1 h9) (fun h => h.2)⟩
        · refine Spec.congr (fun k => by rw [if_neg (show ¬ (j : Int) = 9 by omega), if_neg (show ¬ (j : Int) > 0 by omega)]) (key false ⟨fun h => (by cases h), fun h => h.elim (fun h => absurd h.1 h9) (fun h => absurd h.1 h0)⟩)
theorem number_spec (T : List Int) (hT : Bytes T) (hl : T.length ≤ 1099511627776) (bad : Bool) (n : Nat) (hn : n ≤ T.length) : Spec (fun k => trace_reader_number.f k T (n : Int) bad) T n bad (pn (T.drop n)) (fun x => 0 ≤ x ∧ x < 18446744073709551616) :=
  code_num T hT hl bad 10 0 0 n rfl (by decide) (by decide) hn
def unsgn (x : Int) : Int := if x % 2 = 0 then x / 2 else -(x / 2) - 1
def pSeq {α β : Type} (p : List Int → Option (α × List Int)) (q : α → List Int → Option (β × List Int)) (s : List Int) : Option ((α × β) × List Int) :=
  match p s with
  | none => none
  | some (v, r) => match q v r with
    | none => none
    | some (w, r') => some ((v, w), r')
def ps (s : List Int) : Option (Int × List Int) := match pn s with
  | none => none
  | some (x, r) => some (unsgn x, r)
def pp (s : List Int) : Option (Int × List Int) := match pn s with
  | none => none
  | some (x, r) => if x > 9223372036854775807 then none else some (x, r)
def pm (s : List Int) : Option (Int × List Int) := match pn s with
  | none => none
  | some (x, r) => if x > (r.length : Int) then none else some (x, r)
def rowP (f : List Int → Int) : Nat → List Int → List Int → Option (List Int × List Int)
  | 0, l, s => some (l, s)
  | n + 1, l, s => match ps s with
    | none => none
    | some (x, r) => rowP f n (l ++ [wrap64 (x + f l)]) r
def pr (f : List Int → Int) (s : List Int) : Option (List Int × List Int) := match pm s with
  | none => none
  | some (x, r) => rowP f x.toNat [] r
def lastOf (l : List Int) : Int := bef l l.length
def befOf (o : List Int) (l : List Int) : Int := atS o l.length
def arrP : Nat → List (List Int) → List Int → Option (List (List Int) × List Int)
  | 0, l, s => some (l, s)
  | n + 1, l, s => match pr lastOf s with
    | none => none
    | some (x, r) => arrP n (l ++ [x]) r
def marksP : Nat → List (List Int) → List Int → List Int → Option (List (List Int) × List Int)
  | 0, l, _, s => some (l, s)
  | n + 1, l, o, s => match pr (befOf o) s with
    | none => none
    | some (x, r) => marksP n (l ++ [x]) x r
def parr (s : List Int) : Option (List (List Int) × List Int) := match pm s with
  | none => none
  | some (x, r) => arrP x.toNat [] r
def pmarks (s : List Int) : Option (List (List Int) × List Int) := match pm s with
  | none => none
  | some (x, r) => marksP x.toNat [] [] r
abbrev Tr : Type := Int × List Int × Int × Int × Int × Int × Int × List Int × List (List Int) × List (List Int)
def ptrace : List Int → Option (Tr × List Int) :=
  pSeq ps fun _ => pSeq (pr lastOf) fun _ => pSeq pp fun _ => pSeq pp fun _ => pSeq pp fun _ => pSeq pp fun _ => pSeq pp fun _ => pSeq (pr lastOf) fun _ => pSeq parr fun _ => pmarks
def SpecG {α β : Type} (g : α → Int → Bool → β) (F : Nat → Option β) (T : List Int) (n : Nat) (bad : Bool) (p : Option (α × List Int)) (Q : α → Prop) : Prop :=
  ∃ (v : α) (a : Nat) (b : Bool), Evt F (g v (a : Int) b) ∧ n ≤ a ∧ a ≤ T.length ∧ Q v ∧ (bad = true → b = true) ∧
    (bad = false → (∀ v' s, p = some (v', s) → v = v' ∧ T.drop a = s ∧ b = false) ∧ (p = none → b = true))
theorem Spec.g {α : Type} {F : Nat → Option (α × Int × Bool)} {T : List Int} {n : Nat} {bad : Bool} {p : Option (α × List Int)} {Q : α → Prop} (h : Spec F T n bad p Q) : SpecG (fun v a b => (v, a, b)) F T n bad p Q := h
theorem SpecG.step {α β : Type} {g : α → Int → Bool → β} {F G : Nat → Option β} {T : List Int} {n n' : Nat} {bad : Bool} {p : Option (α × List Int)} {Q : α → Prop} (h : ∀ k, F (k + 1) = G k) (hn : n ≤ n') (hg : SpecG g G T n' bad p Q) : SpecG g F T n bad p Q := by
  obtain ⟨v, a, b, he, h1, h2⟩ := hg
  exact ⟨v, a, b, Evt.step h he, Nat.le_trans hn h1, h2⟩
theorem SpecG.congr {α β : Type} {g : α → Int → Bool → β} {F G : Nat → Option β} {T : List Int} {n : Nat} {bad : Bool} {p : Option (α × List Int)} {Q : α → Prop} (h : ∀ k, F k = G k) (hg : SpecG g G T n bad p Q) : SpecG g F T n bad p Q := by
  obtain ⟨v, a, b, he, h2⟩ := hg
  exact ⟨v, a, b, Evt.congr h he, h2⟩
theorem SpecG.imp {α β : Type} {g : α → Int → Bool → β} {F : Nat → Option β} {T : List Int} {n : Nat} {bad : Bool} {p : Option (α × List Int)} {Q Q' : α → Prop} (h : ∀ v, Q v → Q' v) (hg : SpecG g F T n bad p Q) : SpecG g F T n bad p Q' := by
  obtain ⟨v, a, b, he, h1, h2, h3, h4⟩ := hg
  exact ⟨v, a, b, he, h1, h2, h _ h3, h4⟩
/-- One reader behind another; the later one's parser is handed what the first gave. -/
theorem SpecG.bind {α β γ : Type} {g : γ → Int → Bool → β} {F : Nat → Option (α × Int × Bool)} {G : Nat → α × Int × Bool → Option β} {T : List Int} {n : Nat} {bad : Bool} {p : Option (α × List Int)} {q : α → List Int → Option (γ × List Int)} {p' : Option (γ × List Int)} {Q : α → Prop} {R : γ → Prop}
    (hF : Spec F T n bad p Q) (hG : ∀ v (a : Nat) b, n ≤ a → a ≤ T.length → Q v → (bad = false → b = false → p = some (v, T.drop a)) → SpecG g (fun k => G k (v, (a : Int), b)) T a b (q v (T.drop a)) R)
    (hp : p' = p.bind fun x => q x.1 x.2) : SpecG g (fun k => (F k).bind fun x => G k x) T n bad p' R := by
  subst hp
  obtain ⟨v, a, b, he, h1, h2, h3, h4, h5⟩ := hF
  have hpe : bad = false → b = false → p = some (v, T.drop a) := fun hb hb' => by
    cases hp : p with
    | none => have := (h5 hb).2 hp; rw [hb'] at this; cases this
    | some x => obtain ⟨e1, e2, _⟩ := (h5 hb).1 x.1 x.2 hp; rw [e1, e2]
  obtain ⟨w, a', b', he', h1', h2', h3', h4', h5'⟩ := hG v a b h1 h2 h3 hpe
  refine ⟨w, a', b', Evt.bind he he', by omega, h2', h3', fun hb => h4' (h4 hb), fun hb => ⟨fun v' s hs => ?_, fun hn => ?_⟩⟩
  · cases hp : p with
    | none => rw [hp] at hs; cases hs
    | some x =>
      obtain ⟨rfl, e2, e3⟩ := (h5 hb).1 x.1 x.2 hp
      rw [hp] at hs
      have hs' : q x.1 x.2 = some (v', s) := hs
      rw [← e2] at hs'
      exact (h5' e3).1 v' s hs'
  · cases hp : p with
    | none => exact h4' ((h5 hb).2 hp)
    | some x =>
      obtain ⟨rfl, e2, e3⟩ := (h5 hb).1 x.1 x.2 hp
      rw [hp] at hn
      have hn' : q x.1 x.2 = none := hn
      rw [← e2] at hn'
      exact (h5' e3).2 hn'
/-- What was read is kept beside what comes. -/
theorem SpecG.pair {α β γ : Type} {g : α × γ → Int → Bool → β} {F : Nat → Option (α × Int × Bool)} {G : Nat → α × Int × Bool → Option β} {T : List Int} {n : Nat} {bad : Bool} {p : List Int → Option (α × List Int)} {q : α → List Int → Option (γ × List Int)} {Q : α → Prop} {R : γ → Prop}
    (hF : Spec F T n bad (p (T.drop n)) Q) (hG : ∀ v (a : Nat) b, n ≤ a → a ≤ T.length → Q v → SpecG (fun y => g (v, y)) (fun k => G k (v, (a : Int), b)) T a b (q v (T.drop a)) R) :
    SpecG g (fun k => (F k).bind fun x => G k x) T n bad (pSeq p q (T.drop n)) (fun _ => True) := by
  refine SpecG.bind (q := fun v s => (q v s).map fun y => ((v, y.1), y.2)) hF (fun v a b h1 h2 h3 _ => ?_) ?_
  · obtain ⟨w, a', b', he, e1, e2, e3, e4, e5⟩ := hG v a b h1 h2 h3
    refine ⟨(v, w), a', b', he, e1, e2, trivial, e4, fun hb => ⟨fun v' s hs => ?_, fun hn => ?_⟩⟩
    · obtain ⟨y, hy, hyy⟩ := Option.map_eq_some_iff.1 hs
      injection hyy with q1 q2
      obtain ⟨r1, r2, r3⟩ := (e5 hb).1 y.1 y.2 hy
      exact ⟨by rw [← q1, r1], by rw [r2, q2], r3⟩
    · exact (e5 hb).2 (Option.map_eq_none_iff.1 hn)
  · unfold pSeq
    cases hp : p (T.drop n) with
    | none => rfl
    | some x =>
      show _ = (q x.1 x.2).map _
      cases hq : q x.1 x.2 with
      | none => simp only [hq]; rfl
      | some y => simp only [hq]; rfl
theorem and1_u64 (x : Int) (h0 : 0 ≤ x) (h1 : x < 18446744073709551616) : Go.bits .and .u64 x 1 = x % 2 := by
  rw [u64_and x 1 h0 h1 (by decide) (by decide), show (1 : Int).toNat = 1 from rfl, Nat.and_one_is_mod]
  omega
theorem xor_i64_0 (a : Int) (h0 : -9223372036854775808 ≤ a) (h1 : a < 9223372036854775808) : Go.bits .xor .i64 a 0 = a := by
  unfold Go.bits
  have e : (BitVec.ofInt IntKind.i64.bits 0) = 0#64 := rfl
  rw [e]
  show IntKind.i64.wrap (((BitVec.ofInt 64 a ^^^ 0#64).toNat : Nat) : Int) = a
  rw [BitVec.xor_zero, BitVec.toNat_ofInt]
  have : IntKind.i64.wrap (((a % (2 ^ 64 : Nat)).toNat : Nat) : Int) = wrap64 (((a % (2 ^ 64 : Nat)).toNat : Nat) : Int) := i64_w _
  rw [this]
  unfold wrap64
  omega
theorem xor_i64_1 (a : Int) (h0 : -9223372036854775808 ≤ a) (h1 : a < 9223372036854775808) : Go.bits .xor .i64 a (-1) = -a - 1 := by
  unfold Go.bits
  have e : (BitVec.ofInt IntKind.i64.bits (-1)) = BitVec.allOnes 64 := show BitVec.ofInt 64 (-1) = BitVec.allOnes 64 by decide
  rw [e]
  show IntKind.i64.wrap (((BitVec.ofInt 64 a ^^^ BitVec.allOnes 64).toNat : Nat) : Int) = -a - 1
  rw [BitVec.xor_allOnes, BitVec.toNat_not, BitVec.toNat_ofInt]
  refine (i64_w _).trans ?_
  unfold wrap64
  omega
theorem unsgn_code (x : Int) (h0 : 0 ≤ x) (h1 : x < 18446744073709551616) : Go.bits .xor .i64 (wrap64 (x / 2)) (wrap64 (-(wrap64 (Go.bits .and .u64 x 1)))) = unsgn x := by
  rw [and1_u64 x h0 h1, wrap64_in (x / 2) (by omega), wrap64_in (x % 2) (by omega), wrap64_in _ (by omega)]
  unfold unsgn
  by_cases h : x % 2 = 0
  · rw [if_pos h, h]
    exact xor_i64_0 _ (by omega) (by omega)
  · rw [if_neg h, show x % 2 = 1 by omega]
    exact xor_i64_1 _ (by omega) (by omega)
theorem unsgn_in (x : Int) (h0 : 0 ≤ x) (h1 : x < 18446744073709551616) : -9223372036854775808 ≤ unsgn x ∧ unsgn x < 9223372036854775808 := by
  unfold unsgn
  split <;> omega
theorem last_some (l : List Int) (h : l.length ≤ 1099511627776) : trace_last.f l = some (lastOf l) := by
  unfold trace_last.f lastOf bef
  by_cases h0 : l.length = 0
  · rw [if_pos (by omega), if_pos h0]
  · rw [if_neg (by omega), if_neg h0, wrap64_in _ (by omega), if_pos (by omega), if_pos (by omega)]
    congr 2
    omega
theorem at_some (o : List Int) (n : Nat) : trace_at.f o (n : Int) = some (atS o n) := by
  unfold trace_at.f atS
  by_cases h : n < o.length
  · rw [if_pos (by omega), if_pos (by omega), if_pos h]
  · rw [if_neg (by omega), if_neg h]
section
variable (T : List Int) (hT : Bytes T) (hl : T.length ≤ 1099511627776)
include hT hl
theorem num_spec (bad : Bool) (n : Nat) (hn : n ≤ T.length) : Spec (fun k => trace_reader_number.f k T (n : Int) bad) T n bad (pn (T.drop n)) (fun x => 0 ≤ x ∧ x < 18446744073709551616) :=
  number_spec T hT (by omega) bad n hn
theorem signed_spec (bad : Bool) (n : Nat) (hn : n ≤ T.length) : Spec (fun k => trace_reader_signed.f k T (n : Int) bad) T n bad (ps (T.drop n)) (fun x => -9223372036854775808 ≤ x ∧ x < 9223372036854775808) := by
  obtain ⟨v, a, b, he, h1, h2, h3, h4, h5⟩ := num_spec T hT hl bad n hn
  refine ⟨unsgn v, a, b, ?_, h1, h2, unsgn_in v h3.1 h3.2, h4, fun hb => ⟨fun v' s hs => ?_, fun hn => ?_⟩⟩
  · unfold trace_reader_signed.f
    refine Evt.bind he (Evt.of 0 (fun k => ?_))
    simp only
    rw [unsgn_code v h3.1 h3.2]
  · unfold ps at hs
    cases hp : pn (T.drop n) with
    | none => rw [hp] at hs; cases hs
    | some x =>
      rw [hp] at hs
      obtain ⟨rfl, e2, e3⟩ := (h5 hb).1 x.1 x.2 hp
      injection hs with hs; injection hs with s1 s2
      exact ⟨s1, e2.trans s2, e3⟩
  · unfold ps at hn
    cases hp : pn (T.drop n) with
    | none => exact (h5 hb).2 hp
    | some x => rw [hp] at hn; cases hn
theorem plain_spec (bad : Bool) (n : Nat) (hn : n ≤ T.length) : Spec (fun k => trace_reader_plain.f k T (n : Int) bad) T n bad (pp (T.drop n)) (fun x => 0 ≤ x ∧ x < 9223372036854775808) := by
  obtain ⟨v, a, b, he, h1, h2, h3, h4, h5⟩ := num_spec T hT hl bad n hn
  by_cases hv : v > 9223372036854775807
  · refine ⟨0, a, true, ?_, h1, h2, by decide, fun _ => rfl, fun hb => ⟨fun v' s hs => ?_, fun _ => rfl⟩⟩
    · unfold trace_reader_plain.f
      exact Evt.bind he (Evt.of 0 (fun k => by simp only; rw [if_pos hv]))
    · unfold pp at hs
      cases hp : pn (T.drop n) with
      | none => rw [hp] at hs; cases hs
      | some x =>
        rw [hp] at hs
        obtain ⟨rfl, _, _⟩ := (h5 hb).1 x.1 x.2 hp
        rw [show (match (some x : Option (Int × List Int)) with | none => none | some (x, r) => if x > 9223372036854775807 then none else some (x, r)) = (if x.1 > 9223372036854775807 then none else some (x.1, x.2)) from rfl, if_pos hv] at hs
        cases hs
  · refine ⟨v, a, b, ?_, h1, h2, ⟨h3.1, by omega⟩, h4, fun hb => ⟨fun v' s hs => ?_, fun hn => ?_⟩⟩
    · unfold trace_reader_plain.f
      exact Evt.bind he (Evt.of 0 (fun k => by simp only; rw [if_neg hv, wrap64_in v (by omega)]))
    · unfold pp at hs
      cases hp : pn (T.drop n) with
      | none => rw [hp] at hs; cases hs
      | some x =>
        rw [hp] at hs
        obtain ⟨rfl, e2, e3⟩ := (h5 hb).1 x.1 x.2 hp
        rw [show (match (some x : Option (Int × List Int)) with | none => none | some (x, r) => if x > 9223372036854775807 then none else some (x, r)) = (if x.1 > 9223372036854775807 then none else some (x.1, x.2)) from rfl, if_neg hv] at hs
        injection hs with hs; injection hs with s1 s2
        exact ⟨s1, e2.trans s2, e3⟩
    · unfold pp at hn
      cases hp : pn (T.drop n) with
      | none => exact (h5 hb).2 hp
      | some x =>
        rw [hp] at hn
        obtain ⟨rfl, e2, e3⟩ := (h5 hb).1 x.1 x.2 hp
        rw [show (match (some x : Option (Int × List Int)) with | none => none | some (x, r) => if x > 9223372036854775807 then none else some (x, r)) = (if x.1 > 9223372036854775807 then none else some (x.1, x.2)) from rfl, if_neg hv] at hn
        cases hn
theorem many_spec (bad : Bool) (n : Nat) (hn : n ≤ T.length) : Spec (fun k => trace_reader_many.f k T (n : Int) bad) T n bad (pm (T.drop n)) (fun x => 0 ≤ x ∧ x ≤ (T.length : Int)) := by
  obtain ⟨v, a, b, he, h1, h2, h3, h4, h5⟩ := num_spec T hT hl bad n hn
  have hw : IntKind.u64.wrap (wrap64 ((T.length : Int) - (a : Int))) = ((T.length - a : Nat) : Int) := by
    rw [wrap64_in _ (by omega), wrap_u64 _ (by omega) (by omega)]; omega
  have hpm : ∀ x : Int × List Int, (match (some x : Option (Int × List Int)) with | none => none | some (x, r) => if x > (r.length : Int) then none else some (x, r)) = (if x.1 > (x.2.length : Int) then none else some (x.1, x.2)) := fun _ => rfl
  by_cases hb1 : b = true
  · subst hb1
    refine ⟨0, a, true, ?_, h1, h2, ⟨by decide, by omega⟩, fun _ => rfl, fun hb => ⟨fun v' s hs => ?_, fun _ => rfl⟩⟩
    · unfold trace_reader_many.f
      exact Evt.bind he (Evt.of 0 (fun k => by simp only [if_true]))
    · unfold pm at hs
      cases hp : pn (T.drop n) with
      | none => rw [hp] at hs; cases hs
      | some x => have := ((h5 hb).1 x.1 x.2 hp).2.2; cases this
  · by_cases hv : v > ((T.length - a : Nat) : Int)
    · refine ⟨0, a, true, ?_, h1, h2, ⟨by decide, by omega⟩, fun _ => rfl, fun hb => ⟨fun v' s hs => ?_, fun _ => rfl⟩⟩
      · unfold trace_reader_many.f
        exact Evt.bind he (Evt.of 0 (fun k => by simp only; rw [if_neg hb1, hw, if_pos hv]))
      · unfold pm at hs
        cases hp : pn (T.drop n) with
        | none => rw [hp] at hs; cases hs
        | some x =>
          rw [hp] at hs
          obtain ⟨rfl, e2, _⟩ := (h5 hb).1 x.1 x.2 hp
          rw [hpm, if_pos (by rw [← e2, List.length_drop]; exact hv)] at hs
          cases hs
    · refine ⟨v, a, b, ?_, h1, h2, ⟨h3.1, by omega⟩, h4, fun hb => ⟨fun v' s hs => ?_, fun hn => ?_⟩⟩
      · unfold trace_reader_many.f
        exact Evt.bind he (Evt.of 0 (fun k => by simp only; rw [if_neg hb1, hw, if_neg hv, wrap64_in v (by omega)]))
      · unfold pm at hs
        cases hp : pn (T.drop n) with
        | none => rw [hp] at hs; cases hs
        | some x =>
          rw [hp] at hs
          obtain ⟨rfl, e2, e3⟩ := (h5 hb).1 x.1 x.2 hp
          rw [hpm, if_neg (by rw [← e2, List.length_drop]; exact hv)] at hs
          injection hs with hs; injection hs with s1 s2
          exact ⟨s1, e2.trans s2, e3⟩
      · unfold pm at hn
        cases hp : pn (T.drop n) with
        | none => exact (h5 hb).2 hp
        | some x =>
          rw [hp] at hn
          obtain ⟨rfl, e2, e3⟩ := (h5 hb).1 x.1 x.2 hp
          rw [hpm, if_neg (by rw [← e2, List.length_drop]; exact hv)] at hn
          cases hn
theorem rowlast_l0 : ∀ (m : Nat) (l : List Int) (n : Nat) (bad : Bool), l.length + m ≤ 1099511627776 → n ≤ T.length →
    Spec (fun k => trace_reader_row_trace_last.l0 k l ((l.length + m : Nat) : Int) (l.length : Int) T (n : Int) bad) T n bad (rowP lastOf m l (T.drop n)) (fun l' => l'.length = l.length + m)
  | 0, l, n, bad, hm, hn => ⟨l, n, bad, Evt.of 1 (fun k => by rw [trace_reader_row_trace_last.l0, if_neg (by omega)]), Nat.le_refl _, hn, rfl, fun h => h, fun hb => ⟨fun v' s hs => by
      rw [rowP] at hs; injection hs with hs; injection hs with s1 s2; exact ⟨s1, s2, hb⟩, fun h => by rw [rowP] at h; cases h⟩⟩
  | m + 1, l, n, bad, hm, hn => by
    refine SpecG.step (g := fun v a b => (v, a, b)) (n' := n) (fun k => by rw [trace_reader_row_trace_last.l0, if_pos (show (l.length : Int) < ((l.length + (m + 1) : Nat) : Int) by omega)]) (Nat.le_refl _) ?_
    refine SpecG.bind (q := fun x r => rowP lastOf m (l ++ [wrap64 (x + lastOf l)]) r) (signed_spec T hT hl bad n hn) (fun v a b h1 h2 h3 _ => ?_) ?_
    · have ih := rowlast_l0 m (l ++ [wrap64 (v + lastOf l)]) a b (by simp only [List.length_append, List.length_cons, List.length_nil]; omega) h2
      simp only [List.length_append, List.length_cons, List.length_nil, Nat.zero_add] at ih
      refine SpecG.imp (fun l' h => by rw [h]; omega) (SpecG.congr (fun k => ?_) ih.g)
      simp only
      rw [last_some l (by omega), Option.bind_some, if_pos (by omega), nat_step _ (by omega), show l.length + (m + 1) = l.length + 1 + m by omega]
    · rw [rowP]
      cases hp : ps (T.drop n) with
      | none => rfl
      | some x => rfl
theorem rowbef_l0 (o : List Int) : ∀ (m : Nat) (l : List Int) (n : Nat) (bad : Bool), l.length + m ≤ 1099511627776 → n ≤ T.length →
    Spec (fun k => trace_reader_row_before.l0 k o l ((l.length + m : Nat) : Int) (l.length : Int) T (n : Int) bad) T n bad (rowP (befOf o) m l (T.drop n)) (fun l' => l'.length = l.length + m)
  | 0, l, n, bad, hm, hn => ⟨l, n, bad, Evt.of 1 (fun k => by rw [trace_reader_row_before.l0, if_neg (by omega)]), Nat.le_refl _, hn, rfl, fun h => h, fun hb => ⟨fun v' s hs => by
      rw [rowP] at hs; injection hs with hs; injection hs with s1 s2; exact ⟨s1, s2, hb⟩, fun h => by rw [rowP] at h; cases h⟩⟩
  | m + 1, l, n, bad, hm, hn => by
    refine SpecG.step (g := fun v a b => (v, a, b)) (n' := n) (fun k => by rw [trace_reader_row_before.l0, if_pos (show (l.length : Int) < ((l.length + (m + 1) : Nat) : Int) by omega)]) (Nat.le_refl _) ?_
    refine SpecG.bind (q := fun x r => rowP (befOf o) m (l ++ [wrap64 (x + befOf o l)]) r) (signed_spec T hT hl bad n hn) (fun v a b h1 h2 h3 _ => ?_) ?_
    · have ih := rowbef_l0 o m (l ++ [wrap64 (v + befOf o l)]) a b (by simp only [List.length_append, List.length_cons, List.length_nil]; omega) h2
      simp only [List.length_append, List.length_cons, List.length_nil, Nat.zero_add] at ih
      refine SpecG.imp (fun l' h => by rw [h]; omega) (SpecG.congr (fun k => ?_) ih.g)
      simp only
      rw [at_some o l.length, Option.bind_some, if_pos (by omega), nat_step _ (by omega), show l.length + (m + 1) = l.length + 1 + m by omega]
      rfl
    · rw [rowP]
      cases hp : ps (T.drop n) with
      | none => rfl
      | some x => rfl
theorem rowlast_spec (bad : Bool) (n : Nat) (hn : n ≤ T.length) : Spec (fun k => trace_reader_row_trace_last.f k T (n : Int) bad) T n bad (pr lastOf (T.drop n)) (fun l' => l'.length ≤ T.length) := by
  unfold trace_reader_row_trace_last.f
  refine SpecG.bind (g := fun v a b => (v, a, b)) (q := fun x r => rowP lastOf x.toNat [] r) (many_spec T hT hl bad n hn) (fun v a b h1 h2 h3 _ => ?_) ?_
  · have h := rowlast_l0 T hT hl v.toNat [] a b (by simp only [List.length_nil]; omega) h2
    simp only [List.length_nil, Nat.zero_add] at h
    refine SpecG.imp (fun l' h => by rw [h]; omega) (SpecG.congr (fun k => ?_) h.g)
    simp only
    rw [show ((v.toNat : Nat) : Int) = v by omega]
    rfl
  · unfold pr
    cases hp : pm (T.drop n) with
    | none => rfl
    | some x => rfl
theorem rowbef_spec (o : List Int) (bad : Bool) (n : Nat) (hn : n ≤ T.length) : Spec (fun k => trace_reader_row_before.f k T (n : Int) bad o) T n bad (pr (befOf o) (T.drop n)) (fun l' => l'.length ≤ T.length) := by
  unfold trace_reader_row_before.f
  refine SpecG.bind (g := fun v a b => (v, a, b)) (q := fun x r => rowP (befOf o) x.toNat [] r) (many_spec T hT hl bad n hn) (fun v a b h1 h2 h3 _ => ?_) ?_
  · have h := rowbef_l0 T hT hl o v.toNat [] a b (by simp only [List.length_nil]; omega) h2
    simp only [List.length_nil, Nat.zero_add] at h
    refine SpecG.imp (fun l' h => by rw [h]; omega) (SpecG.congr (fun k => ?_) h.g)
    simp only
    rw [show ((v.toNat : Nat) : Int) = v by omega]
    rfl
  · unfold pr
    cases hp : pm (T.drop n) with
    | none => rfl
    | some x => rfl
theorem marks_l1 (fu : Int) (sr : List Int) (e si ki ti re : Int) (sc : List Int) (ar : List (List Int)) : ∀ (m i : Nat) (ma : List (List Int)) (o : List Int) (n : Nat) (bad : Bool), i + m ≤ 1099511627776 → ma.length ≤ i → n ≤ T.length →
    SpecG (fun ma' a b => (fu, sr, e, si, ki, ti, re, sc, ar, ma', a, b)) (fun k => trace_reader_trace.l1 k ((i + m : Nat) : Int) (i : Int) T (n : Int) bad fu sr e si ki ti re sc ar ma o) T n bad (marksP m ma o (T.drop n)) (fun _ => True)
  | 0, i, ma, o, n, bad, hm, hi, hn => ⟨ma, n, bad, Evt.of 1 (fun k => by rw [trace_reader_trace.l1, if_neg (by omega)]), Nat.le_refl _, hn, trivial, fun h => h, fun hb => ⟨fun v' s hs => by
      rw [marksP] at hs; injection hs with hs; injection hs with s1 s2; exact ⟨s1, s2, hb⟩, fun h => by rw [marksP] at h; cases h⟩⟩
  | m + 1, i, ma, o, n, bad, hm, hi, hn => by
    refine SpecG.step (n' := n) (fun k => by rw [trace_reader_trace.l1, if_pos (show (i : Int) < ((i + (m + 1) : Nat) : Int) by omega)]) (Nat.le_refl _) ?_
    refine SpecG.bind (q := fun x r => marksP m (ma ++ [x]) x r) (rowbef_spec T hT hl o bad n hn) (fun v a b h1 h2 h3 _ => ?_) ?_
    · have ih := marks_l1 fu sr e si ki ti re sc ar m (i + 1) (ma ++ [v]) v a b (by omega) (by simp only [List.length_append, List.length_cons, List.length_nil]; omega) h2
      refine SpecG.congr (fun k => ?_) ih
      simp only
      rw [if_pos (by omega), nat_step _ (by omega), show i + (m + 1) = i + 1 + m by omega]
    · rw [marksP]
      cases hp : pr (befOf o) (T.drop n) with
      | none => rfl
      | some x => rfl
theorem arr_l0 (fu : Int) (sr : List Int) (e si ki ti re : Int) (sc : List Int) : ∀ (m i : Nat) (ar : List (List Int)) (n : Nat) (bad : Bool), i + m ≤ 1099511627776 → ar.length ≤ i → n ≤ T.length →
    SpecG (fun (y : List (List Int) × List (List Int)) a b => (fu, sr, e, si, ki, ti, re, sc, y.1, y.2, a, b)) (fun k => trace_reader_trace.l0 k ((i + m : Nat) : Int) (i : Int) T (n : Int) bad fu sr e si ki ti re sc ar) T n bad (pSeq (arrP m ar) (fun _ => pmarks) (T.drop n)) (fun _ => True)
  | 0, i, ar, n, bad, hm, hi, hn => by
    refine SpecG.step (n' := n) (fun k => by rw [trace_reader_trace.l0, if_neg (by omega)]) (Nat.le_refl _) ?_
    refine SpecG.bind (q := fun x r => (marksP x.toNat [] [] r).map fun z => ((ar, z.1), z.2)) (many_spec T hT hl bad n hn) (fun v a b h1 h2 h3 _ => ?_) ?_
    · have h := marks_l1 T hT hl fu sr e si ki ti re sc ar v.toNat 0 [] [] a b (by omega) (Nat.zero_le _) h2
      obtain ⟨w, a', b', he, e1, e2, e3, e4, e5⟩ := h
      refine ⟨(ar, w), a', b', Evt.congr (fun k => ?_) he, e1, e2, trivial, e4, fun hb => ⟨fun v' s hs => ?_, fun hn => ?_⟩⟩
      · simp only [Nat.zero_add]
        rw [show ((v.toNat : Nat) : Int) = v by omega]
        rfl
      · obtain ⟨y, hy, hyy⟩ := Option.map_eq_some_iff.1 hs
        injection hyy with q1 q2
        obtain ⟨r1, r2, r3⟩ := (e5 hb).1 y.1 y.2 hy
        exact ⟨by rw [← q1, r1], by rw [r2, q2], r3⟩
      · exact (e5 hb).2 (Option.map_eq_none_iff.1 hn)
    · unfold pSeq
      rw [arrP]
      simp only
      unfold pmarks
      cases hp : pm (T.drop n) with
      | none => rfl
      | some x =>
        simp only [Option.bind_some]
        cases hq : marksP x.1.toNat [] [] x.2 with
        | none => rfl
        | some y => rfl
  | m + 1, i, ar, n, bad, hm, hi, hn => by
    refine SpecG.step (n' := n) (fun k => by rw [trace_reader_trace.l0, if_pos (show (i : Int) < ((i + (m + 1) : Nat) : Int) by omega)]) (Nat.le_refl _) ?_
    refine SpecG.bind (q := fun x r => pSeq (arrP m (ar ++ [x])) (fun _ => pmarks) r) (rowlast_spec T hT hl bad n hn) (fun v a b h1 h2 h3 _ => ?_) ?_
    · have ih := arr_l0 fu sr e si ki ti re sc m (i + 1) (ar ++ [v]) a b (by omega) (by simp only [List.length_append, List.length_cons, List.length_nil]; omega) h2
      refine SpecG.congr (fun k => ?_) ih
      simp only
      rw [if_pos (by omega), nat_step _ (by omega), show i + (m + 1) = i + 1 + m by omega]
    · unfold pSeq
      rw [arrP]
      cases hp : pr lastOf (T.drop n) with
      | none => rfl
      | some x => rfl
theorem trace_spec (bad : Bool) (n : Nat) (hn : n ≤ T.length) :
    SpecG (fun (t : Tr) a b => (t.1, t.2.1, t.2.2.1, t.2.2.2.1, t.2.2.2.2.1, t.2.2.2.2.2.1, t.2.2.2.2.2.2.1, t.2.2.2.2.2.2.2.1, t.2.2.2.2.2.2.2.2.1, t.2.2.2.2.2.2.2.2.2, a, b)) (fun k => trace_reader_trace.f k T (n : Int) bad) T n bad (ptrace (T.drop n)) (fun _ => True) := by
  unfold trace_reader_trace.f ptrace
  refine SpecG.pair (R := fun _ => True) (signed_spec T hT hl bad n hn) (fun fu a0 b0 _ g0 _ => ?_)
  refine SpecG.pair (R := fun _ => True) (rowlast_spec T hT hl b0 a0 g0) (fun sr a1 b1 _ g1 _ => ?_)
  refine SpecG.pair (R := fun _ => True) (plain_spec T hT hl b1 a1 g1) (fun e a2 b2 _ g2 _ => ?_)
  refine SpecG.pair (R := fun _ => True) (plain_spec T hT hl b2 a2 g2) (fun si a3 b3 _ g3 _ => ?_)
  refine SpecG.pair (R := fun _ => True) (plain_spec T hT hl b3 a3 g3) (fun ki a4 b4 _ g4 _ => ?_)
  refine SpecG.pair (R := fun _ => True) (plain_spec T hT hl b4 a4 g4) (fun ti a5 b5 _ g5 _ => ?_)
  refine SpecG.pair (R := fun _ => True) (plain_spec T hT hl b5 a5 g5) (fun re a6 b6 _ g6 _ => ?_)
  refine SpecG.pair (R := fun _ => True) (rowlast_spec T hT hl b6 a6 g6) (fun sc a7 b7 _ g7 _ => ?_)
  refine SpecG.bind (q := fun x r => pSeq (arrP x.toNat []) (fun _ => pmarks) r) (many_spec T hT hl b7 a7 g7) (fun v a b h1 h2 h3 _ => ?_) ?_
  · have h := arr_l0 T hT hl fu sr e si ki ti re sc v.toNat 0 [] a b (by omega) (Nat.zero_le _) h2
    refine SpecG.congr (fun k => ?_) h
    simp only [Nat.zero_add]
    rw [show ((v.toNat : Nat) : Int) = v by omega]
    rfl
  · unfold pSeq parr
    cases hp : pm (T.drop a7) with
    | none => rfl
    | some x => rfl
end
def In64 (x : Int) : Prop := -9223372036854775808 ≤ x ∧ x < 9223372036854775808
def Nat63 (x : Int) : Prop := 0 ≤ x ∧ x < 9223372036854775808
def Row (l : List Int) : Prop := (∀ x ∈ l, In64 x) ∧ l.length < 9223372036854775808
def Rws (l : List (List Int)) : Prop := (∀ x ∈ l, Row x) ∧ l.length < 9223372036854775808
theorem sgn_in (a : Int) (h : In64 a) : 0 ≤ sgn a ∧ sgn a < 18446744073709551616 := by
  rcases Int.lt_or_le a 0 with h0 | h0
  · rw [sgn_neg a h.1 h0]; have := h.1; omega
  · rw [sgn_nonneg a h0 h.2]; have := h.2; omega
theorem unsgn_sgn (a : Int) (h : In64 a) : unsgn (sgn a) = a := by
  unfold unsgn
  rcases Int.lt_or_le a 0 with h0 | h0
  · rw [sgn_neg a h.1 h0, if_neg (by omega)]; omega
  · rw [sgn_nonneg a h0 h.2, if_pos (by omega)]; omega
theorem sgn_unsgn (x : Int) (h0 : 0 ≤ x) (h1 : x < 18446744073709551616) : sgn (unsgn x) = x := by
  unfold unsgn
  split
  · rw [sgn_nonneg _ (by omega) (by omega)]; omega
  · rw [sgn_neg _ (by omega) (by omega)]; omega
theorem numb_ne (n : Nat) (x : Int) : 1 ≤ (numb n x).length := by
  cases n with
  | zero => simp [numb]
  | succ n => rw [numb]; split <;> simp
/-- p reads just what e writes (of what is V). -/
structure Reads {α : Type} (p : List Int → Option (α × List Int)) (e : α → List Int) (V : α → Prop) : Prop where
  sound : ∀ {s v r}, Bytes s → p s = some (v, r) → s = e v ++ r ∧ V v
  back : ∀ v r, V v → p (e v ++ r) = some (v, r)
theorem bytes_right {a b s : List Int} (h : Bytes s) (e : s = a ++ b) : Bytes b := fun x hx => h x (by rw [e]; exact List.mem_append_right _ hx)
theorem Reads.pSeq {α β : Type} {p : List Int → Option (α × List Int)} {e : α → List Int} {V : α → Prop} {q : α → List Int → Option (β × List Int)} {e' : α → β → List Int} {V' : β → Prop} (hp : Reads p e V) (hq : ∀ v, V v → Reads (q v) (e' v) V') :
    Reads (pSeq p q) (fun x => e x.1 ++ e' x.1 x.2) (fun x => V x.1 ∧ V' x.2) where
  sound := by
    intro s v r hb h
    unfold M.pSeq at h
    cases h1 : p s with
    | none => rw [h1] at h; cases h
    | some x =>
      obtain ⟨x, s1⟩ := x
      rw [h1] at h
      simp only at h
      obtain ⟨e1, v1⟩ := hp.sound hb h1
      cases h2 : q x s1 with
      | none => rw [h2] at h; cases h
      | some y =>
        obtain ⟨y, s2⟩ := y
        rw [h2] at h
        obtain ⟨e2, v2⟩ := (hq x v1).sound (bytes_right hb e1) h2
        injection h with h; injection h with h3 h4
        subst h3; subst h4
        exact ⟨by rw [e1, e2, List.append_assoc], v1, v2⟩
  back := by
    intro v r h
    unfold M.pSeq
    rw [List.append_assoc, hp.back v.1 _ h.1]
    simp only
    rw [(hq v.1 h.1).back v.2 _ h.2]
theorem reads_ps : Reads ps (fun a => numb 9 (sgn a)) In64 where
  sound := by
    intro s v r hb h
    unfold ps at h
    cases h1 : pn s with
    | none => rw [h1] at h; cases h
    | some x =>
      rw [h1] at h
      injection h with h; injection h with h2 h3
      obtain ⟨e1, e2, e3⟩ := pn_sound hb h1
      rw [← h2, ← h3]
      exact ⟨by rw [sgn_unsgn _ e2 e3]; exact e1, unsgn_in _ e2 e3⟩
  back := by
    intro v r h
    unfold ps
    have h2 := sgn_in v h
    rw [pn_back _ r h2.1 h2.2]
    simp only
    rw [unsgn_sgn v h]
theorem reads_pp : Reads pp (fun a => numb 9 a) Nat63 where
  sound := by
    intro s v r hb h
    unfold pp at h
    cases h1 : pn s with
    | none => rw [h1] at h; cases h
    | some x =>
      obtain ⟨x, s1⟩ := x
      rw [h1] at h
      simp only at h
      obtain ⟨e1, e2, e3⟩ := pn_sound hb h1
      split at h
      · cases h
      · injection h with h; injection h with h2 h3
        subst h2; subst h3
        exact ⟨e1, e2, by omega⟩
  back := by
    intro v r h
    unfold pp
    rw [pn_back _ r h.1 (by have := h.2; omega)]
    simp only
    rw [if_neg (by have := h.2; omega)]
def encR (f : List Int → Int) : List Int → List Int → List Int
  | _, [] => []
  | l, x :: xs => numb 9 (sgn (wrap64 (x - f l))) ++ encR f (l ++ [x]) xs
def eR (f : List Int → Int) (l : List Int) : List Int := numb 9 (l.length : Int) ++ encR f [] l
theorem wrap64_in64 (x : Int) : In64 (wrap64 x) := by unfold In64 wrap64; omega
theorem encR_len (f : List Int → Int) : ∀ l xs, xs.length ≤ (encR f l xs).length
  | _, [] => Nat.le_refl _
  | l, x :: xs => by
    have h1 := numb_ne 9 (sgn (wrap64 (x - f l)))
    have h2 := encR_len f (l ++ [x]) xs
    rw [encR, List.length_append, List.length_cons]
    omega
theorem rowP_sound (f : List Int → Int) : ∀ (n : Nat) (l s l' r : List Int), Bytes s → rowP f n l s = some (l', r) → ∃ xs, l' = l ++ xs ∧ xs.length = n ∧ s = encR f l xs ++ r ∧ ∀ x ∈ xs, In64 x
  | 0, l, s, l', r, _, h => by
    rw [rowP] at h
    injection h with h; injection h with h1 h2
    exact ⟨[], by rw [List.append_nil, h1], rfl, by rw [h2]; rfl, fun x hx => by cases hx⟩
  | n + 1, l, s, l', r, hb, h => by
    rw [rowP] at h
    cases h1 : ps s with
    | none => rw [h1] at h; cases h
    | some x =>
      obtain ⟨x, s1⟩ := x
      rw [h1] at h
      simp only at h
      obtain ⟨e1, v1⟩ := reads_ps.sound hb h1
      obtain ⟨xs, e2, e3, e4, e5⟩ := rowP_sound f n _ s1 l' r (bytes_right hb e1) h
      refine ⟨wrap64 (x + f l) :: xs, by rw [e2, List.append_assoc]; rfl, by rw [List.length_cons, e3], ?_, fun y hy => ?_⟩
      · rw [encR, show wrap64 (wrap64 (x + f l) - f l) = x by have := v1.1; have := v1.2; unfold wrap64; omega, List.append_assoc, ← e4]
        exact e1
      · rcases List.mem_cons.1 hy with h | h
        · rw [h]; exact wrap64_in64 _
        · exact e5 y h
theorem rowP_back (f : List Int → Int) : ∀ (xs l r : List Int), (∀ x ∈ xs, In64 x) → rowP f xs.length l (encR f l xs ++ r) = some (l ++ xs, r)
  | [], l, r, _ => by rw [List.length_nil, rowP, encR, List.append_nil]; rfl
  | x :: xs, l, r, h => by
    have hx := h x List.mem_cons_self
    rw [List.length_cons, rowP, encR, List.append_assoc, reads_ps.back _ _ (wrap64_in64 _)]
    simp only
    rw [show wrap64 (wrap64 (x - f l) + f l) = x by have := hx.1; have := hx.2; unfold wrap64; omega, rowP_back f xs (l ++ [x]) r (fun y hy => h y (List.mem_cons_of_mem _ hy)), List.append_assoc]
    rfl
theorem pm_sound {s : List Int} {x : Int} {r : List Int} (hb : Bytes s) (h : pm s = some (x, r)) : s = numb 9 x ++ r ∧ 0 ≤ x ∧ x ≤ (r.length : Int) ∧ x < 18446744073709551616 := by
  unfold pm at h
  cases h1 : pn s with
  | none => rw [h1] at h; cases h
  | some y =>
    obtain ⟨y, s1⟩ := y
    rw [h1] at h
    simp only at h
    obtain ⟨e1, e2, e3⟩ := pn_sound hb h1
    split at h
    · cases h
    · injection h with h; injection h with h2 h3
      subst h2; subst h3
      exact ⟨e1, e2, by omega, e3⟩
theorem pm_back (x : Nat) (r : List Int) (h : x ≤ r.length) (h1 : x < 9223372036854775808) : pm (numb 9 (x : Int) ++ r) = some ((x : Int), r) := by
  unfold pm
  rw [pn_back _ r (by omega) (by omega)]
  simp only
  rw [if_neg (by omega)]
/-- A stretch of bytes is shorter than any int. -/
def Short (s : List Int) : Prop := s.length < 9223372036854775808
theorem pr_sound (f : List Int → Int) {s l r : List Int} (hb : Bytes s) (hs : Short s) (h : pr f s = some (l, r)) : s = eR f l ++ r ∧ Row l := by
  unfold pr at h
  cases h1 : pm s with
  | none => rw [h1] at h; cases h
  | some x =>
    obtain ⟨x, s1⟩ := x
    rw [h1] at h
    simp only at h
    obtain ⟨e1, e2, e3, e4⟩ := pm_sound hb h1
    obtain ⟨xs, q1, q2, q3, q4⟩ := rowP_sound f _ _ _ _ _ (bytes_right hb e1) h
    rw [List.nil_append] at q1
    subst q1
    have hl : (l.length : Int) = x := by omega
    have hlen := congrArg List.length e1
    rw [List.length_append] at hlen
    unfold Short at hs
    refine ⟨?_, q4, by omega⟩
    unfold eR
    rw [hl, List.append_assoc, ← q3]
    exact e1
theorem pr_back (f : List Int → Int) (l r : List Int) (h : Row l) : pr f (eR f l ++ r) = some (l, r) := by
  unfold pr eR
  have hl := encR_len f [] l
  rw [List.append_assoc, pm_back l.length _ (by rw [List.length_append]; omega) h.2]
  simp only
  rw [Int.toNat_natCast, rowP_back f l [] r h.1]
  rfl
def encA : List (List Int) → List Int
  | [] => []
  | x :: xs => eR lastOf x ++ encA xs
def encM : List Int → List (List Int) → List Int
  | _, [] => []
  | o, x :: xs => eR (befOf o) x ++ encM x xs
theorem eR_ne (f : List Int → Int) (l : List Int) : 1 ≤ (eR f l).length := by
  have := numb_ne 9 (l.length : Int)
  unfold eR
  rw [List.length_append]
  omega
theorem encA_len : ∀ xs, xs.length ≤ (encA xs).length
  | [] => Nat.le_refl _
  | x :: xs => by
    have h1 := eR_ne lastOf x
    have h2 := encA_len xs
    rw [encA, List.length_append, List.length_cons]
    omega
theorem encM_len : ∀ o xs, xs.length ≤ (encM o xs).length
  | _, [] => Nat.le_refl _
  | o, x :: xs => by
    have h1 := eR_ne (befOf o) x
    have h2 := encM_len x xs
    rw [encM, List.length_append, List.length_cons]
    omega
theorem short_right {a b s : List Int} (h : Short s) (e : s = a ++ b) : Short b := by
  have := congrArg List.length e
  rw [List.length_append] at this
  unfold Short at *
  omega
theorem arrP_sound : ∀ (n : Nat) (l : List (List Int)) (s : List Int) (l' : List (List Int)) (r : List Int), Bytes s → Short s → arrP n l s = some (l', r) → ∃ xs, l' = l ++ xs ∧ xs.length = n ∧ s = encA xs ++ r ∧ ∀ x ∈ xs, Row x
  | 0, l, s, l', r, _, _, h => by
    rw [arrP] at h
    injection h with h; injection h with h1 h2
    exact ⟨[], by rw [List.append_nil, h1], rfl, by rw [h2]; rfl, fun x hx => by cases hx⟩
  | n + 1, l, s, l', r, hb, hs, h => by
    rw [arrP] at h
    cases h1 : pr lastOf s with
    | none => rw [h1] at h; cases h
    | some x =>
      obtain ⟨x, s1⟩ := x
      rw [h1] at h
      simp only at h
      obtain ⟨e1, v1⟩ := pr_sound lastOf hb hs h1
      obtain ⟨xs, e2, e3, e4, e5⟩ := arrP_sound n _ s1 l' r (bytes_right hb e1) (short_right hs e1) h
      refine ⟨x :: xs, by rw [e2, List.append_assoc]; rfl, by rw [List.length_cons, e3], by rw [encA, List.append_assoc, ← e4]; exact e1, fun y hy => ?_⟩
      rcases List.mem_cons.1 hy with h | h
      · rw [h]; exact v1
      · exact e5 y h
theorem arrP_back : ∀ (xs l : List (List Int)) (r : List Int), (∀ x ∈ xs, Row x) → arrP xs.length l (encA xs ++ r) = some (l ++ xs, r)
  | [], l, r, _ => by rw [List.length_nil, arrP, encA, List.append_nil]; rfl
  | x :: xs, l, r, h => by
    rw [List.length_cons, arrP, encA, List.append_assoc, pr_back lastOf x _ (h x List.mem_cons_self)]
    simp only
    rw [arrP_back xs (l ++ [x]) r (fun y hy => h y (List.mem_cons_of_mem _ hy)), List.append_assoc]
    rfl
theorem marksP_sound : ∀ (n : Nat) (l : List (List Int)) (o s : List Int) (l' : List (List Int)) (r : List Int), Bytes s → Short s → marksP n l o s = some (l', r) → ∃ xs, l' = l ++ xs ∧ xs.length = n ∧ s = encM o xs ++ r ∧ ∀ x ∈ xs, Row x
  | 0, l, o, s, l', r, _, _, h => by
    rw [marksP] at h
    injection h with h; injection h with h1 h2
    exact ⟨[], by rw [List.append_nil, h1], rfl, by rw [h2]; rfl, fun x hx => by cases hx⟩
  | n + 1, l, o, s, l', r, hb, hs, h => by
    rw [marksP] at h
    cases h1 : pr (befOf o) s with
    | none => rw [h1] at h; cases h
    | some x =>
      obtain ⟨x, s1⟩ := x
      rw [h1] at h
      simp only at h
      obtain ⟨e1, v1⟩ := pr_sound (befOf o) hb hs h1
      obtain ⟨xs, e2, e3, e4, e5⟩ := marksP_sound n _ x s1 l' r (bytes_right hb e1) (short_right hs e1) h
      refine ⟨x :: xs, by rw [e2, List.append_assoc]; rfl, by rw [List.length_cons, e3], by rw [encM, List.append_assoc, ← e4]; exact e1, fun y hy => ?_⟩
      rcases List.mem_cons.1 hy with h | h
      · rw [h]; exact v1
      · exact e5 y h
theorem marksP_back : ∀ (xs l : List (List Int)) (o r : List Int), (∀ x ∈ xs, Row x) → marksP xs.length l o (encM o xs ++ r) = some (l ++ xs, r)
  | [], l, o, r, _ => by rw [List.length_nil, marksP, encM, List.append_nil]; rfl
  | x :: xs, l, o, r, h => by
    rw [List.length_cons, marksP, encM, List.append_assoc, pr_back (befOf o) x _ (h x List.mem_cons_self)]
    simp only
    rw [marksP_back xs (l ++ [x]) x r (fun y hy => h y (List.mem_cons_of_mem _ hy)), List.append_assoc]
    rfl
def eA (l : List (List Int)) : List Int := numb 9 (l.length : Int) ++ encA l
def eM (l : List (List Int)) : List Int := numb 9 (l.length : Int) ++ encM [] l
theorem parr_sound {s : List Int} {l : List (List Int)} {r : List Int} (hb : Bytes s) (hs : Short s) (h : parr s = some (l, r)) : s = eA l ++ r ∧ Rws l := by
  unfold parr at h
  cases h1 : pm s with
  | none => rw [h1] at h; cases h
  | some x =>
    obtain ⟨x, s1⟩ := x
    rw [h1] at h
    simp only at h
    obtain ⟨e1, e2, e3, e4⟩ := pm_sound hb h1
    obtain ⟨xs, q1, q2, q3, q4⟩ := arrP_sound _ _ _ _ _ (bytes_right hb e1) (short_right hs e1) h
    rw [List.nil_append] at q1
    subst q1
    have hl : (l.length : Int) = x := by omega
    have h5 := short_right hs e1
    unfold Short at h5
    refine ⟨?_, q4, by omega⟩
    unfold eA
    rw [hl, List.append_assoc, ← q3]
    exact e1
theorem parr_back (l : List (List Int)) (r : List Int) (h : Rws l) : parr (eA l ++ r) = some (l, r) := by
  unfold parr eA
  have hl := encA_len l
  rw [List.append_assoc, pm_back l.length _ (by rw [List.length_append]; omega) h.2]
  simp only
  rw [Int.toNat_natCast, arrP_back l [] r h.1]
  rfl
theorem pmarks_sound {s : List Int} {l : List (List Int)} {r : List Int} (hb : Bytes s) (hs : Short s) (h : pmarks s = some (l, r)) : s = eM l ++ r ∧ Rws l := by
  unfold pmarks at h
  cases h1 : pm s with
  | none => rw [h1] at h; cases h
  | some x =>
    obtain ⟨x, s1⟩ := x
    rw [h1] at h
    simp only at h
    obtain ⟨e1, e2, e3, e4⟩ := pm_sound hb h1
    obtain ⟨xs, q1, q2, q3, q4⟩ := marksP_sound _ _ _ _ _ _ (bytes_right hb e1) (short_right hs e1) h
    rw [List.nil_append] at q1
    subst q1
    have hl : (l.length : Int) = x := by omega
    have h5 := short_right hs e1
    unfold Short at h5
    refine ⟨?_, q4, by omega⟩
    unfold eM
    rw [hl, List.append_assoc, ← q3]
    exact e1
theorem pmarks_back (l : List (List Int)) (r : List Int) (h : Rws l) : pmarks (eM l ++ r) = some (l, r) := by
  unfold pmarks eM
  have hl := encM_len [] l
  rw [List.append_assoc, pm_back l.length _ (by rw [List.length_append]; omega) h.2]
  simp only
  rw [Int.toNat_natCast, marksP_back l [] [] r h.1]
  rfl
/-- The same, of what is shorter than any int. -/
structure ReadsS {α : Type} (p : List Int → Option (α × List Int)) (e : α → List Int) (V : α → Prop) : Prop where
  sound : ∀ {s v r}, Bytes s → Short s → p s = some (v, r) → s = e v ++ r ∧ V v
  back : ∀ v r, V v → p (e v ++ r) = some (v, r)
theorem Reads.s {α : Type} {p : List Int → Option (α × List Int)} {e : α → List Int} {V : α → Prop} (h : Reads p e V) : ReadsS p e V := ⟨fun hb _ h1 => h.sound hb h1, h.back⟩
theorem ReadsS.pSeq {α β : Type} {p : List Int → Option (α × List Int)} {e : α → List Int} {V : α → Prop} {q : List Int → Option (β × List Int)} {e' : β → List Int} {V' : β → Prop} (hp : ReadsS p e V) (hq : ReadsS q e' V') :
    ReadsS (pSeq p fun _ => q) (fun x => e x.1 ++ e' x.2) (fun x => V x.1 ∧ V' x.2) where
  sound := by
    intro s v r hb hs h
    unfold M.pSeq at h
    cases h1 : p s with
    | none => rw [h1] at h; cases h
    | some x =>
      obtain ⟨x, s1⟩ := x
      rw [h1] at h
      simp only at h
      obtain ⟨e1, v1⟩ := hp.sound hb hs h1
      cases h2 : q s1 with
      | none => rw [h2] at h; cases h
      | some y =>
        obtain ⟨y, s2⟩ := y
        rw [h2] at h
        obtain ⟨e2, v2⟩ := hq.sound (bytes_right hb e1) (short_right hs e1) h2
        injection h with h; injection h with h3 h4
        subst h3; subst h4
        exact ⟨by rw [e1, e2, List.append_assoc], v1, v2⟩
  back := by
    intro v r h
    unfold M.pSeq
    rw [List.append_assoc, hp.back v.1 _ h.1]
    simp only
    rw [hq.back v.2 _ h.2]
def encT (t : Tr) : List Int :=
  numb 9 (sgn t.1) ++ (eR lastOf t.2.1 ++ (numb 9 t.2.2.1 ++ (numb 9 t.2.2.2.1 ++ (numb 9 t.2.2.2.2.1 ++ (numb 9 t.2.2.2.2.2.1 ++ (numb 9 t.2.2.2.2.2.2.1 ++ (eR lastOf t.2.2.2.2.2.2.2.1 ++ (eA t.2.2.2.2.2.2.2.2.1 ++ eM t.2.2.2.2.2.2.2.2.2))))))))
def VT (t : Tr) : Prop := In64 t.1 ∧ Row t.2.1 ∧ Nat63 t.2.2.1 ∧ Nat63 t.2.2.2.1 ∧ Nat63 t.2.2.2.2.1 ∧ Nat63 t.2.2.2.2.2.1 ∧ Nat63 t.2.2.2.2.2.2.1 ∧ Row t.2.2.2.2.2.2.2.1 ∧ Rws t.2.2.2.2.2.2.2.2.1 ∧ Rws t.2.2.2.2.2.2.2.2.2
theorem reads_trace : ReadsS ptrace encT VT :=
  (reads_ps.s).pSeq (ReadsS.pSeq ⟨pr_sound lastOf, pr_back lastOf⟩ (reads_pp.s.pSeq (reads_pp.s.pSeq (reads_pp.s.pSeq (reads_pp.s.pSeq (reads_pp.s.pSeq (ReadsS.pSeq ⟨pr_sound lastOf, pr_back lastOf⟩ (ReadsS.pSeq ⟨parr_sound, parr_back⟩ ⟨pmarks_sound, pmarks_back⟩))))))))
theorem take_bef (l : List Int) (n : Nat) (hn : n ≤ l.length) : lastOf (l.take n) = bef l n := by
  unfold lastOf bef
  rw [List.length_take, Nat.min_eq_left hn]
  by_cases h : n = 0
  · rw [if_pos h, if_pos h]
  · rw [if_neg h, if_neg h]
    rw [rd_get (by rw [List.length_take]; omega), rd_get (by omega)]
    simp
theorem rowN_enc (l : List Int) (f : List Int → Int) (g : Nat → Int) (hg : ∀ n, n ≤ l.length → f (l.take n) = g n) : ∀ (m n : Nat) (b : List Int), n + m = l.length → rowN (fun j => (rd l (j : Int), g j)) m n b = b ++ encR f (l.take n) (l.drop n)
  | 0, n, b, hn => by
    rw [List.drop_eq_nil_of_le (by omega), encR, List.append_nil]
    rfl
  | m + 1, n, b, hn => by
    have h1 : n < l.length := by omega
    rw [rowN, rowN_enc l f g hg m (n + 1) _ (by omega), List.drop_eq_getElem_cons h1, encR, List.append_assoc]
    simp only
    rw [rd_get h1, hg n (by omega), List.take_add_one, List.getElem?_eq_getElem h1, Option.toList_some]
theorem rowA_enc (l : List Int) (hl : l.length < 9223372036854775808) : rowA [] l = eR lastOf l := by
  unfold rowA eR stepsOf encNum
  rw [← rowN_upto, rowN_enc l lastOf (bef l) (fun n hn => take_bef l n hn) l.length 0 _ (by omega), List.nil_append, wrap_u64 _ (by omega) (by omega)]
  rfl
theorem rowB_enc (l o : List Int) (hl : l.length < 9223372036854775808) : rowB [] l o = eR (befOf o) l := by
  unfold rowB eR besideOf encNum
  rw [← rowN_upto, rowN_enc l (befOf o) (atS o) (fun n hn => by unfold befOf; rw [List.length_take, Nat.min_eq_left hn]) l.length 0 _ (by omega), List.nil_append, wrap_u64 _ (by omega) (by omega)]
  rfl
theorem flatA_enc : ∀ (rs : List (List Int)) (b : List Int), (∀ x ∈ rs, Row x) → flatA rs b = b ++ encA rs
  | [], b, _ => by rw [encA, List.append_nil]; rfl
  | r :: rs, b, h => by
    have e : flatA (r :: rs) b = flatA rs (rowA b r) := rfl
    rw [e, flatA_enc rs _ (fun x hx => h x (List.mem_cons_of_mem _ hx)), ← rowA_app, rowA_enc r (h r List.mem_cons_self).2, encA, List.append_assoc]
theorem flatM_enc : ∀ (rs : List (List Int)) (o b : List Int), (∀ x ∈ rs, Row x) → flatM rs o b = b ++ encM o rs
  | [], o, b, _ => by rw [encM, List.append_nil]; rfl
  | r :: rs, o, b, h => by
    rw [flatM, flatM_enc rs r _ (fun x hx => h x (List.mem_cons_of_mem _ hx)), ← rowB_app, rowB_enc r o (h r List.mem_cons_self).2, encM, List.append_assoc]
def magic : List Int := [71, 84, 82, 67, 1]
def body (t : Tr) : List Int := magic ++ encT t
theorem encNum_63 (b : List Int) (x : Int) (h : Nat63 x) : encNum b x = b ++ numb 9 x := by
  unfold encNum
  rw [wrap_u64 x h.1 (by have := h.2; omega)]
theorem file_eq (fu : Int) (sr : List Int) (e si ki ti re : Int) (sc : List Int) (ar ma : List (List Int)) (h : VT (fu, sr, e, si, ki, ti, re, sc, ar, ma)) : file fu sr e si ki ti re sc ar ma = closed (body (fu, sr, e, si, ki, ti, re, sc, ar, ma)) := by
  obtain ⟨h0, h1, h2, h3, h4, h5, h6, h7, h8, h9⟩ := h
  simp only at h0 h1 h2 h3 h4 h5 h6 h7 h8 h9
  unfold file
  congr 1
  unfold tail start
  rw [flatM_enc ma [] _ h9.1, encNum_63 _ (ma.length : Int) ⟨by omega, by have := h9.2; omega⟩, flatA_enc ar _ h8.1, encNum_63 _ (ar.length : Int) ⟨by omega, by have := h8.2; omega⟩, ← rowA_app _ sc, rowA_enc sc h7.2, encNum_63 _ re h6, encNum_63 _ ti h5, encNum_63 _ ki h4, encNum_63 _ si h3, encNum_63 _ e h2, ← rowA_app _ sr, rowA_enc sr h1.2]
  unfold body encT eA eM magic
  simp only [List.append_assoc]
theorem bequal_loop : ∀ (m : Nat) (x y : List Int) (n : Nat), n + m = x.length → x.length = y.length → x.length ≤ 9223372036854775807 →
    Evt (fun k => slices_Equal_byte_byte.l0 k x y (x.length : Int) (n : Int)) (decide (x.drop n = y.drop n))
  | 0, x, y, n, hn, hl, hx => by
    rw [List.drop_eq_nil_of_le (by omega), List.drop_eq_nil_of_le (by omega), decide_eq_true rfl]
    refine Evt.of 1 (fun k => ?_)
    rw [slices_Equal_byte_byte.l0, if_neg (by omega)]
  | m + 1, x, y, n, hn, hl, hx => by
    have h1 : n < x.length := by omega
    have h2 : n < y.length := by omega
    by_cases he : x[n] = y[n]
    · have e : decide (x.drop n = y.drop n) = decide (x.drop (n + 1) = y.drop (n + 1)) := by
        rw [List.drop_eq_getElem_cons h1, List.drop_eq_getElem_cons h2, he]
        exact decide_eq_decide.2 ⟨fun h => (List.cons.inj h).2, fun h => by rw [h]⟩
      rw [e]
      refine Evt.step (fun k => ?_) (bequal_loop m x y (n + 1) (by omega) hl hx)
      rw [slices_Equal_byte_byte.l0, if_pos (by omega), if_pos (by omega), if_pos (by omega), if_pos (by omega), if_pos (by rw [rd_get h1, rd_get h2, he]), nat_step n (by omega)]
    · have e : decide (x.drop n = y.drop n) = false := by
        rw [List.drop_eq_getElem_cons h1, List.drop_eq_getElem_cons h2]
        exact decide_eq_false (fun h => he (List.cons.inj h).1)
      rw [e]
      refine Evt.of 1 (fun k => ?_)
      rw [slices_Equal_byte_byte.l0, if_pos (by omega), if_pos (by omega), if_pos (by omega), if_pos (by omega), if_neg (by rw [rd_get h1, rd_get h2]; exact he)]
theorem bequal_ev (x y : List Int) (hx : x.length ≤ 9223372036854775807) : Evt (fun k => slices_Equal_byte_byte.f k x y) (decide (x = y)) := by
  unfold slices_Equal_byte_byte.f
  by_cases hl : x.length = y.length
  · refine Evt.congr (fun k => if_pos (by omega)) ?_
    exact bequal_loop x.length x y 0 (by omega) hl hx
  · refine Evt.congr (fun k => if_neg (by omega)) ?_
    rw [decide_eq_false (fun h => hl (by rw [h]))]
    exact Evt.of 0 (fun k => rfl)
theorem str_list (a : List Int) : (strOfNums a).toList = a.map (fun n => UInt8.ofNat n.toNat) := by rw [ByteArray.toList_eq]; unfold strOfNums; simp
theorem str_inj : ∀ {a b : List Int}, Bytes a → Bytes b → (strOfNums a).toList = (strOfNums b).toList → a = b
  | [], [], _, _, _ => rfl
  | [], _ :: _, _, _, h => by rw [str_list, str_list] at h; simp at h
  | _ :: _, [], _, _, h => by rw [str_list, str_list] at h; simp at h
  | x :: a, y :: b, ha, hb, h => by
    have hx := ha x List.mem_cons_self
    have hy := hb y List.mem_cons_self
    rw [str_list, str_list, List.map_cons, List.map_cons] at h
    injection h with h1 h2
    have e := congrArg UInt8.toNat h1
    rw [UInt8.toNat_ofNat', UInt8.toNat_ofNat'] at e
    rw [show x = y by omega, str_inj ha.tail hb.tail (by rw [str_list, str_list]; exact h2)]
theorem bytes_magic : Bytes magic := by intro d hd; simp only [magic, List.mem_cons, List.not_mem_nil, or_false] at hd; omega
theorem str_magic : (strOfNums magic).toList = ([71, 84, 82, 67, 1] : List UInt8) := by rw [str_list]; rfl
def FitT (t : Tr) : Prop := Fit t.2.2.1 t.2.2.2.1 t.2.2.2.2.1 t.2.2.2.2.2.1 t.2.2.2.2.2.2.1 t.2.2.2.2.2.2.2.2.2
instance (t : Tr) : Decidable (FitT t) := by unfold FitT; infer_instance
def readT (s : List Int) : Option Tr := match ptrace s with
  | some (t, []) => if FitT t then some t else none
  | _ => none
def decR (l : List Int) : Option Tr × Int :=
  if l.length < 9 then (none, 330) else if l.take 5 ≠ magic then (none, 331) else if l.drop (l.length - 4) ≠ sumBytes (sumOf (l.take (l.length - 4))) then (none, 332) else
    match readT ((l.take (l.length - 4)).drop 5) with
    | some t => (some t, 0)
    | none => (none, 333)
def outT (x : Option Tr × Int) : Int × List Int × Int × Int × Int × Int × Int × List Int × List (List Int) × List (List Int) × Int := match x.1 with
  | some t => (t.1, t.2.1, t.2.2.1, t.2.2.2.1, t.2.2.2.2.1, t.2.2.2.2.2.1, t.2.2.2.2.2.2.1, t.2.2.2.2.2.2.2.1, t.2.2.2.2.2.2.2.2.1, t.2.2.2.2.2.2.2.2.2, x.2)
  | none => (0, [], 0, 0, 0, 0, 0, [], [], [], x.2)
theorem decode_ev (l : List Int) (hb : Bytes l) (hl : l.length ≤ 1099511627776) : Evt (fun k => trace_Decode.f k l) (outT (decR l)) := by
  unfold trace_Decode.f decR
  by_cases h9 : l.length < 9
  · rw [if_pos h9]
    exact Evt.of 0 (fun k => by rw [if_pos (by omega)]; rfl)
  rw [if_neg h9]
  refine Evt.congr (fun k => by rw [if_neg (by omega), if_pos (by omega)]) ?_
  by_cases hm : l.take 5 = magic
  case neg =>
    rw [if_pos hm]
    exact Evt.of 0 (fun k => by rw [if_neg (fun h => hm (str_inj (hb.take 5) bytes_magic (h.trans str_magic.symm)))]; rfl)
  rw [if_neg (fun h => h hm)]
  have hw : wrap64 ((l.length : Int) - 4) = ((l.length - 4 : Nat) : Int) := by rw [wrap64_in _ (by omega)]; omega
  have hT : (wrap64 ((l.length : Int) - 4)).toNat = l.length - 4 := by rw [hw, Int.toNat_natCast]
  have hTl : (l.take (l.length - 4)).length = l.length - 4 := by rw [List.length_take]; omega
  refine Evt.congr (fun k => by rw [if_pos (show (strOfNums (l.take 5)).toList = ([71, 84, 82, 67, 1] : List UInt8) by rw [hm]; exact str_magic), if_pos (show 0 ≤ wrap64 ((l.length : Int) - 4) by rw [hw]; omega), if_pos (show wrap64 ((l.length : Int) - 4) ≤ (l.length : Int) by rw [hw]; omega), hT]) ?_
  refine Evt.bind (code_ev (l.take (l.length - 4)) (by omega)) ?_
  refine Evt.bind (bequal_ev (l.drop (l.length - 4)) (sumBytes (sumOf (l.take (l.length - 4)))) (by rw [List.length_drop]; omega)) ?_
  by_cases hs : l.drop (l.length - 4) = sumBytes (sumOf (l.take (l.length - 4)))
  case neg =>
    rw [if_pos hs]
    exact Evt.of 0 (fun k => by rw [if_neg (by rw [decide_eq_false hs]; simp)]; rfl)
  rw [if_neg (fun h => h hs)]
  refine Evt.congr (fun k => if_pos (decide_eq_true hs)) ?_
  obtain ⟨t, a, b, he, h1, h2, _, _, h5⟩ := trace_spec (l.take (l.length - 4)) (hb.take _) (by omega) false 5 (by omega)
  obtain ⟨h6, h7⟩ := h5 rfl
  refine Evt.bind he ?_
  have bad333 : readT ((l.take (l.length - 4)).drop 5) = none → outT (match readT ((l.take (l.length - 4)).drop 5) with | some t => (some t, 0) | none => (none, 333)) = (0, [], 0, 0, 0, 0, 0, [], [], [], 333) := fun h => by rw [h]; rfl
  cases hp : ptrace ((l.take (l.length - 4)).drop 5) with
  | none =>
    rw [bad333 (by unfold readT; rw [hp])]
    exact Evt.of 0 (fun k => if_pos (h7 hp))
  | some x =>
    obtain ⟨t', s⟩ := x
    obtain ⟨rfl, e2, rfl⟩ := h6 t' s hp
    by_cases hs0 : s = []
    case neg =>
      rw [bad333 (by unfold readT; rw [hp]; cases s with | nil => exact absurd rfl hs0 | cons _ _ => rfl)]
      refine Evt.of 0 (fun k => ?_)
      simp only
      rw [if_neg (by simp), if_neg (fun h => hs0 (by rw [← e2]; exact List.drop_eq_nil_of_le (by omega)))]
    subst hs0
    have ha : a = (l.take (l.length - 4)).length := by
      have := congrArg List.length e2
      rw [List.length_drop, List.length_nil] at this
      omega
    refine Evt.congr (fun k => by simp only; rw [if_neg (by simp), if_pos (by omega)]) ?_
    refine Evt.bind (Evt.of 0 (fun k => fit_eq _ _ _ _ _ _ _ _ _ _)) ?_
    by_cases hf : FitT t
    · have er : readT ((l.take (l.length - 4)).drop 5) = some t := by unfold readT; rw [hp]; exact if_pos hf
      rw [er]
      exact Evt.of 0 (fun k => (if_pos (decide_eq_true (show Fit _ _ _ _ _ _ from hf))).trans rfl)
    · rw [bad333 (by unfold readT; rw [hp]; exact if_neg hf)]
      exact Evt.of 0 (fun k => if_neg (fun h => hf (of_decide_eq_true h)))
theorem sumBytes_len (s : Int) : (sumBytes s).length = 4 := rfl
theorem closed_take (b : List Int) : (closed b).take ((closed b).length - 4) = b := by
  unfold closed
  rw [List.length_append, sumBytes_len, Nat.add_sub_cancel, List.take_left']
  rfl
theorem closed_drop (b : List Int) : (closed b).drop ((closed b).length - 4) = sumBytes (sumOf b) := by
  unfold closed
  rw [List.length_append, sumBytes_len, Nat.add_sub_cancel, List.drop_left']
  rfl
theorem closed_len (b : List Int) : (closed b).length = b.length + 4 := by unfold closed; rw [List.length_append, sumBytes_len]
theorem body_len (t : Tr) : 5 ≤ (body t).length := by unfold body; rw [List.length_append]; exact Nat.le_add_right _ _
theorem body_drop (t : Tr) : (body t).drop 5 = encT t := rfl
theorem decR_file (t : Tr) (h : VT t) (hf : FitT t) : decR (closed (body t)) = (some t, 0) := by
  have hl := closed_len (body t)
  have h5 := body_len t
  unfold decR
  rw [if_neg (by omega), if_neg, if_neg]
  · rw [closed_take, body_drop]
    have hb := reads_trace.back t [] h
    rw [List.append_nil] at hb
    unfold readT
    rw [hb]
    simp only
    rw [if_pos hf]
  · rw [closed_take, closed_drop]
    exact fun h => h rfl
  · intro hne
    apply hne
    rfl
theorem decR_ok (l : List Int) (hb : Bytes l) (hl : l.length ≤ 1099511627776) (h : (decR l).2 = 0) : ∃ t, VT t ∧ FitT t ∧ decR l = (some t, 0) ∧ l = closed (body t) := by
  unfold decR at h ⊢
  by_cases h9 : l.length < 9
  · rw [if_pos h9] at h; exact absurd h (by decide)
  rw [if_neg h9] at h ⊢
  by_cases hm : l.take 5 = magic
  case neg => rw [if_pos hm] at h; exact absurd h (by decide)
  rw [if_neg (fun h => h hm)] at h ⊢
  by_cases hs : l.drop (l.length - 4) = sumBytes (sumOf (l.take (l.length - 4)))
  case neg => rw [if_pos hs] at h; exact absurd h (by decide)
  rw [if_neg (fun h => h hs)] at h ⊢
  cases hr : readT ((l.take (l.length - 4)).drop 5) with
  | none => rw [hr] at h; exact absurd h (by decide)
  | some t =>
    have hr' := hr
    unfold readT at hr'
    cases hp : ptrace ((l.take (l.length - 4)).drop 5) with
    | none => rw [hp] at hr'; cases hr'
    | some x =>
      obtain ⟨t', s⟩ := x
      rw [hp] at hr'
      cases s with
      | cons _ _ => cases hr'
      | nil =>
        simp only at hr'
        split at hr'
        · rename_i hf
          injection hr' with hr'
          subst hr'
          obtain ⟨e1, v1⟩ := reads_trace.sound ((hb.take _).drop _) (by unfold Short; rw [List.length_drop, List.length_take]; omega) hp
          rw [List.append_nil] at e1
          refine ⟨t', v1, hf, rfl, ?_⟩
          have e5 : (l.take (l.length - 4)).take 5 = magic := by rw [List.take_take, Nat.min_eq_left (by omega), hm]
          have e0 : l.take (l.length - 4) = body t' := by
            rw [← List.take_append_drop 5 (l.take (l.length - 4)), e5, e1]
            rfl
          rw [← List.take_append_drop (l.length - 4) l, hs, e0]
          rfl
        · cases hr'
theorem sames_loop (x : List (List Int)) (hr : ∀ r ∈ x, r.length ≤ 9223372036854775807) (hx : x.length ≤ 9223372036854775807) : ∀ (m n : Nat), n + m = x.length →
    Evt (fun k => gimbalref33_sameRows.l0 k x x (x.length : Int) (n : Int)) true
  | 0, n, hn => Evt.of 1 (fun k => by rw [gimbalref33_sameRows.l0, if_neg (by omega)])
  | m + 1, n, hn => by
    have h1 : n < x.length := by omega
    refine Evt.step (fun k => by rw [gimbalref33_sameRows.l0, if_pos (by omega), if_pos (by omega), if_pos (by omega), if_pos (by omega), rdL_get h1, nat_step n (by omega)]) ?_
    refine Evt.bind (same_ev x[n] x[n] (hr _ (List.getElem_mem h1))) ?_
    exact Evt.congr (fun k => if_pos (by simp)) (sames_loop x hr hx m (n + 1) (by omega))
theorem sames_ev (x : List (List Int)) (hr : ∀ r ∈ x, r.length ≤ 9223372036854775807) (hx : x.length ≤ 9223372036854775807) : Evt (fun k => gimbalref33_sameRows.f k x x) true := by
  unfold gimbalref33_sameRows.f
  exact Evt.congr (fun k => if_pos rfl) (sames_loop x hr hx x.length 0 (by omega))
theorem rows_le {l : List (List Int)} (h : Rws l) : (∀ r ∈ l, r.length ≤ 9223372036854775807) ∧ l.length ≤ 9223372036854775807 := ⟨fun r hr => by have := (h.1 r hr).2; omega, by have := h.2; omega⟩
theorem Same_ev (t : Tr) (h : VT t) : Evt (fun k => gimbalref33_Same.f k t.1 t.2.1 t.2.2.1 t.2.2.2.1 t.2.2.2.2.1 t.2.2.2.2.2.1 t.2.2.2.2.2.2.1 t.2.2.2.2.2.2.2.1 t.2.2.2.2.2.2.2.2.1 t.2.2.2.2.2.2.2.2.2 t.1 t.2.1 t.2.2.1 t.2.2.2.1 t.2.2.2.2.1 t.2.2.2.2.2.1 t.2.2.2.2.2.2.1 t.2.2.2.2.2.2.2.1 t.2.2.2.2.2.2.2.2.1 t.2.2.2.2.2.2.2.2.2) true := by
  obtain ⟨fu, sr, e, si, ki, ti, re, sc, ar, ma⟩ := t
  obtain ⟨_, h1, _, _, _, _, _, h7, h8, h9⟩ := h
  simp only at h1 h7 h8 h9 ⊢
  unfold gimbalref33_Same.f
  refine Evt.congr (fun k => if_pos rfl) ?_
  refine Evt.bind (same_ev sr sr (by have := h1.2; omega)) ?_
  refine Evt.congr (fun k => if_pos (by simp)) ?_
  refine Evt.bind (a := true) ?_ (Evt.of 0 (fun k => rfl))
  unfold gimbalref33_SameOut.f
  refine Evt.congr (fun k => by rw [if_pos rfl, if_pos rfl, if_pos rfl, if_pos rfl, if_pos rfl]) ?_
  refine Evt.bind (same_ev sc sc (by have := h7.2; omega)) ?_
  refine Evt.congr (fun k => if_pos (by simp)) ?_
  refine Evt.bind (sames_ev ar (rows_le h8).1 (rows_le h8).2) ?_
  refine Evt.congr (fun k => if_pos rfl) ?_
  exact Evt.bind (sames_ev ma (rows_le h9).1 (rows_le h9).2) (Evt.of 0 (fun k => rfl))
theorem Same_nil_ev : Evt (fun k => gimbalref33_Same.f k 0 [] 0 0 0 0 0 [] [] [] 0 [] 0 0 0 0 0 [] [] []) true :=
  Same_ev (0, [], 0, 0, 0, 0, 0, [], [], []) ⟨⟨by decide, by decide⟩, ⟨fun _ h => (by cases h), by decide⟩, ⟨by decide, by decide⟩, ⟨by decide, by decide⟩, ⟨by decide, by decide⟩, ⟨by decide, by decide⟩, ⟨by decide, by decide⟩, ⟨fun _ h => (by cases h), by decide⟩, ⟨fun _ h => (by cases h), by decide⟩, ⟨fun _ h => (by cases h), by decide⟩⟩
theorem Bytes.append {a b : List Int} (ha : Bytes a) (hb : Bytes b) : Bytes (a ++ b) := fun x hx => (List.mem_append.1 hx).elim (ha x) (hb x)
theorem Bytes.nil : Bytes [] := fun x hx => by cases hx
theorem numb_bytes : ∀ (n : Nat) (x : Int), 0 ≤ x → Bytes (numb n x)
  | 0, x, _ => fun d hd => by rw [numb] at hd; exact (List.mem_cons.1 hd).elim (fun h => by omega) (fun h => by cases h)
  | n + 1, x, h0 => by
    rw [numb]
    split
    · intro d hd
      rcases List.mem_cons.1 hd with h | h
      · have := or128 ⟨(x % 256).toNat, by omega⟩
        rw [show (((⟨(x % 256).toNat, by omega⟩ : Fin 256).1 : Nat) : Int) = x % 256 by simp only; omega] at this
        rw [h, this]
        simp only
        omega
      · exact numb_bytes n (x / 128) (by omega) d h
    · intro d hd
      rcases List.mem_cons.1 hd with h | h
      · omega
      · cases h
theorem encR_bytes (f : List Int → Int) : ∀ l xs, Bytes (encR f l xs)
  | _, [] => Bytes.nil
  | l, x :: xs => by
    rw [encR]
    exact (numb_bytes 9 _ (sgn_in _ (wrap64_in64 _)).1).append (encR_bytes f _ xs)
theorem eR_bytes (f : List Int → Int) (l : List Int) : Bytes (eR f l) := (numb_bytes 9 _ (by omega)).append (encR_bytes f [] l)
theorem encA_bytes : ∀ xs, Bytes (encA xs)
  | [] => Bytes.nil
  | x :: xs => by rw [encA]; exact (eR_bytes _ x).append (encA_bytes xs)
theorem encM_bytes : ∀ o xs, Bytes (encM o xs)
  | _, [] => Bytes.nil
  | o, x :: xs => by rw [encM]; exact (eR_bytes _ x).append (encM_bytes x xs)
theorem encT_bytes (t : Tr) (h : VT t) : Bytes (encT t) := by
  obtain ⟨h0, _, h2, h3, h4, h5, h6, _, _, _⟩ := h
  unfold encT
  exact (numb_bytes 9 _ (sgn_in _ h0).1).append ((eR_bytes _ _).append ((numb_bytes 9 _ h2.1).append ((numb_bytes 9 _ h3.1).append ((numb_bytes 9 _ h4.1).append ((numb_bytes 9 _ h5.1).append ((numb_bytes 9 _ h6.1).append ((eR_bytes _ _).append (((numb_bytes 9 _ (by omega)).append (encA_bytes _)).append ((numb_bytes 9 _ (by omega)).append (encM_bytes _ _))))))))))
theorem sumBytes_bytes (s : Int) : Bytes (sumBytes s) := by
  intro d hd
  simp only [sumBytes, List.mem_cons, List.not_mem_nil, or_false] at hd
  omega
theorem closed_bytes (t : Tr) (h : VT t) : Bytes (closed (body t)) := (bytes_magic.append (encT_bytes t h)).append (sumBytes_bytes _)
/-- What a reader gives in any case, and that it is the parser's answer where this has one. -/
def SpecW {α β : Type} (g : α → Int → Bool → β) (F : Nat → Option β) (T : List Int) (n : Nat) (bad : Bool) (p : Option (α × List Int)) (Q : α → Prop) : Prop :=
  ∃ (v : α) (a : Nat) (b : Bool), Evt F (g v (a : Int) b) ∧ n ≤ a ∧ a ≤ T.length ∧ Q v ∧ (bad = true → b = true) ∧
    (bad = false → ∀ v' s, p = some (v', s) → v = v' ∧ T.drop a = s ∧ b = false)
abbrev g3 {α : Type} : α → Int → Bool → α × Int × Bool := fun v a b => (v, a, b)
theorem SpecW.step {α β : Type} {g : α → Int → Bool → β} {F G : Nat → Option β} {T : List Int} {n n' : Nat} {bad : Bool} {p : Option (α × List Int)} {Q : α → Prop} (h : ∀ k, F (k + 1) = G k) (hn : n ≤ n') (hg : SpecW g G T n' bad p Q) : SpecW g F T n bad p Q := by
  obtain ⟨v, a, b, he, h1, h2⟩ := hg
  exact ⟨v, a, b, Evt.step h he, Nat.le_trans hn h1, h2⟩
theorem SpecW.congr {α β : Type} {g : α → Int → Bool → β} {F G : Nat → Option β} {T : List Int} {n : Nat} {bad : Bool} {p : Option (α × List Int)} {Q : α → Prop} (h : ∀ k, F k = G k) (hg : SpecW g G T n bad p Q) : SpecW g F T n bad p Q := by
  obtain ⟨v, a, b, he, h2⟩ := hg
  exact ⟨v, a, b, Evt.congr h he, h2⟩
theorem SpecW.imp {α β : Type} {g : α → Int → Bool → β} {F : Nat → Option β} {T : List Int} {n : Nat} {bad : Bool} {p : Option (α × List Int)} {Q Q' : α → Prop} (h : ∀ v, Q v → Q' v) (hg : SpecW g F T n bad p Q) : SpecW g F T n bad p Q' := by
  obtain ⟨v, a, b, he, h1, h2, h3, h4⟩ := hg
  exact ⟨v, a, b, he, h1, h2, h _ h3, h4⟩
theorem SpecW.bind {α β γ : Type} {g : γ → Int → Bool → β} {F : Nat → Option (α × Int × Bool)} {G : Nat → α × Int × Bool → Option β} {T : List Int} {n : Nat} {bad : Bool} {p : Option (α × List Int)} {q : α → List Int → Option (γ × List Int)} {p' : Option (γ × List Int)} {Q : α → Prop} {R : γ → Prop}
    (hF : SpecW g3 F T n bad p Q) (hG : ∀ v (a : Nat) b, n ≤ a → a ≤ T.length → Q v → SpecW g (fun k => G k (v, (a : Int), b)) T a b (q v (T.drop a)) R)
    (hp : p' = p.bind fun x => q x.1 x.2) : SpecW g (fun k => (F k).bind fun x => G k x) T n bad p' R := by
  subst hp
  obtain ⟨v, a, b, he, h1, h2, h3, h4, h5⟩ := hF
  obtain ⟨w, a', b', he', h1', h2', h3', h4', h5'⟩ := hG v a b h1 h2 h3
  refine ⟨w, a', b', Evt.bind he he', by omega, h2', h3', fun hb => h4' (h4 hb), fun hb v' s hs => ?_⟩
  cases hp : p with
  | none => rw [hp] at hs; cases hs
  | some x =>
    obtain ⟨rfl, e2, e3⟩ := h5 hb x.1 x.2 hp
    rw [hp] at hs
    have hs' : q x.1 x.2 = some (v', s) := hs
    rw [← e2] at hs'
    exact h5' e3 v' s hs'
theorem SpecW.pair {α β γ : Type} {g : α × γ → Int → Bool → β} {F : Nat → Option (α × Int × Bool)} {G : Nat → α × Int × Bool → Option β} {T : List Int} {n : Nat} {bad : Bool} {p : List Int → Option (α × List Int)} {q : α → List Int → Option (γ × List Int)} {Q : α → Prop} {R : γ → Prop}
    (hF : SpecW g3 F T n bad (p (T.drop n)) Q) (hG : ∀ v (a : Nat) b, n ≤ a → a ≤ T.length → Q v → SpecW (fun y => g (v, y)) (fun k => G k (v, (a : Int), b)) T a b (q v (T.drop a)) R) :
    SpecW g (fun k => (F k).bind fun x => G k x) T n bad (pSeq p q (T.drop n)) (fun x => Q x.1 ∧ R x.2) := by
  obtain ⟨v, a, b, he, h1, h2, h3, h4, h5⟩ := hF
  obtain ⟨w, a', b', he', h1', h2', h3', h4', h5'⟩ := hG v a b h1 h2 h3
  refine ⟨(v, w), a', b', Evt.bind he he', by omega, h2', ⟨h3, h3'⟩, fun hb => h4' (h4 hb), fun hb v' s hs => ?_⟩
  unfold pSeq at hs
  cases hp : p (T.drop n) with
  | none => rw [hp] at hs; cases hs
  | some x =>
    obtain ⟨rfl, e2, e3⟩ := h5 hb x.1 x.2 hp
    rw [hp] at hs
    cases hq : q x.1 x.2 with
    | none => simp only [hq] at hs; cases hs
    | some y =>
      simp only [hq] at hs
      injection hs with hs; injection hs with s1 s2
      obtain ⟨r1, r2, r3⟩ := h5' e3 y.1 y.2 (by rw [e2]; exact hq)
      exact ⟨by rw [← s1, r1], by rw [r2, s2], r3⟩
/-- One byte laid onto what was read. -/
theorem lay2 (acc d : Int) (j : Nat) (hj : j ≤ 9) (ha0 : 0 ≤ acc) (ha1 : acc < 128 ^ j) (hd0 : 0 ≤ d) (hd1 : d < 256) :
    0 ≤ IntKind.u64.wrap (acc + shl .u64 (IntKind.u64.wrap (Int.tmod d 128)) (IntKind.u64.wrap (wrap64 (7 * (j : Int))))) ∧ IntKind.u64.wrap (acc + shl .u64 (IntKind.u64.wrap (Int.tmod d 128)) (IntKind.u64.wrap (wrap64 (7 * (j : Int))))) < 18446744073709551616 ∧
    ((j = 9 → d ≤ 1) → IntKind.u64.wrap (acc + shl .u64 (IntKind.u64.wrap (Int.tmod d 128)) (IntKind.u64.wrap (wrap64 (7 * (j : Int))))) = acc + d % 128 * 128 ^ j) := by
  have hp := pow128 j
  have e1 : IntKind.u64.wrap (wrap64 (7 * (j : Int))) = ((7 * j : Nat) : Int) := by rw [wrap64_in _ (by omega), wrap_u64 _ (by omega) (by omega)]; omega
  have e0 : Int.tmod d 128 = d % 128 := Int.tmod_eq_emod_of_nonneg hd0
  have hnn : 0 ≤ d % 128 * 128 ^ j := Int.mul_nonneg (by omega) (by omega)
  have e2 : shl .u64 (IntKind.u64.wrap (Int.tmod d 128)) (IntKind.u64.wrap (wrap64 (7 * (j : Int)))) = IntKind.u64.wrap (d % 128 * 128 ^ j) := by
    rw [e0, wrap_u64 (d % 128) (by omega) (by omega), e1]
    have hb : (IntKind.u64.bits) = 64 := rfl
    refine (shl_small (k := .u64) (x := d % 128) (y := ((7 * j : Nat) : Int)) rfl (by rw [hb]; omega)).symm.trans ?_
    rw [Int.toNat_natCast, ← pow_two]
  rw [e2]
  have hm := Int.emod_nonneg (acc + IntKind.u64.wrap (d % 128 * 128 ^ j)) (show (18446744073709551616 : Int) ≠ 0 by decide)
  have hm' := Int.emod_lt_of_pos (acc + IntKind.u64.wrap (d % 128 * 128 ^ j)) (show (0 : Int) < 18446744073709551616 by decide)
  refine ⟨by rw [u64_mod]; exact hm, by rw [u64_mod (acc + _)]; exact hm', fun h9 => ?_⟩
  have hlt : acc + d % 128 * 128 ^ j < 18446744073709551616 := by
    by_cases h : j = 9
    · subst h
      have h1 := h9 rfl
      have h2 : d % 128 ≤ 1 := by omega
      have h3 : d % 128 * 128 ^ 9 ≤ 1 * 128 ^ 9 := Int.mul_le_mul_of_nonneg_right h2 (by decide)
      have h4 : (128 : Int) ^ 9 = 9223372036854775808 := by decide
      omega
    · have h8 : (128 : Int) ^ j ≤ 128 ^ 8 := by
        rw [pow_two, pow_two]
        exact_mod_cast Nat.pow_le_pow_right (show 0 < 2 by decide) (by omega)
      have h3 : d % 128 * 128 ^ j ≤ 127 * 128 ^ 8 := Int.mul_le_mul (by omega) h8 (by omega) (by decide)
      have h4 : (128 : Int) ^ 8 = 72057594037927936 := by decide
      omega
  rw [wrap_u64 (d % 128 * 128 ^ j) hnn (by omega), wrap_u64 _ (by omega) hlt]
theorem ref_num (T : List Int) (hT : Bytes T) (hl : T.length ≤ 1099511627776) (bad : Bool) : ∀ (m j : Nat) (acc : Int) (n : Nat), j + m = 10 → 0 ≤ acc → (j < 10 → acc < 128 ^ j) → n ≤ T.length →
    SpecW g3 (fun k => gimbalref33_cursor_number.l0 k acc (j : Int) T (n : Int) bad) T n bad (rn m j acc (T.drop n)) (fun x => 0 ≤ x ∧ x < 18446744073709551616)
  | 0, j, acc, n, hj, _, _, hn => by
    refine ⟨0, n, true, ?_, Nat.le_refl _, hn, by decide, fun _ => rfl, fun _ v' s h => by simp [rn] at h⟩
    refine Evt.step (fun k => by rw [gimbalref33_cursor_number.l0, if_neg (by omega)]) ?_
    refine Evt.of 1 (fun k => ?_)
    rw [gimbalref33_cursor_number.j1, if_neg (by simp)]
  | m + 1, j, acc, n, hj, ha0, ha1, hn => by
    by_cases hlt : n < T.length
    case neg =>
      refine ⟨0, n, true, ?_, Nat.le_refl _, hn, by decide, fun _ => rfl, fun _ v' s h => ?_⟩
      · refine Evt.step (fun k => by rw [gimbalref33_cursor_number.l0, if_pos (by omega)]) ?_
        refine Evt.of 1 (fun k => ?_)
        rw [gimbalref33_cursor_number.j1, if_neg (by simp; omega)]
      · rw [List.drop_eq_nil_of_le (by omega)] at h; simp [rn] at h
    case pos =>
      have hd := hT T[n] (List.getElem_mem hlt)
      rw [drop_cons hlt]
      have hr : rd T (n : Int) = T[n] := rd_get hlt
      have hw : wrap64 ((n : Int) + 1) = ((n + 1 : Nat) : Int) := nat_step n (by omega)
      have hw7 : 0 ≤ IntKind.u64.wrap (wrap64 (7 * (j : Int))) := by rw [wrap64_in _ (by omega), wrap_u64 _ (by omega) (by omega)]; omega
      obtain ⟨l1, l2, l3⟩ := lay2 acc T[n] j (by omega) ha0 (ha1 (by omega)) hd.1 hd.2
      refine SpecW.step (n' := n) (fun k => by rw [gimbalref33_cursor_number.l0, if_pos (show (j : Int) < 10 by omega), decide_eq_true (show (n : Int) < (T.length : Int) by omega)]) (Nat.le_refl _) ?_
      refine SpecW.step (n' := n) (fun k => by rw [gimbalref33_cursor_number.j1, if_pos rfl, if_pos (show (0 : Int) ≤ (n : Int) by omega), if_pos (show (n : Int) < (T.length : Int) by omega), if_pos hw7, hr, hw]) (Nat.le_refl _) ?_
      generalize hV : IntKind.u64.wrap (acc + shl .u64 (IntKind.u64.wrap (Int.tmod T[n] 128)) (IntKind.u64.wrap (wrap64 (7 * (j : Int))))) = V at l1 l2 l3
      by_cases hc : T[n] < 128
      · refine ⟨V, n + 1, bad, Evt.of 0 (fun k => if_pos hc), by omega, by omega, ⟨l1, l2⟩, fun h => h, fun hb v' s h => ?_⟩
        rw [rn] at h
        by_cases hx : j = 9 ∧ T[n] > 1 ∨ j > 0 ∧ T[n] = 0
        · rw [if_pos hx] at h; cases h
        · rw [if_neg hx, if_pos hc] at h
          injection h with h; injection h with h1 h2
          exact ⟨by rw [← h1]; exact l3 (fun h9 => by by_cases hq : T[n] > 1; exact absurd (.inl ⟨h9, hq⟩) hx; omega), h2, hb⟩
      · refine SpecW.congr (fun k => if_neg hc) ?_
        rw [nat_step j (by omega)]
        by_cases h9 : j = 9
        · obtain ⟨v, a, b, he, q1, q2, q3, q4, q5⟩ := ref_num T hT hl bad m (j + 1) V (n + 1) (by omega) l1 (fun h => absurd h (by omega)) (by omega)
          refine ⟨v, a, b, he, by omega, q2, q3, q4, fun hb v' s h => ?_⟩
          rw [rn, if_pos (.inl ⟨h9, by omega⟩)] at h
          cases h
        · have hV2 := l3 (fun h => absurd h h9)
          have hp := pow128 j
          have hacc := ha1 (by omega)
          have hup : T[n] % 128 * 128 ^ j ≤ 127 * 128 ^ j := Int.mul_le_mul_of_nonneg_right (by omega) (by omega)
          have ih := ref_num T hT hl bad m (j + 1) V (n + 1) (by omega) l1 (fun _ => by rw [hV2, Int.pow_succ]; omega) (by omega)
          refine SpecW.step (G := fun k => gimbalref33_cursor_number.l0 (k + 1) V ((j + 1 : Nat) : Int) T ((n + 1 : Nat) : Int) bad) (n' := n + 1) (fun k => rfl) (by omega) ?_
          obtain ⟨v, a, b, he, q1, q2, q3, q4, q5⟩ := ih
          refine ⟨v, a, b, ?_, q1, q2, q3, q4, fun hb v' s h => ?_⟩
          · obtain ⟨K, hK⟩ := he
            exact ⟨K, fun k hk => hK (k + 1) (by omega)⟩
          · rw [rn, if_neg (by omega), if_neg hc, ← hV2] at h
            exact q5 hb v' s h
section
variable (T : List Int) (hT : Bytes T) (hl : T.length ≤ 1099511627776)
include hT hl
theorem rnum_spec (bad : Bool) (n : Nat) (hn : n ≤ T.length) : SpecW g3 (fun k => gimbalref33_cursor_number.f k T (n : Int) bad) T n bad (pn (T.drop n)) (fun x => 0 ≤ x ∧ x < 18446744073709551616) :=
  ref_num T hT hl bad 10 0 0 n rfl (by decide) (fun _ => by decide) hn
omit hT hl in
theorem unsgn_ref (x : Int) (h0 : 0 ≤ x) (h1 : x < 18446744073709551616) : (Int.tmod x 2 = 1 → wrap64 ((wrap64 (-(wrap64 (IntKind.u64.wrap (Int.tdiv x 2))))) - 1) = unsgn x) ∧ (¬ Int.tmod x 2 = 1 → wrap64 (IntKind.u64.wrap (Int.tdiv x 2)) = unsgn x) := by
  rw [Int.tmod_eq_emod_of_nonneg h0, Int.tdiv_eq_ediv_of_nonneg h0, wrap_u64 (x / 2) (by omega) (by omega), wrap64_in (x / 2) (by omega), wrap64_in (-(x / 2)) (by omega), wrap64_in (-(x / 2) - 1) (by omega)]
  unfold unsgn
  constructor
  · intro h; rw [if_neg (by omega)]
  · intro h; rw [if_pos (by omega)]
theorem rsigned_spec (bad : Bool) (n : Nat) (hn : n ≤ T.length) : SpecW g3 (fun k => gimbalref33_cursor_signed.f k T (n : Int) bad) T n bad (ps (T.drop n)) (fun x => -9223372036854775808 ≤ x ∧ x < 9223372036854775808) := by
  obtain ⟨v, a, b, he, h1, h2, h3, h4, h5⟩ := rnum_spec T hT hl bad n hn
  refine ⟨unsgn v, a, b, ?_, h1, h2, unsgn_in v h3.1 h3.2, h4, fun hb v' s hs => ?_⟩
  · unfold gimbalref33_cursor_signed.f
    refine Evt.bind he (Evt.of 0 (fun k => ?_))
    have hu := unsgn_ref v h3.1 h3.2
    by_cases hc : Int.tmod v 2 = 1
    · exact (if_pos hc).trans (by rw [hu.1 hc])
    · exact (if_neg hc).trans (by rw [hu.2 hc])
  · unfold ps at hs
    cases hp : pn (T.drop n) with
    | none => rw [hp] at hs; cases hs
    | some x =>
      rw [hp] at hs
      obtain ⟨rfl, e2, e3⟩ := h5 hb x.1 x.2 hp
      injection hs with hs; injection hs with s1 s2
      exact ⟨s1, e2.trans s2, e3⟩
theorem rsmall_spec (bad : Bool) (n : Nat) (hn : n ≤ T.length) : SpecW g3 (fun k => gimbalref33_cursor_small.f k T (n : Int) bad) T n bad (pp (T.drop n)) (fun x => 0 ≤ x ∧ x < 9223372036854775808) := by
  obtain ⟨v, a, b, he, h1, h2, h3, h4, h5⟩ := rnum_spec T hT hl bad n hn
  by_cases hv : v ≥ 9223372036854775808
  · refine ⟨0, a, true, ?_, h1, h2, by decide, fun _ => rfl, fun hb v' s hs => ?_⟩
    · unfold gimbalref33_cursor_small.f
      exact Evt.bind he (Evt.of 0 (fun k => if_pos hv))
    · unfold pp at hs
      cases hp : pn (T.drop n) with
      | none => rw [hp] at hs; cases hs
      | some x =>
        rw [hp] at hs
        obtain ⟨rfl, _, _⟩ := h5 hb x.1 x.2 hp
        have hs' : (if x.1 > 9223372036854775807 then none else some (x.1, x.2)) = some (v', s) := hs
        rw [if_pos (by omega)] at hs'
        cases hs'
  · refine ⟨v, a, b, ?_, h1, h2, ⟨h3.1, by omega⟩, h4, fun hb v' s hs => ?_⟩
    · unfold gimbalref33_cursor_small.f
      exact Evt.bind he (Evt.of 0 (fun k => (if_neg hv).trans (by simp only [wrap64_in v (by omega)])))
    · unfold pp at hs
      cases hp : pn (T.drop n) with
      | none => rw [hp] at hs; cases hs
      | some x =>
        rw [hp] at hs
        obtain ⟨rfl, e2, e3⟩ := h5 hb x.1 x.2 hp
        have hs' : (if x.1 > 9223372036854775807 then none else some (x.1, x.2)) = some (v', s) := hs
        rw [if_neg (by omega)] at hs'
        injection hs' with hs'; injection hs' with s1 s2
        exact ⟨s1, e2.trans s2, e3⟩
theorem rcount_spec (bad : Bool) (n : Nat) (hn : n ≤ T.length) : SpecW g3 (fun k => gimbalref33_cursor_count.f k T (n : Int) bad) T n bad (pm (T.drop n)) (fun x => 0 ≤ x ∧ x ≤ (T.length : Int)) := by
  obtain ⟨v, a, b, he, h1, h2, h3, h4, h5⟩ := rsmall_spec T hT hl bad n hn
  have hw : wrap64 ((T.length : Int) - (a : Int)) = ((T.length - a : Nat) : Int) := by rw [wrap64_in _ (by omega)]; omega
  have hpm : ∀ v' s, pm (T.drop n) = some (v', s) → pp (T.drop n) = some (v', s) ∧ v' ≤ (s.length : Int) := by
    intro v' s hs
    unfold pm at hs
    unfold pp
    cases hp : pn (T.drop n) with
    | none => rw [hp] at hs; cases hs
    | some x =>
      rw [hp] at hs
      have hs' : (if x.1 > (x.2.length : Int) then none else some (x.1, x.2)) = some (v', s) := hs
      by_cases hx : x.1 > (x.2.length : Int)
      · rw [if_pos hx] at hs'; cases hs'
      · rw [if_neg hx] at hs'
        injection hs' with hs'; injection hs' with s1 s2
        have hlen := pn_len (show pn (T.drop n) = some (x.1, x.2) from hp)
        rw [List.length_drop] at hlen
        refine ⟨?_, by rw [← s1, ← s2]; omega⟩
        show (if x.1 > 9223372036854775807 then none else some (x.1, x.2)) = _
        rw [if_neg (by omega), s1, s2]
  by_cases hv : v > ((T.length - a : Nat) : Int)
  · refine ⟨0, a, true, ?_, h1, h2, ⟨by decide, by omega⟩, fun _ => rfl, fun hb v' s hs => ?_⟩
    · unfold gimbalref33_cursor_count.f
      exact Evt.bind he (Evt.of 0 (fun k => by simp only; rw [hw, if_pos hv]))
    · obtain ⟨e1, e2⟩ := hpm v' s hs
      obtain ⟨rfl, e3, e4⟩ := h5 hb v' s e1
      rw [← e3, List.length_drop] at e2
      exact absurd hv (by omega)
  · refine ⟨v, a, b, ?_, h1, h2, ⟨h3.1, by omega⟩, h4, fun hb v' s hs => ?_⟩
    · unfold gimbalref33_cursor_count.f
      exact Evt.bind he (Evt.of 0 (fun k => by simp only; rw [hw, if_neg hv]))
    · exact h5 hb v' s (hpm v' s hs).1
theorem rrow_true (o : List Int) : ∀ (m : Nat) (l : List Int) (n : Nat) (bad : Bool), l.length + m ≤ 1099511627776 → n ≤ T.length → (∀ x ∈ l, In64 x) →
    SpecW g3 (fun k => gimbalref33_cursor_row.l0 k o true l ((l.length + m : Nat) : Int) (l.length : Int) T (n : Int) bad) T n bad (rowP lastOf m l (T.drop n)) (fun l' => l'.length = l.length + m ∧ ∀ x ∈ l', In64 x)
  | 0, l, n, bad, hm, hn, hx => ⟨l, n, bad, Evt.of 1 (fun k => by rw [gimbalref33_cursor_row.l0, if_neg (by omega)]), Nat.le_refl _, hn, ⟨rfl, hx⟩, fun h => h, fun hb v' s hs => by
      rw [rowP] at hs; injection hs with hs; injection hs with s1 s2; exact ⟨s1, s2, hb⟩⟩
  | m + 1, l, n, bad, hm, hn, hx => by
    refine SpecW.step (n' := n) (fun k => by rw [gimbalref33_cursor_row.l0, if_pos (show (l.length : Int) < ((l.length + (m + 1) : Nat) : Int) by omega), if_pos rfl]) (Nat.le_refl _) ?_
    have fin : SpecW g3 (fun k => (gimbalref33_cursor_signed.f k T (n : Int) bad).bind fun bt => (if l.length < 17592186044416 then (gimbalref33_cursor_row.l0 k o true (l ++ [wrap64 (lastOf l + bt.1)]) ((l.length + (m + 1) : Nat) : Int) (wrap64 ((l.length : Int) + 1)) T bt.2.1 bt.2.2) else none)) T n bad (rowP lastOf (m + 1) l (T.drop n)) (fun l' => l'.length = l.length + (m + 1) ∧ ∀ x ∈ l', In64 x) := by
      refine SpecW.bind (q := fun x r => rowP lastOf m (l ++ [wrap64 (x + lastOf l)]) r) (rsigned_spec T hT hl bad n hn) (fun v a b h1 h2 h3 => ?_) ?_
      · have ih := rrow_true o m (l ++ [wrap64 (v + lastOf l)]) a b (by simp only [List.length_append, List.length_cons, List.length_nil]; omega) h2 (fun x hm_ => (List.mem_append.1 hm_).elim (hx x) (fun h_ => by rw [List.mem_singleton.1 h_]; exact wrap64_in64 _))
        simp only [List.length_append, List.length_cons, List.length_nil, Nat.zero_add] at ih
        refine SpecW.imp (fun l' h => ⟨by rw [h.1]; omega, h.2⟩) (SpecW.congr (fun k => ?_) ih)
        simp only
        rw [if_pos (by omega), nat_step _ (by omega), show l.length + (m + 1) = l.length + 1 + m by omega, Int.add_comm (lastOf l) v]
      · rw [rowP]
        cases hp : ps (T.drop n) with
        | none => rfl
        | some x => rfl
    by_cases h0 : l.length = 0
    · refine SpecW.step (n' := n) (fun k => ?_) (Nat.le_refl _) fin
      rw [decide_eq_false (show ¬ (l.length : Int) > 0 by omega), gimbalref33_cursor_row.j1, if_neg (by simp), if_pos rfl, show lastOf l = 0 by unfold lastOf bef; rw [if_pos h0]]
    · refine SpecW.step (n' := n) (fun k => ?_) (Nat.le_refl _) fin
      have e1 : wrap64 ((l.length : Int) - 1) = ((l.length - 1 : Nat) : Int) := by rw [wrap64_in _ (by omega)]; omega
      rw [decide_eq_true (show (l.length : Int) > 0 by omega), gimbalref33_cursor_row.j1, if_pos rfl, e1, if_pos (show (0 : Int) ≤ ((l.length - 1 : Nat) : Int) by omega), if_pos (show ((l.length - 1 : Nat) : Int) < (l.length : Int) by omega), if_pos rfl, show lastOf l = rd l ((l.length - 1 : Nat) : Int) by unfold lastOf bef; rw [if_neg h0]]
theorem rrow_false (o : List Int) : ∀ (m : Nat) (l : List Int) (n : Nat) (bad : Bool), l.length + m ≤ 1099511627776 → n ≤ T.length → (∀ x ∈ l, In64 x) →
    SpecW g3 (fun k => gimbalref33_cursor_row.l0 k o false l ((l.length + m : Nat) : Int) (l.length : Int) T (n : Int) bad) T n bad (rowP (befOf o) m l (T.drop n)) (fun l' => l'.length = l.length + m ∧ ∀ x ∈ l', In64 x)
  | 0, l, n, bad, hm, hn, hx => ⟨l, n, bad, Evt.of 1 (fun k => by rw [gimbalref33_cursor_row.l0, if_neg (by omega)]), Nat.le_refl _, hn, ⟨rfl, hx⟩, fun h => h, fun hb v' s hs => by
      rw [rowP] at hs; injection hs with hs; injection hs with s1 s2; exact ⟨s1, s2, hb⟩⟩
  | m + 1, l, n, bad, hm, hn, hx => by
    refine SpecW.step (n' := n) (fun k => by rw [gimbalref33_cursor_row.l0, if_pos (show (l.length : Int) < ((l.length + (m + 1) : Nat) : Int) by omega), if_neg (by simp)]) (Nat.le_refl _) ?_
    have fin : SpecW g3 (fun k => (gimbalref33_cursor_signed.f k T (n : Int) bad).bind fun bt => (if l.length < 17592186044416 then (gimbalref33_cursor_row.l0 k o false (l ++ [wrap64 (befOf o l + bt.1)]) ((l.length + (m + 1) : Nat) : Int) (wrap64 ((l.length : Int) + 1)) T bt.2.1 bt.2.2) else none)) T n bad (rowP (befOf o) (m + 1) l (T.drop n)) (fun l' => l'.length = l.length + (m + 1) ∧ ∀ x ∈ l', In64 x) := by
      refine SpecW.bind (q := fun x r => rowP (befOf o) m (l ++ [wrap64 (x + befOf o l)]) r) (rsigned_spec T hT hl bad n hn) (fun v a b h1 h2 h3 => ?_) ?_
      · have ih := rrow_false o m (l ++ [wrap64 (v + befOf o l)]) a b (by simp only [List.length_append, List.length_cons, List.length_nil]; omega) h2 (fun x hm_ => (List.mem_append.1 hm_).elim (hx x) (fun h_ => by rw [List.mem_singleton.1 h_]; exact wrap64_in64 _))
        simp only [List.length_append, List.length_cons, List.length_nil, Nat.zero_add] at ih
        refine SpecW.imp (fun l' h => ⟨by rw [h.1]; omega, h.2⟩) (SpecW.congr (fun k => ?_) ih)
        simp only
        rw [if_pos (by omega), nat_step _ (by omega), show l.length + (m + 1) = l.length + 1 + m by omega, Int.add_comm (befOf o l) v]
      · rw [rowP]
        cases hp : ps (T.drop n) with
        | none => rfl
        | some x => rfl
    refine SpecW.step (n' := n) (fun k => ?_) (Nat.le_refl _) fin
    by_cases h0 : l.length < o.length
    · rw [gimbalref33_cursor_row.j1, if_neg (by simp), if_neg (by simp), if_pos (show (l.length : Int) < (o.length : Int) by omega), if_pos (show (0 : Int) ≤ (l.length : Int) by omega), show befOf o l = rd o (l.length : Int) by unfold befOf atS; rw [if_pos h0]]
    · rw [gimbalref33_cursor_row.j1, if_neg (by simp), if_neg (by simp), if_neg (show ¬ (l.length : Int) < (o.length : Int) by omega), show befOf o l = 0 by unfold befOf atS; rw [if_neg h0]]
theorem rrowA_spec (o : List Int) (bad : Bool) (n : Nat) (hn : n ≤ T.length) : SpecW g3 (fun k => gimbalref33_cursor_row.f k T (n : Int) bad o true) T n bad (pr lastOf (T.drop n)) (fun l' => l'.length ≤ T.length ∧ ∀ x ∈ l', In64 x) := by
  unfold gimbalref33_cursor_row.f
  refine SpecW.bind (q := fun x r => rowP lastOf x.toNat [] r) (rcount_spec T hT hl bad n hn) (fun v a b h1 h2 h3 => ?_) ?_
  · have h := rrow_true T hT hl o v.toNat [] a b (by simp only [List.length_nil]; omega) h2 (fun _ h_ => by cases h_)
    simp only [List.length_nil, Nat.zero_add] at h
    refine SpecW.imp (fun l' h => ⟨by rw [h.1]; omega, h.2⟩) (SpecW.congr (fun k => ?_) h)
    simp only
    rw [show ((v.toNat : Nat) : Int) = v by omega]
    rfl
  · unfold pr
    cases hp : pm (T.drop n) with
    | none => rfl
    | some x => rfl
theorem rrowB_spec (o : List Int) (bad : Bool) (n : Nat) (hn : n ≤ T.length) : SpecW g3 (fun k => gimbalref33_cursor_row.f k T (n : Int) bad o false) T n bad (pr (befOf o) (T.drop n)) (fun l' => l'.length ≤ T.length ∧ ∀ x ∈ l', In64 x) := by
  unfold gimbalref33_cursor_row.f
  refine SpecW.bind (q := fun x r => rowP (befOf o) x.toNat [] r) (rcount_spec T hT hl bad n hn) (fun v a b h1 h2 h3 => ?_) ?_
  · have h := rrow_false T hT hl o v.toNat [] a b (by simp only [List.length_nil]; omega) h2 (fun _ h_ => by cases h_)
    simp only [List.length_nil, Nat.zero_add] at h
    refine SpecW.imp (fun l' h => ⟨by rw [h.1]; omega, h.2⟩) (SpecW.congr (fun k => ?_) h)
    simp only
    rw [show ((v.toNat : Nat) : Int) = v by omega]
    rfl
  · unfold pr
    cases hp : pm (T.drop n) with
    | none => rfl
    | some x => rfl
end
/-- A loop that reads rows, and what comes behind it. -/
def SpecK {α β : Type} (F : Nat → Option β) (K : α → Int → Bool → Nat → Option β) (T : List Int) (n : Nat) (bad : Bool) (p : Option (α × List Int)) (Q : α → Prop) : Prop :=
  ∃ (v : α) (a : Nat) (b : Bool), (∀ r, Evt (K v (a : Int) b) r → Evt F r) ∧ n ≤ a ∧ a ≤ T.length ∧ Q v ∧ (bad = true → b = true) ∧
    (bad = false → ∀ v' s, p = some (v', s) → v = v' ∧ T.drop a = s ∧ b = false)
def Lot (N : Nat) (l : List (List Int)) : Prop := ∀ r ∈ l, r.length ≤ N ∧ ∀ x ∈ r, In64 x
theorem Lot.app {N : Nat} {l : List (List Int)} {r : List Int} (h : Lot N l) (hr : r.length ≤ N ∧ ∀ x ∈ r, In64 x) : Lot N (l ++ [r]) := fun x hx => (List.mem_append.1 hx).elim (h x) (fun h_ => by rw [List.mem_singleton.1 h_]; exact hr)
theorem Lot.nil (N : Nat) : Lot N [] := fun _ h => by cases h
theorem Lot.tot {N : Nat} : ∀ {l : List (List Int)}, Lot N l → tot l ≤ l.length * (N + 1)
  | [], _ => Nat.zero_le _
  | r :: rs, h => by
    have h1 := (h r List.mem_cons_self).1
    have h2 := Lot.tot (l := rs) (fun x hx => h x (List.mem_cons_of_mem _ hx))
    rw [M.tot, List.length_cons, Nat.succ_mul]
    omega
section
variable (T : List Int) (hT : Bytes T) (hl : T.length ≤ 1099511627776)
include hT hl
theorem rarr_l0 (x0 : List Int) (x5 fu : Int) (sr : List Int) (e si ki ti re : Int) (sc : List Int) : ∀ (m : Nat) (ar : List (List Int)) (n : Nat) (bad : Bool), ar.length + m ≤ 1099511627776 → n ≤ T.length → Lot T.length ar →
    SpecK (fun k => gimbalref33_Decode.l0 k x0 x5 (m : Int) fu sr e si ki ti re sc ar T (n : Int) bad) (fun ar' a b k => gimbalref33_Decode.j1 k x0 x5 fu sr e si ki ti re sc ar' T a b) T n bad (arrP m ar (T.drop n)) (fun ar' => ar'.length ≤ ar.length + m ∧ Lot T.length ar')
  | 0, ar, n, bad, hm, hn, hx => ⟨ar, n, bad, fun r h => Evt.step (fun k => by rw [gimbalref33_Decode.l0, if_neg (by omega)]) h, Nat.le_refl _, hn, ⟨Nat.le_refl _, hx⟩, fun h => h, fun hb v' s hs => by
      rw [arrP] at hs; injection hs with hs; injection hs with s1 s2; exact ⟨s1, s2, hb⟩⟩
  | m + 1, ar, n, true, hm, hn, hx => ⟨ar, n, true, fun r h => Evt.step (fun k => by rw [gimbalref33_Decode.l0, if_pos (by omega), if_pos rfl]) h, Nat.le_refl _, hn, ⟨Nat.le_add_right _ _, hx⟩, fun h => h, fun hb => by cases hb⟩
  | m + 1, ar, n, false, hm, hn, hx => by
    obtain ⟨v, a, b, he, h1, h2, h3, _, h5⟩ := rrowA_spec T hT hl [] false n hn
    obtain ⟨w, a', b', he', h1', h2', h3', h4', h5'⟩ := rarr_l0 x0 x5 fu sr e si ki ti re sc m (ar ++ [v]) a b (by simp only [List.length_append, List.length_cons, List.length_nil]; omega) h2 (hx.app h3)
    simp only [List.length_append, List.length_cons, List.length_nil, Nat.zero_add] at h3'
    refine ⟨w, a', b', fun r h => ?_, by omega, h2', ⟨by omega, h3'.2⟩, (fun hb => by cases hb), fun _ v' s hs => ?_⟩
    · refine Evt.step (fun k => by rw [gimbalref33_Decode.l0, if_pos (by omega), if_neg (by simp)]) (Evt.bind he ?_)
      refine Evt.congr (fun k => ?_) (he' r h)
      simp only
      rw [if_pos (by omega), wrap64_in _ (by omega), show (((m + 1 : Nat) : Int) - 1) = (m : Int) by omega]
    · rw [arrP] at hs
      cases hp : pr lastOf (T.drop n) with
      | none => rw [hp] at hs; cases hs
      | some x =>
        obtain ⟨rfl, e2, e3⟩ := h5 rfl x.1 x.2 hp
        rw [hp] at hs
        exact h5' e3 v' s (by rw [e2]; exact hs)
theorem rmarks_l1 (x0 : List Int) (x5 fu : Int) (sr : List Int) (e si ki ti re : Int) (sc : List Int) (ar : List (List Int)) : ∀ (m : Nat) (ma : List (List Int)) (o : List Int) (n : Nat) (bad : Bool), ma.length + m ≤ 1099511627776 → n ≤ T.length → Lot T.length ma →
    SpecK (fun k => gimbalref33_Decode.l1 k x0 x5 o (m : Int) fu sr e si ki ti re sc ar ma T (n : Int) bad) (fun ma' a b k => gimbalref33_Decode.j3 k x0 x5 fu sr e si ki ti re sc ar ma' T a b) T n bad (marksP m ma o (T.drop n)) (fun ma' => ma'.length ≤ ma.length + m ∧ Lot T.length ma')
  | 0, ma, o, n, bad, hm, hn, hx => ⟨ma, n, bad, fun r h => Evt.step (fun k => by rw [gimbalref33_Decode.l1, if_neg (by omega)]) h, Nat.le_refl _, hn, ⟨Nat.le_refl _, hx⟩, fun h => h, fun hb v' s hs => by
      rw [marksP] at hs; injection hs with hs; injection hs with s1 s2; exact ⟨s1, s2, hb⟩⟩
  | m + 1, ma, o, n, true, hm, hn, hx => ⟨ma, n, true, fun r h => Evt.step (fun k => by rw [gimbalref33_Decode.l1, if_pos (by omega), if_pos rfl]) h, Nat.le_refl _, hn, ⟨Nat.le_add_right _ _, hx⟩, fun h => h, fun hb => by cases hb⟩
  | m + 1, ma, o, n, false, hm, hn, hx => by
    obtain ⟨v, a, b, he, h1, h2, h3, _, h5⟩ := rrowB_spec T hT hl o false n hn
    obtain ⟨w, a', b', he', h1', h2', h3', h4', h5'⟩ := rmarks_l1 x0 x5 fu sr e si ki ti re sc ar m (ma ++ [v]) v a b (by simp only [List.length_append, List.length_cons, List.length_nil]; omega) h2 (hx.app h3)
    simp only [List.length_append, List.length_cons, List.length_nil, Nat.zero_add] at h3'
    refine ⟨w, a', b', fun r h => ?_, by omega, h2', ⟨by omega, h3'.2⟩, (fun hb => by cases hb), fun _ v' s hs => ?_⟩
    · refine Evt.step (fun k => by rw [gimbalref33_Decode.l1, if_pos (by omega), if_neg (by simp)]) (Evt.bind he ?_)
      refine Evt.congr (fun k => ?_) (he' r h)
      simp only
      rw [if_pos (by omega), wrap64_in _ (by omega), show (((m + 1 : Nat) : Int) - 1) = (m : Int) by omega]
    · rw [marksP] at hs
      cases hp : pr (befOf o) (T.drop n) with
      | none => rw [hp] at hs; cases hs
      | some x =>
        obtain ⟨rfl, e2, e3⟩ := h5 rfl x.1 x.2 hp
        rw [hp] at hs
        exact h5' e3 v' s (by rw [e2]; exact hs)
end
theorem or32_add (a b : Int) (j : Nat) (ha0 : 0 ≤ a) (ha1 : a < 2 ^ j) (hb0 : 0 ≤ b) (hab : a + b * 2 ^ j < 4294967296) : Go.bits .or .u32 a (b * 2 ^ j) = a + b * 2 ^ j := by
  have hp : (0 : Int) < 2 ^ j := Int.pow_pos (by decide)
  have hnn : 0 ≤ b * 2 ^ j := Int.mul_nonneg hb0 (by omega)
  rw [u32_or a _ ha0 (by omega) hnn (by omega)]
  obtain ⟨x, rfl⟩ := Int.eq_ofNat_of_zero_le ha0
  obtain ⟨y, rfl⟩ := Int.eq_ofNat_of_zero_le hb0
  have hx : x < 2 ^ j := by exact_mod_cast ha1
  have := Nat.two_pow_add_eq_or_of_lt hx y
  rw [show ((y : Int) * 2 ^ j).toNat = 2 ^ j * y by rw [show ((y : Int) * 2 ^ j) = ((2 ^ j * y : Nat) : Int) by push_cast; rw [Int.mul_comm]]; exact Int.toNat_natCast _, Int.toNat_natCast, Nat.or_comm, ← this]
  push_cast
  rw [Int.mul_comm ((2 : Int) ^ j), Int.add_comm]
theorem four (a b c d : Int) (ha : 0 ≤ a ∧ a < 256) (hb : 0 ≤ b ∧ b < 256) (hc : 0 ≤ c ∧ c < 256) (hd : 0 ≤ d ∧ d < 256) :
    Go.bits .or .u32 (Go.bits .or .u32 (Go.bits .or .u32 (a % 4294967296) (((b % 4294967296) * 256) % 4294967296)) (((c % 4294967296) * 65536) % 4294967296)) (((d % 4294967296) * 16777216) % 4294967296) = a + 256 * b + 65536 * c + 16777216 * d := by
  rw [show a % 4294967296 = a by omega, show ((b % 4294967296) * 256) % 4294967296 = b * 2 ^ 8 by omega, show ((c % 4294967296) * 65536) % 4294967296 = c * 2 ^ 16 by omega, show ((d % 4294967296) * 16777216) % 4294967296 = d * 2 ^ 24 by omega]
  rw [or32_add a b 8 (by omega) (by omega) (by omega) (by omega), or32_add _ c 16 (by omega) (by omega) (by omega) (by omega), or32_add _ d 24 (by omega) (by omega) (by omega) (by omega)]
  omega
theorem four_iff (a b c d s : Int) (ha : 0 ≤ a ∧ a < 256) (hb : 0 ≤ b ∧ b < 256) (hc : 0 ≤ c ∧ c < 256) (hd : 0 ≤ d ∧ d < 256) (h0 : 0 ≤ s) (h1 : s < 4294967296) : a + 256 * b + 65536 * c + 16777216 * d = s ↔ [a, b, c, d] = sumBytes s := by
  unfold sumBytes
  simp only [List.cons.injEq, and_true]
  omega
theorem last4 (l : List Int) (h : 4 ≤ l.length) : l.drop (l.length - 4) = [l[l.length - 4], l[l.length - 3], l[l.length - 2], l[l.length - 1]] := by
  rw [drop_cons (show l.length - 4 < l.length by omega), drop_cons (show l.length - 4 + 1 < l.length by omega), drop_cons (show l.length - 4 + 1 + 1 < l.length by omega), drop_cons (show l.length - 4 + 1 + 1 + 1 < l.length by omega), List.drop_eq_nil_of_le (by omega)]
  simp only [show l.length - 4 + 1 = l.length - 3 by omega, show l.length - 3 + 1 = l.length - 2 by omega, show l.length - 2 + 1 = l.length - 1 by omega]
theorem sumOf_in (l : List Int) : 0 ≤ sumOf l ∧ sumOf l < 4294967296 := by
  unfold sumOf
  exact ⟨(xor32_in _ _).1, (xor32_in _ _).2⟩
theorem pSeq_some {α β : Type} {p : List Int → Option (α × List Int)} {q : α → List Int → Option (β × List Int)} {s : List Int} {v : α} {w : β} {r' : List Int} (h : pSeq p q s = some ((v, w), r')) : ∃ r, p s = some (v, r) ∧ q v r = some (w, r') := by
  unfold pSeq at h
  cases hp : p s with
  | none => rw [hp] at h; cases h
  | some x =>
    rw [hp] at h
    cases hq : q x.1 x.2 with
    | none => simp only [hq] at h; cases h
    | some y =>
      simp only [hq] at h
      injection h with h; injection h with h1 h2; injection h1 with h3 h4
      subst h3 h4 h2
      exact ⟨x.2, rfl, hq⟩
theorem parr_some {s : List Int} {l : List (List Int)} {r : List Int} (h : parr s = some (l, r)) : ∃ x r', pm s = some (x, r') ∧ arrP x.toNat [] r' = some (l, r) := by
  unfold parr at h
  cases hp : pm s with
  | none => rw [hp] at h; cases h
  | some x => rw [hp] at h; exact ⟨x.1, x.2, rfl, h⟩
theorem pmarks_some {s : List Int} {l : List (List Int)} {r : List Int} (h : pmarks s = some (l, r)) : ∃ x r', pm s = some (x, r') ∧ marksP x.toNat [] [] r' = some (l, r) := by
  unfold pmarks at h
  cases hp : pm s with
  | none => rw [hp] at h; cases h
  | some x => rw [hp] at h; exact ⟨x.1, x.2, rfl, h⟩
theorem refdecode_ev (l : List Int) (hb : Bytes l) (hl : l.length ≤ 1100000) : Evt (fun k => gimbalref33_Decode.f k l) (outT (decR l)) := by
  unfold gimbalref33_Decode.f
  by_cases h9 : l.length < 9
  · refine Evt.of 0 (fun k => ?_)
    unfold decR
    rw [if_pos h9, if_pos (show (l.length : Int) < 9 by omega)]; rfl
  refine Evt.congr (fun k => by rw [if_neg (by omega), if_pos (by omega)]) ?_
  by_cases hm : l.take 5 = magic
  case neg =>
    refine Evt.of 0 (fun k => ?_)
    unfold decR
    rw [if_neg h9, if_pos hm, if_neg (fun h => hm (str_inj (hb.take 5) bytes_magic (h.trans str_magic.symm)))]; rfl
  have hw : wrap64 ((l.length : Int) - 4) = ((l.length - 4 : Nat) : Int) := by rw [wrap64_in _ (by omega)]; omega
  have hw1 : wrap64 (((l.length - 4 : Nat) : Int) + 1) = ((l.length - 3 : Nat) : Int) := by rw [wrap64_in _ (by omega)]; omega
  have hw2 : wrap64 (((l.length - 4 : Nat) : Int) + 2) = ((l.length - 2 : Nat) : Int) := by rw [wrap64_in _ (by omega)]; omega
  have hw3 : wrap64 (((l.length - 4 : Nat) : Int) + 3) = ((l.length - 1 : Nat) : Int) := by rw [wrap64_in _ (by omega)]; omega
  have hTl : (l.take (l.length - 4)).length = l.length - 4 := by rw [List.length_take]; omega
  refine Evt.congr (fun k => by rw [if_pos (show (strOfNums (l.take 5)).toList = ([71, 84, 82, 67, 1] : List UInt8) by rw [hm]; exact str_magic), hw, hw1, hw2, hw3, if_pos (by omega), if_pos (by omega), if_pos (by omega), if_pos (by omega), if_pos (by omega), if_pos (by omega), if_pos (by omega), if_pos (by omega), if_pos (by omega), Int.toNat_natCast]) ?_
  refine Evt.bind (refsum_ev (l.take (l.length - 4)) (by omega)) ?_
  have hby : ∀ i (h : i < l.length), 0 ≤ l[i] ∧ l[i] < 256 := fun i h => hb _ (List.getElem_mem h)
  have hS := sumOf_in (l.take (l.length - 4))
  have hfour := four l[l.length - 4] l[l.length - 3] l[l.length - 2] l[l.length - 1] (hby _ (by omega)) (hby _ (by omega)) (hby _ (by omega)) (hby _ (by omega))
  have hiff := four_iff l[l.length - 4] l[l.length - 3] l[l.length - 2] l[l.length - 1] _ (hby _ (by omega)) (hby _ (by omega)) (hby _ (by omega)) (hby _ (by omega)) hS.1 hS.2
  rw [← last4 l (by omega)] at hiff
  rw [rd_get (show l.length - 4 < l.length by omega), rd_get (show l.length - 3 < l.length by omega), rd_get (show l.length - 2 < l.length by omega), rd_get (show l.length - 1 < l.length by omega), hfour]
  have hdec : decR l = (if l.drop (l.length - 4) ≠ sumBytes (sumOf (l.take (l.length - 4))) then (none, 332) else
      match readT ((l.take (l.length - 4)).drop 5) with
      | some t => (some t, 0)
      | none => (none, 333) : Option Tr × Int) := by
    unfold decR
    exact (if_neg h9).trans (if_neg (fun h => h hm))
  by_cases hs : l.drop (l.length - 4) = sumBytes (sumOf (l.take (l.length - 4)))
  case neg =>
    rw [hdec, if_pos hs]
    exact Evt.of 0 (fun k => (if_neg (fun h => hs (hiff.1 h))).trans rfl)
  rw [if_neg (fun h => h hs)] at hdec
  refine Evt.congr (fun k => if_pos (hiff.2 hs)) ?_
  have hlT : (l.take (l.length - 4)).length ≤ 1100000 := by omega
  have hbT : Bytes (l.take (l.length - 4)) := hb.take _
  have h5T : 5 ≤ (l.take (l.length - 4)).length := by omega
  have hnT : ((l.length - 4 : Nat) : Int) = ((l.take (l.length - 4)).length : Int) := by rw [hTl]
  rw [hnT]
  have htake5 : (l.take (l.length - 4)).take 5 = magic := by rw [List.take_take, Nat.min_eq_left (by omega), hm]
  have hl_eq : l = l.take (l.length - 4) ++ sumBytes (sumOf (l.take (l.length - 4))) := by
    have h_ := List.take_append_drop (l.length - 4) l
    rw [hs] at h_
    exact h_.symm
  have key : ∀ r, (∀ (t : Tr) (a : Nat) (b : Bool), a ≤ (l.take (l.length - 4)).length → VT t → t.2.1.length ≤ 1100000 → t.2.2.2.2.2.2.2.1.length ≤ 1100000 → t.2.2.2.2.2.2.2.2.1.length ≤ 1100000 → t.2.2.2.2.2.2.2.2.2.length ≤ 1100000 → Lot 1100000 t.2.2.2.2.2.2.2.2.1 → Lot 1100000 t.2.2.2.2.2.2.2.2.2 →
        (∀ t' s, ptrace ((l.take (l.length - 4)).drop 5) = some (t', s) → t = t' ∧ (l.take (l.length - 4)).drop a = s ∧ b = false) →
        Evt (fun k => gimbalref33_Decode.j3 k l ((l.take (l.length - 4)).length : Int) t.1 t.2.1 t.2.2.1 t.2.2.2.1 t.2.2.2.2.1 t.2.2.2.2.2.1 t.2.2.2.2.2.2.1 t.2.2.2.2.2.2.2.1 t.2.2.2.2.2.2.2.2.1 t.2.2.2.2.2.2.2.2.2 (l.take (l.length - 4)) (a : Int) b) r) →
      Evt (fun k => (gimbalref33_cursor_signed.f k (l.take (l.length - 4)) 5 false).bind fun bt520 => (gimbalref33_cursor_row.f k (l.take (l.length - 4)) bt520.2.1 bt520.2.2 [] true).bind fun bt523 => (gimbalref33_cursor_small.f k (l.take (l.length - 4)) bt523.2.1 bt523.2.2).bind fun bt528 => (gimbalref33_cursor_small.f k (l.take (l.length - 4)) bt528.2.1 bt528.2.2).bind fun bt531 => (gimbalref33_cursor_small.f k (l.take (l.length - 4)) bt531.2.1 bt531.2.2).bind fun bt534 => (gimbalref33_cursor_small.f k (l.take (l.length - 4)) bt534.2.1 bt534.2.2).bind fun bt537 => (gimbalref33_cursor_small.f k (l.take (l.length - 4)) bt537.2.1 bt537.2.2).bind fun bt540 => (gimbalref33_cursor_row.f k (l.take (l.length - 4)) bt540.2.1 bt540.2.2 [] true).bind fun bt543 => (gimbalref33_cursor_count.f k (l.take (l.length - 4)) bt543.2.1 bt543.2.2).bind fun bt548 => gimbalref33_Decode.l0 k l ((l.take (l.length - 4)).length : Int) bt548.1 bt520.1 bt523.1 bt528.1 bt531.1 bt534.1 bt537.1 bt540.1 bt543.1 [] (l.take (l.length - 4)) bt548.2.1 bt548.2.2) r := by
    clear hfour hiff hdec hs hnT hl_eq htake5 hby hS hTl hw hw1 hw2 hw3 hm h9
    generalize l.take (l.length - 4) = T at hlT hbT h5T ⊢
    intro r hk
    have hT1 : T.length ≤ 1099511627776 := by omega
    obtain ⟨v1, a1, b1, e1, p1, q1, r1, _, s1⟩ := rsigned_spec T hbT hT1 false 5 h5T
    obtain ⟨v2, a2, b2, e2, p2, q2, r2, _, s2⟩ := rrowA_spec T hbT hT1 [] b1 a1 q1
    obtain ⟨v3, a3, b3, e3, p3, q3, r3, _, s3⟩ := rsmall_spec T hbT hT1 b2 a2 q2
    obtain ⟨v4, a4, b4, e4, p4, q4, r4, _, s4⟩ := rsmall_spec T hbT hT1 b3 a3 q3
    obtain ⟨v5, a5, b5, e5, p5, q5, r5, _, s5⟩ := rsmall_spec T hbT hT1 b4 a4 q4
    obtain ⟨v6, a6, b6, e6, p6, q6, r6, _, s6⟩ := rsmall_spec T hbT hT1 b5 a5 q5
    obtain ⟨v7, a7, b7, e7, p7, q7, r7, _, s7⟩ := rsmall_spec T hbT hT1 b6 a6 q6
    obtain ⟨v8, a8, b8, e8, p8, q8, r8, _, s8⟩ := rrowA_spec T hbT hT1 [] b7 a7 q7
    obtain ⟨v9, a9, b9, e9, p9, q9, r9, _, s9⟩ := rcount_spec T hbT hT1 b8 a8 q8
    obtain ⟨w1, c1, d1, f1, g1, h1, i1, _, j1⟩ := rarr_l0 T hbT hT1 l (T.length : Int) v1 v2 v3 v4 v5 v6 v7 v8 v9.toNat [] a9 b9 (by simp only [List.length_nil]; omega) q9 (Lot.nil _)
    obtain ⟨v10, a10, b10, e10, p10, q10, r10, _, s10⟩ := rcount_spec T hbT hT1 d1 c1 h1
    obtain ⟨w2, c2, d2, f2, g2, h2, i2, _, j2⟩ := rmarks_l1 T hbT hT1 l (T.length : Int) v1 v2 v3 v4 v5 v6 v7 v8 w1 v10.toNat [] [] a10 b10 (by simp only [List.length_nil]; omega) q10 (Lot.nil _)
    simp only [List.length_nil, Nat.zero_add] at i1 i2
    have lot : ∀ {x : List (List Int)}, Lot T.length x → Lot 1100000 x := fun h r hr => ⟨Nat.le_trans (h r hr).1 hlT, (h r hr).2⟩
    have rws : ∀ {x : List (List Int)}, Lot T.length x → x.length ≤ 1100000 → Rws x := fun h hx => ⟨fun r hr => ⟨(h r hr).2, by have := (h r hr).1; omega⟩, by omega⟩
    have r2a : v2.length ≤ T.length := r2.1
    have r8a : v8.length ≤ T.length := r8.1
    have i1a : w1.length ≤ v9.toNat := i1.1
    have i2a : w2.length ≤ v10.toNat := i2.1
    have r9a : 0 ≤ v9 ∧ v9 ≤ (T.length : Int) := r9
    have r10a : 0 ≤ v10 ∧ v10 ≤ (T.length : Int) := r10
    have fin := hk (v1, v2, v3, v4, v5, v6, v7, v8, w1, w2) c2 d2 h2 ⟨r1, ⟨r2.2, by show v2.length < 9223372036854775808; omega⟩, r3, r4, r5, r6, r7, ⟨r8.2, by show v8.length < 9223372036854775808; omega⟩, rws i1.2 (by show w1.length ≤ 1100000; omega), rws i2.2 (by show w2.length ≤ 1100000; omega)⟩ (Nat.le_trans r2.1 hlT) (Nat.le_trans r8.1 hlT) (by show w1.length ≤ 1100000; omega) (by show w2.length ≤ 1100000; omega) (lot i1.2) (lot i2.2) ?_
    · have hj1 : Evt (fun k => gimbalref33_Decode.j1 k l (T.length : Int) v1 v2 v3 v4 v5 v6 v7 v8 w1 T (c1 : Int) d1) r := by
        refine Evt.step (g := fun k => (gimbalref33_cursor_count.f k T (c1 : Int) d1).bind fun bt559 => gimbalref33_Decode.l1 k l (T.length : Int) [] bt559.1 v1 v2 v3 v4 v5 v6 v7 v8 w1 [] T bt559.2.1 bt559.2.2) (fun k => by rw [gimbalref33_Decode.j1]) ?_
        refine Evt.bind e10 ?_
        refine Evt.congr (fun k => ?_) (f2 r fin)
        simp only
        rw [show ((v10.toNat : Nat) : Int) = v10 by omega]
      refine Evt.bind e1 (Evt.bind e2 (Evt.bind e3 (Evt.bind e4 (Evt.bind e5 (Evt.bind e6 (Evt.bind e7 (Evt.bind e8 (Evt.bind e9 ?_))))))))
      refine Evt.congr (fun k => ?_) (f1 r hj1)
      simp only
      rw [show ((v9.toNat : Nat) : Int) = v9 by omega]
    · intro t' s ht
      obtain ⟨u1, u2, u3, u4, u5, u6, u7, u8, u9, u10⟩ := t'
      obtain ⟨z1, y1, ht⟩ := pSeq_some ht
      obtain ⟨rfl, rfl, rfl⟩ := s1 rfl _ _ y1
      obtain ⟨z2, y2, ht⟩ := pSeq_some ht
      obtain ⟨rfl, rfl, rfl⟩ := s2 rfl _ _ y2
      obtain ⟨z3, y3, ht⟩ := pSeq_some ht
      obtain ⟨rfl, rfl, rfl⟩ := s3 rfl _ _ y3
      obtain ⟨z4, y4, ht⟩ := pSeq_some ht
      obtain ⟨rfl, rfl, rfl⟩ := s4 rfl _ _ y4
      obtain ⟨z5, y5, ht⟩ := pSeq_some ht
      obtain ⟨rfl, rfl, rfl⟩ := s5 rfl _ _ y5
      obtain ⟨z6, y6, ht⟩ := pSeq_some ht
      obtain ⟨rfl, rfl, rfl⟩ := s6 rfl _ _ y6
      obtain ⟨z7, y7, ht⟩ := pSeq_some ht
      obtain ⟨rfl, rfl, rfl⟩ := s7 rfl _ _ y7
      obtain ⟨z8, y8, ht⟩ := pSeq_some ht
      obtain ⟨rfl, rfl, rfl⟩ := s8 rfl _ _ y8
      obtain ⟨z9, y9, ht⟩ := pSeq_some ht
      obtain ⟨x9, z9', y9, y9'⟩ := parr_some y9
      obtain ⟨rfl, rfl, rfl⟩ := s9 rfl _ _ y9
      obtain ⟨rfl, rfl, rfl⟩ := j1 rfl _ _ y9'
      obtain ⟨x10, z10', y10, y10'⟩ := pmarks_some ht
      obtain ⟨rfl, rfl, rfl⟩ := s10 rfl _ _ y10
      obtain ⟨rfl, rfl, rfl⟩ := j2 rfl _ _ y10'
      exact ⟨rfl, rfl, rfl⟩
  refine key _ (fun t a b ha hv x2 x8 x9 x10 hl9 hl10 hp => ?_)
  clear key
  have hout : outT (none, 333) = (0, [], 0, 0, 0, 0, 0, [], [], [], 333) := rfl
  have bad333 : readT ((l.take (l.length - 4)).drop 5) = none → outT (decR l) = (0, [], 0, 0, 0, 0, 0, [], [], [], 333) := fun h => by rw [hdec, h]; rfl
  obtain ⟨fu, sr, e, si, ki, ti, re, sc, ar, ma⟩ := t
  have t9 := hl9.tot
  have t10 := hl10.tot
  simp only at x2 x8 x9 x10 t9 t10
  have hfile := file_ev fu sr e si ki ti re sc ar ma hv.1.1 hv.1.2 (by omega) (by omega) (by
    have m9 := Nat.mul_le_mul_right (1100000 + 1) x9
    have m10 := Nat.mul_le_mul_right (1100000 + 1) x10
    omega)
  have hfe := file_eq fu sr e si ki ti re sc ar ma hv
  cases hr : readT ((l.take (l.length - 4)).drop 5) with
  | some t' =>
    have hr' := hr
    unfold readT at hr'
    cases hq : ptrace ((l.take (l.length - 4)).drop 5) with
    | none => rw [hq] at hr'; cases hr'
    | some y =>
      obtain ⟨t2, s⟩ := y
      rw [hq] at hr'
      cases s with
      | cons _ _ => cases hr'
      | nil =>
        simp only at hr'
        split at hr'
        · rename_i hf
          injection hr' with hr'
          subst hr'
          obtain ⟨rfl, e2, rfl⟩ := hp _ _ hq
          have han : (a : Int) = ((l.take (l.length - 4)).length : Int) := by
            have := congrArg List.length e2
            rw [List.length_drop, List.length_nil] at this
            omega
          obtain ⟨g1, _⟩ := reads_trace.sound (hbT.drop _) (by unfold Short; rw [List.length_drop]; omega) hq
          rw [List.append_nil] at g1
          have hbody : l.take (l.length - 4) = body (fu, sr, e, si, ki, ti, re, sc, ar, ma) := by
            rw [← List.take_append_drop 5 (l.take (l.length - 4)), htake5, g1]
            rfl
          have hfl : file fu sr e si ki ti re sc ar ma = l := by
            rw [hfe, ← hbody]
            exact hl_eq.symm
          refine Evt.step (fun k => by rw [gimbalref33_Decode.j3, if_neg (by simp), if_pos han]) ?_
          refine Evt.bind (Evt.of 0 (fun k => reffit_eq fu sr e si ki ti re sc ar ma)) ?_
          refine Evt.congr (fun k => if_pos (decide_eq_true hf)) ?_
          refine Evt.bind hfile ?_
          refine Evt.of 0 (fun k => ?_)
          rw [if_pos (by rw [hfl]), hdec, hr]
          rfl
        · cases hr'
  | none =>
    rw [bad333 hr]
    cases b with
    | true => exact Evt.of 1 (fun k => by rw [gimbalref33_Decode.j3, if_pos rfl])
    | false =>
      by_cases han : (a : Int) = ((l.take (l.length - 4)).length : Int)
      case neg => exact Evt.of 1 (fun k => by rw [gimbalref33_Decode.j3, if_neg (by simp), if_neg han])
      refine Evt.step (fun k => by rw [gimbalref33_Decode.j3, if_neg (by simp), if_pos han]) ?_
      refine Evt.bind (Evt.of 0 (fun k => reffit_eq fu sr e si ki ti re sc ar ma)) ?_
      by_cases hf : Fit e si ki ti re ma
      case neg => exact Evt.of 0 (fun k => if_neg (fun h => hf (of_decide_eq_true h)))
      refine Evt.congr (fun k => if_pos (decide_eq_true hf)) ?_
      refine Evt.bind hfile ?_
      refine Evt.of 0 (fun k => if_neg (fun h => ?_))
      rw [hfe] at h
      have hll := str_inj (closed_bytes _ hv) hb h
      have := decR_file (fu, sr, e, si, ki, ti, re, sc, ar, ma) hv hf
      rw [hll, hdec, hr] at this
      cases this
end Go.Proofs.Ytiemdfdebdmchaa.M
namespace Go.Proofs.Ytiemdfdebdmchaa.Pure
open Go.RowKit Go.Proofs.Ytiemdfdebdmchaa.P Go.Proofs.Ytiemdfdebdmchaa.M Go.Proofs.YtiemdfdebdmchaaW.PrintWords Go.Proofs.YtiemdfdebdmchaaW.PrintLast
theorem decR_some {l : List Int} {t : Tr} (h : (decR l).1 = some t) : (decR l).2 = 0 := by
  unfold decR at h ⊢
  by_cases h9 : l.length < 9
  · rw [if_pos h9] at h; cases h
  rw [if_neg h9] at h ⊢
  by_cases hm : l.take 5 = magic
  case neg => rw [if_pos hm] at h; cases h
  rw [if_neg (fun h => h hm)] at h ⊢
  by_cases hs : l.drop (l.length - 4) = sumBytes (sumOf (l.take (l.length - 4)))
  case neg => rw [if_pos hs] at h; cases h
  rw [if_neg (fun h => h hs)] at h ⊢
  cases hr : readT ((l.take (l.length - 4)).drop 5) with
  | none => rw [hr] at h; cases h
  | some t => rfl
theorem same_out (l : List Int) (hb : Bytes l) (hl : l.length ≤ 1099511627776) : ∃ r1 r2 r3 r4 r5 r6 r7 r8 r9 r10 r11, outT (decR l) = (r1, r2, r3, r4, r5, r6, r7, r8, r9, r10, r11) ∧ Evt (fun k => gimbalref33_Same.f k r1 r2 r3 r4 r5 r6 r7 r8 r9 r10 r1 r2 r3 r4 r5 r6 r7 r8 r9 r10) true := by
  unfold outT
  cases h : (decR l).1 with
  | none => exact ⟨0, [], 0, 0, 0, 0, 0, [], [], [], (decR l).2, rfl, Same_nil_ev⟩
  | some t =>
    obtain ⟨t', hv, _, e, _⟩ := decR_ok l hb hl (decR_some h)
    rw [e] at h
    injection h with h
    subst h
    exact ⟨_, _, _, _, _, _, _, _, _, _, _, rfl, Same_ev t' hv⟩
theorem TraceReads (l9 : List Int) (a1 : Bool) (hb : Bytes l9) (hl : l9.length ≤ 1048576) : ∃ (k : Nat) (t599 : Int) (l0 : List Int) (r1 : Int) (r2 : List Int) (r3 r4 r5 r6 r7 : Int) (r8 : List Int) (r9 r10 : List (List Int)) (r11 : Int),
    (a1 = true → gimbalref27_Sum.f k ([71, 84, 82, 67] ++ [1] ++ l9) = some t599) ∧
    (a1 = true → l0 = [71, 84, 82, 67] ++ [1] ++ l9 ++ [(t599) % 256, (t599 / 256) % 256, (t599 / 65536) % 256, (t599 / 16777216) % 256]) ∧
    (a1 = false → l0 = l9) ∧ trace_Decode.f k l0 = some (r1, r2, r3, r4, r5, r6, r7, r8, r9, r10, r11) ∧ gimbalref33_Decode.f k l0 = some (r1, r2, r3, r4, r5, r6, r7, r8, r9, r10, r11) ∧
    gimbalref33_Same.f k r1 r2 r3 r4 r5 r6 r7 r8 r9 r10 r1 r2 r3 r4 r5 r6 r7 r8 r9 r10 = some true ∧ gimballaw33_awake.f k = some true := by
  have hbm : Bytes ([71, 84, 82, 67] ++ [1] ++ l9) := bytes_magic.append hb
  obtain ⟨k1, h1⟩ := refsum_ev ([71, 84, 82, 67] ++ [1] ++ l9) (by simp only [List.length_append, List.length_cons, List.length_nil]; omega)
  have base : ∀ l0 : List Int, Bytes l0 → l0.length ≤ 1100000 → ∃ (r1 : Int) (r2 : List Int) (r3 r4 r5 r6 r7 : Int) (r8 : List Int) (r9 r10 : List (List Int)) (r11 : Int) (K : Nat), ∀ k, K ≤ k → trace_Decode.f k l0 = some (r1, r2, r3, r4, r5, r6, r7, r8, r9, r10, r11) ∧ gimbalref33_Decode.f k l0 = some (r1, r2, r3, r4, r5, r6, r7, r8, r9, r10, r11) ∧
      gimbalref33_Same.f k r1 r2 r3 r4 r5 r6 r7 r8 r9 r10 r1 r2 r3 r4 r5 r6 r7 r8 r9 r10 = some true ∧ gimballaw33_awake.f k = some true := by
    intro l0 hb0 hl0
    obtain ⟨r1, r2, r3, r4, r5, r6, r7, r8, r9, r10, r11, e, k2, h2⟩ := same_out l0 hb0 (by omega)
    obtain ⟨k3, h3⟩ := decode_ev l0 hb0 (by omega)
    obtain ⟨k4, h4⟩ := refdecode_ev l0 hb0 hl0
    obtain ⟨k5, h5⟩ := awake_ev
    refine ⟨r1, r2, r3, r4, r5, r6, r7, r8, r9, r10, r11, k2 + k3 + k4 + k5, fun k hk => ⟨?_, ?_, h2 k (by omega), h5 k (by omega)⟩⟩
    · rw [← e]; exact h3 k (by omega)
    · rw [← e]; exact h4 k (by omega)
  cases a1 with
  | false =>
    obtain ⟨r1, r2, r3, r4, r5, r6, r7, r8, r9, r10, r11, K, h⟩ := base l9 hb (by omega)
    exact ⟨K, 0, l9, r1, r2, r3, r4, r5, r6, r7, r8, r9, r10, r11, (fun h => by cases h), (fun h => by cases h), fun _ => rfl, h K (Nat.le_refl _)⟩
  | true =>
    obtain ⟨r1, r2, r3, r4, r5, r6, r7, r8, r9, r10, r11, K, h⟩ := base ([71, 84, 82, 67] ++ [1] ++ l9 ++ sumBytes (sumOf ([71, 84, 82, 67] ++ [1] ++ l9))) (hbm.append (sumBytes_bytes _)) (by simp only [List.length_append, List.length_cons, List.length_nil, sumBytes_len]; omega)
    exact ⟨K + k1, sumOf ([71, 84, 82, 67] ++ [1] ++ l9), _, r1, r2, r3, r4, r5, r6, r7, r8, r9, r10, r11, fun _ => h1 _ (by omega), fun _ => rfl, (fun h => by cases h), h _ (by omega)⟩
end Go.Proofs.Ytiemdfdebdmchaa.Pure
