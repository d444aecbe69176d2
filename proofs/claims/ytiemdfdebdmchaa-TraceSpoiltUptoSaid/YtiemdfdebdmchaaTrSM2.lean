/- What the law's proof needs of M2. -/
import Derived.Laws.BitsAllLaws
import Derived.Test.YtiemdfdebdmchaaTrSM1
import Derived.Test.YtiemdfdebdmchaaTrSS1
import Derived.Test.YtiemdfdebdmchaaTrSPx4
import Derived.Test.YtiemdfdebdmchaaTrSPx0
import Derived.Test.YtiemdfdebdmchaaTrSU2
import Derived.Test.YtiemdfdebdmchaaTrSU
namespace Go.Proofs.Ytiemdfdebdmchaa.M
open Go.RowKit Go.Proofs.Ytiemdfdebdmchaa.P Go.Proofs.YtiemdfdebdmchaaW.PrintWords Go.Proofs.YtiemdfdebdmchaaW.PrintLast
theorem xor32_in (a b : Int) : 0 ≤ Go.bits .xor .u32 a b ∧ Go.bits .xor .u32 a b < 4294967296 := by
  have h := bits_within .xor .u32 a b
  have e1 : IntKind.u32.min = 0 := by decide
  have e2 : IntKind.u32.max = 4294967295 := by decide
  omega
theorem and1 (c : Int) (h0 : 0 ≤ c) (h1 : c < 4294967296) : Go.bits .and .u32 c 1 = c % 2 := by
  rw [u32_and c 1 h0 h1 (by decide) (by decide), show (1 : Int).toNat = 1 from rfl, Nat.and_one_is_mod]
  omega
theorem xor0 (c : Int) (h0 : 0 ≤ c) (h1 : c < 4294967296) : Go.bits .xor .u32 c 0 = c := by
  rw [u32_xor c 0 h0 h1 (by decide) (by decide), show (0 : Int).toNat = 0 from rfl, Nat.xor_zero]
  omega
def cstep (c : Int) : Int := if c % 2 = 1 then Go.bits .xor .u32 (c / 2) 3988292384 else c / 2
theorem cstep_in (c : Int) (h0 : 0 ≤ c) (h1 : c < 4294967296) : 0 ≤ cstep c ∧ cstep c < 4294967296 := by
  unfold cstep
  split
  · exact xor32_in _ _
  · omega
theorem cstep_code (c : Int) (h0 : 0 ≤ c) (h1 : c < 4294967296) : Go.bits .xor .u32 (c / 2) ((3988292384 * (Go.bits .and .u32 c 1)) % 4294967296) = cstep c := by
  rw [and1 c h0 h1]
  unfold cstep
  by_cases h : c % 2 = 1
  · rw [if_pos h, h]; rfl
  · have h2 : c % 2 = 0 := by omega
    rw [if_neg h, h2]
    exact xor0 _ (by omega) (by omega)
def cit : Nat → Int → Int
  | 0, c => c
  | m + 1, c => cit m (cstep c)
theorem cit_in : ∀ m c, 0 ≤ c → c < 4294967296 → 0 ≤ cit m c ∧ cit m c < 4294967296
  | 0, c, h0, h1 => ⟨h0, h1⟩
  | m + 1, c, h0, h1 => cit_in m _ (cstep_in c h0 h1).1 (cstep_in c h0 h1).2
def cbyte (c b : Int) : Int := cit 8 (Go.bits .xor .u32 c (b % 4294967296))
theorem cbyte_in (c b : Int) : 0 ≤ cbyte c b ∧ cbyte c b < 4294967296 := cit_in 8 _ (xor32_in _ _).1 (xor32_in _ _).2
def crc (l : List Int) (c : Int) : Int := l.foldl cbyte c
theorem code_l1 {r : Int} (l : List Int) (n i : Int) : ∀ (m j : Nat) (c : Int), j + m = 8 → 0 ≤ c → c < 4294967296 → Evt (fun k => code_Sum.l0 k (cit m c) l n (wrap64 (i + 1))) r → Evt (fun k => code_Sum.l1 k c l n i (j : Int)) r
  | 0, j, c, hj, h0, h1, h => by
    refine Evt.step (fun k => ?_) h
    rw [code_Sum.l1, if_neg (by omega)]
    rfl
  | m + 1, j, c, hj, h0, h1, h => by
    refine Evt.step (fun k => ?_) (code_l1 l n i m (j + 1) (cstep c) (by omega) (cstep_in c h0 h1).1 (cstep_in c h0 h1).2 h)
    rw [code_Sum.l1, if_pos (by omega), cstep_code c h0 h1, nat_step j (by omega)]
theorem code_l0 (l : List Int) (hl : l.length ≤ 9223372036854775807) : ∀ (m n : Nat) (c : Int), n + m = l.length → Evt (fun k => code_Sum.l0 k c l (l.length : Int) (n : Int)) (Go.bits .xor .u32 4294967295 (crc (l.drop n) c))
  | 0, n, c, hn => by
    rw [List.drop_eq_nil_of_le (by omega)]
    refine Evt.of 1 (fun k => ?_)
    rw [code_Sum.l0, if_neg (by omega)]
    rfl
  | m + 1, n, c, hn => by
    have h1 : n < l.length := by omega
    have ih := code_l0 l hl m (n + 1) (cbyte c l[n]) (by omega)
    rw [List.drop_eq_getElem_cons h1]
    rw [← nat_step n (by omega)] at ih
    refine Evt.step (fun k => ?_) (code_l1 l (l.length : Int) (n : Int) 8 0 (Go.bits .xor .u32 c (l[n] % 4294967296)) (by decide) (xor32_in _ _).1 (xor32_in _ _).2 ih)
    rw [code_Sum.l0, if_pos (by omega), if_pos (by omega), if_pos (by omega), rd_get h1]
    rfl
def sumOf (l : List Int) : Int := Go.bits .xor .u32 4294967295 (crc l 4294967295)
theorem code_ev (l : List Int) (hl : l.length ≤ 9223372036854775807) : Evt (fun k => code_Sum.f k l) (sumOf l) := code_l0 l hl l.length 0 4294967295 (by omega)
theorem u64_mod (n : Int) : IntKind.u64.wrap n = n % 18446744073709551616 := by simp [IntKind.wrap, IntKind.bits, IntKind.signed]
theorem wrap_u64 (x : Int) (h0 : 0 ≤ x) (h1 : x < 18446744073709551616) : IntKind.u64.wrap x = x := by rw [u64_mod]; omega
theorem or128 : ∀ b : Fin 256, Go.bits .or .u8 ((b.1 : Nat) : Int) 128 = ((b.1 % 128 + 128 : Nat) : Int) := by decide +kernel
theorem u64_in (a : Int) : 0 ≤ IntKind.u64.wrap a ∧ IntKind.u64.wrap a < 18446744073709551616 := by
  have h := wrap_within .u64 a
  have e1 : IntKind.u64.min = 0 := by decide
  have e2 : IntKind.u64.max = 18446744073709551615 := by decide
  omega
theorem xor64_0 (x : Int) (h0 : 0 ≤ x) (h1 : x < 18446744073709551616) : Go.bits .xor .u64 x 0 = x := by
  rw [u64_xor x 0 h0 h1 (by decide) (by decide), show (0 : Int).toNat = 0 from rfl, Nat.xor_zero]
  omega
theorem xor64_all (x : Int) (h0 : 0 ≤ x) (h1 : x < 18446744073709551616) : Go.bits .xor .u64 x 18446744073709551615 = 18446744073709551615 - x := by
  rw [u64_xor x 18446744073709551615 h0 h1 (by decide) (by decide)]
  have h : x.toNat ^^^ 18446744073709551615 = 18446744073709551615 - x.toNat := by
    have hx : x.toNat < 2 ^ 64 := by omega
    have := congrArg BitVec.toNat (BitVec.xor_allOnes (x := BitVec.ofNat 64 x.toNat))
    rw [BitVec.toNat_xor, BitVec.toNat_not, BitVec.toNat_ofNat, Nat.mod_eq_of_lt hx] at this
    simpa using this
  rw [show (18446744073709551615 : Int).toNat = 18446744073709551615 from rfl, h]
  omega
theorem sgn_nonneg (a : Int) (h0 : 0 ≤ a) (h1 : a < 9223372036854775808) : sgn a = 2 * a := by
  unfold sgn
  rw [wrap_u64 a h0 (by omega), wrap_u64 (a * 2) (by omega) (by omega), show a / 9223372036854775808 = 0 by omega, show IntKind.u64.wrap 0 = 0 by decide, xor64_0 _ (by omega) (by omega)]
  omega
theorem u64_neg (a : Int) (h0 : -18446744073709551616 ≤ a) (h1 : a < 0) : IntKind.u64.wrap a = a + 18446744073709551616 := by
  rw [u64_mod]
  omega
theorem sgn_neg (a : Int) (h0 : -9223372036854775808 ≤ a) (h1 : a < 0) : sgn a = -2 * a - 1 := by
  unfold sgn
  have e1 : IntKind.u64.wrap (IntKind.u64.wrap a * 2) = 2 * a + 18446744073709551616 := by
    rw [u64_neg a (by omega) h1]
    rw [u64_mod]
    omega
  rw [e1, show a / 9223372036854775808 = -1 by omega, show IntKind.u64.wrap (-1) = 18446744073709551615 by decide, xor64_all _ (by omega) (by omega)]
  omega
end Go.Proofs.Ytiemdfdebdmchaa.M
