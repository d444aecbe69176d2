/- What the law's proof needs of M10. -/
import Derived.Test.YtiemdfdebdmchaaTrSM2
import Derived.Test.YtiemdfdebdmchaaTrSM5
namespace Go.Proofs.Ytiemdfdebdmchaa.M
open Go.RowKit Go.Proofs.Ytiemdfdebdmchaa.P Go.Proofs.YtiemdfdebdmchaaW.PrintWords Go.Proofs.YtiemdfdebdmchaaW.PrintLast Go.Proofs.YtiemdfdebdmchaaW.PrintMore
abbrev B32 := BitVec 32
def PG : B32 := 3988292384#32
/-- One step of the sum. -/
def bs (c : B32) : B32 := if c.getLsbD 0 then (c >>> 1) ^^^ PG else c >>> 1
theorem bs_xor (a b : B32) : bs (a ^^^ b) = bs a ^^^ bs b := by
  have hx : (a ^^^ b) >>> 1 = (a >>> 1) ^^^ (b >>> 1) := BitVec.ushiftRight_xor_distrib a b 1
  unfold bs
  rw [BitVec.getLsbD_xor, hx]
  cases ha : a.getLsbD 0 <;> cases hb : b.getLsbD 0
  · rfl
  · show (a >>> 1 ^^^ b >>> 1) ^^^ PG = a >>> 1 ^^^ (b >>> 1 ^^^ PG)
    rw [BitVec.xor_assoc]
  · show (a >>> 1 ^^^ b >>> 1) ^^^ PG = (a >>> 1 ^^^ PG) ^^^ b >>> 1
    rw [BitVec.xor_assoc, BitVec.xor_assoc, BitVec.xor_comm (b >>> 1)]
  · show a >>> 1 ^^^ b >>> 1 = (a >>> 1 ^^^ PG) ^^^ (b >>> 1 ^^^ PG)
    rw [BitVec.xor_assoc, ← BitVec.xor_assoc PG, BitVec.xor_comm PG (b >>> 1), BitVec.xor_assoc (b >>> 1), BitVec.xor_self, BitVec.xor_zero]
theorem bs_zero : bs 0#32 = 0#32 := by decide
theorem bs_ne (a : B32) (h : a ≠ 0#32) : bs a ≠ 0#32 := by
  intro h0
  unfold bs at h0
  split at h0
  · have h31 := congrArg (fun x : B32 => x.getLsbD 31) h0
    simp only [BitVec.getLsbD_xor, BitVec.getLsbD_ushiftRight] at h31
    rw [BitVec.getLsbD_of_ge a (1 + 31) (by decide)] at h31
    exact absurd h31 (by decide)
  · rename_i h1
    apply h
    apply BitVec.eq_of_getLsbD_eq
    intro i hi
    rw [BitVec.getLsbD_zero]
    cases i with
    | zero => simpa using h1
    | succ i =>
      have := congrArg (fun x : B32 => x.getLsbD i) h0
      simp only [BitVec.getLsbD_ushiftRight, BitVec.getLsbD_zero] at this
      rw [Nat.add_comm] at this
      exact this
def itb : Nat → B32 → B32
  | 0, c => c
  | m + 1, c => bs (itb m c)
theorem itb_xor : ∀ (m : Nat) (a b : B32), itb m (a ^^^ b) = itb m a ^^^ itb m b
  | 0, _, _ => rfl
  | m + 1, a, b => by rw [itb, itb_xor m, bs_xor]; rfl
theorem itb_zero : ∀ m, itb m 0#32 = 0#32
  | 0 => rfl
  | m + 1 => by rw [itb, itb_zero m, bs_zero]
theorem itb_ne : ∀ (m : Nat) (a : B32), a ≠ 0#32 → itb m a ≠ 0#32
  | 0, _, h => h
  | m + 1, a, h => bs_ne _ (itb_ne m a h)
theorem itb_bit : ∀ m : Fin 32, itb m.1 (1#32 <<< m.1) = 1#32 := by decide +kernel
def ebit (b : Bool) : B32 := if b then 1#32 else 0#32
/-- The register behind n bits. -/
def reg (f : Nat → Bool) : Nat → B32 → B32
  | 0, c => c
  | n + 1, c => bs (reg f n c ^^^ ebit (f n))
/-- m bits from p on, as a word. -/
def wrd (f : Nat → Bool) (p : Nat) : Nat → B32
  | 0 => 0#32
  | m + 1 => wrd f p m ^^^ (if f (p + m) then 1#32 <<< m else 0#32)
theorem reg_wrd (f : Nat → Bool) (p : Nat) (c : B32) : ∀ m, m ≤ 32 → reg f (p + m) c = itb m (reg f p c ^^^ wrd f p m)
  | 0, _ => by rw [wrd, BitVec.xor_zero]; rfl
  | m + 1, h => by
    rw [show p + (m + 1) = (p + m) + 1 from rfl, reg, reg_wrd f p c m (by omega), wrd, itb]
    congr 1
    rw [← BitVec.xor_assoc, itb_xor m (reg f p c ^^^ wrd f p m)]
    congr 1
    cases f (p + m) with
    | false => exact (itb_zero m).symm
    | true => exact (itb_bit ⟨m, by omega⟩).symm
theorem wrd_bit (f : Nat → Bool) (p : Nat) : ∀ (m i : Nat), m ≤ 32 → i < 32 → (wrd f p m).getLsbD i = (decide (i < m) && f (p + i))
  | 0, i, _, _ => by simp [wrd]
  | m + 1, i, hm, hi => by
    rw [wrd, BitVec.getLsbD_xor, wrd_bit f p m i (by omega) hi]
    have one : (1#32 <<< m).getLsbD i = decide (i = m) := by
      rw [BitVec.getLsbD_shiftLeft, BitVec.getLsbD_one]
      simp only [hi, decide_true, Bool.true_and]
      by_cases h : i = m
      · subst h; simp
      · by_cases h2 : i < m
        · simp [h2, h]
        · simp [h2, h]; omega
    by_cases h : i = m
    · subst h
      cases f (p + i) with
      | false => simp
      | true => simp [one]
    · cases f (p + m) with
      | false => simp; by_cases h2 : i < m <;> simp [h2] <;> omega
      | true =>
        simp only [if_true, one, h, decide_false, Bool.xor_false]
        congr 1
        exact decide_eq_decide.2 (by omega)
theorem reg_xor (f g : Nat → Bool) : ∀ (n : Nat) (c d : B32), reg (fun q => f q ^^ g q) n (c ^^^ d) = reg f n c ^^^ reg g n d
  | 0, _, _ => rfl
  | n + 1, c, d => by
    rw [reg, reg, reg, reg_xor f g n, ← bs_xor]
    congr 1
    have : ebit (f n ^^ g n) = ebit (f n) ^^^ ebit (g n) := by cases f n <;> cases g n <;> decide
    rw [this]
    rw [BitVec.xor_assoc, BitVec.xor_assoc, ← BitVec.xor_assoc (reg g n d), BitVec.xor_comm (reg g n d) (ebit (f n)), BitVec.xor_assoc]
theorem reg_quiet (g : Nat → Bool) (p : Nat) (c : B32) : ∀ m, (∀ i, i < m → g (p + i) = false) → reg g (p + m) c = itb m (reg g p c)
  | 0, _ => rfl
  | m + 1, h => by
    rw [show p + (m + 1) = (p + m) + 1 from rfl, reg, reg_quiet g p c m (fun i hi => h i (by omega)), h m (by omega)]
    show bs (itb m _ ^^^ 0#32) = _
    rw [BitVec.xor_zero]
    rfl
/-- A stretch of at most 32 bits with a bit in it. -/
theorem reg_burst (g : Nat → Bool) (p n q : Nat) (h0 : ∀ i, g i = true → p ≤ i ∧ i < p + 32) (hq : g q = true) (hqn : q < n) : reg g n 0#32 ≠ 0#32 := by
  have hb := h0 q hq
  have hp : reg g p 0#32 = 0#32 := by
    have := reg_quiet g 0 0#32 p (fun i hi => by
      cases hg : g (0 + i) with
      | false => rfl
      | true => have := (h0 _ hg).1; omega)
    rw [Nat.zero_add] at this
    rw [this]
    exact itb_zero p
  have key : ∀ m, m ≤ 32 → q < p + m → reg g (p + m) 0#32 ≠ 0#32 := by
    intro m hm hqm
    rw [reg_wrd g p 0#32 m hm, hp, BitVec.zero_xor]
    refine itb_ne m _ (fun h => ?_)
    have := wrd_bit g p m (q - p) hm (by omega)
    rw [h, BitVec.getLsbD_zero, show p + (q - p) = q by omega, hq, decide_eq_true (by omega)] at this
    cases this
  by_cases hn : n ≤ p + 32
  · have := key (n - p) (by omega) (by omega)
    rwa [show p + (n - p) = n by omega] at this
  · have h1 := key 32 (Nat.le_refl _) hb.2
    have h2 := reg_quiet g (p + 32) 0#32 (n - (p + 32)) (fun i hi => by
      cases hg : g (p + 32 + i) with
      | false => rfl
      | true => have := (h0 _ hg).2; omega)
    rw [show p + 32 + (n - (p + 32)) = n by omega] at h2
    rw [h2]
    exact itb_ne _ _ h1
def phi (c : Int) : B32 := BitVec.ofNat 32 c.toNat
theorem phi_xor (a b : Int) (ha0 : 0 ≤ a) (ha1 : a < 4294967296) (hb0 : 0 ≤ b) (hb1 : b < 4294967296) : phi (Go.bits .xor .u32 a b) = phi a ^^^ phi b := by
  rw [u32_xor a b ha0 ha1 hb0 hb1]
  unfold phi
  rw [Int.toNat_natCast]
  apply BitVec.eq_of_toNat_eq
  rw [BitVec.toNat_xor, BitVec.toNat_ofNat, BitVec.toNat_ofNat, BitVec.toNat_ofNat, Nat.mod_eq_of_lt (show a.toNat < 2 ^ 32 by omega), Nat.mod_eq_of_lt (show b.toNat < 2 ^ 32 by omega)]
  exact Nat.mod_eq_of_lt (Nat.xor_lt_two_pow (by omega) (by omega))
theorem phi_half (c : Int) (h0 : 0 ≤ c) (h1 : c < 4294967296) : phi (c / 2) = phi c >>> 1 := by
  unfold phi
  apply BitVec.eq_of_toNat_eq
  rw [BitVec.toNat_ushiftRight, BitVec.toNat_ofNat, BitVec.toNat_ofNat, Nat.shiftRight_eq_div_pow]
  omega
theorem phi_low (c : Int) (h0 : 0 ≤ c) (h1 : c < 4294967296) : (phi c).getLsbD 0 = decide (c % 2 = 1) := by
  unfold phi
  rw [BitVec.getLsbD_ofNat]
  simp only [Nat.zero_lt_succ, decide_true, Bool.true_and, Nat.testBit_zero]
  simp
  omega
theorem phi_step (c : Int) (h0 : 0 ≤ c) (h1 : c < 4294967296) : phi (cstep c) = bs (phi c) := by
  unfold cstep bs
  rw [phi_low c h0 h1]
  by_cases h : c % 2 = 1
  · rw [if_pos h, if_pos (by simpa using h), phi_xor _ _ (by omega) (by omega) (by decide) (by decide), phi_half c h0 h1]
    rfl
  · rw [if_neg h, if_neg (by simpa using h), phi_half c h0 h1]
theorem itb_succ' : ∀ (m : Nat) (c : B32), itb (m + 1) c = itb m (bs c)
  | 0, _ => rfl
  | m + 1, c => by rw [itb, itb_succ' m c]; rfl
theorem phi_cit : ∀ (m : Nat) (c : Int), 0 ≤ c → c < 4294967296 → phi (cit m c) = itb m (phi c)
  | 0, _, _, _ => rfl
  | m + 1, c, h0, h1 => by
    have h := cstep_in c h0 h1
    rw [cit, phi_cit m _ h.1 h.2, phi_step c h0 h1, itb_succ']
theorem phi_byte (c b : Int) (hc0 : 0 ≤ c) (hc1 : c < 4294967296) (hb0 : 0 ≤ b) (hb1 : b < 256) : phi (cbyte c b) = itb 8 (phi c ^^^ phi b) := by
  unfold cbyte
  have h := xor32_in c (b % 4294967296)
  rw [phi_cit 8 _ h.1 h.2, phi_xor c _ hc0 hc1 (by omega) (by omega), show b % 4294967296 = b by omega]
/-- The bit at place q of bytes. -/
def bitAt (l : List Int) (q : Nat) : Bool := (l.getD (q / 8) 0).toNat.testBit (q % 8)
theorem bitAt_byte (l : List Int) (j i : Nat) (hi : i < 8) : bitAt l (8 * j + i) = (l.getD j 0).toNat.testBit i := by
  unfold bitAt
  rw [show (8 * j + i) / 8 = j by omega, show (8 * j + i) % 8 = i by omega]
theorem wrd_byte (l : List Int) (j : Nat) (h0 : 0 ≤ l.getD j 0) (h1 : l.getD j 0 < 256) : wrd (bitAt l) (8 * j) 8 = phi (l.getD j 0) := by
  apply BitVec.eq_of_getLsbD_eq
  intro i hi
  rw [wrd_bit _ _ 8 i (by decide) hi]
  unfold phi
  rw [BitVec.getLsbD_ofNat, decide_eq_true hi, Bool.true_and]
  by_cases h : i < 8
  · rw [decide_eq_true h, Bool.true_and, bitAt_byte l j i h]
  · rw [decide_eq_false h, Bool.false_and]
    symm
    refine Nat.testBit_lt_two_pow (Nat.lt_of_lt_of_le (show (l.getD j 0).toNat < 2 ^ 8 by omega) (Nat.pow_le_pow_right (by decide) (by omega)))
theorem crc_in (l : List Int) : ∀ c, 0 ≤ c → c < 4294967296 → 0 ≤ crc l c ∧ crc l c < 4294967296 := by
  induction l with
  | nil => exact fun c h0 h1 => ⟨h0, h1⟩
  | cons b l ih => exact fun c _ _ => ih _ (cbyte_in c b).1 (cbyte_in c b).2
theorem crc_take_succ (l : List Int) (c : Int) (j : Nat) (h : j < l.length) : crc (l.take (j + 1)) c = cbyte (crc (l.take j) c) (l.getD j 0) := by
  unfold crc
  rw [List.take_add_one, List.getElem?_eq_getElem h, Option.toList_some, List.foldl_append, List.getD_eq_getElem?_getD, List.getElem?_eq_getElem h, Option.getD_some]
  rfl
theorem getD_byte {l : List Int} (hb : Bytes l) (j : Nat) (h : j < l.length) : 0 ≤ l.getD j 0 ∧ l.getD j 0 < 256 := by
  rw [List.getD_eq_getElem?_getD, List.getElem?_eq_getElem h, Option.getD_some]
  exact hb _ (List.getElem_mem h)
theorem crc_reg (l : List Int) (hb : Bytes l) (c : Int) (h0 : 0 ≤ c) (h1 : c < 4294967296) : ∀ j, j ≤ l.length → phi (crc (l.take j) c) = reg (bitAt l) (8 * j) (phi c)
  | 0, _ => by rw [List.take_zero]; rfl
  | j + 1, h => by
    have hin := crc_in (l.take j) c h0 h1
    have hby := getD_byte hb j (by omega)
    rw [crc_take_succ l c j (by omega), phi_byte _ _ hin.1 hin.2 hby.1 hby.2, crc_reg l hb c h0 h1 j (by omega), show 8 * (j + 1) = 8 * j + 8 by omega, reg_wrd _ _ _ 8 (by decide), wrd_byte l j hby.1 hby.2]
def sum4 (s : Int) : List Int := [s % 256, (s / 256) % 256, (s / 65536) % 256, (s / 16777216) % 256]
theorem sum4_bit (l : List Int) (n : Nat) (s : Int) (h0 : 0 ≤ s) (hd : l.drop n = sum4 s) (i : Nat) (hi : i < 32) : bitAt l (8 * n + i) = s.toNat.testBit i := by
  have hg : ∀ j, l.getD (n + j) 0 = (sum4 s).getD j 0 := fun j => by
    rw [List.getD_eq_getElem?_getD, List.getD_eq_getElem?_getD, ← hd, List.getElem?_drop]
  have hdiv : ∀ (k : Nat), ((s / (256 ^ k : Nat)) % 256).toNat = s.toNat / 2 ^ (8 * k) % 2 ^ 8 := fun k => by
    obtain ⟨a, rfl⟩ := Int.eq_ofNat_of_zero_le h0
    rw [Int.toNat_natCast, show (256 : Nat) ^ k = 2 ^ (8 * k) by rw [show (256 : Nat) = 2 ^ 8 by decide, ← Nat.pow_mul], ← Int.natCast_ediv]
    generalize a / 2 ^ (8 * k) = y
    show ((y : Int) % 256).toNat = y % 256
    omega
  have byte : ∀ k j, k < 4 → j < 8 → (sum4 s).getD k 0 = (s / (256 ^ k : Nat)) % 256 → bitAt l (8 * n + (8 * k + j)) = s.toNat.testBit (8 * k + j) := by
    intro k j hk hj he
    rw [show 8 * n + (8 * k + j) = 8 * (n + k) + j by omega, bitAt_byte _ _ _ hj, hg, he, hdiv, Nat.testBit_mod_two_pow, decide_eq_true hj, Bool.true_and, Nat.testBit_div_two_pow, Nat.add_comm]
  have e : i = 8 * (i / 8) + i % 8 := by omega
  rw [e]
  refine byte (i / 8) (i % 8) (by omega) (by omega) ?_
  have h4 : i / 8 = 0 ∨ i / 8 = 1 ∨ i / 8 = 2 ∨ i / 8 = 3 := by omega
  rcases h4 with h | h | h | h <;> rw [h]
  · show s % 256 = s / 1 % 256
    rw [Int.ediv_one]
  · rfl
  · rfl
  · rfl
def ones : B32 := phi 4294967295
/-- Bytes with the right sum behind leave one and the same register. -/
theorem valid_reg (l : List Int) (hb : Bytes l) (h4 : 4 ≤ l.length) (hd : l.drop (l.length - 4) = sum4 (sumOf (l.take (l.length - 4)))) : reg (bitAt l) (8 * l.length) ones = itb 32 ones := by
  have hc := crc_in (l.take (l.length - 4)) 4294967295 (by decide) (by decide)
  have hs : 0 ≤ sumOf (l.take (l.length - 4)) := (xor32_in _ _).1
  have hs1 : sumOf (l.take (l.length - 4)) < 4294967296 := (xor32_in _ _).2
  have hphi : phi (sumOf (l.take (l.length - 4))) = ones ^^^ phi (crc (l.take (l.length - 4)) 4294967295) := phi_xor _ _ (by decide) (by decide) hc.1 hc.2
  have hw : wrd (bitAt l) (8 * (l.length - 4)) 32 = phi (sumOf (l.take (l.length - 4))) := by
    apply BitVec.eq_of_getLsbD_eq
    intro i hi
    rw [wrd_bit _ _ 32 i (by decide) hi, decide_eq_true hi, Bool.true_and, sum4_bit l _ _ hs hd i hi]
    unfold phi
    rw [BitVec.getLsbD_ofNat, decide_eq_true hi, Bool.true_and]
  have hr := crc_reg l hb 4294967295 (by decide) (by decide) (l.length - 4) (by omega)
  rw [show 8 * l.length = 8 * (l.length - 4) + 32 by omega, reg_wrd _ _ _ 32 (by decide), hw, hphi]
  show itb 32 (reg (bitAt l) (8 * (l.length - 4)) (phi 4294967295) ^^^ (ones ^^^ phi (crc (l.take (l.length - 4)) 4294967295))) = _
  rw [← hr, BitVec.xor_comm ones, ← BitVec.xor_assoc, BitVec.xor_self, BitVec.zero_xor]
/-- **A changed stretch is seen.** -/
theorem burst (l l' : List Int) (hb : Bytes l) (hb' : Bytes l') (hl : l'.length = l.length) (h4 : 4 ≤ l.length) (g : Nat → Bool) (p q : Nat) (hg : ∀ i, g i = true → p ≤ i ∧ i < p + 32) (hq : g q = true) (hqn : q < 8 * l.length)
    (hbit : ∀ i, i < 8 * l.length → bitAt l' i = (bitAt l i ^^ g i)) (hd : l.drop (l.length - 4) = sum4 (sumOf (l.take (l.length - 4)))) : l'.drop (l'.length - 4) ≠ sum4 (sumOf (l'.take (l'.length - 4))) := by
  intro hd'
  have h1 := valid_reg l hb h4 hd
  have h2 := valid_reg l' hb' (by omega) hd'
  rw [hl] at h2
  have hreg : ∀ n, n ≤ 8 * l.length → reg (bitAt l') n ones = reg (fun i => bitAt l i ^^ g i) n ones := by
    intro n
    induction n with
    | zero => exact fun _ => rfl
    | succ n ih => intro hn; rw [reg, reg, ih (by omega), hbit n (by omega)]
  have h3 := reg_xor (bitAt l) g (8 * l.length) ones 0#32
  rw [BitVec.xor_zero] at h3
  rw [hreg _ (Nat.le_refl _), h3, h1] at h2
  have h5 := reg_burst g p (8 * l.length) q hg hq hqn
  apply h5
  have := congrArg (fun x => itb 32 ones ^^^ x) h2
  simp only [BitVec.xor_self] at this
  rw [← BitVec.xor_assoc, BitVec.xor_self, BitVec.zero_xor] at this
  exact this
end Go.Proofs.Ytiemdfdebdmchaa.M
