/- What the law's proof needs of Px10. -/
import Derived.Test.YtllfopbchdahoaaTrFU4
import Derived.Test.YtllfopbchdahoaaTrFPx0
import Derived.Test.YtllfopbchdahoaaTrFPx4
import Derived.Test.YtllfopbchdahoaaTrFPx5
-- PRINTED by print.py (a twelfth state) out of the translation. Not trusted: Lean checks it.
namespace Go.Proofs.Ytllfopbchdahoaa.P
open Go.RowKit Go.Proofs.YtllfopbchdahoaaW.PrintWords Go.Proofs.YtllfopbchdahoaaW.PrintLast Go.Proofs.YtllfopbchdahoaaW.PrintMore Go.Proofs.YtllfopbchdahoaaO
attribute [local go_sem] max2_int min2_int max_two min_two max_three min_three max_four min_four   -- for this text's walks alone
set_option linter.unusedVariables false
set_option linter.unusedSimpArgs false
mutual
def linear_Add.j0 : Nat → Bool → Int → Int → Int → Int → Int → Int → Int → Int → Int → Int → Option (Int × Int × Int × Int × Int × Bool)
  | 0, _, _, _, _, _, _, _, _, _, _, _ => none
  | k + 1, x23, x146000, x146001, x146002, x146003, x146004, x147000, x147001, x147002, x147003, x147004 => if x23 = true then (some (0, 0, 0, 0, 0, false)) else (linear_Add.j1 k ([] : List (S50)) x146000 x146001 x146002 x146003 x146004 x147000 x147001 x147002 x147003 x147004)
def linear_Add.j1 : Nat → List (S50) → Int → Int → Int → Int → Int → Int → Int → Int → Int → Int → Option (Int × Int × Int × Int × Int × Bool)
  | 0, _, _, _, _, _, _, _, _, _, _, _ => none
  | k + 1, x6, x146000, x146001, x146002, x146003, x146004, x147000, x147001, x147002, x147003, x147004 => linear_Add.l0 k x6 0 x146000 x146001 x146002 x146003 x146004 x147000 x147001 x147002 x147003 x147004 x146000 x146001 x146002 x146003 x146004 x147000 x147001 x147002 x147003 x147004
def linear_Add.l0 : Nat → List (S50) → Int → Int → Int → Int → Int → Int → Int → Int → Int → Int → Int → Int → Int → Int → Int → Int → Int → Int → Int → Int → Int → Option (Int × Int × Int × Int × Int × Bool)
  | 0, _, _, _, _, _, _, _, _, _, _, _, _, _, _, _, _, _, _, _, _, _, _ => none
  | k + 1, x6, x28, x146000, x146001, x146002, x146003, x146004, x147000, x147001, x147002, x147003, x147004, x7028000, x7028001, x7028002, x7028003, x7028004, x7028005, x7028006, x7028007, x7028008, x7028009 => if x28 < 2 then (if 0 ≤ x28 then ((linear_parts.f (pk2 x28 x7028000 x7028005) (pk2 x28 x7028001 x7028006) (pk2 x28 x7028002 x7028007) (pk2 x28 x7028003 x7028008) (pk2 x28 x7028004 x7028009)).bind fun bt151 => (linear_Add.l1 k x6 x28 0 x146000 x146001 x146002 x146003 x146004 x147000 x147001 x147002 x147003 x147004 x7028000 x7028001 x7028002 x7028003 x7028004 x7028005 x7028006 x7028007 x7028008 x7028009 bt151.1 bt151.2.1 bt151.2.2.1 bt151.2.2.2)) else (none)) else (linear_Add.l3 k 0 x6 (x6.length : Int) 0 0 0 0 0 (wrap64 (x146004 + x147004)))
def linear_Add.l1 : Nat → List (S50) → Int → Int → Int → Int → Int → Int → Int → Int → Int → Int → Int → Int → Int → Int → Int → Int → Int → Int → Int → Int → Int → Int → Int → Int → Int → Int → Option (Int × Int × Int × Int × Int × Bool)
  | 0, _, _, _, _, _, _, _, _, _, _, _, _, _, _, _, _, _, _, _, _, _, _, _, _, _, _, _ => none
  | k + 1, x6, x28, x33, x146000, x146001, x146002, x146003, x146004, x147000, x147001, x147002, x147003, x147004, x7028000, x7028001, x7028002, x7028003, x7028004, x7028005, x7028006, x7028007, x7028008, x7028009, x7033000, x7033001, x7033002, x7033003 => if x33 < 2 then (if 0 ≤ x33 then (if (pk2 x33 x7033001 x7033003) = 0 then (linear_Add.l1 k x6 x28 (wrap64 (x33 + 1)) x146000 x146001 x146002 x146003 x146004 x147000 x147001 x147002 x147003 x147004 x7028000 x7028001 x7028002 x7028003 x7028004 x7028005 x7028006 x7028007 x7028008 x7028009 x7033000 x7033001 x7033002 x7033003) else (linear_Add.l2 k x6 0 x28 x33 x146000 x146001 x146002 x146003 x146004 x147000 x147001 x147002 x147003 x147004 (pk2 x33 x7033000 x7033002) (pk2 x33 x7033001 x7033003) x7028000 x7028001 x7028002 x7028003 x7028004 x7028005 x7028006 x7028007 x7028008 x7028009 x7033000 x7033001 x7033002 x7033003)) else (none)) else (linear_Add.l0 k x6 (wrap64 (x28 + 1)) x146000 x146001 x146002 x146003 x146004 x147000 x147001 x147002 x147003 x147004 x7028000 x7028001 x7028002 x7028003 x7028004 x7028005 x7028006 x7028007 x7028008 x7028009)
def linear_Add.l2 : Nat → List (S50) → Int → Int → Int → Int → Int → Int → Int → Int → Int → Int → Int → Int → Int → Int → Int → Int → Int → Int → Int → Int → Int → Int → Int → Int → Int → Int → Int → Int → Int → Option (Int × Int × Int × Int × Int × Bool)
  | 0, _, _, _, _, _, _, _, _, _, _, _, _, _, _, _, _, _, _, _, _, _, _, _, _, _, _, _, _, _, _ => none
  | k + 1, x6, x11, x28, x33, x146000, x146001, x146002, x146003, x146004, x147000, x147001, x147002, x147003, x147004, x156000, x156001, x7028000, x7028001, x7028002, x7028003, x7028004, x7028005, x7028006, x7028007, x7028008, x7028009, x7033000, x7033001, x7033002, x7033003 => if x11 < (x6.length : Int) then (if 0 ≤ x11 then (if ((rd_T50 x6 x11).f0) < x156000 then (linear_Add.l2 k x6 (wrap64 (x11 + 1)) x28 x33 x146000 x146001 x146002 x146003 x146004 x147000 x147001 x147002 x147003 x147004 x156000 x156001 x7028000 x7028001 x7028002 x7028003 x7028004 x7028005 x7028006 x7028007 x7028008 x7028009 x7033000 x7033001 x7033002 x7033003) else (if ((rd_T50 x6 x11).f0) = x156000 then (linear_Add.l1 k (x6.set (x11 : Int).toNat (⟨(rd_T50 x6 x11).f0, wrap64 (((rd_T50 x6 x11).f1) + x156001)⟩ : S50)) x28 (wrap64 (x33 + 1)) x146000 x146001 x146002 x146003 x146004 x147000 x147001 x147002 x147003 x147004 x7028000 x7028001 x7028002 x7028003 x7028004 x7028005 x7028006 x7028007 x7028008 x7028009 x7033000 x7033001 x7033002 x7033003) else (if x11 ≤ (x6.length : Int) then ((some (x6.take (x11 : Int).toNat : List (S50))).bind fun y160 => ((some (([(⟨x156000, x156001⟩ : S50)] : List (S50)) : List (S50))).bind fun y164 => ((some (x6.drop (x11 : Int).toNat : List (S50))).bind fun y167 => (if y164.length + y167.length < 8796093022208 then ((some (y164 ++ y167 : List (S50))).bind fun y171 => (if y160.length + y171.length < 8796093022208 then (linear_Add.l1 k (y160 ++ y171) x28 (wrap64 (x33 + 1)) x146000 x146001 x146002 x146003 x146004 x147000 x147001 x147002 x147003 x147004 x7028000 x7028001 x7028002 x7028003 x7028004 x7028005 x7028006 x7028007 x7028008 x7028009 x7033000 x7033001 x7033002 x7033003) else (none))) else (none))))) else (none)))) else (none)) else (if 0 ≤ x11 then (if x11 ≤ (x6.length : Int) then ((some (x6.take (x11 : Int).toNat : List (S50))).bind fun y177 => ((some (([(⟨x156000, x156001⟩ : S50)] : List (S50)) : List (S50))).bind fun y181 => ((some (x6.drop (x11 : Int).toNat : List (S50))).bind fun y184 => (if y181.length + y184.length < 8796093022208 then ((some (y181 ++ y184 : List (S50))).bind fun y188 => (if y177.length + y188.length < 8796093022208 then (linear_Add.l1 k (y177 ++ y188) x28 (wrap64 (x33 + 1)) x146000 x146001 x146002 x146003 x146004 x147000 x147001 x147002 x147003 x147004 x7028000 x7028001 x7028002 x7028003 x7028004 x7028005 x7028006 x7028007 x7028008 x7028009 x7033000 x7033001 x7033002 x7033003) else (none))) else (none))))) else (none)) else (none))
def linear_Add.l3 : Nat → Int → List (S50) → Int → Int → Int → Int → Int → Int → Int → Option (Int × Int × Int × Int × Int × Bool)
  | 0, _, _, _, _, _, _, _, _, _ => none
  | k + 1, x13, x98, x99, x100, x195000, x195001, x195002, x195003, x195004 => if x100 < x99 then (if 0 ≤ x100 then (if x100 < (x98.length : Int) then (if ((rd_T50 x98 x100).f1) = 0 then (linear_Add.l3 k x13 x98 x99 (wrap64 (x100 + 1)) x195000 x195001 x195002 x195003 x195004) else (if x13 = 0 then (linear_Add.l3 k (wrap64 (x13 + 1)) x98 x99 (wrap64 (x100 + 1)) ((rd_T50 x98 x100).f0) ((rd_T50 x98 x100).f1) x195002 x195003 x195004) else (if x13 = 1 then (linear_Add.l3 k (wrap64 (x13 + 1)) x98 x99 (wrap64 (x100 + 1)) x195000 x195001 ((rd_T50 x98 x100).f0) ((rd_T50 x98 x100).f1) x195004) else (linear_Add.l3 k (wrap64 (x13 + 1)) x98 x99 (wrap64 (x100 + 1)) x195000 x195001 x195002 x195003 x195004)))) else (none)) else (none)) else (if x13 > 2 then (some (0, 0, 0, 0, 0, false)) else ((linear_Fit.f k x195000 x195001 x195002 x195003 x195004).bind fun t195 => (if t195 = true then (some (x195000, x195001, x195002, x195003, x195004, true)) else (some (0, 0, 0, 0, 0, false)))))
end
def linear_Add.f (k : Nat) (a0_0 : Int) (a0_1 : Int) (a0_2 : Int) (a0_3 : Int) (a0_4 : Int) (a1_0 : Int) (a1_1 : Int) (a1_2 : Int) (a1_3 : Int) (a1_4 : Int) : Option (Int × Int × Int × Int × Int × Bool) := (linear_Fit.f k a0_0 a0_1 a0_2 a0_3 a0_4).bind fun t148 => (if t148 = true then ((linear_Fit.f k a1_0 a1_1 a1_2 a1_3 a1_4).bind fun t149 => (linear_Add.j0 k (!t149) a0_0 a0_1 a0_2 a0_3 a0_4 a1_0 a1_1 a1_2 a1_3 a1_4)) else (linear_Add.j0 k true a0_0 a0_1 a0_2 a0_3 a0_4 a1_0 a1_1 a1_2 a1_3 a1_4))
def linear_Add.T12 : Bool × List (List Nat × List Nat) := (true, [([], []), ([], []), ([1], [1]), ([0, 2], [0, 2]), ([3], [3]), ([4], [4]), ([4], [4]), ([5, 6, 4], [4, 5, 6]), ([7, 4], [4, 7]), ([8, 4], [4, 8]), ([4], [4]), ([10, 4], [4, 10]), ([9, 11, 4], [4, 9, 11]), ([4, 12], [4, 12])])
def linear_Add.B12 : List Nat := [0, 0, 2, 7, 15, 31, 31, 127, 255, 511, 31, 1055, 4095, 8191]
theorem linear_Add.tab12 : rtab .any (opsOf Try.f11 12) = linear_Add.T12 := by kernel_rfl
theorem linear_Add.bits12 : waitsOk linear_Add.T12.2 linear_Add.B12 = true := by kernel_rfl
def linear_Add.T14 : Bool × List (List Nat × List Nat) := (true, [([], []), ([], []), ([1], [1]), ([0, 2], [0, 2]), ([3], [3]), ([4], [4]), ([4], [4]), ([5, 6, 4], [4, 5, 6]), ([7, 4], [4, 7]), ([8, 4], [4, 8]), ([4], [4]), ([10, 4], [4, 10]), ([9, 11, 4], [4, 9, 11]), ([4, 12], [4, 12])])
def linear_Add.B14 : List Nat := [0, 0, 2, 7, 15, 31, 31, 127, 255, 511, 31, 1055, 4095, 8191]
theorem linear_Add.tab14 : rtab .any (opsOf Try.f11 14) = linear_Add.T14 := by kernel_rfl
theorem linear_Add.bits14 : waitsOk linear_Add.T14.2 linear_Add.B14 = true := by kernel_rfl
def linear_Add.T15 : Bool × List (List Nat × List Nat) := (true, [([], []), ([], []), ([0, 1], [0, 1]), ([2], [2]), ([3], [3]), ([], []), ([5], [5]), ([4, 6], [4, 6]), ([0, 1, 0, 1, 2, 3, 4, 5, 6, 7], [0, 1]), ([8, 0, 1, 2, 3, 4, 5, 6, 7], [8]), ([9, 7, 0, 1, 2, 3, 4, 5, 6, 7], [7, 9])])
def linear_Add.B15 : List Nat := [0, 0, 3, 7, 15, 0, 32, 127, 255, 511, 1023]
theorem linear_Add.tab15 : rtab .any (opsOf Try.f11 15) = linear_Add.T15 := by kernel_rfl
theorem linear_Add.bits15 : waitsOk linear_Add.T15.2 linear_Add.B15 = true := by kernel_rfl
def linear_Add.T16 : Bool × List (List Nat × List Nat) := (true, [([], []), ([], []), ([], []), ([0, 1, 2], [0, 1, 2]), ([], []), ([4], [4]), ([], []), ([], []), ([6, 7], [6, 7]), ([5, 8], [5, 8]), ([3, 9, 9], [3, 9]), ([10, 10, 0, 1, 2, 3, 4, 5, 6, 7, 8, 9, 10], [0, 6, 10])])
def linear_Add.B16 : List Nat := [0, 0, 0, 7, 0, 16, 0, 0, 192, 496, 1023, 2047]
theorem linear_Add.tab16 : rtab .any (opsOf Try.f11 16) = linear_Add.T16 := by kernel_rfl
theorem linear_Add.bits16 : waitsOk linear_Add.T16.2 linear_Add.B16 = true := by kernel_rfl
def linear_Add.T26 : Bool × List (List Nat × List Nat) := (true, [([], []), ([0], [0]), ([], []), ([2], [2]), ([0, 1], []), ([4, 1, 0, 1], [1, 4]), ([0, 1, 2, 3, 4, 5], []), ([6, 3, 5, 0, 1, 2, 3, 4, 5], [3, 6])])
def linear_Add.B26 : List Nat := [0, 1, 0, 4, 3, 19, 63, 127]
theorem linear_Add.tab26 : rtab .any (opsOf Try.f11 26) = linear_Add.T26 := by kernel_rfl
theorem linear_Add.bits26 : waitsOk linear_Add.T26.2 linear_Add.B26 = true := by kernel_rfl
def linear_Add.T28 : Bool × List (List Nat × List Nat) := (true, [([], []), ([0], [0]), ([], []), ([2], [2]), ([0, 1], []), ([4, 1, 0, 1], [1, 4]), ([0, 1, 2, 3, 4, 5], []), ([6, 3, 5, 0, 1, 2, 3, 4, 5], [3, 6])])
def linear_Add.B28 : List Nat := [0, 1, 0, 4, 3, 19, 63, 127]
theorem linear_Add.tab28 : rtab .any (opsOf Try.f11 28) = linear_Add.T28 := by kernel_rfl
theorem linear_Add.bits28 : waitsOk linear_Add.T28.2 linear_Add.B28 = true := by kernel_rfl
set_option maxHeartbeats 8000000 in
set_option maxRecDepth 100000 in
theorem linear_Add.calls (k : Nat) (a0_0 : Int) (a0_1 : Int) (a0_2 : Int) (a0_3 : Int) (a0_4 : Int) (a1_0 : Int) (a1_1 : Int) (a1_2 : Int) (a1_3 : Int) (a1_4 : Int) (r1 : Int) (r2 : Int) (r3 : Int) (r4 : Int) (r5 : Int) (r6 : Bool) (w : World) (h : linear_Add.f k a0_0 a0_1 a0_2 a0_3 a0_4 a1_0 a1_1 a1_2 a1_3 a1_4 = some (r1, r2, r3, r4, r5, r6)) :
    Calls Try.prog 11 #[.agg #[.int .i64 a0_0, .int .i64 a0_1, .int .i64 a0_2, .int .i64 a0_3, .int .i64 a0_4], .agg #[.int .i64 a1_0, .int .i64 a1_1, .int .i64 a1_2, .int .i64 a1_3, .int .i64 a1_4]] w fun e w' => e = .returned (.tuple #[.agg #[.int .i64 r1, .int .i64 r2, .int .i64 r3, .int .i64 r4, .int .i64 r5], .bool r6]) ∧ Below w.heap.size w w' := by
  have hu23 := Try.underlying23
  have hu58 := Try.underlying58
  have hu50 := Try.underlying50
  have hix51_0 : ∀ (y0_ : Int) (y1_ : Int) (y2_ : Int) (y3_ : Int) (W : World), (Instr.index 51 (.agg #[.int .i64 y0_, .int .i64 y1_, .int .i64 y2_, .int .i64 y3_]) (.int .i64 0)).run Try.prog W = .ok (.agg #[.int .i64 y0_, .int .i64 y1_]) W := fun _ _ _ _ _ => by kernel_rfl
  have hix51_1 : ∀ (y0_ : Int) (y1_ : Int) (y2_ : Int) (y3_ : Int) (W : World), (Instr.index 51 (.agg #[.int .i64 y0_, .int .i64 y1_, .int .i64 y2_, .int .i64 y3_]) (.int .i64 1)).run Try.prog W = .ok (.agg #[.int .i64 y2_, .int .i64 y3_]) W := fun _ _ _ _ _ => by kernel_rfl
  have hix58_0 : ∀ (y0_ : Int) (y1_ : Int) (y2_ : Int) (y3_ : Int) (y4_ : Int) (y5_ : Int) (y6_ : Int) (y7_ : Int) (y8_ : Int) (y9_ : Int) (W : World), (Instr.index 58 (.agg #[.int .i64 y0_, .int .i64 y1_, .int .i64 y2_, .int .i64 y3_, .int .i64 y4_, .int .i64 y5_, .int .i64 y6_, .int .i64 y7_, .int .i64 y8_, .int .i64 y9_]) (.int .i64 0)).run Try.prog W = .ok (.agg #[.int .i64 y0_, .int .i64 y1_, .int .i64 y2_, .int .i64 y3_, .int .i64 y4_]) W := fun _ _ _ _ _ _ _ _ _ _ _ => by kernel_rfl
  have hix58_1 : ∀ (y0_ : Int) (y1_ : Int) (y2_ : Int) (y3_ : Int) (y4_ : Int) (y5_ : Int) (y6_ : Int) (y7_ : Int) (y8_ : Int) (y9_ : Int) (W : World), (Instr.index 58 (.agg #[.int .i64 y0_, .int .i64 y1_, .int .i64 y2_, .int .i64 y3_, .int .i64 y4_, .int .i64 y5_, .int .i64 y6_, .int .i64 y7_, .int .i64 y8_, .int .i64 y9_]) (.int .i64 1)).run Try.prog W = .ok (.agg #[.int .i64 y5_, .int .i64 y6_, .int .i64 y7_, .int .i64 y8_, .int .i64 y9_]) W := fun _ _ _ _ _ _ _ _ _ _ _ => by kernel_rfl
  have hixv51 : ∀ (y0_ : Int) (y1_ : Int) (y2_ : Int) (y3_ : Int) (j_ : Int) (W : World), 0 ≤ j_ → j_ < 2 → (Instr.index 51 (.agg #[.int .i64 y0_, .int .i64 y1_, .int .i64 y2_, .int .i64 y3_]) (.int .i64 j_)).run Try.prog W = .ok (.agg #[.int .i64 (pk2 j_ y0_ y2_), .int .i64 (pk2 j_ y1_ y3_)]) W := by
    intro y0_ y1_ y2_ y3_ j_ W h0_ h1_
    obtain rfl | rfl : j_ = 0 ∨ j_ = 1 := by omega
    · exact hix51_0 y0_ y1_ y2_ y3_ W
    · exact hix51_1 y0_ y1_ y2_ y3_ W
  have hixv58 : ∀ (y0_ : Int) (y1_ : Int) (y2_ : Int) (y3_ : Int) (y4_ : Int) (y5_ : Int) (y6_ : Int) (y7_ : Int) (y8_ : Int) (y9_ : Int) (j_ : Int) (W : World), 0 ≤ j_ → j_ < 2 → (Instr.index 58 (.agg #[.int .i64 y0_, .int .i64 y1_, .int .i64 y2_, .int .i64 y3_, .int .i64 y4_, .int .i64 y5_, .int .i64 y6_, .int .i64 y7_, .int .i64 y8_, .int .i64 y9_]) (.int .i64 j_)).run Try.prog W = .ok (.agg #[.int .i64 (pk2 j_ y0_ y5_), .int .i64 (pk2 j_ y1_ y6_), .int .i64 (pk2 j_ y2_ y7_), .int .i64 (pk2 j_ y3_ y8_), .int .i64 (pk2 j_ y4_ y9_)]) W := by
    intro y0_ y1_ y2_ y3_ y4_ y5_ y6_ y7_ y8_ y9_ j_ W h0_ h1_
    obtain rfl | rfl : j_ = 0 ∨ j_ = 1 := by omega
    · exact hix58_0 y0_ y1_ y2_ y3_ y4_ y5_ y6_ y7_ y8_ y9_ W
    · exact hix58_1 y0_ y1_ y2_ y3_ y4_ y5_ y6_ y7_ y8_ y9_ W
  have HB := Aside0.mk (Below.refl w.heap.size w)
  have H : ((linear_Fit.f k a0_0 a0_1 a0_2 a0_3 a0_4).bind fun t148 => (if t148 = true then ((linear_Fit.f k a1_0 a1_1 a1_2 a1_3 a1_4).bind fun t149 => (linear_Add.j0 k (!t149) a0_0 a0_1 a0_2 a0_3 a0_4 a1_0 a1_1 a1_2 a1_3 a1_4)) else (linear_Add.j0 k true a0_0 a0_1 a0_2 a0_3 a0_4 a1_0 a1_1 a1_2 a1_3 a1_4))) = some (r1, r2, r3, r4, r5, r6) := h
  clear h; have HC3 := Aside0.mk H; clear H
  go_enter Try.func11, Try.ntmps11
  go_upto_region 1 with (first | ((with_reducible refine gate_dst (N := 2) rfl ?_); refine box_event ?hg (N := 2) ?hd (cs := #[.int .i64 a0_0, .int .i64 a0_1, .int .i64 a0_2, .int .i64 a0_3, .int .i64 a0_4]) (t := 23) ?hr ?_; (case hd => rfl); (case hg => rfl); (case hr => first | (go_simp; done) | (go_simp; rfl)); intro gb145 hg w4 hbox hb; have n0_ := bst HB hb; have n1_ := Aside0.mk (hbox); have n2_ := bsz HB hg; have n3_ := bsz HB hg; clear HB; have HB := n0_; have BK145 := n1_; have GW145 := n2_; have GE145 := n3_; clear n0_ n1_ n2_ n3_; clear hb hbox hg) | ((with_reducible refine gate_dst (N := 3) rfl ?_); refine box_event ?hg (N := 3) ?hd (cs := #[.int .i64 a1_0, .int .i64 a1_1, .int .i64 a1_2, .int .i64 a1_3, .int .i64 a1_4]) (t := 23) ?hr ?_; (case hd => rfl); (case hg => rfl); (case hr => first | (go_simp; done) | (go_simp; rfl)); intro gb146 hg w5 hbox hb; have n0_ := bst HB hb; have n1_ := Aside0.mk (hbox); have n2_ := bsz HB hg; have n3_ := bsz HB hg; have n4_ := bn1 BK145 hg; have n5_ := bn2 BK145 hg; replace BK145 := bbw BK145 hb; clear HB; have HB := n0_; have BK146 := n1_; have GW146 := n2_; have GE146 := n3_; have NB145_146 := n4_; have NB146_145 := n5_; clear n0_ n1_ n2_ n3_ n4_ n5_; clear hb hbox hg) | ((with_reducible refine gate_dst (N := 4) rfl ?_); refine box_event ?hg (N := 4) ?hd (cs := #[.int .i64 0, .int .i64 0, .int .i64 0, .int .i64 0, .int .i64 0]) (t := 23) ?hr ?_; (case hd => rfl); (case hg => rfl); (case hr => first | (go_simp; done) | (go_simp; rfl)); intro gb147 hg w6 hbox hb; have n0_ := bst HB hb; have n1_ := Aside0.mk (hbox); have n2_ := bsz HB hg; have n3_ := bsz HB hg; have n4_ := bn1 BK145 hg; have n5_ := bn2 BK145 hg; have n6_ := bn1 BK146 hg; have n7_ := bn2 BK146 hg; replace BK145 := bbw BK145 hb; replace BK146 := bbw BK146 hb; clear HB; have HB := n0_; have BK147 := n1_; have GW147 := n2_; have GE147 := n3_; have NB145_147 := n4_; have NB147_145 := n5_; have NB146_147 := n6_; have NB147_146 := n7_; clear n0_ n1_ n2_ n3_ n4_ n5_ n6_ n7_; clear hb hbox hg))
  (try simp only [Act.put, List.setIfInBounds_toArray, List.set_cons_zero, List.set_cons_succ])
  go_cut [23] (fun v23 wc => ∃ (kq : Nat) (x23_2 : Bool), v23 = .bool x23_2 ∧ Aside0 (linear_Add.j0 kq x23_2 a0_0 a0_1 a0_2 a0_3 a0_4 a1_0 a1_1 a1_2 a1_3 a1_4 = some (r1, r2, r3, r4, r5, r6)) ∧ Aside0 (kq ≤ k) ∧ Aside0 (wc.heap[gb145]? = some (.cells #[.int .i64 a0_0, .int .i64 a0_1, .int .i64 a0_2, .int .i64 a0_3, .int .i64 a0_4] 23 (0, 0))) ∧ Aside0 (wc.heap[gb146]? = some (.cells #[.int .i64 a1_0, .int .i64 a1_1, .int .i64 a1_2, .int .i64 a1_3, .int .i64 a1_4] 23 (0, 0))) ∧ Aside0 (wc.heap[gb147]? = some (.cells #[.int .i64 0, .int .i64 0, .int .i64 0, .int .i64 0, .int .i64 0] 23 (0, 0))) ∧ Aside0 (Below w.heap.size w wc))
  case first =>
   have H := HC3.out
   clear HC3; replace H := bnH H; obtain ⟨t148, A70, H⟩ := H
   try dsimp only at H
   have A7 := Aside0.mk A70; clear A70
   by_cases c8 : t148 = true
   ·
    subst c8
    have H1 : ((linear_Fit.f k a1_0 a1_1 a1_2 a1_3 a1_4).bind fun t149 => (linear_Add.j0 k (!t149) a0_0 a0_1 a0_2 a0_3 a0_4 a1_0 a1_1 a1_2 a1_3 a1_4)) = some (r1, r2, r3, r4, r5, r6) := by rw [if_pos rfl] at H; exact H
    clear H; have H := H1; clear H1; replace H := bnH H; obtain ⟨t149, A90, H⟩ := H
    try dsimp only at H
    have A9 := Aside0.mk A90; clear A90
    have H' := Aside0.mk H
    clear H; have hnb10 := nn NB145_146 NB146_145; have hnb11 := nn NB145_147 NB147_145
    obtain ⟨hcz12_0, hcz12_1, hcz12_2, hcz12_3, hcz12_4, hfz12_0, hfz12_1, hfz12_2, hfz12_3, hfz12_4⟩ := hcf5 BK145
    go_wp2_with (first | ((with_reducible refine gate_callee (f := 17) rfl ?_); refine goesL_ (some 17) rfl rfl Try.func17 (by kernel_rfl) rfl #[.agg #[.int .i64 a0_0, .int .i64 a0_1, .int .i64 a0_2, .int .i64 a0_3, .int .i64 a0_4]] rfl (by (try simp only [List.map_toArray, List.map_cons, List.map_nil]); first | done | rfl | (simp only [List.length_drop, List.length_take]; rfl)) ?_; (with_reducible refine (linear_Fit.calls k a0_0 a0_1 a0_2 a0_3 a0_4 true _ A7.out).mono ?_); rintro e w13 ⟨rfl, hb⟩; refine ⟨_, rfl, ?_⟩; have n0_ := bst HB hb; replace BK145 := bbw BK145 hb; replace BK146 := bbw BK146 hb; replace BK147 := bbw BK147 hb; clear HB; have HB := n0_; clear n0_; (try clear hb); (try clear hb2); (try clear hk); (try clear hi); have hnb14 := nn NB146_147 NB147_146; obtain ⟨hcz15_0, hcz15_1, hcz15_2, hcz15_3, hcz15_4, hfz15_0, hfz15_1, hfz15_2, hfz15_3, hfz15_4⟩ := hcf5 BK146) | (go_at_call 17; (with_reducible refine (linear_Fit.calls k a1_0 a1_1 a1_2 a1_3 a1_4 t149 _ A9.out).mono ?_); rintro e w16 ⟨rfl, hb⟩; have n0_ := bst HB hb; replace BK145 := bbw BK145 hb; replace BK146 := bbw BK146 hb; replace BK147 := bbw BK147 hb; clear HB; have HB := n0_; clear n0_; (try clear hb); (try clear hb2); (try clear hk); (try clear hi)))
    go_meet
    case rel => exact ⟨_, (!t149), (by first | rfl | (simp; done) | (simp [*]; done)), H', ⟨by first | omega | exact Nat.le_refl _⟩, pkA BK145, pkA BK146, pkA BK147, bpk HB⟩
   ·
    replace c8 := Bool.eq_false_iff.mpr c8
    subst c8
    have H1 : (linear_Add.j0 k true a0_0 a0_1 a0_2 a0_3 a0_4 a1_0 a1_1 a1_2 a1_3 a1_4) = some (r1, r2, r3, r4, r5, r6) := by rw [if_neg (show ¬ (false = true) by decide)] at H; exact H
    clear H; have H := H1; clear H1
    have H' := Aside0.mk H
    clear H; have hnb17 := nn NB145_146 NB146_145; have hnb18 := nn NB145_147 NB147_145
    obtain ⟨hcz19_0, hcz19_1, hcz19_2, hcz19_3, hcz19_4, hfz19_0, hfz19_1, hfz19_2, hfz19_3, hfz19_4⟩ := hcf5 BK145
    go_wp2_with (first | ((with_reducible refine gate_callee (f := 17) rfl ?_); refine goesL_ (some 17) rfl rfl Try.func17 (by kernel_rfl) rfl #[.agg #[.int .i64 a0_0, .int .i64 a0_1, .int .i64 a0_2, .int .i64 a0_3, .int .i64 a0_4]] rfl (by (try simp only [List.map_toArray, List.map_cons, List.map_nil]); first | done | rfl | (simp only [List.length_drop, List.length_take]; rfl)) ?_; (with_reducible refine (linear_Fit.calls k a0_0 a0_1 a0_2 a0_3 a0_4 false _ A7.out).mono ?_); rintro e w20 ⟨rfl, hb⟩; refine ⟨_, rfl, ?_⟩; have n0_ := bst HB hb; replace BK145 := bbw BK145 hb; replace BK146 := bbw BK146 hb; replace BK147 := bbw BK147 hb; clear HB; have HB := n0_; clear n0_; (try clear hb); (try clear hb2); (try clear hk); (try clear hi)))
    go_meet
    case rel => exact ⟨_, (true), (by first | rfl | (simp; done) | (simp [*]; done)), H', ⟨by first | omega | exact Nat.le_refl _⟩, pkA BK145, pkA BK146, pkA BK147, bpk HB⟩
  case rest =>
   clear HC3; (try clear c1); (try clear p2); (try clear c8); (try clear c10); (try clear c11); (try clear c14); (try clear c17); (try clear c18); (try clear hcz12_0 hcz12_1 hcz12_2 hcz12_3 hcz12_4); (try clear hcz15_0 hcz15_1 hcz15_2 hcz15_3 hcz15_4); (try clear hcz19_0 hcz19_1 hcz19_2 hcz19_3 hcz19_4); (try clear hfz12_0 hfz12_1 hfz12_2 hfz12_3 hfz12_4); (try clear hfz15_0 hfz15_1 hfz15_2 hfz15_3 hfz15_4); (try clear hfz19_0 hfz19_1 hfz19_2 hfz19_3 hfz19_4); obtain ⟨kq, x23_2, rfl, HA, HJ2, BK145, BK146, BK147, HB⟩ := hcut
   cases kq with
   | zero => exact absurd HA.out (by simp [linear_Add.j0])
   | succ kj2 =>
    have H := HA.out
    clear HA
    simp only [linear_Add.j0] at H
    by_cases c21 : x23_2 = true
    ·
     subst c21
     have H1 : (some (0, 0, 0, 0, 0, false)) = some (r1, r2, r3, r4, r5, r6) := by rw [if_pos rfl] at H; exact H
     clear H; have H := H1; clear H1
     simp only [Option.some.injEq, Prod.mk.injEq] at H
     obtain ⟨rfl, rfl, rfl, rfl, rfl, rfl⟩ := H; have hnb22 := nn NB147_145 NB145_147; have hnb23 := nn NB147_146 NB146_147
     obtain ⟨hcz24_0, hcz24_1, hcz24_2, hcz24_3, hcz24_4, hfz24_0, hfz24_1, hfz24_2, hfz24_3, hfz24_4⟩ := hcf5 BK147
     go_wp2
     refine bodyPost_ret (results_ct rfl _ _ gb147 23 #[.int .i64 0, .int .i64 0, .int .i64 0, .int .i64 0, .int .i64 0] (0, 0) _ rfl (by refine pkB ?_; refine bput (cs := #[.int .i64 0, .int .i64 0, .int .i64 0, .int .i64 0, .int .i64 0]) 4 ?_; refine bput (cs := #[.int .i64 0, .int .i64 0, .int .i64 0, .int .i64 0, .int .i64 0]) 3 ?_; refine bput (cs := #[.int .i64 0, .int .i64 0, .int .i64 0, .int .i64 0, .int .i64 0]) 2 ?_; refine bput (cs := #[.int .i64 0, .int .i64 0, .int .i64 0, .int .i64 0, .int .i64 0]) 1 ?_; refine bput (cs := #[.int .i64 0, .int .i64 0, .int .i64 0, .int .i64 0, .int .i64 0]) 0 ?_; exact BK147.out) Try.underlying23 rfl (by kernel_rfl)) rfl ?_
     exact ⟨by first | rfl | (simp [errW_none, errW_some] <;> rfl) | (simp [*, errW_none, errW_some] <;> rfl) | kernel_rfl, (bpk HB).out⟩
    ·
     replace c21 := Bool.eq_false_iff.mpr c21
     subst c21
     have H1 : (linear_Add.j1 kj2 ([] : List (S50)) a0_0 a0_1 a0_2 a0_3 a0_4 a1_0 a1_1 a1_2 a1_3 a1_4) = some (r1, r2, r3, r4, r5, r6) := by rw [if_neg (show ¬ (false = true) by decide)] at H; exact H
     clear H; have H := H1; clear H1; have HC25 := Aside0.mk H; clear H
     go_upto_region 3 with (fail)
     go_cut [6] (fun v6 wc => ∃ (kq : Nat) (x6_24 : List (S50)), Aside0 (linear_Add.j1 kq x6_24 a0_0 a0_1 a0_2 a0_3 a0_4 a1_0 a1_1 a1_2 a1_3 a1_4 = some (r1, r2, r3, r4, r5, r6)) ∧ Aside0 (kq ≤ kj2) ∧ Aside0 (Kd.R k50 50 wc w.heap.size (fun _ => True) v6 x6_24) ∧ Aside0 (wc.heap[gb145]? = some (.cells #[.int .i64 a0_0, .int .i64 a0_1, .int .i64 a0_2, .int .i64 a0_3, .int .i64 a0_4] 23 (0, 0))) ∧ Aside0 (wc.heap[gb146]? = some (.cells #[.int .i64 a1_0, .int .i64 a1_1, .int .i64 a1_2, .int .i64 a1_3, .int .i64 a1_4] 23 (0, 0))) ∧ Aside0 (wc.heap[gb147]? = some (.cells #[.int .i64 0, .int .i64 0, .int .i64 0, .int .i64 0, .int .i64 0] 23 (0, 0))) ∧ Aside0 (Below w.heap.size w wc))
     case first =>
      have H := HC25.out
      clear HC25
      have H' := Aside0.mk H
      clear H
      go_wp2
      go_meet
      case rel => exact ⟨_, (([] : List (S50))), H', ⟨by have := HJ2.out; first | omega | exact Nat.le_refl _⟩, ⟨by first | exact Kd.R_nil _ _ _ _ _ | exact Kd.N_nil _ _ _ _ _ | exact Kd.V_nil _ _ _ _ _ | exact Kd.Q_nil _ _ _ _ _ | exact Kd.S_nil _ _ _ _ _⟩, pkA BK145, pkA BK146, pkA BK147, bpk HB⟩
     case rest =>
      clear HC25; (try clear c1); (try clear c2); (try clear p2); (try clear c8); (try clear c10); (try clear c11); (try clear c14); (try clear c17); (try clear c18); (try clear c21); (try clear c22); (try clear c23); (try clear hcz12_0 hcz12_1 hcz12_2 hcz12_3 hcz12_4); (try clear hcz15_0 hcz15_1 hcz15_2 hcz15_3 hcz15_4); (try clear hcz19_0 hcz19_1 hcz19_2 hcz19_3 hcz19_4); (try clear hcz24_0 hcz24_1 hcz24_2 hcz24_3 hcz24_4); (try clear hfz12_0 hfz12_1 hfz12_2 hfz12_3 hfz12_4); (try clear hfz15_0 hfz15_1 hfz15_2 hfz15_3 hfz15_4); (try clear hfz19_0 hfz19_1 hfz19_2 hfz19_3 hfz19_4); (try clear hfz24_0 hfz24_1 hfz24_2 hfz24_3 hfz24_4); (try clear p2); obtain ⟨kq, x6_24, HA, HJ24, HO_6, BK145, BK146, BK147, HB⟩ := hcut
      cases kq with
      | zero => exact absurd HA.out (by simp [linear_Add.j1])
      | succ kj24 =>
       have H := HA.out
       clear HA
       simp only [linear_Add.j1] at H
       have H' := Aside0.mk H
       clear H; have hnb26 := nn NB145_146 NB146_145; have hnb27 := nn NB145_147 NB147_145
       obtain ⟨hcz28_0, hcz28_1, hcz28_2, hcz28_3, hcz28_4, hfz28_0, hfz28_1, hfz28_2, hfz28_3, hfz28_4⟩ := hcf5 BK145
       have hnb29 := nn NB146_147 NB147_146
       obtain ⟨hcz30_0, hcz30_1, hcz30_2, hcz30_3, hcz30_4, hfz30_0, hfz30_1, hfz30_2, hfz30_3, hfz30_4⟩ := hcf5 BK146
       go_wp2
       go_loopg [6, 28] kj24 (fun kq v6 v28 w' => ∃ (x6_3 : List (S50)) (x28_3 : Int), v28 = .int .i64 x28_3 ∧ Aside0 (linear_Add.l0 kq x6_3 x28_3 a0_0 a0_1 a0_2 a0_3 a0_4 a1_0 a1_1 a1_2 a1_3 a1_4 a0_0 a0_1 a0_2 a0_3 a0_4 a1_0 a1_1 a1_2 a1_3 a1_4 = some (r1, r2, r3, r4, r5, r6)) ∧ Aside0 (kq ≤ kj24) ∧ Aside0 (Kd.R k50 50 w' w.heap.size (fun _ => True) v6 x6_3) ∧ Aside0 (w'.heap[gb145]? = some (.cells #[.int .i64 a0_0, .int .i64 a0_1, .int .i64 a0_2, .int .i64 a0_3, .int .i64 a0_4] 23 (0, 0))) ∧ Aside0 (w'.heap[gb146]? = some (.cells #[.int .i64 a1_0, .int .i64 a1_1, .int .i64 a1_2, .int .i64 a1_3, .int .i64 a1_4] 23 (0, 0))) ∧ Aside0 (w'.heap[gb147]? = some (.cells #[.int .i64 0, .int .i64 0, .int .i64 0, .int .i64 0, .int .i64 0] 23 (0, 0))) ∧ Aside0 (Below w.heap.size w w'))
       case atStart => exact ⟨(x6_24), (0), (by first | rfl | (simp; done) | (simp [*]; done)), H', ⟨Nat.le_refl _⟩, ⟨rup HO_6⟩, pkA BK145, pkA BK146, pkA BK147, bpk HB⟩
       case round =>
        clear H'
        (try clear c1); (try clear c2); (try clear p2); (try clear c8); (try clear c10); (try clear c11); (try clear c14); (try clear c17); (try clear c18); (try clear c21); (try clear c22); (try clear c23); (try clear c26); (try clear c27); (try clear c29); (try clear hcz12_0 hcz12_1 hcz12_2 hcz12_3 hcz12_4); (try clear hcz15_0 hcz15_1 hcz15_2 hcz15_3 hcz15_4); (try clear hcz19_0 hcz19_1 hcz19_2 hcz19_3 hcz19_4); (try clear hcz24_0 hcz24_1 hcz24_2 hcz24_3 hcz24_4); (try clear hcz28_0 hcz28_1 hcz28_2 hcz28_3 hcz28_4); (try clear hcz30_0 hcz30_1 hcz30_2 hcz30_3 hcz30_4); (try clear hfz12_0 hfz12_1 hfz12_2 hfz12_3 hfz12_4); (try clear hfz15_0 hfz15_1 hfz15_2 hfz15_3 hfz15_4); (try clear hfz19_0 hfz19_1 hfz19_2 hfz19_3 hfz19_4); (try clear hfz24_0 hfz24_1 hfz24_2 hfz24_3 hfz24_4); (try clear hfz28_0 hfz28_1 hfz28_2 hfz28_3 hfz28_4); (try clear hfz30_0 hfz30_1 hfz30_2 hfz30_3 hfz30_4); (try clear p2); obtain ⟨x6_3, x28_3, rfl, HA, HK3, HO_6, BK145, BK146, BK147, HB⟩ := hrel
        cases gk with
        | zero => exact absurd HA.out (by simp [linear_Add.l0])
        | succ k3 =>
         have H := HA.out
         clear HA
         simp only [linear_Add.l0] at H
         by_cases c31 : x28_3 < 2
         ·
          rw [if_pos c31] at H
          have c31b0 : decide (x28_3 < 2) = true := decide_eq_true c31
          clear c31
          by_cases c32 : 0 ≤ x28_3
          case neg => rw [if_neg c32] at H; exact absurd H (by simp)
          rw [if_pos c32] at H
          have c32b0 : decide (0 ≤ x28_3) = true := decide_eq_true c32
          clear c32; replace H := bnH H; obtain ⟨⟨t151, t152, t153, t154⟩, A330, H⟩ := H
          try dsimp only at H
          have A33 := Aside0.mk A330; clear A330
          have H' := Aside0.mk H
          clear H
          have hvx34 : ∀ W : World, (Instr.index 58 (.agg #[.int .i64 a0_0, .int .i64 a0_1, .int .i64 a0_2, .int .i64 a0_3, .int .i64 a0_4, .int .i64 a1_0, .int .i64 a1_1, .int .i64 a1_2, .int .i64 a1_3, .int .i64 a1_4]) (.int .i64 x28_3)).run Try.prog W = .ok (.agg #[.int .i64 (pk2 x28_3 a0_0 a1_0), .int .i64 (pk2 x28_3 a0_1 a1_1), .int .i64 (pk2 x28_3 a0_2 a1_2), .int .i64 (pk2 x28_3 a0_3 a1_3), .int .i64 (pk2 x28_3 a0_4 a1_4)]) W := fun W => hixv58 a0_0 a0_1 a0_2 a0_3 a0_4 a1_0 a1_1 a1_2 a1_3 a1_4 x28_3 W (of_decide_eq_true (by first | (with_reducible assumption) | assumption)) (of_decide_eq_true (by first | (with_reducible assumption) | assumption))
          go_wp2_with (first | ((with_reducible refine gate_dst (N := 8) rfl ?_); refine box_event ?hg (N := 8) ?hd (cs := #[.int .i64 0, .int .i64 0, .int .i64 0, .int .i64 0, .int .i64 0]) (t := 23) ?hr ?_; (case hd => rfl); (case hg => rfl); (case hr => first | (go_simp; done) | (go_simp; rfl)); intro gb150 hg w35 hbox hb; have n0_ := rbw HO_6 hb; have n1_ := bst HB hb; have n2_ := Aside0.mk (hbox); have n3_ := bsz HB hg; have n4_ := bsz HB hg; have n5_ := bn1 BK145 hg; have n6_ := bn2 BK145 hg; have n7_ := bn1 BK146 hg; have n8_ := bn2 BK146 hg; have n9_ := bn1 BK147 hg; have n10_ := bn2 BK147 hg; replace BK145 := bbw BK145 hb; replace BK146 := bbw BK146 hb; replace BK147 := bbw BK147 hb; clear HO_6; clear HB; have HO_6 := n0_; have HB := n1_; have BK150 := n2_; have GW150 := n3_; have GE150 := n4_; have NB145_150 := n5_; have NB150_145 := n6_; have NB146_150 := n7_; have NB150_146 := n8_; have NB147_150 := n9_; have NB150_147 := n10_; clear n0_ n1_ n2_ n3_ n4_ n5_ n6_ n7_ n8_ n9_ n10_; clear hb hbox hg; have hnb36 := nn NB150_145 NB145_150; have hnb37 := nn NB150_146 NB146_150; have hnb38 := nn NB150_147 NB147_150; obtain ⟨hcz39_0, hcz39_1, hcz39_2, hcz39_3, hcz39_4, hfz39_0, hfz39_1, hfz39_2, hfz39_3, hfz39_4⟩ := hcf5 BK150) | ((with_reducible refine gate_callee (f := 25) rfl ?_); refine goesL_ (some 32) rfl rfl Try.func25 (by kernel_rfl) rfl #[.agg #[.int .i64 (pk2 x28_3 a0_0 a1_0), .int .i64 (pk2 x28_3 a0_1 a1_1), .int .i64 (pk2 x28_3 a0_2 a1_2), .int .i64 (pk2 x28_3 a0_3 a1_3), .int .i64 (pk2 x28_3 a0_4 a1_4)]] rfl (by (try simp only [List.map_toArray, List.map_cons, List.map_nil]); first | done | rfl | (simp only [List.length_drop, List.length_take]; rfl)) ?_; (with_reducible refine (linear_parts.calls (pk2 x28_3 a0_0 a1_0) (pk2 x28_3 a0_1 a1_1) (pk2 x28_3 a0_2 a1_2) (pk2 x28_3 a0_3 a1_3) (pk2 x28_3 a0_4 a1_4) t151 t152 t153 t154 _ A33.out).mono ?_); rintro e w40 ⟨rfl, hb⟩; refine ⟨_, rfl, ?_⟩; have n0_ := Aside0.mk (Kd.R_below (by (with_reducible repeat (first | apply Kd.R_alloc | apply Kd.R_drewN | apply Kd.R_drew)); exact (Kd.R_mono (Kd.R_far (p := ⟨gb150, 4, none⟩) (Kd.R_far (p := ⟨gb150, 3, none⟩) (Kd.R_far (p := ⟨gb150, 2, none⟩) (Kd.R_far (p := ⟨gb150, 1, none⟩) (Kd.R_far (p := ⟨gb150, 0, none⟩) (Kd.R_types HO_6.out BK150.out (by decide)) (fun _ hk => hk.2) (.int .i64 (pk2 x28_3 a0_0 a1_0))) (fun _ hk => hk.2) (.int .i64 (pk2 x28_3 a0_1 a1_1))) (fun _ hk => hk.2) (.int .i64 (pk2 x28_3 a0_2 a1_2))) (fun _ hk => hk.2) (.int .i64 (pk2 x28_3 a0_3 a1_3))) (fun _ hk => hk.2) (.int .i64 (pk2 x28_3 a0_4 a1_4))) (fun _ h_ => h_.1))) hb); have n1_ := bbF BK145 hb; have n2_ := bbF BK146 hb; have n3_ := bbF BK147 hb; have n4_ := Aside0.mk (blk_below (g := gb150) (o := .cells #[.int .i64 (pk2 x28_3 a0_0 a1_0), .int .i64 (pk2 x28_3 a0_1 a1_1), .int .i64 (pk2 x28_3 a0_2 a1_2), .int .i64 (pk2 x28_3 a0_3 a1_3), .int .i64 (pk2 x28_3 a0_4 a1_4)] 23 (0, 0)) (by refine pkB ?_; refine bput (cs := #[.int .i64 (pk2 x28_3 a0_0 a1_0), .int .i64 (pk2 x28_3 a0_1 a1_1), .int .i64 (pk2 x28_3 a0_2 a1_2), .int .i64 (pk2 x28_3 a0_3 a1_3), .int .i64 0]) 4 ?_; refine bput (cs := #[.int .i64 (pk2 x28_3 a0_0 a1_0), .int .i64 (pk2 x28_3 a0_1 a1_1), .int .i64 (pk2 x28_3 a0_2 a1_2), .int .i64 0, .int .i64 0]) 3 ?_; refine bput (cs := #[.int .i64 (pk2 x28_3 a0_0 a1_0), .int .i64 (pk2 x28_3 a0_1 a1_1), .int .i64 0, .int .i64 0, .int .i64 0]) 2 ?_; refine bput (cs := #[.int .i64 (pk2 x28_3 a0_0 a1_0), .int .i64 0, .int .i64 0, .int .i64 0, .int .i64 0]) 1 ?_; refine bput (cs := #[.int .i64 0, .int .i64 0, .int .i64 0, .int .i64 0, .int .i64 0]) 0 ?_; exact BK150.out) hb); have n5_ := bst HB hb; clear HO_6; clear BK145; clear BK146; clear BK147; clear BK150; clear HB; have HO_6 := n0_; have BK145 := n1_; have BK146 := n2_; have BK147 := n3_; have BK150 := n4_; have HB := n5_; clear n0_ n1_ n2_ n3_ n4_ n5_; (try clear hb); (try clear hb2); (try clear hk); (try clear hi)))
          go_loopg [6, 33] k3 (fun kq v6 v33 w' => ∃ (x6_4 : List (S50)) (x33_4 : Int), v33 = .int .i64 x33_4 ∧ Aside0 (linear_Add.l1 kq x6_4 x28_3 x33_4 a0_0 a0_1 a0_2 a0_3 a0_4 a1_0 a1_1 a1_2 a1_3 a1_4 a0_0 a0_1 a0_2 a0_3 a0_4 a1_0 a1_1 a1_2 a1_3 a1_4 t151 t152 t153 t154 = some (r1, r2, r3, r4, r5, r6)) ∧ Aside0 (kq ≤ k3) ∧ Aside0 (Kd.R k50 50 w' w.heap.size (fun _ => True) v6 x6_4) ∧ Aside0 (w'.heap[gb145]? = some (.cells #[.int .i64 a0_0, .int .i64 a0_1, .int .i64 a0_2, .int .i64 a0_3, .int .i64 a0_4] 23 (0, 0))) ∧ Aside0 (w'.heap[gb146]? = some (.cells #[.int .i64 a1_0, .int .i64 a1_1, .int .i64 a1_2, .int .i64 a1_3, .int .i64 a1_4] 23 (0, 0))) ∧ Aside0 (w'.heap[gb147]? = some (.cells #[.int .i64 0, .int .i64 0, .int .i64 0, .int .i64 0, .int .i64 0] 23 (0, 0))) ∧ Aside0 (w'.heap[gb150]? = some (.cells #[.int .i64 (pk2 x28_3 a0_0 a1_0), .int .i64 (pk2 x28_3 a0_1 a1_1), .int .i64 (pk2 x28_3 a0_2 a1_2), .int .i64 (pk2 x28_3 a0_3 a1_3), .int .i64 (pk2 x28_3 a0_4 a1_4)] 23 (0, 0))) ∧ Aside0 (Below w.heap.size w w'))
          case atStart => exact ⟨(x6_3), (0), (by first | rfl | (simp; done) | (simp [*]; done)), H', ⟨Nat.le_refl _⟩, ⟨rup HO_6⟩, pkA BK145, pkA BK146, pkA BK147, pkA BK150, bpk HB⟩
          case round =>
           clear H'
           (try clear c1); (try clear c2); (try clear p2); (try clear c3); (try clear c8); (try clear c10); (try clear c11); (try clear c14); (try clear c17); (try clear c18); (try clear c21); (try clear c22); (try clear c23); (try clear c25); (try clear c26); (try clear c27); (try clear c29); (try clear c31); (try clear c31b0); (try clear c32); (try clear c32b0); (try clear c36); (try clear c37); (try clear c38); (try clear hcz12_0 hcz12_1 hcz12_2 hcz12_3 hcz12_4); (try clear hcz15_0 hcz15_1 hcz15_2 hcz15_3 hcz15_4); (try clear hcz19_0 hcz19_1 hcz19_2 hcz19_3 hcz19_4); (try clear hcz24_0 hcz24_1 hcz24_2 hcz24_3 hcz24_4); (try clear hcz28_0 hcz28_1 hcz28_2 hcz28_3 hcz28_4); (try clear hcz30_0 hcz30_1 hcz30_2 hcz30_3 hcz30_4); (try clear hcz39_0 hcz39_1 hcz39_2 hcz39_3 hcz39_4); (try clear hfz12_0 hfz12_1 hfz12_2 hfz12_3 hfz12_4); (try clear hfz15_0 hfz15_1 hfz15_2 hfz15_3 hfz15_4); (try clear hfz19_0 hfz19_1 hfz19_2 hfz19_3 hfz19_4); (try clear hfz24_0 hfz24_1 hfz24_2 hfz24_3 hfz24_4); (try clear hfz28_0 hfz28_1 hfz28_2 hfz28_3 hfz28_4); (try clear hfz30_0 hfz30_1 hfz30_2 hfz30_3 hfz30_4); (try clear hfz39_0 hfz39_1 hfz39_2 hfz39_3 hfz39_4); (try clear p2); obtain ⟨x6_4, x33_4, rfl, HA, HK4, HO_6, BK145, BK146, BK147, BK150, HB⟩ := hrel
           cases gk with
           | zero => exact absurd HA.out (by simp [linear_Add.l1])
           | succ k4 =>
            have H := HA.out
            clear HA
            simp only [linear_Add.l1] at H
            by_cases c41 : x33_4 < 2
            ·
             rw [if_pos c41] at H
             have c41b0 : decide (x33_4 < 2) = true := decide_eq_true c41
             clear c41
             by_cases c42 : 0 ≤ x33_4
             case neg => rw [if_neg c42] at H; exact absurd H (by simp)
             rw [if_pos c42] at H
             have c42b0 : decide (0 ≤ x33_4) = true := decide_eq_true c42
             clear c42
             by_cases c43 : (pk2 x33_4 t152 t154) = 0
             ·
              rw [if_pos c43] at H
              have c43b0 : ((pk2 x33_4 t152 t154) == 0) = true := beq_iff_eq.mpr c43
              have c43b1 : ((pk2 x33_4 t152 t154) != 0) = false := bne_eq_false_iff_eq.mpr c43
              clear c43
              have H' := Aside0.mk H
              clear H
              have hvx44 : ∀ W : World, (Instr.index 51 (.agg #[.int .i64 t151, .int .i64 t152, .int .i64 t153, .int .i64 t154]) (.int .i64 x33_4)).run Try.prog W = .ok (.agg #[.int .i64 (pk2 x33_4 t151 t153), .int .i64 (pk2 x33_4 t152 t154)]) W := fun W => hixv51 t151 t152 t153 t154 x33_4 W (of_decide_eq_true (by first | (with_reducible assumption) | assumption)) (of_decide_eq_true (by first | (with_reducible assumption) | assumption))
              go_wp2_with (first | ((with_reducible refine gate_dst (N := 10) rfl ?_); refine box_event ?hg (N := 10) ?hd (cs := #[.int .i64 0, .int .i64 0]) (t := 50) ?hr ?_; (case hd => rfl); (case hg => rfl); (case hr => first | (go_simp; done) | (go_simp; rfl)); intro gb155 hg w45 hbox hb; have n0_ := Aside0.mk (Kd.R_below (Kd.R_elderB (rup HO_6) gb155 (Nat.le_of_eq hg.symm)) hb); have n1_ := bst HB hb; have n2_ := Aside0.mk (hbox); have n3_ := bsz HB hg; have n4_ := bsz HB hg; have n5_ := bn1 BK145 hg; have n6_ := bn2 BK145 hg; have n7_ := bn1 BK146 hg; have n8_ := bn2 BK146 hg; have n9_ := bn1 BK147 hg; have n10_ := bn2 BK147 hg; have n11_ := bn1 BK150 hg; have n12_ := bn2 BK150 hg; replace BK145 := bbw BK145 hb; replace BK146 := bbw BK146 hb; replace BK147 := bbw BK147 hb; replace BK150 := bbw BK150 hb; clear HO_6; clear HB; have HO_6 := n0_; have HB := n1_; have BK155 := n2_; have GW155 := n3_; have GE155 := n4_; have NB145_155 := n5_; have NB155_145 := n6_; have NB146_155 := n7_; have NB155_146 := n8_; have NB147_155 := n9_; have NB155_147 := n10_; have NB150_155 := n11_; have NB155_150 := n12_; clear n0_ n1_ n2_ n3_ n4_ n5_ n6_ n7_ n8_ n9_ n10_ n11_ n12_; clear hb hbox hg; have hnb46 := nn NB155_145 NB145_155; have hnb47 := nn NB155_146 NB146_155; have hnb48 := nn NB155_147 NB147_155; have hnb49 := nn NB155_150 NB150_155; obtain ⟨hcz50_0, hcz50_1, hfz50_0, hfz50_1⟩ := hcf2 BK155))
              go_roundg k4
              case measure => have := HJ2.out; have := HJ24.out; have := HK3.out; have := HK4.out; omega
              case rel => exact ⟨(x6_4), (wrap64 (x33_4 + 1)), (by first | rfl | (simp; done) | (simp [*]; done)), H', ⟨by have := HJ2.out; have := HJ24.out; have := HK3.out; have := HK4.out; omega⟩, ⟨by (with_reducible repeat (first | apply Kd.R_alloc | apply Kd.R_drewN | apply Kd.R_drew)); exact Kd.R_mono (Kd.R_far (p := ⟨gb155, 1, none⟩) (Kd.R_far (p := ⟨gb155, 0, none⟩) (Kd.R_mono HO_6.out (fun k_ hk => (⟨hk, hk.2⟩ : _ ∧ k_ ≠ gb155))) (fun _ hk => hk.2) (.int .i64 (pk2 x33_4 t151 t153))) (fun _ hk => hk.2) (.int .i64 (pk2 x33_4 t152 t154))) (fun _ hk => trivial)⟩, far2 BK145 NB145_155, far2 BK146 NB146_155, far2 BK147 NB147_155, far2 BK150 NB150_155, bpk HB⟩
             ·
              rw [if_neg c43] at H
              have c43b0 : ((pk2 x33_4 t152 t154) == 0) = false := beq_eq_false_iff_ne.mpr c43
              have c43b1 : ((pk2 x33_4 t152 t154) != 0) = true := bne_iff_ne.mpr c43
              have H' := Aside0.mk H
              clear H
              have hvx51 : ∀ W : World, (Instr.index 51 (.agg #[.int .i64 t151, .int .i64 t152, .int .i64 t153, .int .i64 t154]) (.int .i64 x33_4)).run Try.prog W = .ok (.agg #[.int .i64 (pk2 x33_4 t151 t153), .int .i64 (pk2 x33_4 t152 t154)]) W := fun W => hixv51 t151 t152 t153 t154 x33_4 W (of_decide_eq_true (by first | (with_reducible assumption) | assumption)) (of_decide_eq_true (by first | (with_reducible assumption) | assumption))
              go_wp2_with (first | ((with_reducible refine gate_dst (N := 10) rfl ?_); refine box_event ?hg (N := 10) ?hd (cs := #[.int .i64 0, .int .i64 0]) (t := 50) ?hr ?_; (case hd => rfl); (case hg => rfl); (case hr => first | (go_simp; done) | (go_simp; rfl)); intro gb155 hg w52 hbox hb; have n0_ := Aside0.mk (Kd.R_below (Kd.R_elderB (rup HO_6) gb155 (Nat.le_of_eq hg.symm)) hb); have n1_ := bst HB hb; have n2_ := Aside0.mk (hbox); have n3_ := bsz HB hg; have n4_ := bsz HB hg; have n5_ := bn1 BK145 hg; have n6_ := bn2 BK145 hg; have n7_ := bn1 BK146 hg; have n8_ := bn2 BK146 hg; have n9_ := bn1 BK147 hg; have n10_ := bn2 BK147 hg; have n11_ := bn1 BK150 hg; have n12_ := bn2 BK150 hg; replace BK145 := bbw BK145 hb; replace BK146 := bbw BK146 hb; replace BK147 := bbw BK147 hb; replace BK150 := bbw BK150 hb; clear HO_6; clear HB; have HO_6 := n0_; have HB := n1_; have BK155 := n2_; have GW155 := n3_; have GE155 := n4_; have NB145_155 := n5_; have NB155_145 := n6_; have NB146_155 := n7_; have NB155_146 := n8_; have NB147_155 := n9_; have NB155_147 := n10_; have NB150_155 := n11_; have NB155_150 := n12_; clear n0_ n1_ n2_ n3_ n4_ n5_ n6_ n7_ n8_ n9_ n10_ n11_ n12_; clear hb hbox hg; have hnb53 := nn NB155_145 NB145_155; have hnb54 := nn NB155_146 NB146_155; have hnb55 := nn NB155_147 NB147_155; have hnb56 := nn NB155_150 NB150_155; obtain ⟨hcz57_0, hcz57_1, hfz57_0, hfz57_1⟩ := hcf2 BK155))
              go_loopg [11] k4 (fun kq v11 w' => ∃ (x11_5 : Int), v11 = .int .i64 x11_5 ∧ Aside0 (linear_Add.l2 kq x6_4 x11_5 x28_3 x33_4 a0_0 a0_1 a0_2 a0_3 a0_4 a1_0 a1_1 a1_2 a1_3 a1_4 (pk2 x33_4 t151 t153) (pk2 x33_4 t152 t154) a0_0 a0_1 a0_2 a0_3 a0_4 a1_0 a1_1 a1_2 a1_3 a1_4 t151 t152 t153 t154 = some (r1, r2, r3, r4, r5, r6)) ∧ Aside0 (kq ≤ k4) ∧ Aside0 (Kd.R k50 50 w' w.heap.size (fun k_ => k_ ≠ gb155) u6 x6_4) ∧ Aside0 (w'.heap[gb145]? = some (.cells #[.int .i64 a0_0, .int .i64 a0_1, .int .i64 a0_2, .int .i64 a0_3, .int .i64 a0_4] 23 (0, 0))) ∧ Aside0 (w'.heap[gb146]? = some (.cells #[.int .i64 a1_0, .int .i64 a1_1, .int .i64 a1_2, .int .i64 a1_3, .int .i64 a1_4] 23 (0, 0))) ∧ Aside0 (w'.heap[gb147]? = some (.cells #[.int .i64 0, .int .i64 0, .int .i64 0, .int .i64 0, .int .i64 0] 23 (0, 0))) ∧ Aside0 (w'.heap[gb150]? = some (.cells #[.int .i64 (pk2 x28_3 a0_0 a1_0), .int .i64 (pk2 x28_3 a0_1 a1_1), .int .i64 (pk2 x28_3 a0_2 a1_2), .int .i64 (pk2 x28_3 a0_3 a1_3), .int .i64 (pk2 x28_3 a0_4 a1_4)] 23 (0, 0))) ∧ Aside0 (w'.heap[gb155]? = some (.cells #[.int .i64 (pk2 x33_4 t151 t153), .int .i64 (pk2 x33_4 t152 t154)] 50 (0, 0))) ∧ Aside0 (Below w.heap.size w w'))
              case atStart => exact ⟨(0), (by first | rfl | (simp; done) | (simp [*]; done)), H', ⟨Nat.le_refl _⟩, ⟨by (with_reducible repeat (first | apply Kd.R_alloc | apply Kd.R_drewN | apply Kd.R_drew)); exact Kd.R_mono (Kd.R_far (p := ⟨gb155, 1, none⟩) (Kd.R_far (p := ⟨gb155, 0, none⟩) (Kd.R_mono HO_6.out (fun k_ hk => (⟨hk, hk.2⟩ : _ ∧ k_ ≠ gb155))) (fun _ hk => hk.2) (.int .i64 (pk2 x33_4 t151 t153))) (fun _ hk => hk.2) (.int .i64 (pk2 x33_4 t152 t154))) (fun _ hk => hk.1.2)⟩, far2 BK145 NB145_155, far2 BK146 NB146_155, far2 BK147 NB147_155, far2 BK150 NB150_155, ⟨by refine pkB ?_; refine bput (cs := #[.int .i64 (pk2 x33_4 t151 t153), .int .i64 0]) 1 ?_; refine bput (cs := #[.int .i64 0, .int .i64 0]) 0 ?_; exact BK155.out⟩, bpk HB⟩
              case round =>
               clear H'
               (try clear c1); (try clear c2); (try clear p2); (try clear c3); (try clear c4); (try clear c5); (try clear p6); (try clear c8); (try clear c10); (try clear c11); (try clear c14); (try clear c17); (try clear c18); (try clear c21); (try clear c22); (try clear c23); (try clear c25); (try clear c26); (try clear c27); (try clear c29); (try clear c31); (try clear c31b0); (try clear c32); (try clear c32b0); (try clear c36); (try clear c37); (try clear c38); (try clear c41); (try clear c41b0); (try clear c42); (try clear c42b0); (try clear c43); (try clear c43b0); (try clear c43b1); (try clear c46); (try clear c47); (try clear c48); (try clear c49); (try clear c53); (try clear c54); (try clear c55); (try clear c56); (try clear hcz12_0 hcz12_1 hcz12_2 hcz12_3 hcz12_4); (try clear hcz15_0 hcz15_1 hcz15_2 hcz15_3 hcz15_4); (try clear hcz19_0 hcz19_1 hcz19_2 hcz19_3 hcz19_4); (try clear hcz24_0 hcz24_1 hcz24_2 hcz24_3 hcz24_4); (try clear hcz28_0 hcz28_1 hcz28_2 hcz28_3 hcz28_4); (try clear hcz30_0 hcz30_1 hcz30_2 hcz30_3 hcz30_4); (try clear hcz39_0 hcz39_1 hcz39_2 hcz39_3 hcz39_4); (try clear hcz50_0 hcz50_1); (try clear hcz57_0 hcz57_1); (try clear hfz12_0 hfz12_1 hfz12_2 hfz12_3 hfz12_4); (try clear hfz15_0 hfz15_1 hfz15_2 hfz15_3 hfz15_4); (try clear hfz19_0 hfz19_1 hfz19_2 hfz19_3 hfz19_4); (try clear hfz24_0 hfz24_1 hfz24_2 hfz24_3 hfz24_4); (try clear hfz28_0 hfz28_1 hfz28_2 hfz28_3 hfz28_4); (try clear hfz30_0 hfz30_1 hfz30_2 hfz30_3 hfz30_4); (try clear hfz39_0 hfz39_1 hfz39_2 hfz39_3 hfz39_4); (try clear hfz50_0 hfz50_1); (try clear hfz57_0 hfz57_1); (try clear p2); obtain ⟨x11_5, rfl, HA, HK5, HO_6, BK145, BK146, BK147, BK150, BK155, HB⟩ := hrel
               cases gk with
               | zero => exact absurd HA.out (by simp [linear_Add.l2])
               | succ k5 =>
                have H := HA.out
                clear HA
                simp only [linear_Add.l2] at H
                by_cases c58 : x11_5 < (x6_4.length : Int)
                ·
                 rw [if_pos c58] at H
                 have c58b0 : decide (x11_5 < (x6_4.length : Int)) = true := decide_eq_true c58
                 clear c58
                 by_cases c59 : 0 ≤ x11_5
                 case neg => rw [if_neg c59] at H; exact absurd H (by simp)
                 rw [if_pos c59] at H
                 have c59b0 : decide (0 ≤ x11_5) = true := decide_eq_true c59
                 clear c59
                 by_cases c60 : ((rd_T50 x6_4 x11_5).f0) < (pk2 x33_4 t151 t153)
                 ·
                  rw [if_pos c60] at H
                  have c60b0 : decide (((rd_T50 x6_4 x11_5).f0) < (pk2 x33_4 t151 t153)) = true := decide_eq_true c60
                  clear c60
                  have H' := Aside0.mk H
                  clear H
                  try go_wp2
                  have n0_ := Aside0.mk (Kd.R_drew HO_6.out); have n1_ := Aside0.mk (blk_drew BK145.out); have n2_ := Aside0.mk (blk_drew BK146.out); have n3_ := Aside0.mk (blk_drew BK147.out); have n4_ := Aside0.mk (blk_drew BK150.out); have n5_ := Aside0.mk (blk_drew BK155.out); have n6_ := Aside0.mk (below_drew1 HB.out); clear HO_6 BK145 BK146 BK147 BK150 BK155 HB; have HO_6 := n0_; have BK145 := n1_; have BK146 := n2_; have BK147 := n3_; have BK150 := n4_; have BK155 := n5_; have HB := n6_; clear n0_ n1_ n2_ n3_ n4_ n5_ n6_
                  obtain ⟨Ao62, co62, eo62⟩ := Kd.R_slice HO_6.out
                  (first | subst eo62 | (injection eo62 with f1_ f2_ f3_; have f4_ := f1_.symm; have f5_ := f3_.symm; clear f1_ f2_ f3_; subst f4_; subst f5_))
                  have p156 : 0 ≤ (x11_5 : Int) := of_decide_eq_true (by first | (with_reducible assumption) | assumption)
                  have q156 : x11_5 < (x6_4.length : Int) := of_decide_eq_true (by first | (with_reducible assumption) | assumption)
                  obtain ⟨ad156, e156, hx156_0, hx156_1⟩ := at_T50 (Kd.R_reads' HO_6.out).2.2 x11_5 p156 q156
                  cases e156; replace p156 := eq_true p156; replace q156 := eq_true q156
                  refine start_ (n := 14) (S := fun w' => w'.cell? ⟨gb155, 0, none⟩ = some (.int .i64 (pk2 x33_4 t151 t153)) ∧ w'.cell? ⟨gb155, 1, none⟩ = some (.int .i64 (pk2 x33_4 t152 t154)) ∧ w'.cell? (ad156.add ((x11_5).toNat * 2)) = some (.int .i64 ((rd_T50 x6_4 x11_5).f0)) ∧ w'.cell? ⟨(ad156.add ((x11_5).toNat * 2)).block, (ad156.add ((x11_5).toNat * 2)).off + 1, none⟩ = some (.int .i64 ((rd_T50 x6_4 x11_5).f1))) (ds := []) #[false, false, false, false, false, false, false, false, false, false, false, false, false, false] (by kernel_rfl) rfl rfl ⟨hcz BK155 0, hcz BK155 1, hx156_0, hx156_1⟩ (fun hHeld => ?_); refine with_tabW linear_Add.tab12 linear_Add.bits12 (fun HT_ HW_ => ?_)
                  generalize wr.drew = w61 at HO_6 BK145 BK146 BK147 BK150 BK155 HB hx156_0 hx156_1 hHeld ⊢
                  refine pureQ 0 39 HT_.out ?_; refine pureQ 1 40 HT_.out ?_; refine pureQ 2 41 HT_.out ?_; refine pureQ 3 42 HT_.out ?_; refine pureQ 4 43 HT_.out ?_; refine pureQ 5 44 HT_.out ?_; refine pureQ 6 45 HT_.out ?_; refine pureQ 7 46 HT_.out ?_; refine pureQ 8 47 HT_.out ?_; refine pureQ 10 49 HT_.out ?_; refine takeQ 9 48 HT_.out HW_.out hHeld ?_; refine takeQ 11 50 HT_.out HW_.out hHeld ?_; refine pureQ 12 51 HT_.out ?_; refine pureQ 13 52 HT_.out ?_
                  refine done_ (done_of HT_.out (by kernel_rfl)) ?_
                  try go_wp2
                  go_roundg k5
                  case measure => have := HJ2.out; have := HJ24.out; have := HK3.out; have := HK4.out; have := HK5.out; omega
                  case rel => exact ⟨(wrap64 (x11_5 + 1)), (by first | rfl | (simp; done) | (simp [*]; done)), H', ⟨by have := HJ2.out; have := HJ24.out; have := HK3.out; have := HK4.out; have := HK5.out; omega⟩, ⟨rup HO_6⟩, pkA BK145, pkA BK146, pkA BK147, pkA BK150, pkA BK155, bpk HB⟩
                 ·
                  rw [if_neg c60] at H
                  have c60b0 : decide (((rd_T50 x6_4 x11_5).f0) < (pk2 x33_4 t151 t153)) = false := decide_eq_false c60
                  clear c60
                  by_cases c63 : ((rd_T50 x6_4 x11_5).f0) = (pk2 x33_4 t151 t153)
                  ·
                   rw [if_pos c63] at H
                   have c63b0 : (((rd_T50 x6_4 x11_5).f0) == (pk2 x33_4 t151 t153)) = true := beq_iff_eq.mpr c63
                   have c63b1 : (((rd_T50 x6_4 x11_5).f0) != (pk2 x33_4 t151 t153)) = false := bne_eq_false_iff_eq.mpr c63
                   clear c63
                   obtain ⟨y159, hy159⟩ : ∃ y_ : List (S50), y_ = (x6_4.set (x11_5 : Int).toNat (⟨(rd_T50 x6_4 x11_5).f0, wrap64 (((rd_T50 x6_4 x11_5).f1) + (pk2 x33_4 t152 t154))⟩ : S50)) := ⟨_, rfl⟩
                   replace H : (linear_Add.l1 k5 y159 x28_3 (wrap64 (x33_4 + 1)) a0_0 a0_1 a0_2 a0_3 a0_4 a1_0 a1_1 a1_2 a1_3 a1_4 a0_0 a0_1 a0_2 a0_3 a0_4 a1_0 a1_1 a1_2 a1_3 a1_4 t151 t152 t153 t154) = some (r1, r2, r3, r4, r5, r6) := by first | (rw [hy159]; with_reducible exact H) | (have H2_ := (Option.bind_some _ _).symm.trans H; rw [hy159]; with_reducible exact H2_) | (have H2_ := (Option.bind_some _ _).symm.trans H; with_reducible exact H2_) | with_reducible exact H | (rw [hy159]; exact H) | exact H
                   have Ny159 := Aside0.mk hy159; clear hy159
                   have H' := Aside0.mk H
                   clear H
                   try go_wp2
                   have n0_ := Aside0.mk (Kd.R_drew HO_6.out); have n1_ := Aside0.mk (blk_drew BK145.out); have n2_ := Aside0.mk (blk_drew BK146.out); have n3_ := Aside0.mk (blk_drew BK147.out); have n4_ := Aside0.mk (blk_drew BK150.out); have n5_ := Aside0.mk (blk_drew BK155.out); have n6_ := Aside0.mk (below_drew1 HB.out); clear HO_6 BK145 BK146 BK147 BK150 BK155 HB; have HO_6 := n0_; have BK145 := n1_; have BK146 := n2_; have BK147 := n3_; have BK150 := n4_; have BK155 := n5_; have HB := n6_; clear n0_ n1_ n2_ n3_ n4_ n5_ n6_
                   obtain ⟨Ao66, co66, eo66⟩ := Kd.R_slice HO_6.out
                   (first | subst eo66 | (injection eo66 with f1_ f2_ f3_; have f4_ := f1_.symm; have f5_ := f3_.symm; clear f1_ f2_ f3_; subst f4_; subst f5_))
                   have p156 : 0 ≤ (x11_5 : Int) := of_decide_eq_true (by first | (with_reducible assumption) | assumption)
                   have q156 : x11_5 < (x6_4.length : Int) := of_decide_eq_true (by first | (with_reducible assumption) | assumption)
                   obtain ⟨ad156, e156, hx156_0, hx156_1⟩ := at_T50 (Kd.R_reads' HO_6.out).2.2 x11_5 p156 q156
                   cases e156; replace p156 := eq_true p156; replace q156 := eq_true q156
                   refine start_ (n := 14) (S := fun w' => w'.cell? ⟨gb155, 0, none⟩ = some (.int .i64 (pk2 x33_4 t151 t153)) ∧ w'.cell? ⟨gb155, 1, none⟩ = some (.int .i64 (pk2 x33_4 t152 t154)) ∧ w'.cell? (ad156.add ((x11_5).toNat * 2)) = some (.int .i64 ((rd_T50 x6_4 x11_5).f0)) ∧ w'.cell? ⟨(ad156.add ((x11_5).toNat * 2)).block, (ad156.add ((x11_5).toNat * 2)).off + 1, none⟩ = some (.int .i64 ((rd_T50 x6_4 x11_5).f1))) (ds := []) #[false, false, false, false, false, false, false, false, false, false, false, false, false, false] (by kernel_rfl) rfl rfl ⟨hcz BK155 0, hcz BK155 1, hx156_0, hx156_1⟩ (fun hHeld => ?_); refine with_tabW linear_Add.tab12 linear_Add.bits12 (fun HT_ HW_ => ?_)
                   generalize wr.drew = w65 at HO_6 BK145 BK146 BK147 BK150 BK155 HB hx156_0 hx156_1 hHeld ⊢
                   refine pureQ 0 39 HT_.out ?_; refine pureQ 1 40 HT_.out ?_; refine pureQ 2 41 HT_.out ?_; refine pureQ 3 42 HT_.out ?_; refine pureQ 4 43 HT_.out ?_; refine pureQ 5 44 HT_.out ?_; refine pureQ 6 45 HT_.out ?_; refine pureQ 7 46 HT_.out ?_; refine pureQ 8 47 HT_.out ?_; refine pureQ 10 49 HT_.out ?_; refine takeQ 9 48 HT_.out HW_.out hHeld ?_; refine takeQ 11 50 HT_.out HW_.out hHeld ?_; refine pureQ 12 51 HT_.out ?_; refine pureQ 13 52 HT_.out ?_
                   refine done_ (done_of HT_.out (by kernel_rfl)) ?_
                   try go_wp2
                   have n0_ := Aside0.mk (Kd.R_drew HO_6.out); have n1_ := Aside0.mk (blk_drew BK145.out); have n2_ := Aside0.mk (blk_drew BK146.out); have n3_ := Aside0.mk (blk_drew BK147.out); have n4_ := Aside0.mk (blk_drew BK150.out); have n5_ := Aside0.mk (blk_drew BK155.out); have n6_ := Aside0.mk (below_drew1 HB.out); clear HO_6 BK145 BK146 BK147 BK150 BK155 HB; have HO_6 := n0_; have BK145 := n1_; have BK146 := n2_; have BK147 := n3_; have BK150 := n4_; have BK155 := n5_; have HB := n6_; clear n0_ n1_ n2_ n3_ n4_ n5_ n6_
                   have p157 : 0 ≤ (x11_5 : Int) := of_decide_eq_true (by first | (with_reducible assumption) | assumption)
                   have q157 : x11_5 < (x6_4.length : Int) := of_decide_eq_true (by first | (with_reducible assumption) | assumption)
                   obtain ⟨ad157, e157, hx157_0, hx157_1⟩ := at_T50 (Kd.R_reads' HO_6.out).2.2 x11_5 p157 q157
                   obtain rfl : ad156 = ad157 := (by injection e157)
                   replace p157 := eq_true p157; replace q157 := eq_true q157
                   refine start_ (n := 14) (S := fun w' => w'.cell? ⟨gb155, 0, none⟩ = some (.int .i64 (pk2 x33_4 t151 t153)) ∧ w'.cell? ⟨gb155, 1, none⟩ = some (.int .i64 (pk2 x33_4 t152 t154)) ∧ w'.cell? (ad156.add ((x11_5).toNat * 2)) = some (.int .i64 ((rd_T50 x6_4 x11_5).f0)) ∧ w'.cell? ⟨(ad156.add ((x11_5).toNat * 2)).block, (ad156.add ((x11_5).toNat * 2)).off + 1, none⟩ = some (.int .i64 ((rd_T50 x6_4 x11_5).f1))) (ds := []) #[false, false, false, false, false, false, false, false, false, false, false, false, false, false] (by kernel_rfl) rfl rfl ⟨hcz BK155 0, hcz BK155 1, hx157_0, hx157_1⟩ (fun hHeld => ?_); refine with_tabW linear_Add.tab14 linear_Add.bits14 (fun HT_ HW_ => ?_)
                   generalize w65.drew = w67 at HO_6 BK145 BK146 BK147 BK150 BK155 HB hx157_0 hx157_1 hHeld ⊢
                   refine pureQ 0 55 HT_.out ?_; refine pureQ 1 56 HT_.out ?_; refine pureQ 2 57 HT_.out ?_; refine pureQ 3 58 HT_.out ?_; refine pureQ 4 59 HT_.out ?_; refine pureQ 5 60 HT_.out ?_; refine pureQ 6 61 HT_.out ?_; refine pureQ 7 62 HT_.out ?_; refine pureQ 8 63 HT_.out ?_; refine pureQ 10 65 HT_.out ?_; refine takeQ 9 64 HT_.out HW_.out hHeld ?_; refine takeQ 11 66 HT_.out HW_.out hHeld ?_; refine pureQ 12 67 HT_.out ?_; refine pureQ 13 68 HT_.out ?_
                   refine done_ (done_of HT_.out (by kernel_rfl)) ?_
                   try go_wp2
                   have n0_ := Aside0.mk (Kd.R_drew HO_6.out); have n1_ := Aside0.mk (blk_drew BK145.out); have n2_ := Aside0.mk (blk_drew BK146.out); have n3_ := Aside0.mk (blk_drew BK147.out); have n4_ := Aside0.mk (blk_drew BK150.out); have n5_ := Aside0.mk (blk_drew BK155.out); have n6_ := Aside0.mk (below_drew1 HB.out); clear HO_6 BK145 BK146 BK147 BK150 BK155 HB; have HO_6 := n0_; have BK145 := n1_; have BK146 := n2_; have BK147 := n3_; have BK150 := n4_; have BK155 := n5_; have HB := n6_; clear n0_ n1_ n2_ n3_ n4_ n5_ n6_
                   have p158 : 0 ≤ (x11_5 : Int) := of_decide_eq_true (by first | (with_reducible assumption) | assumption)
                   have q158 : x11_5 < (x6_4.length : Int) := of_decide_eq_true (by first | (with_reducible assumption) | assumption)
                   obtain ⟨ad158, e158, hx158_0, hx158_1⟩ := at_T50 (Kd.R_reads' HO_6.out).2.2 x11_5 p158 q158
                   obtain rfl : ad156 = ad158 := (by injection e158)
                   replace p158 := eq_true p158; replace q158 := eq_true q158
                   have p64 : 0 ≤ (x11_5 : Int) := of_decide_eq_true (by first | (with_reducible assumption) | assumption)
                   have q64 : (x11_5 : Int) < ((x6_4.length : Int) : Int) := of_decide_eq_true (by first | (with_reducible assumption) | assumption)
                   obtain ⟨go64, co64, eo64, gb64, gl64, cl64, HG64⟩ := Kd.R_form HO_6.out (by omega)
                   (first | cases eo64 | (injection eo64 with ea_ en_ ec_; (first | subst ea_ | (injection ea_ with ea_; subst ea_)); subst ec_; clear en_))
                   have GB64 := Aside0.mk gb64; have GG64 := Aside0.mk HG64; clear gb64 gl64 HG64
                   (first | simp only [add_plain] at hx156_0 | skip)
                   (first | simp only [add_plain] at hx156_1 | skip)
                   (first | simp only [add_plain] at hx157_0 | skip)
                   (first | simp only [add_plain] at hx157_1 | skip)
                   (first | simp only [add_plain] at hx158_0 | skip)
                   (first | simp only [add_plain] at hx158_1 | skip)
                   obtain ⟨ce64, hcl64, hM64, hcc64, hfr64⟩ := Kd.R_elem HO_6.out z50 (x11_5 : Int) p64 q64
                   obtain rfl := k50_openM hM64
                   have hx64_0 : World.cell? _ ⟨go64, (x11_5 : Int).toNat * 2, none⟩ = some (.int .i64 ((rd_T50 x6_4 x11_5).f0)) := hcc64 0 _ rfl
                   have hx64_1 : World.cell? _ ⟨go64, (x11_5 : Int).toNat * 2 + 1, none⟩ = some (.int .i64 ((rd_T50 x6_4 x11_5).f1)) := hcc64 1 _ rfl
                   have hf64_0 : World.frozen? _ ⟨go64, (x11_5 : Int).toNat * 2, none⟩ = false := hfr64 0
                   have hf64_1 : World.frozen? _ ⟨go64, (x11_5 : Int).toNat * 2 + 1, none⟩ = false := hfr64 1
                   clear hcl64 hcc64 hfr64 hM64; replace p64 := eq_true p64; replace q64 := eq_true q64
                   obtain ⟨ce69, hcl69, hM69, hcc69, hfr69⟩ := Kd.R_elem HO_6.out z50 (x11_5 : Int) (of_decide_eq_true (by first | (with_reducible assumption) | assumption)) (by have h_ : (x11_5 : Int) < ((x6_4.length : Int) : Int) := of_decide_eq_true (by first | (with_reducible assumption) | assumption); first | exact h_ | (have e_ := (Kd.R_reads' HO_6.out).1; omega) | simpa using h_)
                   obtain rfl := k50_openM hM69
                   have HP69 := (Kd.R_seg HO_6.out (x11_5 : Int) (of_decide_eq_true (by first | (with_reducible assumption) | assumption)) (by have h_ : (x11_5 : Int) < ((x6_4.length : Int) : Int) := of_decide_eq_true (by first | (with_reducible assumption) | assumption); first | exact h_ | (have e_ := (Kd.R_reads' HO_6.out).1; omega) | simpa using h_) (seg := [.int .i64 (wrap64 (((rd_T50 x6_4 x11_5).f1) + (pk2 x33_4 t152 t154)))]) (j := 1) hcl69 hcc69 (show 2 ≤ 2 from by decide) (x' := (⟨(rd_T50 x6_4 x11_5).f0, wrap64 (((rd_T50 x6_4 x11_5).f1) + (pk2 x33_4 t152 t154))⟩ : S50)) (k50_mkM _ _ _ (⟨(rd_T50 x6_4 x11_5).f0, wrap64 (((rd_T50 x6_4 x11_5).f1) + (pk2 x33_4 t152 t154))⟩ : S50) ) (fun _ hk => hk)).1
                   rw [← Ny159.out] at HP69
                   have HQ69 := Aside0.mk HP69; clear hcl69 hcc69 hfr69 hM69 HP69
                   refine start_ (n := 11) (S := fun w' => w'.cell? ⟨gb155, 0, none⟩ = some (.int .i64 (pk2 x33_4 t151 t153)) ∧ w'.cell? ⟨gb155, 1, none⟩ = some (.int .i64 (pk2 x33_4 t152 t154)) ∧ w'.cell? ⟨go64, ((x11_5).toNat * 2), none⟩ = some (.int .i64 ((rd_T50 x6_4 x11_5).f0)) ∧ w'.cell? ⟨go64, ((x11_5).toNat * 2) + 1, none⟩ = some (.int .i64 ((rd_T50 x6_4 x11_5).f1))) (ds := [10]) #[false, false, false, false, false, false, false, false, false, false, false] (by kernel_rfl) rfl rfl ⟨hcz BK155 0, hcz BK155 1, hx158_0, hx158_1⟩ (fun hHeld => ?_); refine with_tabW linear_Add.tab15 linear_Add.bits15 (fun HT_ HW_ => ?_)
                   generalize w67.drew = w68 at HO_6 BK145 BK146 BK147 BK150 BK155 HB GG64 HQ69 hf64_0 hf64_1 hx156_0 hx156_1 hx157_0 hx157_1 hx158_0 hx158_1 hx64_0 hx64_1 hHeld ⊢
                   refine pureQ 0 69 HT_.out ?_; refine pureQ 1 70 HT_.out ?_; refine pureQ 2 71 HT_.out ?_; refine pureQ 3 72 HT_.out ?_; refine pureQ 5 74 HT_.out ?_; refine takeQ 4 73 HT_.out HW_.out hHeld ?_; refine takeQ 6 75 HT_.out HW_.out hHeld ?_; refine pureQ 7 76 HT_.out ?_; refine pureQ 8 77 HT_.out ?_; refine pureQ 9 78 HT_.out ?_
                   refine last_ (i := 10) (N := none) #[true, true, true, true, true, true, true, true, true, true, true] rfl rfl (one_of HT_.out (by kernel_rfl)) (by decide) (fun K hK => ?_)
                   refine skip_ (w1 := ?_) (by rfl) rfl ?_ ?_
                   rotate_left
                   ·
                    go_simp
                    rfl
                   refine hK.out _ _ ?_
                   clear hK K
                   refine done_ (done_of HT_.out (by kernel_rfl)) ?_
                   try go_wp2
                   go_roundg k5
                   case measure => have := HJ2.out; have := HJ24.out; have := HK3.out; have := HK4.out; have := HK5.out; omega
                   case rel => exact ⟨(y159), (wrap64 (x33_4 + 1)), (by first | rfl | (simp; done) | (simp [*]; done)), H', ⟨by have := HJ2.out; have := HJ24.out; have := HK3.out; have := HK4.out; have := HK5.out; omega⟩, ⟨by (with_reducible repeat (first | apply Kd.R_alloc | apply Kd.R_drewN | apply Kd.R_drew)); exact Kd.R_mono HQ69.out (fun _ hk => trivial)⟩, ⟨by refine pkB ?_; refine blk_far ?_ (by have h_ := Kd.R_ne HO_6.out BK145.out (by decide); intro e_; exact h_ (by rw [e_]; rfl)) _; refine pkB ?_; exact BK145.out⟩, ⟨by refine pkB ?_; refine blk_far ?_ (by have h_ := Kd.R_ne HO_6.out BK146.out (by decide); intro e_; exact h_ (by rw [e_]; rfl)) _; refine pkB ?_; exact BK146.out⟩, ⟨by refine pkB ?_; refine blk_far ?_ (by have h_ := Kd.R_ne HO_6.out BK147.out (by decide); intro e_; exact h_ (by rw [e_]; rfl)) _; refine pkB ?_; exact BK147.out⟩, ⟨by refine pkB ?_; refine blk_far ?_ (by have h_ := Kd.R_ne HO_6.out BK150.out (by decide); intro e_; exact h_ (by rw [e_]; rfl)) _; refine pkB ?_; exact BK150.out⟩, ⟨by repeat (first | (with_reducible first | exact HB.out | apply below_alloc | apply pw_below_drewN | apply below_drew1 | refine below_set ?_ GB64.out | refine below_set ?_ GE145.out | refine below_set ?_ GE146.out | refine below_set ?_ GE147.out | refine below_set ?_ GE150.out | refine below_set ?_ GE155.out) | exact HB.out)⟩⟩
                  ·
                   rw [if_neg c63] at H
                   have c63b0 : (((rd_T50 x6_4 x11_5).f0) == (pk2 x33_4 t151 t153)) = false := beq_eq_false_iff_ne.mpr c63
                   have c63b1 : (((rd_T50 x6_4 x11_5).f0) != (pk2 x33_4 t151 t153)) = true := bne_iff_ne.mpr c63
                   have c70b0 := eq_true (of_decide_eq_true (by first | (with_reducible assumption) | assumption) : 0 ≤ x11_5)
                   by_cases c71 : x11_5 ≤ (x6_4.length : Int)
                   case neg => rw [if_neg c71] at H; exact absurd H (by simp)
                   rw [if_pos c71] at H
                   have c71b0 := eq_true c71
                   have c71b1 : decide (x11_5 ≤ (x6_4.length : Int)) = true := decide_eq_true c71
                   clear c71
                   obtain ⟨y160, hy160⟩ : ∃ y_ : List (S50), y_ = (x6_4.take (x11_5 : Int).toNat) := ⟨_, rfl⟩
                   replace H : ((some (([(⟨(pk2 x33_4 t151 t153), (pk2 x33_4 t152 t154)⟩ : S50)] : List (S50)) : List (S50))).bind fun y164 => ((some (x6_4.drop (x11_5 : Int).toNat : List (S50))).bind fun y167 => (if y164.length + y167.length < 8796093022208 then ((some (y164 ++ y167 : List (S50))).bind fun y171 => (if y160.length + y171.length < 8796093022208 then (linear_Add.l1 k5 (y160 ++ y171) x28_3 (wrap64 (x33_4 + 1)) a0_0 a0_1 a0_2 a0_3 a0_4 a1_0 a1_1 a1_2 a1_3 a1_4 a0_0 a0_1 a0_2 a0_3 a0_4 a1_0 a1_1 a1_2 a1_3 a1_4 t151 t152 t153 t154) else (none))) else (none)))) = some (r1, r2, r3, r4, r5, r6) := by first | (rw [hy160]; with_reducible exact H) | (have H2_ := (Option.bind_some _ _).symm.trans H; rw [hy160]; with_reducible exact H2_) | (have H2_ := (Option.bind_some _ _).symm.trans H; with_reducible exact H2_) | with_reducible exact H | (rw [hy160]; exact H) | exact H
                   have Ny160 := Aside0.mk hy160; clear hy160
                   obtain ⟨y164, hy164⟩ : ∃ y_ : List (S50), y_ = (([(⟨(pk2 x33_4 t151 t153), (pk2 x33_4 t152 t154)⟩ : S50)] : List (S50))) := ⟨_, rfl⟩
                   replace H : ((some (x6_4.drop (x11_5 : Int).toNat : List (S50))).bind fun y167 => (if y164.length + y167.length < 8796093022208 then ((some (y164 ++ y167 : List (S50))).bind fun y171 => (if y160.length + y171.length < 8796093022208 then (linear_Add.l1 k5 (y160 ++ y171) x28_3 (wrap64 (x33_4 + 1)) a0_0 a0_1 a0_2 a0_3 a0_4 a1_0 a1_1 a1_2 a1_3 a1_4 a0_0 a0_1 a0_2 a0_3 a0_4 a1_0 a1_1 a1_2 a1_3 a1_4 t151 t152 t153 t154) else (none))) else (none))) = some (r1, r2, r3, r4, r5, r6) := by first | (rw [hy164]; with_reducible exact H) | (have H2_ := (Option.bind_some _ _).symm.trans H; rw [hy164]; with_reducible exact H2_) | (have H2_ := (Option.bind_some _ _).symm.trans H; with_reducible exact H2_) | with_reducible exact H | (rw [hy164]; exact H) | exact H
                   have Ny164 := Aside0.mk hy164; clear hy164
                   have c72b0 := eq_true (of_decide_eq_true (by first | (with_reducible assumption) | assumption) : 0 ≤ x11_5)
                   have c73b0 := eq_true (of_decide_eq_true (by first | (with_reducible assumption) | assumption) : x11_5 ≤ (x6_4.length : Int))
                   obtain ⟨y167, hy167⟩ : ∃ y_ : List (S50), y_ = (x6_4.drop (x11_5 : Int).toNat) := ⟨_, rfl⟩
                   replace H : (if y164.length + y167.length < 8796093022208 then ((some (y164 ++ y167 : List (S50))).bind fun y171 => (if y160.length + y171.length < 8796093022208 then (linear_Add.l1 k5 (y160 ++ y171) x28_3 (wrap64 (x33_4 + 1)) a0_0 a0_1 a0_2 a0_3 a0_4 a1_0 a1_1 a1_2 a1_3 a1_4 a0_0 a0_1 a0_2 a0_3 a0_4 a1_0 a1_1 a1_2 a1_3 a1_4 t151 t152 t153 t154) else (none))) else (none)) = some (r1, r2, r3, r4, r5, r6) := by first | (rw [hy167]; with_reducible exact H) | (have H2_ := (Option.bind_some _ _).symm.trans H; rw [hy167]; with_reducible exact H2_) | (have H2_ := (Option.bind_some _ _).symm.trans H; with_reducible exact H2_) | with_reducible exact H | (rw [hy167]; exact H) | exact H
                   have Ny167 := Aside0.mk hy167; clear hy167
                   by_cases c74 : y164.length + y167.length < 8796093022208
                   case neg => rw [if_neg c74] at H; exact absurd H (by simp)
                   rw [if_pos c74] at H; have LMc74 := Aside0.mk c74; clear c74
                   obtain ⟨y171, hy171⟩ : ∃ y_ : List (S50), y_ = (y164 ++ y167) := ⟨_, rfl⟩
                   replace H : (if y160.length + y171.length < 8796093022208 then (linear_Add.l1 k5 (y160 ++ y171) x28_3 (wrap64 (x33_4 + 1)) a0_0 a0_1 a0_2 a0_3 a0_4 a1_0 a1_1 a1_2 a1_3 a1_4 a0_0 a0_1 a0_2 a0_3 a0_4 a1_0 a1_1 a1_2 a1_3 a1_4 t151 t152 t153 t154) else (none)) = some (r1, r2, r3, r4, r5, r6) := by first | (rw [hy171]; with_reducible exact H) | (have H2_ := (Option.bind_some _ _).symm.trans H; rw [hy171]; with_reducible exact H2_) | (have H2_ := (Option.bind_some _ _).symm.trans H; with_reducible exact H2_) | with_reducible exact H | (rw [hy171]; exact H) | exact H
                   have Ny171 := Aside0.mk hy171; clear hy171
                   by_cases c75 : y160.length + y171.length < 8796093022208
                   case neg => rw [if_neg c75] at H; exact absurd H (by simp)
                   rw [if_pos c75] at H; have LMc75 := Aside0.mk c75; clear c75
                   obtain ⟨y174, hy174⟩ : ∃ y_ : List (S50), y_ = (y160 ++ y171) := ⟨_, rfl⟩
                   replace H : (linear_Add.l1 k5 y174 x28_3 (wrap64 (x33_4 + 1)) a0_0 a0_1 a0_2 a0_3 a0_4 a1_0 a1_1 a1_2 a1_3 a1_4 a0_0 a0_1 a0_2 a0_3 a0_4 a1_0 a1_1 a1_2 a1_3 a1_4 t151 t152 t153 t154) = some (r1, r2, r3, r4, r5, r6) := by first | (rw [hy174]; with_reducible exact H) | (have H2_ := (Option.bind_some _ _).symm.trans H; rw [hy174]; with_reducible exact H2_) | (have H2_ := (Option.bind_some _ _).symm.trans H; with_reducible exact H2_) | with_reducible exact H | (rw [hy174]; exact H) | exact H
                   have Ny174 := Aside0.mk hy174; clear hy174
                   have H' := Aside0.mk H
                   clear H
                   try go_wp2
                   have n0_ := Aside0.mk (Kd.R_drew HO_6.out); have n1_ := Aside0.mk (blk_drew BK145.out); have n2_ := Aside0.mk (blk_drew BK146.out); have n3_ := Aside0.mk (blk_drew BK147.out); have n4_ := Aside0.mk (blk_drew BK150.out); have n5_ := Aside0.mk (blk_drew BK155.out); have n6_ := Aside0.mk (below_drew1 HB.out); clear HO_6 BK145 BK146 BK147 BK150 BK155 HB; have HO_6 := n0_; have BK145 := n1_; have BK146 := n2_; have BK147 := n3_; have BK150 := n4_; have BK155 := n5_; have HB := n6_; clear n0_ n1_ n2_ n3_ n4_ n5_ n6_
                   obtain ⟨Ao77, co77, eo77⟩ := Kd.R_slice HO_6.out
                   (first | subst eo77 | (injection eo77 with f1_ f2_ f3_; have f4_ := f1_.symm; have f5_ := f3_.symm; clear f1_ f2_ f3_; subst f4_; subst f5_))
                   have p156 : 0 ≤ (x11_5 : Int) := of_decide_eq_true (by first | (with_reducible assumption) | assumption)
                   have q156 : x11_5 < (x6_4.length : Int) := of_decide_eq_true (by first | (with_reducible assumption) | assumption)
                   obtain ⟨ad156, e156, hx156_0, hx156_1⟩ := at_T50 (Kd.R_reads' HO_6.out).2.2 x11_5 p156 q156
                   cases e156; replace p156 := eq_true p156; replace q156 := eq_true q156
                   refine start_ (n := 14) (S := fun w' => w'.cell? ⟨gb155, 0, none⟩ = some (.int .i64 (pk2 x33_4 t151 t153)) ∧ w'.cell? ⟨gb155, 1, none⟩ = some (.int .i64 (pk2 x33_4 t152 t154)) ∧ w'.cell? (ad156.add ((x11_5).toNat * 2)) = some (.int .i64 ((rd_T50 x6_4 x11_5).f0)) ∧ w'.cell? ⟨(ad156.add ((x11_5).toNat * 2)).block, (ad156.add ((x11_5).toNat * 2)).off + 1, none⟩ = some (.int .i64 ((rd_T50 x6_4 x11_5).f1))) (ds := []) #[false, false, false, false, false, false, false, false, false, false, false, false, false, false] (by kernel_rfl) rfl rfl ⟨hcz BK155 0, hcz BK155 1, hx156_0, hx156_1⟩ (fun hHeld => ?_); refine with_tabW linear_Add.tab12 linear_Add.bits12 (fun HT_ HW_ => ?_)
                   generalize wr.drew = w76 at HO_6 BK145 BK146 BK147 BK150 BK155 HB hx156_0 hx156_1 hHeld ⊢
                   refine pureQ 0 39 HT_.out ?_; refine pureQ 1 40 HT_.out ?_; refine pureQ 2 41 HT_.out ?_; refine pureQ 3 42 HT_.out ?_; refine pureQ 4 43 HT_.out ?_; refine pureQ 5 44 HT_.out ?_; refine pureQ 6 45 HT_.out ?_; refine pureQ 7 46 HT_.out ?_; refine pureQ 8 47 HT_.out ?_; refine pureQ 10 49 HT_.out ?_; refine takeQ 9 48 HT_.out HW_.out hHeld ?_; refine takeQ 11 50 HT_.out HW_.out hHeld ?_; refine pureQ 12 51 HT_.out ?_; refine pureQ 13 52 HT_.out ?_
                   refine done_ (done_of HT_.out (by kernel_rfl)) ?_
                   try go_wp2
                   have n0_ := Aside0.mk (Kd.R_drew HO_6.out); have n1_ := Aside0.mk (blk_drew BK145.out); have n2_ := Aside0.mk (blk_drew BK146.out); have n3_ := Aside0.mk (blk_drew BK147.out); have n4_ := Aside0.mk (blk_drew BK150.out); have n5_ := Aside0.mk (blk_drew BK155.out); have n6_ := Aside0.mk (below_drew1 HB.out); clear HO_6 BK145 BK146 BK147 BK150 BK155 HB; have HO_6 := n0_; have BK145 := n1_; have BK146 := n2_; have BK147 := n3_; have BK150 := n4_; have BK155 := n5_; have HB := n6_; clear n0_ n1_ n2_ n3_ n4_ n5_ n6_
                   have p157 : 0 ≤ (x11_5 : Int) := of_decide_eq_true (by first | (with_reducible assumption) | assumption)
                   have q157 : x11_5 < (x6_4.length : Int) := of_decide_eq_true (by first | (with_reducible assumption) | assumption)
                   obtain ⟨ad157, e157, hx157_0, hx157_1⟩ := at_T50 (Kd.R_reads' HO_6.out).2.2 x11_5 p157 q157
                   obtain rfl : ad156 = ad157 := (by injection e157)
                   replace p157 := eq_true p157; replace q157 := eq_true q157
                   refine start_ (n := 14) (S := fun w' => w'.cell? ⟨gb155, 0, none⟩ = some (.int .i64 (pk2 x33_4 t151 t153)) ∧ w'.cell? ⟨gb155, 1, none⟩ = some (.int .i64 (pk2 x33_4 t152 t154)) ∧ w'.cell? (ad156.add ((x11_5).toNat * 2)) = some (.int .i64 ((rd_T50 x6_4 x11_5).f0)) ∧ w'.cell? ⟨(ad156.add ((x11_5).toNat * 2)).block, (ad156.add ((x11_5).toNat * 2)).off + 1, none⟩ = some (.int .i64 ((rd_T50 x6_4 x11_5).f1))) (ds := []) #[false, false, false, false, false, false, false, false, false, false, false, false, false, false] (by kernel_rfl) rfl rfl ⟨hcz BK155 0, hcz BK155 1, hx157_0, hx157_1⟩ (fun hHeld => ?_); refine with_tabW linear_Add.tab14 linear_Add.bits14 (fun HT_ HW_ => ?_)
                   generalize w76.drew = w78 at HO_6 BK145 BK146 BK147 BK150 BK155 HB hx157_0 hx157_1 hHeld ⊢
                   refine pureQ 0 55 HT_.out ?_; refine pureQ 1 56 HT_.out ?_; refine pureQ 2 57 HT_.out ?_; refine pureQ 3 58 HT_.out ?_; refine pureQ 4 59 HT_.out ?_; refine pureQ 5 60 HT_.out ?_; refine pureQ 6 61 HT_.out ?_; refine pureQ 7 62 HT_.out ?_; refine pureQ 8 63 HT_.out ?_; refine pureQ 10 65 HT_.out ?_; refine takeQ 9 64 HT_.out HW_.out hHeld ?_; refine takeQ 11 66 HT_.out HW_.out hHeld ?_; refine pureQ 12 67 HT_.out ?_; refine pureQ 13 68 HT_.out ?_
                   refine done_ (done_of HT_.out (by kernel_rfl)) ?_
                   try go_wp2
                   have n0_ := Aside0.mk (Kd.R_drew HO_6.out); have n1_ := Aside0.mk (blk_drew BK145.out); have n2_ := Aside0.mk (blk_drew BK146.out); have n3_ := Aside0.mk (blk_drew BK147.out); have n4_ := Aside0.mk (blk_drew BK150.out); have n5_ := Aside0.mk (blk_drew BK155.out); have n6_ := Aside0.mk (below_drew1 HB.out); clear HO_6 BK145 BK146 BK147 BK150 BK155 HB; have HO_6 := n0_; have BK145 := n1_; have BK146 := n2_; have BK147 := n3_; have BK150 := n4_; have BK155 := n5_; have HB := n6_; clear n0_ n1_ n2_ n3_ n4_ n5_ n6_
                   have q80 : (x11_5 : Int) ≤ ((x6_4.length : Int) : Int) := of_decide_eq_true (by first | (with_reducible assumption) | assumption)
                   obtain ⟨i080, hi080, _, hsz80, _⟩ := info_parts info50
                   have hroom80 : x6_4.length ≤ co77 := (Kd.R_reads' HO_6.out).2.1
                   have hC80 : Kd.C k50 _ (some ad156) x6_4.length x6_4 := (Kd.R_reads' HO_6.out).2.2
                   have hcut80 := cut_full (P := Try.prog) 57 50 .i64 Try.underlying57 hi080 (some ad156) x6_4.length co77 x11_5 (of_decide_eq_true (by first | (with_reducible assumption) | assumption)) q80 hroom80
                   have hr80 := Kd.C_take (m := (x11_5 : Int).toNat) hC80 (by omega)
                   have hy80 : y160.length = (x11_5 : Int).toNat := (by rw [Ny160.out, List.length_take]; omega)
                   rw [← Ny160.out] at hr80
                   rw [← hy80] at hcut80
                   have HR163 := Aside0.mk hr80
                   have HC163 := Aside0.mk (show y160.length ≤ (y160.length) from by omega)
                   clear hr80 hC80 hroom80 hi080 hsz80; have KY80 := Aside0.mk hy80; clear hy80
                   have KL80 := Aside0.mk (show (x11_5 : Int).toNat ≤ x6_4.length from by omega)
                   replace q80 := eq_true q80
                   have q81 : (x11_5 : Int) ≤ ((x6_4.length : Int) : Int) := of_decide_eq_true (by first | (with_reducible assumption) | assumption)
                   obtain ⟨i081, hi081, _, hsz81, _⟩ := info_parts info50
                   have hroom81 : x6_4.length ≤ co77 := (Kd.R_reads' HO_6.out).2.1
                   have hC81 : Kd.C k50 _ (some ad156) x6_4.length x6_4 := (Kd.R_reads' HO_6.out).2.2
                   have q081 : (0 : Int) ≤ (x11_5 : Int) := of_decide_eq_true (by first | (with_reducible assumption) | assumption)
                   have hcut81 := cut_from (P := Try.prog) 57 50 .i64 Try.underlying57 hi081 2 hsz81 (some ad156) x6_4.length co77 x11_5 q081 q81
                   have hr81 := Kd.C_drop (m := (x11_5 : Int).toNat) (c := co77) hC81 (by omega) hroom81
                   obtain ⟨A81, hA81⟩ : ∃ A1, A1 = (if co77 = (x11_5 : Int).toNat then (some ad156) else ((some ad156) : Option Addr).map (·.add ((x11_5 : Int).toNat * 2))) := ⟨_, rfl⟩
                   obtain ⟨c81, hc81⟩ : ∃ c1, c1 = co77 - (x11_5 : Int).toNat := ⟨_, rfl⟩
                   have hy81 : y167.length = x6_4.length - (x11_5 : Int).toNat := (by rw [Ny167.out, List.length_drop] <;> omega)
                   rw [show (x6_4).drop (x11_5 : Int).toNat = y167 from Ny167.out.symm] at hr81
                   replace hr81 : Kd.C k50 _ A81 y167.length y167 := (by rw [hA81]; exact hr81)
                   rw [← hy81, ← hA81, ← hc81] at hcut81
                   have HR170 := Aside0.mk hr81
                   have HC170 := Aside0.mk (show y167.length ≤ c81 from by rw [hy81, hc81]; exact Nat.sub_le_sub_right hroom81 _)
                   clear hr81 hC81 hroom81 hi081 hsz81 hc81; have KY81 := Aside0.mk hy81; have KA81 := Aside0.mk hA81; clear hy81 hA81
                   have KL81 := Aside0.mk (show (x11_5 : Int).toNat ≤ x6_4.length from by omega)
                   replace q81 := eq_true q81
                   refine start_ (n := 12) (S := fun w' => w'.cell? ⟨gb155, 0, none⟩ = some (.int .i64 (pk2 x33_4 t151 t153)) ∧ w'.cell? ⟨gb155, 1, none⟩ = some (.int .i64 (pk2 x33_4 t152 t154))) (ds := []) #[false, false, false, false, false, false, false, false, false, false, false, false] (by kernel_rfl) rfl rfl ⟨hcz BK155 0, hcz BK155 1⟩ (fun hHeld => ?_); refine with_tabW linear_Add.tab16 linear_Add.bits16 (fun HT_ HW_ => ?_)
                   generalize w78.drew = w79 at HO_6 BK145 BK146 BK147 BK150 BK155 HB HR163 HR170 hHeld ⊢
                   refine pureQ 0 79 HT_.out ?_; refine pureQ 1 80 HT_.out ?_; refine pureQ 2 81 HT_.out ?_; refine pureQ 3 82 HT_.out ?_; refine pureQ 6 85 HT_.out ?_; refine pureQ 7 86 HT_.out ?_; refine pureQ 8 87 HT_.out ?_; refine takeQ 4 83 HT_.out HW_.out hHeld ?_
                   refine oneQ 5 84 HT_.out (fun K hK => ?_)
                   refine Kd.R_lit_step k50 _ 50 ?hg (N := 84) ?hd (xs := ([(⟨(pk2 x33_4 t151 t153), (pk2 x33_4 t152 t154)⟩ : S50)] : List (S50))) (inner := [.int .i64 (pk2 x33_4 t151 t153), .int .i64 (pk2 x33_4 t152 t154)]) (ok := fun _ => True) (okp := fun _ => True) ?hr ?hp (fun _ hk => hk) trivial (Below.refl _ _) (Nat.le_refl _) (by simp) ?_; (case hd => rfl); (case hg => rfl); (case hr => first | (go_simp; done) | (go_simp; rfl)); (case hp => exact (Reps.c2 (show Kd.M k50 _ _ _ (⟨(pk2 x33_4 t151 t153), (pk2 x33_4 t152 t154)⟩ : S50) [.int .i64 (pk2 x33_4 t151 t153), .int .i64 (pk2 x33_4 t152 t154)] from (k50_mkM _ _ _ (⟨(pk2 x33_4 t151 t153), (pk2 x33_4 t152 t154)⟩ : S50) )) (Reps.none _ _)))
                   intro v165 w82 ho83 hb hg_ hnew_
                   clear hg_ hnew_
                   (first | rw [← Ny164.out] at ho83 | (simp only [Int.reduceToNat] at ho83; rw [← Ny164.out] at ho83))
                   have n0_ := Aside0.mk (Kd.R_elder' (rup HO_6) (Kd.R_base ho83) hb)
                   have n1_ := Aside0.mk (Kd.R_lower (Kd.R_newB (Kd.R_new' ho83 (Kd.R_lt (rup HO_6))) (g := gb155) (o := .cells #[.int .i64 (pk2 x33_4 t151 t153), .int .i64 (pk2 x33_4 t152 t154)] 50 (0, 0)) (pk BK155.out)) (below_size (by repeat (first | (with_reducible first | exact HB.out | apply below_alloc | apply pw_below_drewN | apply below_drew1 | refine below_set ?_ GE145.out | refine below_set ?_ GE146.out | refine below_set ?_ GE147.out | refine below_set ?_ GE150.out | refine below_set ?_ GE155.out) | exact HB.out))))
                   have n2_ := Aside0.mk (Kd.C_below (cup HR163) hb)
                   have n3_ := Aside0.mk (Kd.C_below (cup HR170) hb)
                   have n4_ := bst HB hb
                   replace BK145 := bbw BK145 hb; replace BK146 := bbw BK146 hb; replace BK147 := bbw BK147 hb; replace BK150 := bbw BK150 hb; replace BK155 := bbw BK155 hb; clear HO_6 HR163 HR170 HB; have HO_6 := n0_; have HO166 := n1_; have HR163 := n2_; have HR170 := n3_; have HB := n4_; clear n0_ n1_ n2_ n3_ n4_ hb ho83
                   refine hK.out _ _ ⟨hcz BK155 0, hcz BK155 1⟩ (fun hHeld => ?_)
                   clear hK K
                   refine normQ (N := 84) ?_
                   refine oneQ 9 88 HT_.out (fun K hK => ?_)
                   refine Kd.R_append_rows_step k50 (w0 := w) w.heap.size (by rfl) (.tmp 84) (.tmp 87) 57 50 (.agg #[(.int .i64 0), (.int .i64 0)]) 16 rfl Try.underlying57 info50 rfl (by decide) (by omega) v165 y164 y167 _ _ _ (fun k_ => some k_ ≠ (.slice (some ad156) x6_4.length co77 : Value).ownBlock ∧ k_ ≠ gb155) (fun _ => False) rfl rfl ?aO ?aR (fun _ _ h => h) (fun _ h => h.elim) ?aF ?aB ?aS ?aL ?_
                   (case aR => repeat (first | exact (cup HR170) | (with_reducible refine Kd.C_alloc ?_ _) | (with_reducible refine Kd.C_drewN ?_ _) | (with_reducible refine Kd.C_drew ?_)))
                   (case aB => exact (by repeat (first | (with_reducible first | exact HB.out | apply below_alloc | apply pw_below_drewN | apply below_drew1 | refine below_set ?_ GE145.out | refine below_set ?_ GE146.out | refine below_set ?_ GE147.out | refine below_set ?_ GE150.out | refine below_set ?_ GE155.out) | exact HB.out)))
                   (case aF => exact (fun k_ hk => ⟨Kd.fresh' (Kd.R_lt (rup HO_6)) k_ hk, Kd.freshB (g := gb155) (o := .cells #[.int .i64 (pk2 x33_4 t151 t153), .int .i64 (pk2 x33_4 t152 t154)] 50 (0, 0)) (pk BK155.out) k_ hk⟩))
                   (case aO => exact (by (with_reducible repeat (first | apply Kd.R_alloc | apply Kd.R_drewN | apply Kd.R_drew)); exact Kd.R_mono HO166.out (fun _ hk => ⟨hk.1.2, hk.2⟩)))
                   (case aS => exact (below_size (by repeat (first | (with_reducible first | exact HB.out | apply below_alloc | apply pw_below_drewN | apply below_drew1 | refine below_set ?_ GE145.out | refine below_set ?_ GE146.out | refine below_set ?_ GE147.out | refine below_set ?_ GE150.out | refine below_set ?_ GE155.out) | exact HB.out))))
                   (case aL => have := LMc74.out; omega)
                   intro v172 w84 ho hb hg hat
                   rw [← Ny171.out] at ho
                   have n0_ := Aside0.mk (Kd.R_after (ok := (fun k_ => k_ ≠ gb155)) (rup HO_6) hg hat)
                   have n1_ := Aside0.mk (blk_grown (g := gb145) (o := .cells #[.int .i64 a0_0, .int .i64 a0_1, .int .i64 a0_2, .int .i64 a0_3, .int .i64 a0_4] 23 (0, 0)) (pk BK145.out) hg (Kd.R_ne HO166.out BK145.out (by decide)))
                   have n2_ := Aside0.mk (blk_grown (g := gb146) (o := .cells #[.int .i64 a1_0, .int .i64 a1_1, .int .i64 a1_2, .int .i64 a1_3, .int .i64 a1_4] 23 (0, 0)) (pk BK146.out) hg (Kd.R_ne HO166.out BK146.out (by decide)))
                   have n3_ := Aside0.mk (blk_grown (g := gb147) (o := .cells #[.int .i64 0, .int .i64 0, .int .i64 0, .int .i64 0, .int .i64 0] 23 (0, 0)) (pk BK147.out) hg (Kd.R_ne HO166.out BK147.out (by decide)))
                   have n4_ := Aside0.mk (blk_grown (g := gb150) (o := .cells #[.int .i64 (pk2 x28_3 a0_0 a1_0), .int .i64 (pk2 x28_3 a0_1 a1_1), .int .i64 (pk2 x28_3 a0_2 a1_2), .int .i64 (pk2 x28_3 a0_3 a1_3), .int .i64 (pk2 x28_3 a0_4 a1_4)] 23 (0, 0)) (pk BK150.out) hg (Kd.R_ne HO166.out BK150.out (by decide)))
                   have n5_ := Aside0.mk (blk_grown (g := gb155) (o := .cells #[.int .i64 (pk2 x33_4 t151 t153), .int .i64 (pk2 x33_4 t152 t154)] 50 (0, 0)) (pk BK155.out) hg (Kd.R_away HO166.out (fun _ hk => hk.2)))
                   have n6_ := Aside0.mk (hb)
                   have n7_ := Aside0.mk ((show Kd.C k50 w84 (some ad156) y160.length y160 from by rw [Ny160.out]; exact Kd.C_take (m := (x11_5 : Int).toNat) ((Kd.R_reads' (Kd.R_after (ok := (fun k_ => k_ ≠ gb155)) (rup HO_6) hg hat)).2.2) KL80.out))
                   have n8_ := Aside0.mk ((show Kd.C k50 w84 A81 y167.length y167 from by rw [Ny167.out, KA81.out]; exact Kd.C_drop (m := (x11_5 : Int).toNat) (c := co77) ((Kd.R_reads' (Kd.R_after (ok := (fun k_ => k_ ≠ gb155)) (rup HO_6) hg hat)).2.2) KL81.out ((Kd.R_reads' (Kd.R_after (ok := (fun k_ => k_ ≠ gb155)) (rup HO_6) hg hat)).2.1)))
                   have n9_ := Aside0.mk (ho)
                   clear HO_6 BK145 BK146 BK147 BK150 BK155 HB HR163 HR170 HO166; have HO_6 := n0_; have BK145 := n1_; have BK146 := n2_; have BK147 := n3_; have BK150 := n4_; have BK155 := n5_; have HB := n6_; have HR163 := n7_; have HR170 := n8_; have HO173 := n9_; clear n0_ n1_ n2_ n3_ n4_ n5_ n6_ n7_ n8_ n9_ ho hb hg hat
                   obtain ⟨Ao86, co86, eo86⟩ := Kd.R_slice HO173.out
                   (first | subst eo86 | (injection eo86 with f1_ f2_ f3_; have f4_ := f1_.symm; have f5_ := f3_.symm; clear f1_ f2_ f3_; subst f4_; subst f5_))
                   refine hK.out _ _ ⟨hcz BK155 0, hcz BK155 1⟩ (fun hHeld => ?_)
                   clear hK K
                   refine normQ (N := 88) ?_
                   refine oneQ 10 89 HT_.out (fun K hK => ?_)
                   refine Kd.R_append_full_step k50 (w0 := w) w.heap.size (by rfl) (.tmp 82) (.tmp 88) 57 50 (.agg #[(.int .i64 0), (.int .i64 0)]) 16 rfl Try.underlying57 info50 rfl (by decide) (by omega) y160 y171 _ _ _ _ _ (fun k_ => some k_ ≠ (.slice (some ad156) x6_4.length co77 : Value).ownBlock ∧ some k_ ≠ (.slice Ao86 y171.length co86 : Value).ownBlock ∧ k_ ≠ gb155) (fun _ => False) rfl rfl ?aO ?aX ?aR ?aM (fun _ _ h => h) (fun _ _ h => h) (fun _ h => h.elim) ?aF ?aB ?aS ?aL ?_
                   (case aX => repeat (first | exact (cup HR163) | (with_reducible refine Kd.C_alloc ?_ _) | (with_reducible refine Kd.C_drewN ?_ _) | (with_reducible refine Kd.C_drew ?_)))
                   (case aM => have e_ := congrArg List.length Ny171.out; (try rw [List.length_append, Ny164.out] at e_); simp only [List.length_cons, List.length_nil] at e_; omega)
                   (case aR => repeat (first | exact (Kd.R_reads' HO173.out).2.2 | (with_reducible refine Kd.C_alloc ?_ _) | (with_reducible refine Kd.C_drewN ?_ _) | (with_reducible refine Kd.C_drew ?_)))
                   (case aB => exact (by repeat (first | (with_reducible first | exact HB.out | apply below_alloc | apply pw_below_drewN | apply below_drew1 | refine below_set ?_ GE145.out | refine below_set ?_ GE146.out | refine below_set ?_ GE147.out | refine below_set ?_ GE150.out | refine below_set ?_ GE155.out) | exact HB.out)))
                   (case aF => exact (fun k_ hk => ⟨Kd.fresh' (Kd.R_lt (rup HO_6)) k_ hk, Kd.fresh' (Kd.R_lt (rup HO173)) k_ hk, Kd.freshB (g := gb155) (o := .cells #[.int .i64 (pk2 x33_4 t151 t153), .int .i64 (pk2 x33_4 t152 t154)] 50 (0, 0)) (pk BK155.out) k_ hk⟩))
                   (case aO => exact ((Kd.R_nil _ _ _ _ (fun k_ => some k_ ≠ (.slice (some ad156) x6_4.length co77 : Value).ownBlock ∧ some k_ ≠ (.slice Ao86 y171.length co86 : Value).ownBlock ∧ k_ ≠ gb155))))
                   (case aS => exact (below_size (by repeat (first | (with_reducible first | exact HB.out | apply below_alloc | apply pw_below_drewN | apply below_drew1 | refine below_set ?_ GE145.out | refine below_set ?_ GE146.out | refine below_set ?_ GE147.out | refine below_set ?_ GE150.out | refine below_set ?_ GE155.out) | exact HB.out))))
                   (case aL => have := LMc75.out; omega)
                   intro v175 w85 ho hb hg hat
                   rw [← Ny174.out] at ho
                   have n0_ := Aside0.mk (Kd.R_after (Kd.R_apart_nil (rup HO_6)) hg hat)
                   have n1_ := Aside0.mk (blk_grown (g := gb145) (o := .cells #[.int .i64 a0_0, .int .i64 a0_1, .int .i64 a0_2, .int .i64 a0_3, .int .i64 a0_4] 23 (0, 0)) (pk BK145.out) hg (by simp [Value.ownBlock]))
                   have n2_ := Aside0.mk (blk_grown (g := gb146) (o := .cells #[.int .i64 a1_0, .int .i64 a1_1, .int .i64 a1_2, .int .i64 a1_3, .int .i64 a1_4] 23 (0, 0)) (pk BK146.out) hg (by simp [Value.ownBlock]))
                   have n3_ := Aside0.mk (blk_grown (g := gb147) (o := .cells #[.int .i64 0, .int .i64 0, .int .i64 0, .int .i64 0, .int .i64 0] 23 (0, 0)) (pk BK147.out) hg (by simp [Value.ownBlock]))
                   have n4_ := Aside0.mk (blk_grown (g := gb150) (o := .cells #[.int .i64 (pk2 x28_3 a0_0 a1_0), .int .i64 (pk2 x28_3 a0_1 a1_1), .int .i64 (pk2 x28_3 a0_2 a1_2), .int .i64 (pk2 x28_3 a0_3 a1_3), .int .i64 (pk2 x28_3 a0_4 a1_4)] 23 (0, 0)) (pk BK150.out) hg (by simp [Value.ownBlock]))
                   have n5_ := Aside0.mk (blk_grown (g := gb155) (o := .cells #[.int .i64 (pk2 x33_4 t151 t153), .int .i64 (pk2 x33_4 t152 t154)] 50 (0, 0)) (pk BK155.out) hg (by simp [Value.ownBlock]))
                   have n6_ := Aside0.mk (Kd.R_after (Kd.R_apart_nil (rup HO173)) hg hat)
                   have n7_ := Aside0.mk (hb)
                   have n8_ := Aside0.mk ((show Kd.C k50 w85 (some ad156) y160.length y160 from by rw [Ny160.out]; exact Kd.C_take (m := (x11_5 : Int).toNat) ((Kd.R_reads' (Kd.R_after (Kd.R_apart_nil (rup HO_6)) hg hat)).2.2) KL80.out))
                   have n9_ := Aside0.mk ((show Kd.C k50 w85 A81 y167.length y167 from by rw [Ny167.out, KA81.out]; exact Kd.C_drop (m := (x11_5 : Int).toNat) (c := co77) ((Kd.R_reads' (Kd.R_after (Kd.R_apart_nil (rup HO_6)) hg hat)).2.2) KL81.out ((Kd.R_reads' (Kd.R_after (Kd.R_apart_nil (rup HO_6)) hg hat)).2.1)))
                   have n10_ := Aside0.mk (ho)
                   clear HO_6 BK145 BK146 BK147 BK150 BK155 HO173 HB HR163 HR170; have HO_6 := n0_; have BK145 := n1_; have BK146 := n2_; have BK147 := n3_; have BK150 := n4_; have BK155 := n5_; have HO173 := n6_; have HB := n7_; have HR163 := n8_; have HR170 := n9_; have HO176 := n10_; clear n0_ n1_ n2_ n3_ n4_ n5_ n6_ n7_ n8_ n9_ n10_ ho hb hg hat
                   refine hK.out _ _ ⟨hcz BK155 0, hcz BK155 1⟩ (fun hHeld => ?_)
                   clear hK K
                   refine normQ (N := 89) ?_
                   refine pureQ 11 6 HT_.out ?_
                   refine done_ (done_of HT_.out (by kernel_rfl)) ?_
                   try go_wp2
                   go_roundg k5
                   case measure => have := HJ2.out; have := HJ24.out; have := HK3.out; have := HK4.out; have := HK5.out; omega
                   case rel => exact ⟨(y174), (wrap64 (x33_4 + 1)), (by first | rfl | (simp; done) | (simp [*]; done)), H', ⟨by have := HJ2.out; have := HJ24.out; have := HK3.out; have := HK4.out; have := HK5.out; omega⟩, ⟨by (with_reducible repeat (first | apply Kd.R_alloc | apply Kd.R_drewN | apply Kd.R_drew)); exact Kd.R_mono HO176.out (fun _ hk => trivial)⟩, pkA BK145, pkA BK146, pkA BK147, pkA BK150, bpk HB⟩
                ·
                 rw [if_neg c58] at H
                 have c58b0 : decide (x11_5 < (x6_4.length : Int)) = false := decide_eq_false c58
                 clear c58
                 by_cases c87 : 0 ≤ x11_5
                 case neg => rw [if_neg c87] at H; exact absurd H (by simp)
                 rw [if_pos c87] at H
                 have c87b0 := eq_true c87
                 have c87b1 : decide (0 ≤ x11_5) = true := decide_eq_true c87
                 clear c87
                 by_cases c88 : x11_5 ≤ (x6_4.length : Int)
                 case neg => rw [if_neg c88] at H; exact absurd H (by simp)
                 rw [if_pos c88] at H
                 have c88b0 := eq_true c88
                 have c88b1 : decide (x11_5 ≤ (x6_4.length : Int)) = true := decide_eq_true c88
                 clear c88
                 obtain ⟨y177, hy177⟩ : ∃ y_ : List (S50), y_ = (x6_4.take (x11_5 : Int).toNat) := ⟨_, rfl⟩
                 replace H : ((some (([(⟨(pk2 x33_4 t151 t153), (pk2 x33_4 t152 t154)⟩ : S50)] : List (S50)) : List (S50))).bind fun y181 => ((some (x6_4.drop (x11_5 : Int).toNat : List (S50))).bind fun y184 => (if y181.length + y184.length < 8796093022208 then ((some (y181 ++ y184 : List (S50))).bind fun y188 => (if y177.length + y188.length < 8796093022208 then (linear_Add.l1 k5 (y177 ++ y188) x28_3 (wrap64 (x33_4 + 1)) a0_0 a0_1 a0_2 a0_3 a0_4 a1_0 a1_1 a1_2 a1_3 a1_4 a0_0 a0_1 a0_2 a0_3 a0_4 a1_0 a1_1 a1_2 a1_3 a1_4 t151 t152 t153 t154) else (none))) else (none)))) = some (r1, r2, r3, r4, r5, r6) := by first | (rw [hy177]; with_reducible exact H) | (have H2_ := (Option.bind_some _ _).symm.trans H; rw [hy177]; with_reducible exact H2_) | (have H2_ := (Option.bind_some _ _).symm.trans H; with_reducible exact H2_) | with_reducible exact H | (rw [hy177]; exact H) | exact H
                 have Ny177 := Aside0.mk hy177; clear hy177
                 obtain ⟨y181, hy181⟩ : ∃ y_ : List (S50), y_ = (([(⟨(pk2 x33_4 t151 t153), (pk2 x33_4 t152 t154)⟩ : S50)] : List (S50))) := ⟨_, rfl⟩
                 replace H : ((some (x6_4.drop (x11_5 : Int).toNat : List (S50))).bind fun y184 => (if y181.length + y184.length < 8796093022208 then ((some (y181 ++ y184 : List (S50))).bind fun y188 => (if y177.length + y188.length < 8796093022208 then (linear_Add.l1 k5 (y177 ++ y188) x28_3 (wrap64 (x33_4 + 1)) a0_0 a0_1 a0_2 a0_3 a0_4 a1_0 a1_1 a1_2 a1_3 a1_4 a0_0 a0_1 a0_2 a0_3 a0_4 a1_0 a1_1 a1_2 a1_3 a1_4 t151 t152 t153 t154) else (none))) else (none))) = some (r1, r2, r3, r4, r5, r6) := by first | (rw [hy181]; with_reducible exact H) | (have H2_ := (Option.bind_some _ _).symm.trans H; rw [hy181]; with_reducible exact H2_) | (have H2_ := (Option.bind_some _ _).symm.trans H; with_reducible exact H2_) | with_reducible exact H | (rw [hy181]; exact H) | exact H
                 have Ny181 := Aside0.mk hy181; clear hy181
                 have c89b0 := eq_true (of_decide_eq_true (by first | (with_reducible assumption) | assumption) : 0 ≤ x11_5)
                 have c90b0 := eq_true (of_decide_eq_true (by first | (with_reducible assumption) | assumption) : x11_5 ≤ (x6_4.length : Int))
                 obtain ⟨y184, hy184⟩ : ∃ y_ : List (S50), y_ = (x6_4.drop (x11_5 : Int).toNat) := ⟨_, rfl⟩
                 replace H : (if y181.length + y184.length < 8796093022208 then ((some (y181 ++ y184 : List (S50))).bind fun y188 => (if y177.length + y188.length < 8796093022208 then (linear_Add.l1 k5 (y177 ++ y188) x28_3 (wrap64 (x33_4 + 1)) a0_0 a0_1 a0_2 a0_3 a0_4 a1_0 a1_1 a1_2 a1_3 a1_4 a0_0 a0_1 a0_2 a0_3 a0_4 a1_0 a1_1 a1_2 a1_3 a1_4 t151 t152 t153 t154) else (none))) else (none)) = some (r1, r2, r3, r4, r5, r6) := by first | (rw [hy184]; with_reducible exact H) | (have H2_ := (Option.bind_some _ _).symm.trans H; rw [hy184]; with_reducible exact H2_) | (have H2_ := (Option.bind_some _ _).symm.trans H; with_reducible exact H2_) | with_reducible exact H | (rw [hy184]; exact H) | exact H
                 have Ny184 := Aside0.mk hy184; clear hy184
                 by_cases c91 : y181.length + y184.length < 8796093022208
                 case neg => rw [if_neg c91] at H; exact absurd H (by simp)
                 rw [if_pos c91] at H; have LMc91 := Aside0.mk c91; clear c91
                 obtain ⟨y188, hy188⟩ : ∃ y_ : List (S50), y_ = (y181 ++ y184) := ⟨_, rfl⟩
                 replace H : (if y177.length + y188.length < 8796093022208 then (linear_Add.l1 k5 (y177 ++ y188) x28_3 (wrap64 (x33_4 + 1)) a0_0 a0_1 a0_2 a0_3 a0_4 a1_0 a1_1 a1_2 a1_3 a1_4 a0_0 a0_1 a0_2 a0_3 a0_4 a1_0 a1_1 a1_2 a1_3 a1_4 t151 t152 t153 t154) else (none)) = some (r1, r2, r3, r4, r5, r6) := by first | (rw [hy188]; with_reducible exact H) | (have H2_ := (Option.bind_some _ _).symm.trans H; rw [hy188]; with_reducible exact H2_) | (have H2_ := (Option.bind_some _ _).symm.trans H; with_reducible exact H2_) | with_reducible exact H | (rw [hy188]; exact H) | exact H
                 have Ny188 := Aside0.mk hy188; clear hy188
                 by_cases c92 : y177.length + y188.length < 8796093022208
                 case neg => rw [if_neg c92] at H; exact absurd H (by simp)
                 rw [if_pos c92] at H; have LMc92 := Aside0.mk c92; clear c92
                 obtain ⟨y191, hy191⟩ : ∃ y_ : List (S50), y_ = (y177 ++ y188) := ⟨_, rfl⟩
                 replace H : (linear_Add.l1 k5 y191 x28_3 (wrap64 (x33_4 + 1)) a0_0 a0_1 a0_2 a0_3 a0_4 a1_0 a1_1 a1_2 a1_3 a1_4 a0_0 a0_1 a0_2 a0_3 a0_4 a1_0 a1_1 a1_2 a1_3 a1_4 t151 t152 t153 t154) = some (r1, r2, r3, r4, r5, r6) := by first | (rw [hy191]; with_reducible exact H) | (have H2_ := (Option.bind_some _ _).symm.trans H; rw [hy191]; with_reducible exact H2_) | (have H2_ := (Option.bind_some _ _).symm.trans H; with_reducible exact H2_) | with_reducible exact H | (rw [hy191]; exact H) | exact H
                 have Ny191 := Aside0.mk hy191; clear hy191
                 have H' := Aside0.mk H
                 clear H
                 try go_wp2
                 have n0_ := Aside0.mk (Kd.R_drew HO_6.out); have n1_ := Aside0.mk (blk_drew BK145.out); have n2_ := Aside0.mk (blk_drew BK146.out); have n3_ := Aside0.mk (blk_drew BK147.out); have n4_ := Aside0.mk (blk_drew BK150.out); have n5_ := Aside0.mk (blk_drew BK155.out); have n6_ := Aside0.mk (below_drew1 HB.out); clear HO_6 BK145 BK146 BK147 BK150 BK155 HB; have HO_6 := n0_; have BK145 := n1_; have BK146 := n2_; have BK147 := n3_; have BK150 := n4_; have BK155 := n5_; have HB := n6_; clear n0_ n1_ n2_ n3_ n4_ n5_ n6_
                 obtain ⟨Ao94, co94, eo94⟩ := Kd.R_slice HO_6.out
                 (first | subst eo94 | (injection eo94 with f1_ f2_ f3_; have f4_ := f1_.symm; have f5_ := f3_.symm; clear f1_ f2_ f3_; subst f4_; subst f5_))
                 refine start_ (n := 14) (S := fun w' => True) (ds := []) #[false, false, false, false, false, false, false, false, false, false, false, false, false, false] (by kernel_rfl) rfl rfl trivial (fun hHeld => ?_); refine with_tabW linear_Add.tab12 linear_Add.bits12 (fun HT_ HW_ => ?_)
                 generalize wr.drew = w93 at HO_6 BK145 BK146 BK147 BK150 BK155 HB hHeld ⊢
                 refine pureQ 0 39 HT_.out ?_; refine pureQ 1 40 HT_.out ?_; refine pureQ 2 41 HT_.out ?_; refine pureQ 3 42 HT_.out ?_; refine pureQ 4 43 HT_.out ?_
                 refine pureU 5 44 HT_.out ?_
                 refine pureU 6 45 HT_.out ?_
                 refine pureU 7 46 HT_.out ?_
                 refine pureU 8 47 HT_.out ?_
                 refine pureU 9 48 HT_.out ?_
                 refine pureU 10 49 HT_.out ?_
                 refine pureU 11 50 HT_.out ?_
                 refine pureU 12 51 HT_.out ?_
                 refine pureQ 13 52 HT_.out ?_
                 refine done_ (done_of HT_.out (by kernel_rfl)) ?_
                 try go_wp2
                 have n0_ := Aside0.mk (Kd.R_drew HO_6.out); have n1_ := Aside0.mk (blk_drew BK145.out); have n2_ := Aside0.mk (blk_drew BK146.out); have n3_ := Aside0.mk (blk_drew BK147.out); have n4_ := Aside0.mk (blk_drew BK150.out); have n5_ := Aside0.mk (blk_drew BK155.out); have n6_ := Aside0.mk (below_drew1 HB.out); clear HO_6 BK145 BK146 BK147 BK150 BK155 HB; have HO_6 := n0_; have BK145 := n1_; have BK146 := n2_; have BK147 := n3_; have BK150 := n4_; have BK155 := n5_; have HB := n6_; clear n0_ n1_ n2_ n3_ n4_ n5_ n6_
                 refine start_ (n := 14) (S := fun w' => True) (ds := []) #[false, false, false, false, false, false, false, false, false, false, false, false, false, false] (by kernel_rfl) rfl rfl trivial (fun hHeld => ?_); refine with_tabW linear_Add.tab14 linear_Add.bits14 (fun HT_ HW_ => ?_)
                 generalize w93.drew = w95 at HO_6 BK145 BK146 BK147 BK150 BK155 HB hHeld ⊢
                 refine pureQ 0 55 HT_.out ?_; refine pureQ 1 56 HT_.out ?_; refine pureQ 2 57 HT_.out ?_; refine pureQ 3 58 HT_.out ?_; refine pureQ 4 59 HT_.out ?_
                 refine pureU 5 60 HT_.out ?_
                 refine pureU 6 61 HT_.out ?_
                 refine pureU 7 62 HT_.out ?_
                 refine pureU 8 63 HT_.out ?_
                 refine pureU 9 64 HT_.out ?_
                 refine pureU 10 65 HT_.out ?_
                 refine pureU 11 66 HT_.out ?_
                 refine pureU 12 67 HT_.out ?_
                 refine pureQ 13 68 HT_.out ?_
                 refine done_ (done_of HT_.out (by kernel_rfl)) ?_
                 try go_wp2
                 have n0_ := Aside0.mk (Kd.R_drew HO_6.out); have n1_ := Aside0.mk (blk_drew BK145.out); have n2_ := Aside0.mk (blk_drew BK146.out); have n3_ := Aside0.mk (blk_drew BK147.out); have n4_ := Aside0.mk (blk_drew BK150.out); have n5_ := Aside0.mk (blk_drew BK155.out); have n6_ := Aside0.mk (below_drew1 HB.out); clear HO_6 BK145 BK146 BK147 BK150 BK155 HB; have HO_6 := n0_; have BK145 := n1_; have BK146 := n2_; have BK147 := n3_; have BK150 := n4_; have BK155 := n5_; have HB := n6_; clear n0_ n1_ n2_ n3_ n4_ n5_ n6_
                 have q97 : (x11_5 : Int) ≤ ((x6_4.length : Int) : Int) := of_decide_eq_true (by first | (with_reducible assumption) | assumption)
                 obtain ⟨i097, hi097, _, hsz97, _⟩ := info_parts info50
                 have hroom97 : x6_4.length ≤ co94 := (Kd.R_reads' HO_6.out).2.1
                 have hC97 : Kd.C k50 _ Ao94 x6_4.length x6_4 := (Kd.R_reads' HO_6.out).2.2
                 have hcut97 := cut_full (P := Try.prog) 57 50 .i64 Try.underlying57 hi097 Ao94 x6_4.length co94 x11_5 (of_decide_eq_true (by first | (with_reducible assumption) | assumption)) q97 hroom97
                 have hr97 := Kd.C_take (m := (x11_5 : Int).toNat) hC97 (by omega)
                 have hy97 : y177.length = (x11_5 : Int).toNat := (by rw [Ny177.out, List.length_take]; omega)
                 rw [← Ny177.out] at hr97
                 rw [← hy97] at hcut97
                 have HR180 := Aside0.mk hr97
                 have HC180 := Aside0.mk (show y177.length ≤ (y177.length) from by omega)
                 clear hr97 hC97 hroom97 hi097 hsz97; have KY97 := Aside0.mk hy97; clear hy97
                 have KL97 := Aside0.mk (show (x11_5 : Int).toNat ≤ x6_4.length from by omega)
                 replace q97 := eq_true q97
                 have q98 : (x11_5 : Int) ≤ ((x6_4.length : Int) : Int) := of_decide_eq_true (by first | (with_reducible assumption) | assumption)
                 obtain ⟨i098, hi098, _, hsz98, _⟩ := info_parts info50
                 have hroom98 : x6_4.length ≤ co94 := (Kd.R_reads' HO_6.out).2.1
                 have hC98 : Kd.C k50 _ Ao94 x6_4.length x6_4 := (Kd.R_reads' HO_6.out).2.2
                 have q098 : (0 : Int) ≤ (x11_5 : Int) := of_decide_eq_true (by first | (with_reducible assumption) | assumption)
                 have hcut98 := cut_from (P := Try.prog) 57 50 .i64 Try.underlying57 hi098 2 hsz98 Ao94 x6_4.length co94 x11_5 q098 q98
                 have hr98 := Kd.C_drop (m := (x11_5 : Int).toNat) (c := co94) hC98 (by omega) hroom98
                 obtain ⟨A98, hA98⟩ : ∃ A1, A1 = (if co94 = (x11_5 : Int).toNat then Ao94 else (Ao94 : Option Addr).map (·.add ((x11_5 : Int).toNat * 2))) := ⟨_, rfl⟩
                 obtain ⟨c98, hc98⟩ : ∃ c1, c1 = co94 - (x11_5 : Int).toNat := ⟨_, rfl⟩
                 have hy98 : y184.length = x6_4.length - (x11_5 : Int).toNat := (by rw [Ny184.out, List.length_drop] <;> omega)
                 rw [show (x6_4).drop (x11_5 : Int).toNat = y184 from Ny184.out.symm] at hr98
                 replace hr98 : Kd.C k50 _ A98 y184.length y184 := (by rw [hA98]; exact hr98)
                 rw [← hy98, ← hA98, ← hc98] at hcut98
                 have HR187 := Aside0.mk hr98
                 have HC187 := Aside0.mk (show y184.length ≤ c98 from by rw [hy98, hc98]; exact Nat.sub_le_sub_right hroom98 _)
                 clear hr98 hC98 hroom98 hi098 hsz98 hc98; have KY98 := Aside0.mk hy98; have KA98 := Aside0.mk hA98; clear hy98 hA98
                 have KL98 := Aside0.mk (show (x11_5 : Int).toNat ≤ x6_4.length from by omega)
                 replace q98 := eq_true q98
                 refine start_ (n := 12) (S := fun w' => w'.cell? ⟨gb155, 0, none⟩ = some (.int .i64 (pk2 x33_4 t151 t153)) ∧ w'.cell? ⟨gb155, 1, none⟩ = some (.int .i64 (pk2 x33_4 t152 t154))) (ds := []) #[false, false, false, false, false, false, false, false, false, false, false, false] (by kernel_rfl) rfl rfl ⟨hcz BK155 0, hcz BK155 1⟩ (fun hHeld => ?_); refine with_tabW linear_Add.tab16 linear_Add.bits16 (fun HT_ HW_ => ?_)
                 generalize w95.drew = w96 at HO_6 BK145 BK146 BK147 BK150 BK155 HB HR180 HR187 hHeld ⊢
                 refine pureQ 0 79 HT_.out ?_; refine pureQ 1 80 HT_.out ?_; refine pureQ 2 81 HT_.out ?_; refine pureQ 3 82 HT_.out ?_; refine pureQ 6 85 HT_.out ?_; refine pureQ 7 86 HT_.out ?_; refine pureQ 8 87 HT_.out ?_; refine takeQ 4 83 HT_.out HW_.out hHeld ?_
                 refine oneQ 5 84 HT_.out (fun K hK => ?_)
                 refine Kd.R_lit_step k50 _ 50 ?hg (N := 84) ?hd (xs := ([(⟨(pk2 x33_4 t151 t153), (pk2 x33_4 t152 t154)⟩ : S50)] : List (S50))) (inner := [.int .i64 (pk2 x33_4 t151 t153), .int .i64 (pk2 x33_4 t152 t154)]) (ok := fun _ => True) (okp := fun _ => True) ?hr ?hp (fun _ hk => hk) trivial (Below.refl _ _) (Nat.le_refl _) (by simp) ?_; (case hd => rfl); (case hg => rfl); (case hr => first | (go_simp; done) | (go_simp; rfl)); (case hp => exact (Reps.c2 (show Kd.M k50 _ _ _ (⟨(pk2 x33_4 t151 t153), (pk2 x33_4 t152 t154)⟩ : S50) [.int .i64 (pk2 x33_4 t151 t153), .int .i64 (pk2 x33_4 t152 t154)] from (k50_mkM _ _ _ (⟨(pk2 x33_4 t151 t153), (pk2 x33_4 t152 t154)⟩ : S50) )) (Reps.none _ _)))
                 intro v182 w99 ho100 hb hg_ hnew_
                 clear hg_ hnew_
                 (first | rw [← Ny181.out] at ho100 | (simp only [Int.reduceToNat] at ho100; rw [← Ny181.out] at ho100))
                 have n0_ := Aside0.mk (Kd.R_elder' (rup HO_6) (Kd.R_base ho100) hb)
                 have n1_ := Aside0.mk (Kd.R_lower (Kd.R_newB (Kd.R_new' ho100 (Kd.R_lt (rup HO_6))) (g := gb155) (o := .cells #[.int .i64 (pk2 x33_4 t151 t153), .int .i64 (pk2 x33_4 t152 t154)] 50 (0, 0)) (pk BK155.out)) (below_size (by repeat (first | (with_reducible first | exact HB.out | apply below_alloc | apply pw_below_drewN | apply below_drew1 | refine below_set ?_ GE145.out | refine below_set ?_ GE146.out | refine below_set ?_ GE147.out | refine below_set ?_ GE150.out | refine below_set ?_ GE155.out) | exact HB.out))))
                 have n2_ := Aside0.mk (Kd.C_below (cup HR180) hb)
                 have n3_ := Aside0.mk (Kd.C_below (cup HR187) hb)
                 have n4_ := bst HB hb
                 replace BK145 := bbw BK145 hb; replace BK146 := bbw BK146 hb; replace BK147 := bbw BK147 hb; replace BK150 := bbw BK150 hb; replace BK155 := bbw BK155 hb; clear HO_6 HR180 HR187 HB; have HO_6 := n0_; have HO183 := n1_; have HR180 := n2_; have HR187 := n3_; have HB := n4_; clear n0_ n1_ n2_ n3_ n4_ hb ho100
                 refine hK.out _ _ ⟨hcz BK155 0, hcz BK155 1⟩ (fun hHeld => ?_)
                 clear hK K
                 refine normQ (N := 84) ?_
                 refine oneQ 9 88 HT_.out (fun K hK => ?_)
                 refine Kd.R_append_rows_step k50 (w0 := w) w.heap.size (by rfl) (.tmp 84) (.tmp 87) 57 50 (.agg #[(.int .i64 0), (.int .i64 0)]) 16 rfl Try.underlying57 info50 rfl (by decide) (by omega) v182 y181 y184 _ _ _ (fun k_ => some k_ ≠ (.slice Ao94 x6_4.length co94 : Value).ownBlock ∧ k_ ≠ gb155) (fun _ => False) rfl rfl ?aO ?aR (fun _ _ h => h) (fun _ h => h.elim) ?aF ?aB ?aS ?aL ?_
                 (case aR => repeat (first | exact (cup HR187) | (with_reducible refine Kd.C_alloc ?_ _) | (with_reducible refine Kd.C_drewN ?_ _) | (with_reducible refine Kd.C_drew ?_)))
                 (case aB => exact (by repeat (first | (with_reducible first | exact HB.out | apply below_alloc | apply pw_below_drewN | apply below_drew1 | refine below_set ?_ GE145.out | refine below_set ?_ GE146.out | refine below_set ?_ GE147.out | refine below_set ?_ GE150.out | refine below_set ?_ GE155.out) | exact HB.out)))
                 (case aF => exact (fun k_ hk => ⟨Kd.fresh' (Kd.R_lt (rup HO_6)) k_ hk, Kd.freshB (g := gb155) (o := .cells #[.int .i64 (pk2 x33_4 t151 t153), .int .i64 (pk2 x33_4 t152 t154)] 50 (0, 0)) (pk BK155.out) k_ hk⟩))
                 (case aO => exact (by (with_reducible repeat (first | apply Kd.R_alloc | apply Kd.R_drewN | apply Kd.R_drew)); exact Kd.R_mono HO183.out (fun _ hk => ⟨hk.1.2, hk.2⟩)))
                 (case aS => exact (below_size (by repeat (first | (with_reducible first | exact HB.out | apply below_alloc | apply pw_below_drewN | apply below_drew1 | refine below_set ?_ GE145.out | refine below_set ?_ GE146.out | refine below_set ?_ GE147.out | refine below_set ?_ GE150.out | refine below_set ?_ GE155.out) | exact HB.out))))
                 (case aL => have := LMc91.out; omega)
                 intro v189 w101 ho hb hg hat
                 rw [← Ny188.out] at ho
                 have n0_ := Aside0.mk (Kd.R_after (ok := (fun k_ => k_ ≠ gb155)) (rup HO_6) hg hat)
                 have n1_ := Aside0.mk (blk_grown (g := gb145) (o := .cells #[.int .i64 a0_0, .int .i64 a0_1, .int .i64 a0_2, .int .i64 a0_3, .int .i64 a0_4] 23 (0, 0)) (pk BK145.out) hg (Kd.R_ne HO183.out BK145.out (by decide)))
                 have n2_ := Aside0.mk (blk_grown (g := gb146) (o := .cells #[.int .i64 a1_0, .int .i64 a1_1, .int .i64 a1_2, .int .i64 a1_3, .int .i64 a1_4] 23 (0, 0)) (pk BK146.out) hg (Kd.R_ne HO183.out BK146.out (by decide)))
                 have n3_ := Aside0.mk (blk_grown (g := gb147) (o := .cells #[.int .i64 0, .int .i64 0, .int .i64 0, .int .i64 0, .int .i64 0] 23 (0, 0)) (pk BK147.out) hg (Kd.R_ne HO183.out BK147.out (by decide)))
                 have n4_ := Aside0.mk (blk_grown (g := gb150) (o := .cells #[.int .i64 (pk2 x28_3 a0_0 a1_0), .int .i64 (pk2 x28_3 a0_1 a1_1), .int .i64 (pk2 x28_3 a0_2 a1_2), .int .i64 (pk2 x28_3 a0_3 a1_3), .int .i64 (pk2 x28_3 a0_4 a1_4)] 23 (0, 0)) (pk BK150.out) hg (Kd.R_ne HO183.out BK150.out (by decide)))
                 have n5_ := Aside0.mk (blk_grown (g := gb155) (o := .cells #[.int .i64 (pk2 x33_4 t151 t153), .int .i64 (pk2 x33_4 t152 t154)] 50 (0, 0)) (pk BK155.out) hg (Kd.R_away HO183.out (fun _ hk => hk.2)))
                 have n6_ := Aside0.mk (hb)
                 have n7_ := Aside0.mk ((show Kd.C k50 w101 Ao94 y177.length y177 from by rw [Ny177.out]; exact Kd.C_take (m := (x11_5 : Int).toNat) ((Kd.R_reads' (Kd.R_after (ok := (fun k_ => k_ ≠ gb155)) (rup HO_6) hg hat)).2.2) KL97.out))
                 have n8_ := Aside0.mk ((show Kd.C k50 w101 A98 y184.length y184 from by rw [Ny184.out, KA98.out]; exact Kd.C_drop (m := (x11_5 : Int).toNat) (c := co94) ((Kd.R_reads' (Kd.R_after (ok := (fun k_ => k_ ≠ gb155)) (rup HO_6) hg hat)).2.2) KL98.out ((Kd.R_reads' (Kd.R_after (ok := (fun k_ => k_ ≠ gb155)) (rup HO_6) hg hat)).2.1)))
                 have n9_ := Aside0.mk (ho)
                 clear HO_6 BK145 BK146 BK147 BK150 BK155 HB HR180 HR187 HO183; have HO_6 := n0_; have BK145 := n1_; have BK146 := n2_; have BK147 := n3_; have BK150 := n4_; have BK155 := n5_; have HB := n6_; have HR180 := n7_; have HR187 := n8_; have HO190 := n9_; clear n0_ n1_ n2_ n3_ n4_ n5_ n6_ n7_ n8_ n9_ ho hb hg hat
                 obtain ⟨Ao103, co103, eo103⟩ := Kd.R_slice HO190.out
                 (first | subst eo103 | (injection eo103 with f1_ f2_ f3_; have f4_ := f1_.symm; have f5_ := f3_.symm; clear f1_ f2_ f3_; subst f4_; subst f5_))
                 refine hK.out _ _ ⟨hcz BK155 0, hcz BK155 1⟩ (fun hHeld => ?_)
                 clear hK K
                 refine normQ (N := 88) ?_
                 refine oneQ 10 89 HT_.out (fun K hK => ?_)
                 refine Kd.R_append_full_step k50 (w0 := w) w.heap.size (by rfl) (.tmp 82) (.tmp 88) 57 50 (.agg #[(.int .i64 0), (.int .i64 0)]) 16 rfl Try.underlying57 info50 rfl (by decide) (by omega) y177 y188 _ _ _ _ _ (fun k_ => some k_ ≠ (.slice Ao94 x6_4.length co94 : Value).ownBlock ∧ some k_ ≠ (.slice Ao103 y188.length co103 : Value).ownBlock ∧ k_ ≠ gb155) (fun _ => False) rfl rfl ?aO ?aX ?aR ?aM (fun _ _ h => h) (fun _ _ h => h) (fun _ h => h.elim) ?aF ?aB ?aS ?aL ?_
                 (case aX => repeat (first | exact (cup HR180) | (with_reducible refine Kd.C_alloc ?_ _) | (with_reducible refine Kd.C_drewN ?_ _) | (with_reducible refine Kd.C_drew ?_)))
                 (case aM => have e_ := congrArg List.length Ny188.out; (try rw [List.length_append, Ny181.out] at e_); simp only [List.length_cons, List.length_nil] at e_; omega)
                 (case aR => repeat (first | exact (Kd.R_reads' HO190.out).2.2 | (with_reducible refine Kd.C_alloc ?_ _) | (with_reducible refine Kd.C_drewN ?_ _) | (with_reducible refine Kd.C_drew ?_)))
                 (case aB => exact (by repeat (first | (with_reducible first | exact HB.out | apply below_alloc | apply pw_below_drewN | apply below_drew1 | refine below_set ?_ GE145.out | refine below_set ?_ GE146.out | refine below_set ?_ GE147.out | refine below_set ?_ GE150.out | refine below_set ?_ GE155.out) | exact HB.out)))
                 (case aF => exact (fun k_ hk => ⟨Kd.fresh' (Kd.R_lt (rup HO_6)) k_ hk, Kd.fresh' (Kd.R_lt (rup HO190)) k_ hk, Kd.freshB (g := gb155) (o := .cells #[.int .i64 (pk2 x33_4 t151 t153), .int .i64 (pk2 x33_4 t152 t154)] 50 (0, 0)) (pk BK155.out) k_ hk⟩))
                 (case aO => exact ((Kd.R_nil _ _ _ _ (fun k_ => some k_ ≠ (.slice Ao94 x6_4.length co94 : Value).ownBlock ∧ some k_ ≠ (.slice Ao103 y188.length co103 : Value).ownBlock ∧ k_ ≠ gb155))))
                 (case aS => exact (below_size (by repeat (first | (with_reducible first | exact HB.out | apply below_alloc | apply pw_below_drewN | apply below_drew1 | refine below_set ?_ GE145.out | refine below_set ?_ GE146.out | refine below_set ?_ GE147.out | refine below_set ?_ GE150.out | refine below_set ?_ GE155.out) | exact HB.out))))
                 (case aL => have := LMc92.out; omega)
                 intro v192 w102 ho hb hg hat
                 rw [← Ny191.out] at ho
                 have n0_ := Aside0.mk (Kd.R_after (Kd.R_apart_nil (rup HO_6)) hg hat)
                 have n1_ := Aside0.mk (blk_grown (g := gb145) (o := .cells #[.int .i64 a0_0, .int .i64 a0_1, .int .i64 a0_2, .int .i64 a0_3, .int .i64 a0_4] 23 (0, 0)) (pk BK145.out) hg (by simp [Value.ownBlock]))
                 have n2_ := Aside0.mk (blk_grown (g := gb146) (o := .cells #[.int .i64 a1_0, .int .i64 a1_1, .int .i64 a1_2, .int .i64 a1_3, .int .i64 a1_4] 23 (0, 0)) (pk BK146.out) hg (by simp [Value.ownBlock]))
                 have n3_ := Aside0.mk (blk_grown (g := gb147) (o := .cells #[.int .i64 0, .int .i64 0, .int .i64 0, .int .i64 0, .int .i64 0] 23 (0, 0)) (pk BK147.out) hg (by simp [Value.ownBlock]))
                 have n4_ := Aside0.mk (blk_grown (g := gb150) (o := .cells #[.int .i64 (pk2 x28_3 a0_0 a1_0), .int .i64 (pk2 x28_3 a0_1 a1_1), .int .i64 (pk2 x28_3 a0_2 a1_2), .int .i64 (pk2 x28_3 a0_3 a1_3), .int .i64 (pk2 x28_3 a0_4 a1_4)] 23 (0, 0)) (pk BK150.out) hg (by simp [Value.ownBlock]))
                 have n5_ := Aside0.mk (blk_grown (g := gb155) (o := .cells #[.int .i64 (pk2 x33_4 t151 t153), .int .i64 (pk2 x33_4 t152 t154)] 50 (0, 0)) (pk BK155.out) hg (by simp [Value.ownBlock]))
                 have n6_ := Aside0.mk (Kd.R_after (Kd.R_apart_nil (rup HO190)) hg hat)
                 have n7_ := Aside0.mk (hb)
                 have n8_ := Aside0.mk ((show Kd.C k50 w102 Ao94 y177.length y177 from by rw [Ny177.out]; exact Kd.C_take (m := (x11_5 : Int).toNat) ((Kd.R_reads' (Kd.R_after (Kd.R_apart_nil (rup HO_6)) hg hat)).2.2) KL97.out))
                 have n9_ := Aside0.mk ((show Kd.C k50 w102 A98 y184.length y184 from by rw [Ny184.out, KA98.out]; exact Kd.C_drop (m := (x11_5 : Int).toNat) (c := co94) ((Kd.R_reads' (Kd.R_after (Kd.R_apart_nil (rup HO_6)) hg hat)).2.2) KL98.out ((Kd.R_reads' (Kd.R_after (Kd.R_apart_nil (rup HO_6)) hg hat)).2.1)))
                 have n10_ := Aside0.mk (ho)
                 clear HO_6 BK145 BK146 BK147 BK150 BK155 HO190 HB HR180 HR187; have HO_6 := n0_; have BK145 := n1_; have BK146 := n2_; have BK147 := n3_; have BK150 := n4_; have BK155 := n5_; have HO190 := n6_; have HB := n7_; have HR180 := n8_; have HR187 := n9_; have HO193 := n10_; clear n0_ n1_ n2_ n3_ n4_ n5_ n6_ n7_ n8_ n9_ n10_ ho hb hg hat
                 refine hK.out _ _ ⟨hcz BK155 0, hcz BK155 1⟩ (fun hHeld => ?_)
                 clear hK K
                 refine normQ (N := 89) ?_
                 refine pureQ 11 6 HT_.out ?_
                 refine done_ (done_of HT_.out (by kernel_rfl)) ?_
                 try go_wp2
                 go_roundg k5
                 case measure => have := HJ2.out; have := HJ24.out; have := HK3.out; have := HK4.out; have := HK5.out; omega
                 case rel => exact ⟨(y191), (wrap64 (x33_4 + 1)), (by first | rfl | (simp; done) | (simp [*]; done)), H', ⟨by have := HJ2.out; have := HJ24.out; have := HK3.out; have := HK4.out; have := HK5.out; omega⟩, ⟨by (with_reducible repeat (first | apply Kd.R_alloc | apply Kd.R_drewN | apply Kd.R_drew)); exact Kd.R_mono HO193.out (fun _ hk => trivial)⟩, pkA BK145, pkA BK146, pkA BK147, pkA BK150, bpk HB⟩
            ·
             rw [if_neg c41] at H
             have c41b0 : decide (x33_4 < 2) = false := decide_eq_false c41
             clear c41
             have H' := Aside0.mk H
             clear H
             go_wp2
             go_roundg k4
             case measure => have := HJ2.out; have := HJ24.out; have := HK3.out; have := HK4.out; omega
             case rel => exact ⟨(x6_4), (wrap64 (x28_3 + 1)), (by first | rfl | (simp; done) | (simp [*]; done)), H', ⟨by have := HJ2.out; have := HJ24.out; have := HK3.out; have := HK4.out; omega⟩, ⟨rup HO_6⟩, pkA BK145, pkA BK146, pkA BK147, bpk HB⟩
         ·
          rw [if_neg c31] at H
          have c31b0 : decide (x28_3 < 2) = false := decide_eq_false c31
          clear c31
          have H' := Aside0.mk H
          clear H; have hnb104 := nn NB145_146 NB146_145; have hnb105 := nn NB145_147 NB147_145
          obtain ⟨hcz106_0, hcz106_1, hcz106_2, hcz106_3, hcz106_4, hfz106_0, hfz106_1, hfz106_2, hfz106_3, hfz106_4⟩ := hcf5 BK145
          have hnb107 := nn NB146_147 NB147_146
          obtain ⟨hcz108_0, hcz108_1, hcz108_2, hcz108_3, hcz108_4, hfz108_0, hfz108_1, hfz108_2, hfz108_3, hfz108_4⟩ := hcf5 BK146
          go_wp2_with (first | ((with_reducible refine gate_dst (N := 12) rfl ?_); refine box_event ?hg (N := 12) ?hd (cs := #[.int .i64 0, .int .i64 0, .int .i64 0, .int .i64 0, .int .i64 0]) (t := 23) ?hr ?_; (case hd => rfl); (case hg => rfl); (case hr => first | (go_simp; done) | (go_simp; rfl)); intro gb194 hg w109 hbox hb; have n0_ := rbw HO_6 hb; have n1_ := bst HB hb; have n2_ := Aside0.mk (hbox); have n3_ := bsz HB hg; have n4_ := bsz HB hg; have n5_ := bn1 BK145 hg; have n6_ := bn2 BK145 hg; have n7_ := bn1 BK146 hg; have n8_ := bn2 BK146 hg; have n9_ := bn1 BK147 hg; have n10_ := bn2 BK147 hg; replace BK145 := bbw BK145 hb; replace BK146 := bbw BK146 hb; replace BK147 := bbw BK147 hb; clear HO_6; clear HB; have HO_6 := n0_; have HB := n1_; have BK194 := n2_; have GW194 := n3_; have GE194 := n4_; have NB145_194 := n5_; have NB194_145 := n6_; have NB146_194 := n7_; have NB194_146 := n8_; have NB147_194 := n9_; have NB194_147 := n10_; clear n0_ n1_ n2_ n3_ n4_ n5_ n6_ n7_ n8_ n9_ n10_; clear hb hbox hg; have hnb110 := nn NB194_145 NB145_194; have hnb111 := nn NB194_146 NB146_194; have hnb112 := nn NB194_147 NB147_194; obtain ⟨hcz113_0, hcz113_1, hcz113_2, hcz113_3, hcz113_4, hfz113_0, hfz113_1, hfz113_2, hfz113_3, hfz113_4⟩ := hcf5 BK194; obtain ⟨Ao114, co114, eo114⟩ := Kd.R_slice HO_6.out; subst eo114))
          go_loopg [13, 100] k3 (fun kq v13 v100 w' => ∃ (x13_4 : Int) (x100_4 : Int) (x195000_4 : Int) (x195001_4 : Int) (x195002_4 : Int) (x195003_4 : Int), v13 = .int .i64 x13_4 ∧ v100 = .int .i64 x100_4 ∧ Aside0 (linear_Add.l3 kq x13_4 x6_3 (x6_3.length : Int) x100_4 x195000_4 x195001_4 x195002_4 x195003_4 (wrap64 (a0_4 + a1_4)) = some (r1, r2, r3, r4, r5, r6)) ∧ Aside0 (kq ≤ k3) ∧ Aside0 (Kd.R k50 50 w' w.heap.size (fun _ => True) (.slice Ao114 x6_3.length co114) x6_3) ∧ Aside0 (w'.heap[gb145]? = some (.cells #[.int .i64 a0_0, .int .i64 a0_1, .int .i64 a0_2, .int .i64 a0_3, .int .i64 a0_4] 23 (0, 0))) ∧ Aside0 (w'.heap[gb146]? = some (.cells #[.int .i64 a1_0, .int .i64 a1_1, .int .i64 a1_2, .int .i64 a1_3, .int .i64 a1_4] 23 (0, 0))) ∧ Aside0 (w'.heap[gb147]? = some (.cells #[.int .i64 0, .int .i64 0, .int .i64 0, .int .i64 0, .int .i64 0] 23 (0, 0))) ∧ Aside0 (w'.heap[gb194]? = some (.cells #[.int .i64 x195000_4, .int .i64 x195001_4, .int .i64 x195002_4, .int .i64 x195003_4, .int .i64 (wrap64 (a0_4 + a1_4))] 23 (0, 0))) ∧ Aside0 (Below w.heap.size w w'))
          case atStart => exact ⟨(0), (0), (0), (0), (0), (0), (by first | rfl | (simp; done) | (simp [*]; done)), (by first | rfl | (simp; done) | (simp [*]; done)), H', ⟨Nat.le_refl _⟩, ⟨by (with_reducible repeat (first | apply Kd.R_alloc | apply Kd.R_drewN | apply Kd.R_drew)); exact Kd.R_mono (Kd.R_far (p := ⟨gb194, 4, none⟩) (Kd.R_far (p := ⟨gb194, 3, none⟩) (Kd.R_far (p := ⟨gb194, 2, none⟩) (Kd.R_far (p := ⟨gb194, 1, none⟩) (Kd.R_far (p := ⟨gb194, 0, none⟩) (Kd.R_types HO_6.out BK194.out (by decide)) (fun _ hk => hk.2) (.int .i64 0)) (fun _ hk => hk.2) (.int .i64 0)) (fun _ hk => hk.2) (.int .i64 0)) (fun _ hk => hk.2) (.int .i64 0)) (fun _ hk => hk.2) (.int .i64 (wrap64 (a0_4 + a1_4)))) (fun _ hk => trivial)⟩, ⟨pkF BK145⟩, ⟨pkF BK146⟩, ⟨pkF BK147⟩, ⟨by refine pkB ?_; refine bput (cs := #[.int .i64 0, .int .i64 0, .int .i64 0, .int .i64 0, .int .i64 0]) 4 ?_; refine bput (cs := #[.int .i64 0, .int .i64 0, .int .i64 0, .int .i64 0, .int .i64 0]) 3 ?_; refine bput (cs := #[.int .i64 0, .int .i64 0, .int .i64 0, .int .i64 0, .int .i64 0]) 2 ?_; refine bput (cs := #[.int .i64 0, .int .i64 0, .int .i64 0, .int .i64 0, .int .i64 0]) 1 ?_; refine bput (cs := #[.int .i64 0, .int .i64 0, .int .i64 0, .int .i64 0, .int .i64 0]) 0 ?_; exact BK194.out⟩, bpk HB⟩
          case round =>
           clear H'
           (try clear c1); (try clear c2); (try clear p2); (try clear c3); (try clear c4); (try clear p6); (try clear c8); (try clear c9); (try clear q9); (try clear c10); (try clear c11); (try clear c31); (try clear c31b0); (try clear c32); (try clear c41); (try clear c41b0); (try clear c42); (try clear p64); (try clear c87); (try clear c88); (try clear c91); (try clear c92); (try clear q97); (try clear c98); (try clear q98); (try clear c104); (try clear c105); (try clear c107); (try clear c110); (try clear c111); (try clear c112); (try clear hcz106_0 hcz106_1 hcz106_2 hcz106_3 hcz106_4); (try clear hcz108_0 hcz108_1 hcz108_2 hcz108_3 hcz108_4); (try clear hcz113_0 hcz113_1 hcz113_2 hcz113_3 hcz113_4); (try clear hfz106_0 hfz106_1 hfz106_2 hfz106_3 hfz106_4); (try clear hfz108_0 hfz108_1 hfz108_2 hfz108_3 hfz108_4); (try clear hfz113_0 hfz113_1 hfz113_2 hfz113_3 hfz113_4); (try clear q098); (try clear q97); (try clear q98); obtain ⟨x13_4, x100_4, x195000_4, x195001_4, x195002_4, x195003_4, rfl, rfl, HA, HK4, HO_98, BK145, BK146, BK147, BK194, HB⟩ := hrel
           cases gk with
           | zero => exact absurd HA.out (by simp [linear_Add.l3])
           | succ k4 =>
            have H := HA.out
            clear HA
            simp only [linear_Add.l3] at H
            by_cases c115 : x100_4 < (x6_3.length : Int)
            ·
             rw [if_pos c115] at H
             have c115b0 : decide (x100_4 < (x6_3.length : Int)) = true := decide_eq_true c115
             clear c115
             by_cases c116 : 0 ≤ x100_4
             case neg => rw [if_neg c116] at H; exact absurd H (by simp)
             rw [if_pos c116] at H
             have c116b0 : decide (0 ≤ x100_4) = true := decide_eq_true c116
             clear c116
             by_cases c117 : x100_4 < (x6_3.length : Int)
             case neg => rw [if_neg c117] at H; exact absurd H (by simp)
             rw [if_pos c117] at H
             have c117b0 : decide (x100_4 < (x6_3.length : Int)) = true := decide_eq_true c117
             clear c117
             by_cases c118 : ((rd_T50 x6_3 x100_4).f1) = 0
             ·
              rw [if_pos c118] at H
              have c118b0 : (((rd_T50 x6_3 x100_4).f1) == 0) = true := beq_iff_eq.mpr c118
              have c118b1 : (((rd_T50 x6_3 x100_4).f1) != 0) = false := bne_eq_false_iff_eq.mpr c118
              clear c118
              have H' := Aside0.mk H
              clear H
              have p119 : 0 ≤ (x100_4 : Int) := of_decide_eq_true (by first | (with_reducible assumption) | assumption)
              have q119 : (x100_4 : Int) < ((x6_3.length : Int) : Int) := of_decide_eq_true (by first | (with_reducible assumption) | assumption)
              obtain ⟨go119, co119, eo119, gb119, gl119, cl119, HG119⟩ := Kd.R_form HO_98.out (by omega)
              (first | cases eo119 | (injection eo119 with ea_ en_ ec_; (first | subst ea_ | (injection ea_ with ea_; subst ea_)); subst ec_; clear en_))
              have GB119 := Aside0.mk gb119; have GG119 := Aside0.mk HG119; clear gb119 gl119 HG119 p119 q119
              have p196 : 0 ≤ (x100_4 : Int) := of_decide_eq_true (by first | (with_reducible assumption) | assumption)
              have q196 : x100_4 < (x6_3.length : Int) := of_decide_eq_true (by first | (with_reducible assumption) | assumption)
              obtain ⟨ad196, e196, hx196_0, hx196_1⟩ := at_T50 (Kd.R_reads' HO_98.out).2.2 x100_4 p196 q196
              obtain rfl : (⟨go119, 0, none⟩ : Addr) = ad196 := (by injection e196)
              (first | simp only [add_plain] at hx196_0 | simp only [add_at] at hx196_0 | simp only [Addr.add, Nat.zero_add] at hx196_0 | skip)
              (first | simp only [add_plain] at hx196_1 | simp only [add_at] at hx196_1 | simp only [Addr.add, Nat.zero_add] at hx196_1 | skip)
              replace p196 := eq_true p196; replace q196 := eq_true q196
              go_wp2_with (first | ((with_reducible refine gate_dst (N := 15) rfl ?_); refine box_event ?hg (N := 15) ?hd (cs := #[.int .i64 0, .int .i64 0]) (t := 50) ?hr ?_; (case hd => rfl); (case hg => rfl); (case hr => first | (go_simp; done) | (go_simp; rfl)); intro gb197 hg w120 hbox hb; have n0_ := Aside0.mk (Kd.R_below (Kd.R_elderB (rup HO_98) gb197 (Nat.le_of_eq hg.symm)) hb); have n1_ := bst HB hb; have n2_ := Aside0.mk (hbox); have n3_ := bsz HB hg; have n4_ := bsz HB hg; have n5_ := bn1 BK145 hg; have n6_ := bn2 BK145 hg; have n7_ := bn1 BK146 hg; have n8_ := bn2 BK146 hg; have n9_ := bn1 BK147 hg; have n10_ := bn2 BK147 hg; have n11_ := bn1 BK194 hg; have n12_ := bn2 BK194 hg; replace BK145 := bbw BK145 hb; replace BK146 := bbw BK146 hb; replace BK147 := bbw BK147 hb; replace BK194 := bbw BK194 hb; clear HO_98; clear HB; have HO_98 := n0_; have HB := n1_; have BK197 := n2_; have GW197 := n3_; have GE197 := n4_; have NB145_197 := n5_; have NB197_145 := n6_; have NB146_197 := n7_; have NB197_146 := n8_; have NB147_197 := n9_; have NB197_147 := n10_; have NB194_197 := n11_; have NB197_194 := n12_; clear n0_ n1_ n2_ n3_ n4_ n5_ n6_ n7_ n8_ n9_ n10_ n11_ n12_; clear hb hbox hg; have hnb121 := nn NB197_145 NB145_197; have hnb122 := nn NB197_146 NB146_197; have hnb123 := nn NB197_147 NB147_197; have hnb124 := nn NB197_194 NB194_197; obtain ⟨hcz125_0, hcz125_1, hfz125_0, hfz125_1⟩ := hcf2 BK197))
              go_roundg k4
              case measure => have := HJ2.out; have := HJ24.out; have := HK3.out; have := HK4.out; omega
              case rel => exact ⟨(x13_4), (wrap64 (x100_4 + 1)), (x195000_4), (x195001_4), (x195002_4), (x195003_4), (by first | rfl | (simp; done) | (simp [*]; done)), (by first | rfl | (simp; done) | (simp [*]; done)), H', ⟨by have := HJ2.out; have := HJ24.out; have := HK3.out; have := HK4.out; omega⟩, ⟨by (with_reducible repeat (first | apply Kd.R_alloc | apply Kd.R_drewN | apply Kd.R_drew)); exact Kd.R_mono (Kd.R_far (p := ⟨gb197, 1, none⟩) (Kd.R_far (p := ⟨gb197, 0, none⟩) (Kd.R_mono HO_98.out (fun k_ hk => (⟨hk, hk.2⟩ : _ ∧ k_ ≠ gb197))) (fun _ hk => hk.2) (.int .i64 ((rd_T50 x6_3 x100_4).f0))) (fun _ hk => hk.2) (.int .i64 ((rd_T50 x6_3 x100_4).f1))) (fun _ hk => trivial)⟩, far2 BK145 NB145_197, far2 BK146 NB146_197, far2 BK147 NB147_197, far2 BK194 NB194_197, bpk HB⟩
             ·
              rw [if_neg c118] at H
              have c118b0 : (((rd_T50 x6_3 x100_4).f1) == 0) = false := beq_eq_false_iff_ne.mpr c118
              have c118b1 : (((rd_T50 x6_3 x100_4).f1) != 0) = true := bne_iff_ne.mpr c118
              by_cases c126 : x13_4 = 0
              ·
               rw [if_pos c126] at H
               have c126b0 : (x13_4 == 0) = true := beq_iff_eq.mpr c126
               have c126b1 : (x13_4 != 0) = false := bne_eq_false_iff_eq.mpr c126
               clear c126
               have H' := Aside0.mk H
               clear H
               have p127 : 0 ≤ (x100_4 : Int) := of_decide_eq_true (by first | (with_reducible assumption) | assumption)
               have q127 : (x100_4 : Int) < ((x6_3.length : Int) : Int) := of_decide_eq_true (by first | (with_reducible assumption) | assumption)
               obtain ⟨go127, co127, eo127, gb127, gl127, cl127, HG127⟩ := Kd.R_form HO_98.out (by omega)
               (first | cases eo127 | (injection eo127 with ea_ en_ ec_; (first | subst ea_ | (injection ea_ with ea_; subst ea_)); subst ec_; clear en_))
               have GB127 := Aside0.mk gb127; have GG127 := Aside0.mk HG127; clear gb127 gl127 HG127 p127 q127
               have p196 : 0 ≤ (x100_4 : Int) := of_decide_eq_true (by first | (with_reducible assumption) | assumption)
               have q196 : x100_4 < (x6_3.length : Int) := of_decide_eq_true (by first | (with_reducible assumption) | assumption)
               obtain ⟨ad196, e196, hx196_0, hx196_1⟩ := at_T50 (Kd.R_reads' HO_98.out).2.2 x100_4 p196 q196
               obtain rfl : (⟨go127, 0, none⟩ : Addr) = ad196 := (by injection e196)
               (first | simp only [add_plain] at hx196_0 | simp only [add_at] at hx196_0 | simp only [Addr.add, Nat.zero_add] at hx196_0 | skip)
               (first | simp only [add_plain] at hx196_1 | simp only [add_at] at hx196_1 | simp only [Addr.add, Nat.zero_add] at hx196_1 | skip)
               replace p196 := eq_true p196; replace q196 := eq_true q196
               try go_wp2_with (first | ((with_reducible refine gate_dst (N := 15) rfl ?_); refine box_event ?hg (N := 15) ?hd (cs := #[.int .i64 0, .int .i64 0]) (t := 50) ?hr ?_; (case hd => rfl); (case hg => rfl); (case hr => first | (go_simp; done) | (go_simp; rfl)); intro gb197 hg w128 hbox hb; have n0_ := Aside0.mk (Kd.R_below (Kd.R_elderB (rup HO_98) gb197 (Nat.le_of_eq hg.symm)) hb); have n1_ := bst HB hb; have n2_ := Aside0.mk (hbox); have n3_ := bsz HB hg; have n4_ := bsz HB hg; have n5_ := bn1 BK145 hg; have n6_ := bn2 BK145 hg; have n7_ := bn1 BK146 hg; have n8_ := bn2 BK146 hg; have n9_ := bn1 BK147 hg; have n10_ := bn2 BK147 hg; have n11_ := bn1 BK194 hg; have n12_ := bn2 BK194 hg; replace BK145 := bbw BK145 hb; replace BK146 := bbw BK146 hb; replace BK147 := bbw BK147 hb; replace BK194 := bbw BK194 hb; clear HO_98; clear HB; have HO_98 := n0_; have HB := n1_; have BK197 := n2_; have GW197 := n3_; have GE197 := n4_; have NB145_197 := n5_; have NB197_145 := n6_; have NB146_197 := n7_; have NB197_146 := n8_; have NB147_197 := n9_; have NB197_147 := n10_; have NB194_197 := n11_; have NB197_194 := n12_; clear n0_ n1_ n2_ n3_ n4_ n5_ n6_ n7_ n8_ n9_ n10_ n11_ n12_; clear hb hbox hg; have hnb129 := nn NB197_145 NB145_197; have hnb130 := nn NB197_146 NB146_197; have hnb131 := nn NB197_147 NB147_197; have hnb132 := nn NB197_194 NB194_197; obtain ⟨hcz133_0, hcz133_1, hfz133_0, hfz133_1⟩ := hcf2 BK197))
               have n0_ : Aside0 (Kd.R k50 50 ((w128.setCell ⟨gb197, 0, none⟩ (.int .i64 ((rd_T50 x6_3 x100_4).f0))).setCell ⟨gb197, 1, none⟩ (.int .i64 ((rd_T50 x6_3 x100_4).f1))) w.heap.size (fun k_ => k_ ≠ gb197) (.slice (some ⟨go127, 0, none⟩) x6_3.length co114) x6_3) := ⟨by (with_reducible repeat (first | apply Kd.R_alloc | apply Kd.R_drewN | apply Kd.R_drew)); exact Kd.R_mono (Kd.R_far (p := ⟨gb197, 1, none⟩) (Kd.R_far (p := ⟨gb197, 0, none⟩) (Kd.R_mono HO_98.out (fun k_ hk => (⟨hk, hk.2⟩ : _ ∧ k_ ≠ gb197))) (fun _ hk => hk.2) (.int .i64 ((rd_T50 x6_3 x100_4).f0))) (fun _ hk => hk.2) (.int .i64 ((rd_T50 x6_3 x100_4).f1))) (fun _ hk => hk.1.2)⟩
               have n1_ : Aside0 (((w128.setCell ⟨gb197, 0, none⟩ (.int .i64 ((rd_T50 x6_3 x100_4).f0))).setCell ⟨gb197, 1, none⟩ (.int .i64 ((rd_T50 x6_3 x100_4).f1))).heap[gb145]? = some (.cells #[.int .i64 a0_0, .int .i64 a0_1, .int .i64 a0_2, .int .i64 a0_3, .int .i64 a0_4] 23 (0, 0))) := far2 BK145 NB145_197
               have n2_ : Aside0 (((w128.setCell ⟨gb197, 0, none⟩ (.int .i64 ((rd_T50 x6_3 x100_4).f0))).setCell ⟨gb197, 1, none⟩ (.int .i64 ((rd_T50 x6_3 x100_4).f1))).heap[gb146]? = some (.cells #[.int .i64 a1_0, .int .i64 a1_1, .int .i64 a1_2, .int .i64 a1_3, .int .i64 a1_4] 23 (0, 0))) := far2 BK146 NB146_197
               have n3_ : Aside0 (((w128.setCell ⟨gb197, 0, none⟩ (.int .i64 ((rd_T50 x6_3 x100_4).f0))).setCell ⟨gb197, 1, none⟩ (.int .i64 ((rd_T50 x6_3 x100_4).f1))).heap[gb147]? = some (.cells #[.int .i64 0, .int .i64 0, .int .i64 0, .int .i64 0, .int .i64 0] 23 (0, 0))) := far2 BK147 NB147_197
               have n4_ : Aside0 (((w128.setCell ⟨gb197, 0, none⟩ (.int .i64 ((rd_T50 x6_3 x100_4).f0))).setCell ⟨gb197, 1, none⟩ (.int .i64 ((rd_T50 x6_3 x100_4).f1))).heap[gb194]? = some (.cells #[.int .i64 x195000_4, .int .i64 x195001_4, .int .i64 x195002_4, .int .i64 x195003_4, .int .i64 (wrap64 (a0_4 + a1_4))] 23 (0, 0))) := far2 BK194 NB194_197
               have n5_ : Aside0 (((w128.setCell ⟨gb197, 0, none⟩ (.int .i64 ((rd_T50 x6_3 x100_4).f0))).setCell ⟨gb197, 1, none⟩ (.int .i64 ((rd_T50 x6_3 x100_4).f1))).heap[gb197]? = some (.cells #[.int .i64 ((rd_T50 x6_3 x100_4).f0), .int .i64 ((rd_T50 x6_3 x100_4).f1)] 50 (0, 0))) := ⟨by refine pkB ?_; refine bput (cs := #[.int .i64 ((rd_T50 x6_3 x100_4).f0), .int .i64 0]) 1 ?_; refine bput (cs := #[.int .i64 0, .int .i64 0]) 0 ?_; exact BK197.out⟩
               have n6_ : Aside0 (Below w.heap.size w ((w128.setCell ⟨gb197, 0, none⟩ (.int .i64 ((rd_T50 x6_3 x100_4).f0))).setCell ⟨gb197, 1, none⟩ (.int .i64 ((rd_T50 x6_3 x100_4).f1)))) := bpk HB
               (try clear HO_98); (try clear BK145); (try clear BK146); (try clear BK147); (try clear BK194); (try clear BK197); (try clear HB)
               generalize ((w128.setCell ⟨gb197, 0, none⟩ (.int .i64 ((rd_T50 x6_3 x100_4).f0))).setCell ⟨gb197, 1, none⟩ (.int .i64 ((rd_T50 x6_3 x100_4).f1))) = w134 at n0_ n1_ n2_ n3_ n4_ n5_ n6_ ⊢
               have HO_98 := n0_; have BK145 := n1_; have BK146 := n2_; have BK147 := n3_; have BK194 := n4_; have BK197 := n5_; have HB := n6_; clear n0_ n1_ n2_ n3_ n4_ n5_ n6_; have n0_ := Aside0.mk (Kd.R_drew HO_98.out); have n1_ := Aside0.mk (blk_drew BK145.out); have n2_ := Aside0.mk (blk_drew BK146.out); have n3_ := Aside0.mk (blk_drew BK147.out); have n4_ := Aside0.mk (blk_drew BK194.out); have n5_ := Aside0.mk (blk_drew BK197.out); have n6_ := Aside0.mk (below_drew1 HB.out); clear HO_98 BK145 BK146 BK147 BK194 BK197 HB; have HO_98 := n0_; have BK145 := n1_; have BK146 := n2_; have BK147 := n3_; have BK194 := n4_; have BK197 := n5_; have HB := n6_; clear n0_ n1_ n2_ n3_ n4_ n5_ n6_
               refine start_ (n := 8) (S := fun w' => w'.cell? ⟨gb197, 0, none⟩ = some (.int .i64 ((rd_T50 x6_3 x100_4).f0)) ∧ w'.cell? ⟨gb197, 1, none⟩ = some (.int .i64 ((rd_T50 x6_3 x100_4).f1))) (ds := []) #[false, false, false, false, false, false, false, false] (by kernel_rfl) rfl rfl ⟨hcz BK197 0, hcz BK197 1⟩ (fun hHeld => ?_); refine with_tabW linear_Add.tab26 linear_Add.bits26 (fun HT_ HW_ => ?_)
               generalize w134.drew = w135 at HO_98 BK145 BK146 BK147 BK194 BK197 HB hHeld ⊢
               refine pureQ 0 111 HT_.out ?_; refine pureQ 2 113 HT_.out ?_; refine takeQ 1 112 HT_.out HW_.out hHeld ?_; refine pureQ 4 115 HT_.out ?_; refine takeQ 3 114 HT_.out HW_.out hHeld ?_
               refine one_ (i := 5) (N := none) #[true, true, true, true, true, true, false, false] rfl rfl (one_of HT_.out (by kernel_rfl)) (by decide) (fun K hK => ?_)
               have hs136 : w135.cell? ⟨gb194, 0, none⟩ = some (.int .i64 x195000_4) := hcz BK194 0
               have hfs136 := bfz BK194 0
               have hns136_0 := NB145_194.out
               have hns136_1 := NB146_194.out
               have hns136_2 := NB147_194.out
               have hns136_4 := NB197_194.out
               have hms136_0 := NB194_145.out
               have hms136_1 := NB194_146.out
               have hms136_2 := NB194_147.out
               have hms136_4 := NB194_197.out
               refine skip_ (w1 := ?_) (by rfl) rfl ?_ ?_
               rotate_left
               ·
                go_simp
                rfl
               refine hK.out _ _ ⟨((cell_far (p := ⟨gb194, _, none⟩) NB197_194.out _).trans (hHeld.1)), ((cell_far (p := ⟨gb194, _, none⟩) NB197_194.out _).trans (hHeld.2))⟩ (fun hHeld => ?_)
               clear hK K; refine pureQ 6 116 HT_.out ?_
               refine one_ (i := 7) (N := none) #[true, true, true, true, true, true, true, true] rfl rfl (one_of HT_.out (by kernel_rfl)) (by decide) (fun K hK => ?_)
               have hs137 : w135.cell? ⟨gb194, 1, none⟩ = some (.int .i64 x195001_4) := hcz BK194 1
               have hfs137 := bfz BK194 1
               have hns137_0 := NB145_194.out
               have hns137_1 := NB146_194.out
               have hns137_2 := NB147_194.out
               have hns137_4 := NB197_194.out
               have hms137_0 := NB194_145.out
               have hms137_1 := NB194_146.out
               have hms137_2 := NB194_147.out
               have hms137_4 := NB194_197.out
               refine skip_ (w1 := ?_) (by rfl) rfl ?_ ?_
               rotate_left
               ·
                go_simp
                rfl
               refine hK.out _ _ ⟨((cell_far (p := ⟨gb194, _, none⟩) NB197_194.out _).trans (hHeld.1)), ((cell_far (p := ⟨gb194, _, none⟩) NB197_194.out _).trans (hHeld.2))⟩ (fun hHeld => ?_)
               clear hK K
               refine done_ (done_of HT_.out (by kernel_rfl)) ?_
               try go_wp2
               go_roundg k4
               case measure => have := HJ2.out; have := HJ24.out; have := HK3.out; have := HK4.out; omega
               case rel => exact ⟨(wrap64 (x13_4 + 1)), (wrap64 (x100_4 + 1)), ((rd_T50 x6_3 x100_4).f0), ((rd_T50 x6_3 x100_4).f1), (x195002_4), (x195003_4), (by first | rfl | (simp; done) | (simp [*]; done)), (by first | rfl | (simp; done) | (simp [*]; done)), H', ⟨by have := HJ2.out; have := HJ24.out; have := HK3.out; have := HK4.out; omega⟩, ⟨by (with_reducible repeat (first | apply Kd.R_alloc | apply Kd.R_drewN | apply Kd.R_drew)); exact Kd.R_mono (Kd.R_far (p := ⟨gb194, 1, none⟩) (Kd.R_far (p := ⟨gb194, 0, none⟩) (Kd.R_types HO_98.out BK194.out (by decide)) (fun _ hk => hk.2) (.int .i64 ((rd_T50 x6_3 x100_4).f0))) (fun _ hk => hk.2) (.int .i64 ((rd_T50 x6_3 x100_4).f1))) (fun _ hk => trivial)⟩, far2 BK145 NB145_194, far2 BK146 NB146_194, far2 BK147 NB147_194, ⟨by refine pkB ?_; refine bput (cs := #[.int .i64 ((rd_T50 x6_3 x100_4).f0), .int .i64 x195001_4, .int .i64 x195002_4, .int .i64 x195003_4, .int .i64 (wrap64 (a0_4 + a1_4))]) 1 ?_; refine bput (cs := #[.int .i64 x195000_4, .int .i64 x195001_4, .int .i64 x195002_4, .int .i64 x195003_4, .int .i64 (wrap64 (a0_4 + a1_4))]) 0 ?_; exact BK194.out⟩, bpk HB⟩
              ·
               rw [if_neg c126] at H
               have c126b0 : (x13_4 == 0) = false := beq_eq_false_iff_ne.mpr c126
               have c126b1 : (x13_4 != 0) = true := bne_iff_ne.mpr c126
               by_cases c138 : x13_4 = 1
               ·
                rw [if_pos c138] at H
                have c138b0 : (x13_4 == 1) = true := beq_iff_eq.mpr c138
                have c138b1 : (x13_4 != 1) = false := bne_eq_false_iff_eq.mpr c138
                clear c138
                have H' := Aside0.mk H
                clear H
                have p139 : 0 ≤ (x100_4 : Int) := of_decide_eq_true (by first | (with_reducible assumption) | assumption)
                have q139 : (x100_4 : Int) < ((x6_3.length : Int) : Int) := of_decide_eq_true (by first | (with_reducible assumption) | assumption)
                obtain ⟨go139, co139, eo139, gb139, gl139, cl139, HG139⟩ := Kd.R_form HO_98.out (by omega)
                (first | cases eo139 | (injection eo139 with ea_ en_ ec_; (first | subst ea_ | (injection ea_ with ea_; subst ea_)); subst ec_; clear en_))
                have GB139 := Aside0.mk gb139; have GG139 := Aside0.mk HG139; clear gb139 gl139 HG139 p139 q139
                have p196 : 0 ≤ (x100_4 : Int) := of_decide_eq_true (by first | (with_reducible assumption) | assumption)
                have q196 : x100_4 < (x6_3.length : Int) := of_decide_eq_true (by first | (with_reducible assumption) | assumption)
                obtain ⟨ad196, e196, hx196_0, hx196_1⟩ := at_T50 (Kd.R_reads' HO_98.out).2.2 x100_4 p196 q196
                obtain rfl : (⟨go139, 0, none⟩ : Addr) = ad196 := (by injection e196)
                (first | simp only [add_plain] at hx196_0 | simp only [add_at] at hx196_0 | simp only [Addr.add, Nat.zero_add] at hx196_0 | skip)
                (first | simp only [add_plain] at hx196_1 | simp only [add_at] at hx196_1 | simp only [Addr.add, Nat.zero_add] at hx196_1 | skip)
                replace p196 := eq_true p196; replace q196 := eq_true q196
                try go_wp2_with (first | ((with_reducible refine gate_dst (N := 15) rfl ?_); refine box_event ?hg (N := 15) ?hd (cs := #[.int .i64 0, .int .i64 0]) (t := 50) ?hr ?_; (case hd => rfl); (case hg => rfl); (case hr => first | (go_simp; done) | (go_simp; rfl)); intro gb197 hg w140 hbox hb; have n0_ := Aside0.mk (Kd.R_below (Kd.R_elderB (rup HO_98) gb197 (Nat.le_of_eq hg.symm)) hb); have n1_ := bst HB hb; have n2_ := Aside0.mk (hbox); have n3_ := bsz HB hg; have n4_ := bsz HB hg; have n5_ := bn1 BK145 hg; have n6_ := bn2 BK145 hg; have n7_ := bn1 BK146 hg; have n8_ := bn2 BK146 hg; have n9_ := bn1 BK147 hg; have n10_ := bn2 BK147 hg; have n11_ := bn1 BK194 hg; have n12_ := bn2 BK194 hg; replace BK145 := bbw BK145 hb; replace BK146 := bbw BK146 hb; replace BK147 := bbw BK147 hb; replace BK194 := bbw BK194 hb; clear HO_98; clear HB; have HO_98 := n0_; have HB := n1_; have BK197 := n2_; have GW197 := n3_; have GE197 := n4_; have NB145_197 := n5_; have NB197_145 := n6_; have NB146_197 := n7_; have NB197_146 := n8_; have NB147_197 := n9_; have NB197_147 := n10_; have NB194_197 := n11_; have NB197_194 := n12_; clear n0_ n1_ n2_ n3_ n4_ n5_ n6_ n7_ n8_ n9_ n10_ n11_ n12_; clear hb hbox hg; have hnb141 := nn NB197_145 NB145_197; have hnb142 := nn NB197_146 NB146_197; have hnb143 := nn NB197_147 NB147_197; have hnb144 := nn NB197_194 NB194_197; obtain ⟨hcz145_0, hcz145_1, hfz145_0, hfz145_1⟩ := hcf2 BK197))
                have n0_ : Aside0 (Kd.R k50 50 ((w140.setCell ⟨gb197, 0, none⟩ (.int .i64 ((rd_T50 x6_3 x100_4).f0))).setCell ⟨gb197, 1, none⟩ (.int .i64 ((rd_T50 x6_3 x100_4).f1))) w.heap.size (fun k_ => k_ ≠ gb197) (.slice (some ⟨go139, 0, none⟩) x6_3.length co114) x6_3) := ⟨by (with_reducible repeat (first | apply Kd.R_alloc | apply Kd.R_drewN | apply Kd.R_drew)); exact Kd.R_mono (Kd.R_far (p := ⟨gb197, 1, none⟩) (Kd.R_far (p := ⟨gb197, 0, none⟩) (Kd.R_mono HO_98.out (fun k_ hk => (⟨hk, hk.2⟩ : _ ∧ k_ ≠ gb197))) (fun _ hk => hk.2) (.int .i64 ((rd_T50 x6_3 x100_4).f0))) (fun _ hk => hk.2) (.int .i64 ((rd_T50 x6_3 x100_4).f1))) (fun _ hk => hk.1.2)⟩
                have n1_ : Aside0 (((w140.setCell ⟨gb197, 0, none⟩ (.int .i64 ((rd_T50 x6_3 x100_4).f0))).setCell ⟨gb197, 1, none⟩ (.int .i64 ((rd_T50 x6_3 x100_4).f1))).heap[gb145]? = some (.cells #[.int .i64 a0_0, .int .i64 a0_1, .int .i64 a0_2, .int .i64 a0_3, .int .i64 a0_4] 23 (0, 0))) := far2 BK145 NB145_197
                have n2_ : Aside0 (((w140.setCell ⟨gb197, 0, none⟩ (.int .i64 ((rd_T50 x6_3 x100_4).f0))).setCell ⟨gb197, 1, none⟩ (.int .i64 ((rd_T50 x6_3 x100_4).f1))).heap[gb146]? = some (.cells #[.int .i64 a1_0, .int .i64 a1_1, .int .i64 a1_2, .int .i64 a1_3, .int .i64 a1_4] 23 (0, 0))) := far2 BK146 NB146_197
                have n3_ : Aside0 (((w140.setCell ⟨gb197, 0, none⟩ (.int .i64 ((rd_T50 x6_3 x100_4).f0))).setCell ⟨gb197, 1, none⟩ (.int .i64 ((rd_T50 x6_3 x100_4).f1))).heap[gb147]? = some (.cells #[.int .i64 0, .int .i64 0, .int .i64 0, .int .i64 0, .int .i64 0] 23 (0, 0))) := far2 BK147 NB147_197
                have n4_ : Aside0 (((w140.setCell ⟨gb197, 0, none⟩ (.int .i64 ((rd_T50 x6_3 x100_4).f0))).setCell ⟨gb197, 1, none⟩ (.int .i64 ((rd_T50 x6_3 x100_4).f1))).heap[gb194]? = some (.cells #[.int .i64 x195000_4, .int .i64 x195001_4, .int .i64 x195002_4, .int .i64 x195003_4, .int .i64 (wrap64 (a0_4 + a1_4))] 23 (0, 0))) := far2 BK194 NB194_197
                have n5_ : Aside0 (((w140.setCell ⟨gb197, 0, none⟩ (.int .i64 ((rd_T50 x6_3 x100_4).f0))).setCell ⟨gb197, 1, none⟩ (.int .i64 ((rd_T50 x6_3 x100_4).f1))).heap[gb197]? = some (.cells #[.int .i64 ((rd_T50 x6_3 x100_4).f0), .int .i64 ((rd_T50 x6_3 x100_4).f1)] 50 (0, 0))) := ⟨by refine pkB ?_; refine bput (cs := #[.int .i64 ((rd_T50 x6_3 x100_4).f0), .int .i64 0]) 1 ?_; refine bput (cs := #[.int .i64 0, .int .i64 0]) 0 ?_; exact BK197.out⟩
                have n6_ : Aside0 (Below w.heap.size w ((w140.setCell ⟨gb197, 0, none⟩ (.int .i64 ((rd_T50 x6_3 x100_4).f0))).setCell ⟨gb197, 1, none⟩ (.int .i64 ((rd_T50 x6_3 x100_4).f1)))) := bpk HB
                (try clear HO_98); (try clear BK145); (try clear BK146); (try clear BK147); (try clear BK194); (try clear BK197); (try clear HB)
                generalize ((w140.setCell ⟨gb197, 0, none⟩ (.int .i64 ((rd_T50 x6_3 x100_4).f0))).setCell ⟨gb197, 1, none⟩ (.int .i64 ((rd_T50 x6_3 x100_4).f1))) = w146 at n0_ n1_ n2_ n3_ n4_ n5_ n6_ ⊢
                have HO_98 := n0_; have BK145 := n1_; have BK146 := n2_; have BK147 := n3_; have BK194 := n4_; have BK197 := n5_; have HB := n6_; clear n0_ n1_ n2_ n3_ n4_ n5_ n6_; have n0_ := Aside0.mk (Kd.R_drew HO_98.out); have n1_ := Aside0.mk (blk_drew BK145.out); have n2_ := Aside0.mk (blk_drew BK146.out); have n3_ := Aside0.mk (blk_drew BK147.out); have n4_ := Aside0.mk (blk_drew BK194.out); have n5_ := Aside0.mk (blk_drew BK197.out); have n6_ := Aside0.mk (below_drew1 HB.out); clear HO_98 BK145 BK146 BK147 BK194 BK197 HB; have HO_98 := n0_; have BK145 := n1_; have BK146 := n2_; have BK147 := n3_; have BK194 := n4_; have BK197 := n5_; have HB := n6_; clear n0_ n1_ n2_ n3_ n4_ n5_ n6_
                refine start_ (n := 8) (S := fun w' => w'.cell? ⟨gb197, 0, none⟩ = some (.int .i64 ((rd_T50 x6_3 x100_4).f0)) ∧ w'.cell? ⟨gb197, 1, none⟩ = some (.int .i64 ((rd_T50 x6_3 x100_4).f1))) (ds := []) #[false, false, false, false, false, false, false, false] (by kernel_rfl) rfl rfl ⟨hcz BK197 0, hcz BK197 1⟩ (fun hHeld => ?_); refine with_tabW linear_Add.tab28 linear_Add.bits28 (fun HT_ HW_ => ?_)
                generalize w146.drew = w147 at HO_98 BK145 BK146 BK147 BK194 BK197 HB hHeld ⊢
                refine pureQ 0 120 HT_.out ?_; refine pureQ 2 122 HT_.out ?_; refine takeQ 1 121 HT_.out HW_.out hHeld ?_; refine pureQ 4 124 HT_.out ?_; refine takeQ 3 123 HT_.out HW_.out hHeld ?_
                refine one_ (i := 5) (N := none) #[true, true, true, true, true, true, false, false] rfl rfl (one_of HT_.out (by kernel_rfl)) (by decide) (fun K hK => ?_)
                have hs148 : w147.cell? ⟨gb194, 2, none⟩ = some (.int .i64 x195002_4) := hcz BK194 2
                have hfs148 := bfz BK194 2
                have hns148_0 := NB145_194.out
                have hns148_1 := NB146_194.out
                have hns148_2 := NB147_194.out
                have hns148_4 := NB197_194.out
                have hms148_0 := NB194_145.out
                have hms148_1 := NB194_146.out
                have hms148_2 := NB194_147.out
                have hms148_4 := NB194_197.out
                refine skip_ (w1 := ?_) (by rfl) rfl ?_ ?_
                rotate_left
                ·
                 go_simp
                 rfl
                refine hK.out _ _ ⟨((cell_far (p := ⟨gb194, _, none⟩) NB197_194.out _).trans (hHeld.1)), ((cell_far (p := ⟨gb194, _, none⟩) NB197_194.out _).trans (hHeld.2))⟩ (fun hHeld => ?_)
                clear hK K; refine pureQ 6 125 HT_.out ?_
                refine one_ (i := 7) (N := none) #[true, true, true, true, true, true, true, true] rfl rfl (one_of HT_.out (by kernel_rfl)) (by decide) (fun K hK => ?_)
                have hs149 : w147.cell? ⟨gb194, 3, none⟩ = some (.int .i64 x195003_4) := hcz BK194 3
                have hfs149 := bfz BK194 3
                have hns149_0 := NB145_194.out
                have hns149_1 := NB146_194.out
                have hns149_2 := NB147_194.out
                have hns149_4 := NB197_194.out
                have hms149_0 := NB194_145.out
                have hms149_1 := NB194_146.out
                have hms149_2 := NB194_147.out
                have hms149_4 := NB194_197.out
                refine skip_ (w1 := ?_) (by rfl) rfl ?_ ?_
                rotate_left
                ·
                 go_simp
                 rfl
                refine hK.out _ _ ⟨((cell_far (p := ⟨gb194, _, none⟩) NB197_194.out _).trans (hHeld.1)), ((cell_far (p := ⟨gb194, _, none⟩) NB197_194.out _).trans (hHeld.2))⟩ (fun hHeld => ?_)
                clear hK K
                refine done_ (done_of HT_.out (by kernel_rfl)) ?_
                try go_wp2
                go_roundg k4
                case measure => have := HJ2.out; have := HJ24.out; have := HK3.out; have := HK4.out; omega
                case rel => exact ⟨(wrap64 (x13_4 + 1)), (wrap64 (x100_4 + 1)), (x195000_4), (x195001_4), ((rd_T50 x6_3 x100_4).f0), ((rd_T50 x6_3 x100_4).f1), (by first | rfl | (simp; done) | (simp [*]; done)), (by first | rfl | (simp; done) | (simp [*]; done)), H', ⟨by have := HJ2.out; have := HJ24.out; have := HK3.out; have := HK4.out; omega⟩, ⟨by (with_reducible repeat (first | apply Kd.R_alloc | apply Kd.R_drewN | apply Kd.R_drew)); exact Kd.R_mono (Kd.R_far (p := ⟨gb194, 3, none⟩) (Kd.R_far (p := ⟨gb194, 2, none⟩) (Kd.R_types HO_98.out BK194.out (by decide)) (fun _ hk => hk.2) (.int .i64 ((rd_T50 x6_3 x100_4).f0))) (fun _ hk => hk.2) (.int .i64 ((rd_T50 x6_3 x100_4).f1))) (fun _ hk => trivial)⟩, far2 BK145 NB145_194, far2 BK146 NB146_194, far2 BK147 NB147_194, ⟨by refine pkB ?_; refine bput (cs := #[.int .i64 x195000_4, .int .i64 x195001_4, .int .i64 ((rd_T50 x6_3 x100_4).f0), .int .i64 x195003_4, .int .i64 (wrap64 (a0_4 + a1_4))]) 3 ?_; refine bput (cs := #[.int .i64 x195000_4, .int .i64 x195001_4, .int .i64 x195002_4, .int .i64 x195003_4, .int .i64 (wrap64 (a0_4 + a1_4))]) 2 ?_; exact BK194.out⟩, bpk HB⟩
               ·
                rw [if_neg c138] at H
                have c138b0 : (x13_4 == 1) = false := beq_eq_false_iff_ne.mpr c138
                have c138b1 : (x13_4 != 1) = true := bne_iff_ne.mpr c138
                have H' := Aside0.mk H
                clear H
                have p150 : 0 ≤ (x100_4 : Int) := of_decide_eq_true (by first | (with_reducible assumption) | assumption)
                have q150 : (x100_4 : Int) < ((x6_3.length : Int) : Int) := of_decide_eq_true (by first | (with_reducible assumption) | assumption)
                obtain ⟨go150, co150, eo150, gb150, gl150, cl150, HG150⟩ := Kd.R_form HO_98.out (by omega)
                (first | cases eo150 | (injection eo150 with ea_ en_ ec_; (first | subst ea_ | (injection ea_ with ea_; subst ea_)); subst ec_; clear en_))
                have GB150 := Aside0.mk gb150; have GG150 := Aside0.mk HG150; clear gb150 gl150 HG150 p150 q150
                have p196 : 0 ≤ (x100_4 : Int) := of_decide_eq_true (by first | (with_reducible assumption) | assumption)
                have q196 : x100_4 < (x6_3.length : Int) := of_decide_eq_true (by first | (with_reducible assumption) | assumption)
                obtain ⟨ad196, e196, hx196_0, hx196_1⟩ := at_T50 (Kd.R_reads' HO_98.out).2.2 x100_4 p196 q196
                obtain rfl : (⟨go150, 0, none⟩ : Addr) = ad196 := (by injection e196)
                (first | simp only [add_plain] at hx196_0 | simp only [add_at] at hx196_0 | simp only [Addr.add, Nat.zero_add] at hx196_0 | skip)
                (first | simp only [add_plain] at hx196_1 | simp only [add_at] at hx196_1 | simp only [Addr.add, Nat.zero_add] at hx196_1 | skip)
                replace p196 := eq_true p196; replace q196 := eq_true q196
                go_wp2_with (first | ((with_reducible refine gate_dst (N := 15) rfl ?_); refine box_event ?hg (N := 15) ?hd (cs := #[.int .i64 0, .int .i64 0]) (t := 50) ?hr ?_; (case hd => rfl); (case hg => rfl); (case hr => first | (go_simp; done) | (go_simp; rfl)); intro gb197 hg w151 hbox hb; have n0_ := Aside0.mk (Kd.R_below (Kd.R_elderB (rup HO_98) gb197 (Nat.le_of_eq hg.symm)) hb); have n1_ := bst HB hb; have n2_ := Aside0.mk (hbox); have n3_ := bsz HB hg; have n4_ := bsz HB hg; have n5_ := bn1 BK145 hg; have n6_ := bn2 BK145 hg; have n7_ := bn1 BK146 hg; have n8_ := bn2 BK146 hg; have n9_ := bn1 BK147 hg; have n10_ := bn2 BK147 hg; have n11_ := bn1 BK194 hg; have n12_ := bn2 BK194 hg; replace BK145 := bbw BK145 hb; replace BK146 := bbw BK146 hb; replace BK147 := bbw BK147 hb; replace BK194 := bbw BK194 hb; clear HO_98; clear HB; have HO_98 := n0_; have HB := n1_; have BK197 := n2_; have GW197 := n3_; have GE197 := n4_; have NB145_197 := n5_; have NB197_145 := n6_; have NB146_197 := n7_; have NB197_146 := n8_; have NB147_197 := n9_; have NB197_147 := n10_; have NB194_197 := n11_; have NB197_194 := n12_; clear n0_ n1_ n2_ n3_ n4_ n5_ n6_ n7_ n8_ n9_ n10_ n11_ n12_; clear hb hbox hg; have hnb152 := nn NB197_145 NB145_197; have hnb153 := nn NB197_146 NB146_197; have hnb154 := nn NB197_147 NB147_197; have hnb155 := nn NB197_194 NB194_197; obtain ⟨hcz156_0, hcz156_1, hfz156_0, hfz156_1⟩ := hcf2 BK197))
                go_roundg k4
                case measure => have := HJ2.out; have := HJ24.out; have := HK3.out; have := HK4.out; omega
                case rel => exact ⟨(wrap64 (x13_4 + 1)), (wrap64 (x100_4 + 1)), (x195000_4), (x195001_4), (x195002_4), (x195003_4), (by first | rfl | (simp; done) | (simp [*]; done)), (by first | rfl | (simp; done) | (simp [*]; done)), H', ⟨by have := HJ2.out; have := HJ24.out; have := HK3.out; have := HK4.out; omega⟩, ⟨by (with_reducible repeat (first | apply Kd.R_alloc | apply Kd.R_drewN | apply Kd.R_drew)); exact Kd.R_mono (Kd.R_far (p := ⟨gb197, 1, none⟩) (Kd.R_far (p := ⟨gb197, 0, none⟩) (Kd.R_mono HO_98.out (fun k_ hk => (⟨hk, hk.2⟩ : _ ∧ k_ ≠ gb197))) (fun _ hk => hk.2) (.int .i64 ((rd_T50 x6_3 x100_4).f0))) (fun _ hk => hk.2) (.int .i64 ((rd_T50 x6_3 x100_4).f1))) (fun _ hk => trivial)⟩, far2 BK145 NB145_197, far2 BK146 NB146_197, far2 BK147 NB147_197, far2 BK194 NB194_197, bpk HB⟩
            ·
             rw [if_neg c115] at H
             have c115b0 : decide (x100_4 < (x6_3.length : Int)) = false := decide_eq_false c115
             clear c115
             by_cases c157 : x13_4 > 2
             ·
              rw [if_pos c157] at H
              have c157b0 : decide (2 < x13_4) = true := decide_eq_true c157
              clear c157
              simp only [Option.some.injEq, Prod.mk.injEq] at H
              obtain ⟨rfl, rfl, rfl, rfl, rfl, rfl⟩ := H; have hnb158 := nn NB147_145 NB145_147; have hnb159 := nn NB147_146 NB146_147; have hnb160 := nn NB147_194 NB194_147
              obtain ⟨hcz161_0, hcz161_1, hcz161_2, hcz161_3, hcz161_4, hfz161_0, hfz161_1, hfz161_2, hfz161_3, hfz161_4⟩ := hcf5 BK147
              go_wp2
              refine bodyPost_ret (results_ct rfl _ _ gb147 23 #[.int .i64 0, .int .i64 0, .int .i64 0, .int .i64 0, .int .i64 0] (0, 0) _ rfl (by refine pkB ?_; refine bput (cs := #[.int .i64 0, .int .i64 0, .int .i64 0, .int .i64 0, .int .i64 0]) 4 ?_; refine bput (cs := #[.int .i64 0, .int .i64 0, .int .i64 0, .int .i64 0, .int .i64 0]) 3 ?_; refine bput (cs := #[.int .i64 0, .int .i64 0, .int .i64 0, .int .i64 0, .int .i64 0]) 2 ?_; refine bput (cs := #[.int .i64 0, .int .i64 0, .int .i64 0, .int .i64 0, .int .i64 0]) 1 ?_; refine bput (cs := #[.int .i64 0, .int .i64 0, .int .i64 0, .int .i64 0, .int .i64 0]) 0 ?_; exact BK147.out) Try.underlying23 rfl (by kernel_rfl)) rfl ?_
              exact ⟨by first | rfl | (simp [errW_none, errW_some] <;> rfl) | (simp [*, errW_none, errW_some] <;> rfl) | kernel_rfl, (bpk HB).out⟩
             ·
              rw [if_neg c157] at H
              have c157b0 : decide (2 < x13_4) = false := decide_eq_false c157
              clear c157; replace H := bnH H; obtain ⟨t195, A1620, H⟩ := H
              try dsimp only at H
              have A162 := Aside0.mk A1620; clear A1620
              by_cases c163 : t195 = true
              ·
               subst c163
               have H1 : (some (x195000_4, x195001_4, x195002_4, x195003_4, (wrap64 (a0_4 + a1_4)), true)) = some (r1, r2, r3, r4, r5, r6) := by rw [if_pos rfl] at H; exact H
               clear H; have H := H1; clear H1
               simp only [Option.some.injEq, Prod.mk.injEq] at H
               obtain ⟨rfl, rfl, rfl, rfl, rfl, rfl⟩ := H; have hnb164 := nn NB194_145 NB145_194; have hnb165 := nn NB194_146 NB146_194; have hnb166 := nn NB194_147 NB147_194
               have hcz167_0 := hcz BK194 0
               have hcz167_1 := hcz BK194 1
               have hcz167_2 := hcz BK194 2
               have hcz167_3 := hcz BK194 3
               have hcz167_4 : wr.cell? ⟨gb194, 4, none⟩ = some (.int .i64 (wrap64 (a0_4 + a1_4))) := hcz BK194 4
               have hfz167_0 := bfz BK194 0
               have hfz167_1 := bfz BK194 1
               have hfz167_2 := bfz BK194 2
               have hfz167_3 := bfz BK194 3
               have hfz167_4 := bfz BK194 4
               go_wp2_with (first | (go_at_call 17; (with_reducible refine (linear_Fit.calls k4 x195000_4 x195001_4 x195002_4 x195003_4 (wrap64 (a0_4 + a1_4)) true _ A162.out).mono ?_); rintro e w168 ⟨rfl, hb⟩; have n0_ := rbw HO_98 hb; have n1_ := bst HB hb; replace BK145 := bbw BK145 hb; replace BK146 := bbw BK146 hb; replace BK147 := bbw BK147 hb; replace BK194 := bbw BK194 hb; clear HO_98; clear HB; have HO_98 := n0_; have HB := n1_; clear n0_ n1_; (try clear hb); (try clear hb2); (try clear hk); (try clear hi); have hcz169_0 := hcz BK194 0; have hcz169_1 := hcz BK194 1; have hcz169_2 := hcz BK194 2; have hcz169_3 := hcz BK194 3; have hcz169_4 : w168.cell? ⟨gb194, 4, none⟩ = some (.int .i64 (wrap64 (a0_4 + a1_4))) := hcz BK194 4; have hfz169_0 := bfz BK194 0; have hfz169_1 := bfz BK194 1; have hfz169_2 := bfz BK194 2; have hfz169_3 := bfz BK194 3; have hfz169_4 := bfz BK194 4; have hnb170 := nn NB147_145 NB145_147; have hnb171 := nn NB147_146 NB146_147; obtain ⟨hcz172_0, hcz172_1, hcz172_2, hcz172_3, hcz172_4, hfz172_0, hfz172_1, hfz172_2, hfz172_3, hfz172_4⟩ := hcf5 BK147))
               refine bodyPost_ret (results_ct rfl _ _ gb147 23 #[.int .i64 x195000_4, .int .i64 x195001_4, .int .i64 x195002_4, .int .i64 x195003_4, .int .i64 (wrap64 (a0_4 + a1_4))] (0, 0) _ rfl (by refine pkB ?_; refine bput (cs := #[.int .i64 x195000_4, .int .i64 x195001_4, .int .i64 x195002_4, .int .i64 x195003_4, .int .i64 0]) 4 ?_; refine bput (cs := #[.int .i64 x195000_4, .int .i64 x195001_4, .int .i64 x195002_4, .int .i64 0, .int .i64 0]) 3 ?_; refine bput (cs := #[.int .i64 x195000_4, .int .i64 x195001_4, .int .i64 0, .int .i64 0, .int .i64 0]) 2 ?_; refine bput (cs := #[.int .i64 x195000_4, .int .i64 0, .int .i64 0, .int .i64 0, .int .i64 0]) 1 ?_; refine bput (cs := #[.int .i64 0, .int .i64 0, .int .i64 0, .int .i64 0, .int .i64 0]) 0 ?_; exact BK147.out) Try.underlying23 rfl (by kernel_rfl)) rfl ?_
               exact ⟨by first | rfl | (simp [errW_none, errW_some] <;> rfl) | (simp [*, errW_none, errW_some] <;> rfl) | kernel_rfl, (bpk HB).out⟩
              ·
               replace c163 := Bool.eq_false_iff.mpr c163
               subst c163
               have H1 : (some (0, 0, 0, 0, 0, false)) = some (r1, r2, r3, r4, r5, r6) := by rw [if_neg (show ¬ (false = true) by decide)] at H; exact H
               clear H; have H := H1; clear H1
               simp only [Option.some.injEq, Prod.mk.injEq] at H
               obtain ⟨rfl, rfl, rfl, rfl, rfl, rfl⟩ := H; have hnb173 := nn NB194_145 NB145_194; have hnb174 := nn NB194_146 NB146_194; have hnb175 := nn NB194_147 NB147_194
               have hcz176_0 := hcz BK194 0
               have hcz176_1 := hcz BK194 1
               have hcz176_2 := hcz BK194 2
               have hcz176_3 := hcz BK194 3
               have hcz176_4 : wr.cell? ⟨gb194, 4, none⟩ = some (.int .i64 (wrap64 (a0_4 + a1_4))) := hcz BK194 4
               have hfz176_0 := bfz BK194 0
               have hfz176_1 := bfz BK194 1
               have hfz176_2 := bfz BK194 2
               have hfz176_3 := bfz BK194 3
               have hfz176_4 := bfz BK194 4
               go_wp2_with (first | (go_at_call 17; (with_reducible refine (linear_Fit.calls k4 x195000_4 x195001_4 x195002_4 x195003_4 (wrap64 (a0_4 + a1_4)) false _ A162.out).mono ?_); rintro e w177 ⟨rfl, hb⟩; have n0_ := rbw HO_98 hb; have n1_ := bst HB hb; replace BK145 := bbw BK145 hb; replace BK146 := bbw BK146 hb; replace BK147 := bbw BK147 hb; replace BK194 := bbw BK194 hb; clear HO_98; clear HB; have HO_98 := n0_; have HB := n1_; clear n0_ n1_; (try clear hb); (try clear hb2); (try clear hk); (try clear hi); have hnb178 := nn NB147_145 NB145_147; have hnb179 := nn NB147_146 NB146_147; obtain ⟨hcz180_0, hcz180_1, hcz180_2, hcz180_3, hcz180_4, hfz180_0, hfz180_1, hfz180_2, hfz180_3, hfz180_4⟩ := hcf5 BK147))
               refine bodyPost_ret (results_ct rfl _ _ gb147 23 #[.int .i64 0, .int .i64 0, .int .i64 0, .int .i64 0, .int .i64 0] (0, 0) _ rfl (by refine pkB ?_; refine bput (cs := #[.int .i64 0, .int .i64 0, .int .i64 0, .int .i64 0, .int .i64 0]) 4 ?_; refine bput (cs := #[.int .i64 0, .int .i64 0, .int .i64 0, .int .i64 0, .int .i64 0]) 3 ?_; refine bput (cs := #[.int .i64 0, .int .i64 0, .int .i64 0, .int .i64 0, .int .i64 0]) 2 ?_; refine bput (cs := #[.int .i64 0, .int .i64 0, .int .i64 0, .int .i64 0, .int .i64 0]) 1 ?_; refine bput (cs := #[.int .i64 0, .int .i64 0, .int .i64 0, .int .i64 0, .int .i64 0]) 0 ?_; exact BK147.out) Try.underlying23 rfl (by kernel_rfl)) rfl ?_
               exact ⟨by first | rfl | (simp [errW_none, errW_some] <;> rfl) | (simp [*, errW_none, errW_some] <;> rfl) | kernel_rfl, (bpk HB).out⟩
end Go.Proofs.Ytllfopbchdahoaa.P
