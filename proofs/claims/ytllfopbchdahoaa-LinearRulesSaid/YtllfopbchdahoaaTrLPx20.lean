/- What the law's proof needs of Px20. -/
import Derived.Test.YtllfopbchdahoaaTrLU2
import Derived.Test.YtllfopbchdahoaaTrLU
import Derived.Test.YtllfopbchdahoaaTrLPx0
import Derived.Test.YtllfopbchdahoaaTrLPx1
import Derived.Test.YtllfopbchdahoaaTrLPx4
import Derived.Test.YtllfopbchdahoaaTrLPx5
import Derived.Test.YtllfopbchdahoaaTrLPx9
import Derived.Test.YtllfopbchdahoaaTrLPx10
import Derived.Test.YtllfopbchdahoaaTrLPx12
-- PRINTED by print.py (a twelfth state) out of the translation. Not trusted: Lean checks it.
namespace Go.Proofs.Ytllfopbchdahoaa.P
open Go.RowKit Go.Proofs.YtllfopbchdahoaaW.PrintWords Go.Proofs.YtllfopbchdahoaaW.PrintLast Go.Proofs.YtllfopbchdahoaaW.PrintMore Go.Proofs.YtllfopbchdahoaaO
attribute [local go_sem] max2_int min2_int max_two min_two max_three min_three max_four min_four   -- for this text's walks alone
set_option linter.unusedVariables false
set_option linter.unusedSimpArgs false
attribute [local go_sem high] eqA23
mutual
def gimballaw14_LinearRules.j0 : Nat → Bool → Bool → Bool → Int → Int → Int → Int → Int → Int → Int → Int → Int → Int → Int → Int → Int → Int → Int → Int → Int → Int → Int → Int → Option (Bool)
  | 0, _, _, _, _, _, _, _, _, _, _, _, _, _, _, _, _, _, _, _, _, _, _, _ => none
  | k + 1, x10, x12, x56, x387000, x387001, x387002, x387003, x387004, x388000, x388001, x388002, x388003, x388004, x409000, x409001, x409002, x409003, x409004, x416000, x416001, x416002, x416003, x416004 => if x56 = true then (some false) else (if x12 = true then ((linear_Add.f k x387000 x387001 x387002 x387003 x387004 x416000 x416001 x416002 x416003 x416004).bind fun bt417 => ((linear_Neg.f k x416000 x416001 x416002 x416003 x416004).bind fun bt424 => (if (!(bt417.1 == x409000) || (!(bt417.2.1 == x409001) || (!(bt417.2.2.1 == x409002) || (!(bt417.2.2.2.1 == x409003) || (!(bt417.2.2.2.2.1 == x409004)))))) = true then (some false) else (if (bt417.2.2.2.2.2 != x10) = true then (some false) else (if (!(bt424.1 == x388000) || (!(bt424.2.1 == x388001) || (!(bt424.2.2.1 == x388002) || (!(bt424.2.2.2.1 == x388003) || (!(bt424.2.2.2.2.1 == x388004)))))) = true then (some false) else (if bt424.2.2.2.2.2 = true then (gimballaw14_LinearRules.j1 k x387000 x387001 x387002 x387003 x387004 x388000 x388001 x388002 x388003 x388004) else (some false))))))) else (gimballaw14_LinearRules.j1 k x387000 x387001 x387002 x387003 x387004 x388000 x388001 x388002 x388003 x388004))
def gimballaw14_LinearRules.j1 : Nat → Int → Int → Int → Int → Int → Int → Int → Int → Int → Int → Option (Bool)
  | 0, _, _, _, _, _, _, _, _, _, _ => none
  | k + 1, x387000, x387001, x387002, x387003, x387004, x388000, x388001, x388002, x388003, x388004 => (linear_Fit.f k x387000 x387001 x387002 x387003 x387004).bind fun t431 => (if t431 = true then ((linear_Fit.f k x388000 x388001 x388002 x388003 x388004).bind fun t432 => (if t432 = true then (if x387000 > 40 then (gimballaw14_LinearRules.j2 k true x387000 x387001 x387002 x387003 x387004 x388000 x388001 x388002 x388003 x388004) else (if x387002 > 40 then (gimballaw14_LinearRules.j2 k true x387000 x387001 x387002 x387003 x387004 x388000 x388001 x388002 x388003 x388004) else (if x388000 > 40 then (gimballaw14_LinearRules.j2 k true x387000 x387001 x387002 x387003 x387004 x388000 x388001 x388002 x388003 x388004) else (gimballaw14_LinearRules.j2 k (decide (x388002 > 40)) x387000 x387001 x387002 x387003 x387004 x388000 x388001 x388002 x388003 x388004)))) else (gimballaw14_LinearRules.j2 k true x387000 x387001 x387002 x387003 x387004 x388000 x388001 x388002 x388003 x388004))) else (gimballaw14_LinearRules.j2 k true x387000 x387001 x387002 x387003 x387004 x388000 x388001 x388002 x388003 x388004))
def gimballaw14_LinearRules.j2 : Nat → Bool → Int → Int → Int → Int → Int → Int → Int → Int → Int → Int → Option (Bool)
  | 0, _, _, _, _, _, _, _, _, _, _, _ => none
  | k + 1, x113, x387000, x387001, x387002, x387003, x387004, x388000, x388001, x388002, x388003, x388004 => if x113 = true then ((gimballaw14_awake.f k).bind fun t433 => (some t433)) else (if 41 ≤ 35184372088832 then ((some (List.replicate 41 0 : List Int)).bind fun y434 => ((linear_Value.f k x387000 x387001 x387002 x387003 x387004 y434).bind fun t437 => ((linear_Value.f k x388000 x388001 x388002 x388003 x388004 y434).bind fun t438 => (gimballaw14_LinearRules.l0 k y434 (t437 == t438) 0 x387000 x387001 x387002 x387003 x387004 x388000 x388001 x388002 x388003 x388004)))) else (none))
def gimballaw14_LinearRules.l0 : Nat → List Int → Bool → Int → Int → Int → Int → Int → Int → Int → Int → Int → Int → Int → Option (Bool)
  | 0, _, _, _, _, _, _, _, _, _, _, _, _, _ => none
  | k + 1, x17, x18, x19, x387000, x387001, x387002, x387003, x387004, x388000, x388001, x388002, x388003, x388004 => if x19 < 41 then (if 0 ≤ x19 then (if x19 < (x17.length : Int) then ((some (x17.set (x19 : Int).toNat 1 : List Int)).bind fun y439 => (if x18 = true then ((linear_Value.f k x387000 x387001 x387002 x387003 x387004 y439).bind fun t440 => ((linear_Value.f k x388000 x388001 x388002 x388003 x388004 y439).bind fun t441 => (gimballaw14_LinearRules.l0 k (y439.set (x19 : Int).toNat 0) (t440 == t441) (wrap64 (x19 + 1)) x387000 x387001 x387002 x387003 x387004 x388000 x388001 x388002 x388003 x388004))) else (gimballaw14_LinearRules.l0 k (y439.set (x19 : Int).toNat 0) false (wrap64 (x19 + 1)) x387000 x387001 x387002 x387003 x387004 x388000 x388001 x388002 x388003 x388004))) else (none)) else (none)) else (if (x18 == (x387000 == x388000 && (x387001 == x388001 && (x387002 == x388002 && (x387003 == x388003 && (x387004 == x388004)))))) = true then ((gimballaw14_awake.f k).bind fun t444 => (some t444)) else (some false))
end
def gimballaw14_LinearRules.f (k : Nat) (a0_0 : Int) (a0_1 : Int) (a0_2 : Int) (a0_3 : Int) (a0_4 : Int) (a1_0 : Int) (a1_1 : Int) (a1_2 : Int) (a1_3 : Int) (a1_4 : Int) : Option (Bool) := (linear_Add.f k a0_0 a0_1 a0_2 a0_3 a0_4 a1_0 a1_1 a1_2 a1_3 a1_4).bind fun bt388 => ((linear_Add.f k a1_0 a1_1 a1_2 a1_3 a1_4 a0_0 a0_1 a0_2 a0_3 a0_4).bind fun bt395 => ((linear_Sub.f k a0_0 a0_1 a0_2 a0_3 a0_4 a1_0 a1_1 a1_2 a1_3 a1_4).bind fun bt402 => ((linear_Neg.f k a1_0 a1_1 a1_2 a1_3 a1_4).bind fun bt409 => (if (!(bt388.1 == bt395.1) || (!(bt388.2.1 == bt395.2.1) || (!(bt388.2.2.1 == bt395.2.2.1) || (!(bt388.2.2.2.1 == bt395.2.2.2.1) || (!(bt388.2.2.2.2.1 == bt395.2.2.2.2.1)))))) = true then (gimballaw14_LinearRules.j0 k bt402.2.2.2.2.2 bt409.2.2.2.2.2 true a0_0 a0_1 a0_2 a0_3 a0_4 a1_0 a1_1 a1_2 a1_3 a1_4 bt402.1 bt402.2.1 bt402.2.2.1 bt402.2.2.2.1 bt402.2.2.2.2.1 bt409.1 bt409.2.1 bt409.2.2.1 bt409.2.2.2.1 bt409.2.2.2.2.1) else (if (bt388.2.2.2.2.2 != bt395.2.2.2.2.2) = true then (gimballaw14_LinearRules.j0 k bt402.2.2.2.2.2 bt409.2.2.2.2.2 true a0_0 a0_1 a0_2 a0_3 a0_4 a1_0 a1_1 a1_2 a1_3 a1_4 bt402.1 bt402.2.1 bt402.2.2.1 bt402.2.2.2.1 bt402.2.2.2.2.1 bt409.1 bt409.2.1 bt409.2.2.1 bt409.2.2.2.1 bt409.2.2.2.2.1) else ((linear_Fit.f k a1_0 a1_1 a1_2 a1_3 a1_4).bind fun t416 => (gimballaw14_LinearRules.j0 k bt402.2.2.2.2.2 bt409.2.2.2.2.2 (bt409.2.2.2.2.2 != t416) a0_0 a0_1 a0_2 a0_3 a0_4 a1_0 a1_1 a1_2 a1_3 a1_4 bt402.1 bt402.2.1 bt402.2.2.1 bt402.2.2.2.1 bt402.2.2.2.2.1 bt409.1 bt409.2.1 bt409.2.2.1 bt409.2.2.2.1 bt409.2.2.2.2.1)))))))
def gimballaw14_LinearRules.T15 : Bool × List (List Nat × List Nat) := (true, [([], []), ([], []), ([0, 1], [0, 1]), ([], []), ([], []), ([3, 4, 2], [3, 4]), ([2, 5], [2, 5]), ([6, 5, 0, 1, 2, 3, 4, 5, 6], [6])])
def gimballaw14_LinearRules.B15 : List Nat := [0, 0, 3, 0, 0, 31, 63, 127]
theorem gimballaw14_LinearRules.tab15 : rtab .any (opsOf Try.f6 15) = gimballaw14_LinearRules.T15 := by kernel_rfl
theorem gimballaw14_LinearRules.bits15 : waitsOk gimballaw14_LinearRules.T15.2 gimballaw14_LinearRules.B15 = true := by kernel_rfl
def gimballaw14_LinearRules.T20 : Bool × List (List Nat × List Nat) := (true, [([], []), ([0], [0]), ([1], [1]), ([1], [1]), ([2, 3, 1, 1], [1, 2, 3]), ([1], [1]), ([1], [1]), ([5, 6, 4, 1], [1, 5, 6]), ([4, 7, 1], [1, 4, 7]), ([1, 8], [1, 8]), ([9, 7, 0, 1, 2, 3, 4, 5, 6, 7, 8, 9], [0, 9])])
def gimballaw14_LinearRules.B20 : List Nat := [0, 1, 3, 3, 15, 3, 3, 127, 255, 511, 1023]
theorem gimballaw14_LinearRules.tab20 : rtab .any (opsOf Try.f6 20) = gimballaw14_LinearRules.T20 := by kernel_rfl
theorem gimballaw14_LinearRules.bits20 : waitsOk gimballaw14_LinearRules.T20.2 gimballaw14_LinearRules.B20 = true := by kernel_rfl
set_option maxHeartbeats 8000000 in
set_option maxRecDepth 100000 in
theorem gimballaw14_LinearRules.calls (k : Nat) (a0_0 : Int) (a0_1 : Int) (a0_2 : Int) (a0_3 : Int) (a0_4 : Int) (a1_0 : Int) (a1_1 : Int) (a1_2 : Int) (a1_3 : Int) (a1_4 : Int) (w : World) (h : gimballaw14_LinearRules.f k a0_0 a0_1 a0_2 a0_3 a0_4 a1_0 a1_1 a1_2 a1_3 a1_4 = some true) :
    Calls Try.prog 6 #[.agg #[.int .i64 a0_0, .int .i64 a0_1, .int .i64 a0_2, .int .i64 a0_3, .int .i64 a0_4], .agg #[.int .i64 a1_0, .int .i64 a1_1, .int .i64 a1_2, .int .i64 a1_3, .int .i64 a1_4]] w fun e w' => e = .returned (.bool true) ∧ Below w.heap.size w w' := by
  have hu23 := Try.underlying23
  have HB := Aside0.mk (Below.refl w.heap.size w)
  have H : ((linear_Add.f k a0_0 a0_1 a0_2 a0_3 a0_4 a1_0 a1_1 a1_2 a1_3 a1_4).bind fun bt388 => ((linear_Add.f k a1_0 a1_1 a1_2 a1_3 a1_4 a0_0 a0_1 a0_2 a0_3 a0_4).bind fun bt395 => ((linear_Sub.f k a0_0 a0_1 a0_2 a0_3 a0_4 a1_0 a1_1 a1_2 a1_3 a1_4).bind fun bt402 => ((linear_Neg.f k a1_0 a1_1 a1_2 a1_3 a1_4).bind fun bt409 => (if (!(bt388.1 == bt395.1) || (!(bt388.2.1 == bt395.2.1) || (!(bt388.2.2.1 == bt395.2.2.1) || (!(bt388.2.2.2.1 == bt395.2.2.2.1) || (!(bt388.2.2.2.2.1 == bt395.2.2.2.2.1)))))) = true then (gimballaw14_LinearRules.j0 k bt402.2.2.2.2.2 bt409.2.2.2.2.2 true a0_0 a0_1 a0_2 a0_3 a0_4 a1_0 a1_1 a1_2 a1_3 a1_4 bt402.1 bt402.2.1 bt402.2.2.1 bt402.2.2.2.1 bt402.2.2.2.2.1 bt409.1 bt409.2.1 bt409.2.2.1 bt409.2.2.2.1 bt409.2.2.2.2.1) else (if (bt388.2.2.2.2.2 != bt395.2.2.2.2.2) = true then (gimballaw14_LinearRules.j0 k bt402.2.2.2.2.2 bt409.2.2.2.2.2 true a0_0 a0_1 a0_2 a0_3 a0_4 a1_0 a1_1 a1_2 a1_3 a1_4 bt402.1 bt402.2.1 bt402.2.2.1 bt402.2.2.2.1 bt402.2.2.2.2.1 bt409.1 bt409.2.1 bt409.2.2.1 bt409.2.2.2.1 bt409.2.2.2.2.1) else ((linear_Fit.f k a1_0 a1_1 a1_2 a1_3 a1_4).bind fun t416 => (gimballaw14_LinearRules.j0 k bt402.2.2.2.2.2 bt409.2.2.2.2.2 (bt409.2.2.2.2.2 != t416) a0_0 a0_1 a0_2 a0_3 a0_4 a1_0 a1_1 a1_2 a1_3 a1_4 bt402.1 bt402.2.1 bt402.2.2.1 bt402.2.2.2.1 bt402.2.2.2.2.1 bt409.1 bt409.2.1 bt409.2.2.1 bt409.2.2.2.1 bt409.2.2.2.2.1)))))))) = some true := h
  clear h
  replace H := Option.bind_eq_some_iff.mp H
  obtain ⟨⟨t388, t389, t390, t391, t392, t393⟩, A30, H⟩ := H
  replace H : ((linear_Add.f k a1_0 a1_1 a1_2 a1_3 a1_4 a0_0 a0_1 a0_2 a0_3 a0_4).bind fun bt395 => ((linear_Sub.f k a0_0 a0_1 a0_2 a0_3 a0_4 a1_0 a1_1 a1_2 a1_3 a1_4).bind fun bt402 => ((linear_Neg.f k a1_0 a1_1 a1_2 a1_3 a1_4).bind fun bt409 => (if (!(t388 == bt395.1) || (!(t389 == bt395.2.1) || (!(t390 == bt395.2.2.1) || (!(t391 == bt395.2.2.2.1) || (!(t392 == bt395.2.2.2.2.1)))))) = true then (gimballaw14_LinearRules.j0 k bt402.2.2.2.2.2 bt409.2.2.2.2.2 true a0_0 a0_1 a0_2 a0_3 a0_4 a1_0 a1_1 a1_2 a1_3 a1_4 bt402.1 bt402.2.1 bt402.2.2.1 bt402.2.2.2.1 bt402.2.2.2.2.1 bt409.1 bt409.2.1 bt409.2.2.1 bt409.2.2.2.1 bt409.2.2.2.2.1) else (if (t393 != bt395.2.2.2.2.2) = true then (gimballaw14_LinearRules.j0 k bt402.2.2.2.2.2 bt409.2.2.2.2.2 true a0_0 a0_1 a0_2 a0_3 a0_4 a1_0 a1_1 a1_2 a1_3 a1_4 bt402.1 bt402.2.1 bt402.2.2.1 bt402.2.2.2.1 bt402.2.2.2.2.1 bt409.1 bt409.2.1 bt409.2.2.1 bt409.2.2.2.1 bt409.2.2.2.2.1) else ((linear_Fit.f k a1_0 a1_1 a1_2 a1_3 a1_4).bind fun t416 => (gimballaw14_LinearRules.j0 k bt402.2.2.2.2.2 bt409.2.2.2.2.2 (bt409.2.2.2.2.2 != t416) a0_0 a0_1 a0_2 a0_3 a0_4 a1_0 a1_1 a1_2 a1_3 a1_4 bt402.1 bt402.2.1 bt402.2.2.1 bt402.2.2.2.1 bt402.2.2.2.2.1 bt409.1 bt409.2.1 bt409.2.2.1 bt409.2.2.2.1 bt409.2.2.2.2.1))))))) = some true := H
  have A3 := Aside0.mk A30
  clear A30
  replace H := Option.bind_eq_some_iff.mp H
  obtain ⟨⟨t395, t396, t397, t398, t399, t400⟩, A40, H⟩ := H
  replace H : ((linear_Sub.f k a0_0 a0_1 a0_2 a0_3 a0_4 a1_0 a1_1 a1_2 a1_3 a1_4).bind fun bt402 => ((linear_Neg.f k a1_0 a1_1 a1_2 a1_3 a1_4).bind fun bt409 => (if (!(t388 == t395) || (!(t389 == t396) || (!(t390 == t397) || (!(t391 == t398) || (!(t392 == t399)))))) = true then (gimballaw14_LinearRules.j0 k bt402.2.2.2.2.2 bt409.2.2.2.2.2 true a0_0 a0_1 a0_2 a0_3 a0_4 a1_0 a1_1 a1_2 a1_3 a1_4 bt402.1 bt402.2.1 bt402.2.2.1 bt402.2.2.2.1 bt402.2.2.2.2.1 bt409.1 bt409.2.1 bt409.2.2.1 bt409.2.2.2.1 bt409.2.2.2.2.1) else (if (t393 != t400) = true then (gimballaw14_LinearRules.j0 k bt402.2.2.2.2.2 bt409.2.2.2.2.2 true a0_0 a0_1 a0_2 a0_3 a0_4 a1_0 a1_1 a1_2 a1_3 a1_4 bt402.1 bt402.2.1 bt402.2.2.1 bt402.2.2.2.1 bt402.2.2.2.2.1 bt409.1 bt409.2.1 bt409.2.2.1 bt409.2.2.2.1 bt409.2.2.2.2.1) else ((linear_Fit.f k a1_0 a1_1 a1_2 a1_3 a1_4).bind fun t416 => (gimballaw14_LinearRules.j0 k bt402.2.2.2.2.2 bt409.2.2.2.2.2 (bt409.2.2.2.2.2 != t416) a0_0 a0_1 a0_2 a0_3 a0_4 a1_0 a1_1 a1_2 a1_3 a1_4 bt402.1 bt402.2.1 bt402.2.2.1 bt402.2.2.2.1 bt402.2.2.2.2.1 bt409.1 bt409.2.1 bt409.2.2.1 bt409.2.2.2.1 bt409.2.2.2.2.1)))))) = some true := H
  have A4 := Aside0.mk A40
  clear A40
  replace H := Option.bind_eq_some_iff.mp H
  obtain ⟨⟨t402, t403, t404, t405, t406, t407⟩, A50, H⟩ := H
  replace H : ((linear_Neg.f k a1_0 a1_1 a1_2 a1_3 a1_4).bind fun bt409 => (if (!(t388 == t395) || (!(t389 == t396) || (!(t390 == t397) || (!(t391 == t398) || (!(t392 == t399)))))) = true then (gimballaw14_LinearRules.j0 k t407 bt409.2.2.2.2.2 true a0_0 a0_1 a0_2 a0_3 a0_4 a1_0 a1_1 a1_2 a1_3 a1_4 t402 t403 t404 t405 t406 bt409.1 bt409.2.1 bt409.2.2.1 bt409.2.2.2.1 bt409.2.2.2.2.1) else (if (t393 != t400) = true then (gimballaw14_LinearRules.j0 k t407 bt409.2.2.2.2.2 true a0_0 a0_1 a0_2 a0_3 a0_4 a1_0 a1_1 a1_2 a1_3 a1_4 t402 t403 t404 t405 t406 bt409.1 bt409.2.1 bt409.2.2.1 bt409.2.2.2.1 bt409.2.2.2.2.1) else ((linear_Fit.f k a1_0 a1_1 a1_2 a1_3 a1_4).bind fun t416 => (gimballaw14_LinearRules.j0 k t407 bt409.2.2.2.2.2 (bt409.2.2.2.2.2 != t416) a0_0 a0_1 a0_2 a0_3 a0_4 a1_0 a1_1 a1_2 a1_3 a1_4 t402 t403 t404 t405 t406 bt409.1 bt409.2.1 bt409.2.2.1 bt409.2.2.2.1 bt409.2.2.2.2.1))))) = some true := H
  have A5 := Aside0.mk A50
  clear A50
  replace H := Option.bind_eq_some_iff.mp H
  obtain ⟨⟨t409, t410, t411, t412, t413, t414⟩, A60, H⟩ := H
  replace H : (if (!(t388 == t395) || (!(t389 == t396) || (!(t390 == t397) || (!(t391 == t398) || (!(t392 == t399)))))) = true then (gimballaw14_LinearRules.j0 k t407 t414 true a0_0 a0_1 a0_2 a0_3 a0_4 a1_0 a1_1 a1_2 a1_3 a1_4 t402 t403 t404 t405 t406 t409 t410 t411 t412 t413) else (if (t393 != t400) = true then (gimballaw14_LinearRules.j0 k t407 t414 true a0_0 a0_1 a0_2 a0_3 a0_4 a1_0 a1_1 a1_2 a1_3 a1_4 t402 t403 t404 t405 t406 t409 t410 t411 t412 t413) else ((linear_Fit.f k a1_0 a1_1 a1_2 a1_3 a1_4).bind fun t416 => (gimballaw14_LinearRules.j0 k t407 t414 (t414 != t416) a0_0 a0_1 a0_2 a0_3 a0_4 a1_0 a1_1 a1_2 a1_3 a1_4 t402 t403 t404 t405 t406 t409 t410 t411 t412 t413)))) = some true := H
  have A6 := Aside0.mk A60
  clear A60
  have HC7 := Aside0.mk H
  clear H
  go_enter Try.func6, Try.ntmps6
  go_upto_region 5 with (first | ((with_reducible refine gate_dst (N := 2) rfl ?_); refine box_event ?hg (N := 2) ?hd (cs := #[.int .i64 a0_0, .int .i64 a0_1, .int .i64 a0_2, .int .i64 a0_3, .int .i64 a0_4]) (t := 23) ?hr ?_; (case hd => rfl); (case hg => rfl); (case hr => first | (go_simp; done) | (go_simp; rfl)); intro gb386 hg w8 hbox hb; have n0_ := bst HB hb; have n1_ := Aside0.mk (hbox); have n2_ := bsz HB hg; have n3_ := bsz HB hg; clear HB; have HB := n0_; have BK386 := n1_; have GW386 := n2_; have GE386 := n3_; clear n0_ n1_ n2_ n3_; clear hb hbox hg) | ((with_reducible refine gate_dst (N := 3) rfl ?_); refine box_event ?hg (N := 3) ?hd (cs := #[.int .i64 a1_0, .int .i64 a1_1, .int .i64 a1_2, .int .i64 a1_3, .int .i64 a1_4]) (t := 23) ?hr ?_; (case hd => rfl); (case hg => rfl); (case hr => first | (go_simp; done) | (go_simp; rfl)); intro gb387 hg w9 hbox hb; have n0_ := bst HB hb; have n1_ := Aside0.mk (hbox); have n2_ := bsz HB hg; have n3_ := bsz HB hg; have n4_ := bn1 BK386 hg; have n5_ := bn2 BK386 hg; replace BK386 := bbw BK386 hb; clear HB; have HB := n0_; have BK387 := n1_; have GW387 := n2_; have GE387 := n3_; have NB386_387 := n4_; have NB387_386 := n5_; clear n0_ n1_ n2_ n3_ n4_ n5_; clear hb hbox hg; have hnb10 := NB386_387.out; have hnc10 := NB387_386.out; have hcz11_0 := hcz BK386 0; have hcz11_1 := hcz BK386 1; have hcz11_2 := hcz BK386 2; have hcz11_3 := hcz BK386 3; have hcz11_4 := hcz BK386 4; have hfz11_0 := blk_frozen BK386.out 0; have hfz11_1 := blk_frozen BK386.out 1; have hfz11_2 := blk_frozen BK386.out 2; have hfz11_3 := blk_frozen BK386.out 3; have hfz11_4 := blk_frozen BK386.out 4; have hcz12_0 := hcz BK387 0; have hcz12_1 := hcz BK387 1; have hcz12_2 := hcz BK387 2; have hcz12_3 := hcz BK387 3; have hcz12_4 := hcz BK387 4; have hfz12_0 := blk_frozen BK387.out 0; have hfz12_1 := blk_frozen BK387.out 1; have hfz12_2 := blk_frozen BK387.out 2; have hfz12_3 := blk_frozen BK387.out 3; have hfz12_4 := blk_frozen BK387.out 4) | ((with_reducible refine gate_callee (f := 11) rfl ?_); refine goesL_ (some 23) rfl rfl Try.func11 (by kernel_rfl) rfl #[.agg #[.int .i64 a0_0, .int .i64 a0_1, .int .i64 a0_2, .int .i64 a0_3, .int .i64 a0_4], .agg #[.int .i64 a1_0, .int .i64 a1_1, .int .i64 a1_2, .int .i64 a1_3, .int .i64 a1_4]] rfl (by (try simp only [List.map_toArray, List.map_cons, List.map_nil]); first | done | rfl | (simp only [List.length_drop, List.length_take]; rfl)) ?_; (with_reducible refine (linear_Add.calls k a0_0 a0_1 a0_2 a0_3 a0_4 a1_0 a1_1 a1_2 a1_3 a1_4 t388 t389 t390 t391 t392 t393 _ A3.out).mono ?_); rintro e w13 ⟨rfl, hb⟩; refine ⟨_, rfl, ?_⟩; have n0_ := bst HB hb; replace BK386 := bbw BK386 hb; replace BK387 := bbw BK387 hb; clear HB; have HB := n0_; clear n0_; (try clear hb); (try clear hb2); (try clear hk); (try clear hi)) | ((with_reducible refine gate_dst (N := 5) rfl ?_); refine box_event ?hg (N := 5) ?hd (cs := #[.int .i64 0, .int .i64 0, .int .i64 0, .int .i64 0, .int .i64 0]) (t := 23) ?hr ?_; (case hd => rfl); (case hg => rfl); (case hr => first | (go_simp; done) | (go_simp; rfl)); intro gb394 hg w14 hbox hb; have n0_ := bst HB hb; have n1_ := Aside0.mk (hbox); have n2_ := bsz HB hg; have n3_ := bsz HB hg; have n4_ := bn1 BK386 hg; have n5_ := bn2 BK386 hg; have n6_ := bn1 BK387 hg; have n7_ := bn2 BK387 hg; replace BK386 := bbw BK386 hb; replace BK387 := bbw BK387 hb; clear HB; have HB := n0_; have BK394 := n1_; have GW394 := n2_; have GE394 := n3_; have NB386_394 := n4_; have NB394_386 := n5_; have NB387_394 := n6_; have NB394_387 := n7_; clear n0_ n1_ n2_ n3_ n4_ n5_ n6_ n7_; clear hb hbox hg; have hnb15 := NB394_386.out; have hnc15 := NB386_394.out; have hnb16 := NB394_387.out; have hnc16 := NB387_394.out; have hcz17_0 := hcz BK394 0; have hcz17_1 := hcz BK394 1; have hcz17_2 := hcz BK394 2; have hcz17_3 := hcz BK394 3; have hcz17_4 := hcz BK394 4; have hfz17_0 := blk_frozen BK394.out 0; have hfz17_1 := blk_frozen BK394.out 1; have hfz17_2 := blk_frozen BK394.out 2; have hfz17_3 := blk_frozen BK394.out 3; have hfz17_4 := blk_frozen BK394.out 4; have hcz18_0 := hcz BK387 0; have hcz18_1 := hcz BK387 1; have hcz18_2 := hcz BK387 2; have hcz18_3 := hcz BK387 3; have hcz18_4 := hcz BK387 4; have hfz18_0 := blk_frozen BK387.out 0; have hfz18_1 := blk_frozen BK387.out 1; have hfz18_2 := blk_frozen BK387.out 2; have hfz18_3 := blk_frozen BK387.out 3; have hfz18_4 := blk_frozen BK387.out 4; have hcz19_0 := hcz BK386 0; have hcz19_1 := hcz BK386 1; have hcz19_2 := hcz BK386 2; have hcz19_3 := hcz BK386 3; have hcz19_4 := hcz BK386 4; have hfz19_0 := blk_frozen BK386.out 0; have hfz19_1 := blk_frozen BK386.out 1; have hfz19_2 := blk_frozen BK386.out 2; have hfz19_3 := blk_frozen BK386.out 3; have hfz19_4 := blk_frozen BK386.out 4) | ((with_reducible refine gate_callee (f := 11) rfl ?_); refine goesL_ (some 29) rfl rfl Try.func11 (by kernel_rfl) rfl #[.agg #[.int .i64 a1_0, .int .i64 a1_1, .int .i64 a1_2, .int .i64 a1_3, .int .i64 a1_4], .agg #[.int .i64 a0_0, .int .i64 a0_1, .int .i64 a0_2, .int .i64 a0_3, .int .i64 a0_4]] rfl (by (try simp only [List.map_toArray, List.map_cons, List.map_nil]); first | done | rfl | (simp only [List.length_drop, List.length_take]; rfl)) ?_; (with_reducible refine (linear_Add.calls k a1_0 a1_1 a1_2 a1_3 a1_4 a0_0 a0_1 a0_2 a0_3 a0_4 t395 t396 t397 t398 t399 t400 _ A4.out).mono ?_); rintro e w20 ⟨rfl, hb⟩; refine ⟨_, rfl, ?_⟩; have n0_ := Aside0.mk (blk_below (g := gb386) (o := .cells #[.int .i64 a0_0, .int .i64 a0_1, .int .i64 a0_2, .int .i64 a0_3, .int .i64 a0_4] 23 (0, 0)) (by refine pkB ?_; refine blk_far ?_ NB386_394.out _; refine pkB ?_; refine blk_far ?_ NB386_394.out _; refine pkB ?_; refine blk_far ?_ NB386_394.out _; refine pkB ?_; refine blk_far ?_ NB386_394.out _; refine pkB ?_; refine blk_far ?_ NB386_394.out _; refine pkB ?_; exact BK386.out) hb); have n1_ := Aside0.mk (blk_below (g := gb387) (o := .cells #[.int .i64 a1_0, .int .i64 a1_1, .int .i64 a1_2, .int .i64 a1_3, .int .i64 a1_4] 23 (0, 0)) (by refine pkB ?_; refine blk_far ?_ NB387_394.out _; refine pkB ?_; refine blk_far ?_ NB387_394.out _; refine pkB ?_; refine blk_far ?_ NB387_394.out _; refine pkB ?_; refine blk_far ?_ NB387_394.out _; refine pkB ?_; refine blk_far ?_ NB387_394.out _; refine pkB ?_; exact BK387.out) hb); have n2_ := Aside0.mk (blk_below (g := gb394) (o := .cells #[.int .i64 t388, .int .i64 t389, .int .i64 t390, .int .i64 t391, .int .i64 t392] 23 (0, 0)) (by refine pkB ?_; refine blk_put (cs := #[.int .i64 t388, .int .i64 t389, .int .i64 t390, .int .i64 t391, .int .i64 0]) ?_ 4 _ (by first | rfl | (subst_vars; rfl)); refine pkB ?_; refine blk_put (cs := #[.int .i64 t388, .int .i64 t389, .int .i64 t390, .int .i64 0, .int .i64 0]) ?_ 3 _ (by first | rfl | (subst_vars; rfl)); refine pkB ?_; refine blk_put (cs := #[.int .i64 t388, .int .i64 t389, .int .i64 0, .int .i64 0, .int .i64 0]) ?_ 2 _ (by first | rfl | (subst_vars; rfl)); refine pkB ?_; refine blk_put (cs := #[.int .i64 t388, .int .i64 0, .int .i64 0, .int .i64 0, .int .i64 0]) ?_ 1 _ (by first | rfl | (subst_vars; rfl)); refine pkB ?_; refine blk_put (cs := #[.int .i64 0, .int .i64 0, .int .i64 0, .int .i64 0, .int .i64 0]) ?_ 0 _ (by first | rfl | (subst_vars; rfl)); refine pkB ?_; exact BK394.out) hb); have n3_ := bst HB hb; clear BK386; clear BK387; clear BK394; clear HB; have BK386 := n0_; have BK387 := n1_; have BK394 := n2_; have HB := n3_; clear n0_ n1_ n2_ n3_; (try clear hb); (try clear hb2); (try clear hk); (try clear hi)) | ((with_reducible refine gate_dst (N := 7) rfl ?_); refine box_event ?hg (N := 7) ?hd (cs := #[.int .i64 0, .int .i64 0, .int .i64 0, .int .i64 0, .int .i64 0]) (t := 23) ?hr ?_; (case hd => rfl); (case hg => rfl); (case hr => first | (go_simp; done) | (go_simp; rfl)); intro gb401 hg w21 hbox hb; have n0_ := bst HB hb; have n1_ := Aside0.mk (hbox); have n2_ := bsz HB hg; have n3_ := bsz HB hg; have n4_ := bn1 BK386 hg; have n5_ := bn2 BK386 hg; have n6_ := bn1 BK387 hg; have n7_ := bn2 BK387 hg; have n8_ := bn1 BK394 hg; have n9_ := bn2 BK394 hg; replace BK386 := bbw BK386 hb; replace BK387 := bbw BK387 hb; replace BK394 := bbw BK394 hb; clear HB; have HB := n0_; have BK401 := n1_; have GW401 := n2_; have GE401 := n3_; have NB386_401 := n4_; have NB401_386 := n5_; have NB387_401 := n6_; have NB401_387 := n7_; have NB394_401 := n8_; have NB401_394 := n9_; clear n0_ n1_ n2_ n3_ n4_ n5_ n6_ n7_ n8_ n9_; clear hb hbox hg; have hnb22 := NB401_386.out; have hnc22 := NB386_401.out; have hnb23 := NB401_387.out; have hnc23 := NB387_401.out; have hnb24 := NB401_394.out; have hnc24 := NB394_401.out; have hcz25_0 := hcz BK401 0; have hcz25_1 := hcz BK401 1; have hcz25_2 := hcz BK401 2; have hcz25_3 := hcz BK401 3; have hcz25_4 := hcz BK401 4; have hfz25_0 := blk_frozen BK401.out 0; have hfz25_1 := blk_frozen BK401.out 1; have hfz25_2 := blk_frozen BK401.out 2; have hfz25_3 := blk_frozen BK401.out 3; have hfz25_4 := blk_frozen BK401.out 4; have hcz26_0 := hcz BK386 0; have hcz26_1 := hcz BK386 1; have hcz26_2 := hcz BK386 2; have hcz26_3 := hcz BK386 3; have hcz26_4 := hcz BK386 4; have hfz26_0 := blk_frozen BK386.out 0; have hfz26_1 := blk_frozen BK386.out 1; have hfz26_2 := blk_frozen BK386.out 2; have hfz26_3 := blk_frozen BK386.out 3; have hfz26_4 := blk_frozen BK386.out 4; have hcz27_0 := hcz BK387 0; have hcz27_1 := hcz BK387 1; have hcz27_2 := hcz BK387 2; have hcz27_3 := hcz BK387 3; have hcz27_4 := hcz BK387 4; have hfz27_0 := blk_frozen BK387.out 0; have hfz27_1 := blk_frozen BK387.out 1; have hfz27_2 := blk_frozen BK387.out 2; have hfz27_3 := blk_frozen BK387.out 3; have hfz27_4 := blk_frozen BK387.out 4) | ((with_reducible refine gate_callee (f := 12) rfl ?_); refine goesL_ (some 35) rfl rfl Try.func12 (by kernel_rfl) rfl #[.agg #[.int .i64 a0_0, .int .i64 a0_1, .int .i64 a0_2, .int .i64 a0_3, .int .i64 a0_4], .agg #[.int .i64 a1_0, .int .i64 a1_1, .int .i64 a1_2, .int .i64 a1_3, .int .i64 a1_4]] rfl (by (try simp only [List.map_toArray, List.map_cons, List.map_nil]); first | done | rfl | (simp only [List.length_drop, List.length_take]; rfl)) ?_; (with_reducible refine (linear_Sub.calls k a0_0 a0_1 a0_2 a0_3 a0_4 a1_0 a1_1 a1_2 a1_3 a1_4 t402 t403 t404 t405 t406 t407 _ A5.out).mono ?_); rintro e w28 ⟨rfl, hb⟩; refine ⟨_, rfl, ?_⟩; have n0_ := Aside0.mk (blk_below (g := gb386) (o := .cells #[.int .i64 a0_0, .int .i64 a0_1, .int .i64 a0_2, .int .i64 a0_3, .int .i64 a0_4] 23 (0, 0)) (by refine pkB ?_; refine blk_far ?_ NB386_401.out _; refine pkB ?_; refine blk_far ?_ NB386_401.out _; refine pkB ?_; refine blk_far ?_ NB386_401.out _; refine pkB ?_; refine blk_far ?_ NB386_401.out _; refine pkB ?_; refine blk_far ?_ NB386_401.out _; refine pkB ?_; exact BK386.out) hb); have n1_ := Aside0.mk (blk_below (g := gb387) (o := .cells #[.int .i64 a1_0, .int .i64 a1_1, .int .i64 a1_2, .int .i64 a1_3, .int .i64 a1_4] 23 (0, 0)) (by refine pkB ?_; refine blk_far ?_ NB387_401.out _; refine pkB ?_; refine blk_far ?_ NB387_401.out _; refine pkB ?_; refine blk_far ?_ NB387_401.out _; refine pkB ?_; refine blk_far ?_ NB387_401.out _; refine pkB ?_; refine blk_far ?_ NB387_401.out _; refine pkB ?_; exact BK387.out) hb); have n2_ := Aside0.mk (blk_below (g := gb394) (o := .cells #[.int .i64 t388, .int .i64 t389, .int .i64 t390, .int .i64 t391, .int .i64 t392] 23 (0, 0)) (by refine pkB ?_; refine blk_far ?_ NB394_401.out _; refine pkB ?_; refine blk_far ?_ NB394_401.out _; refine pkB ?_; refine blk_far ?_ NB394_401.out _; refine pkB ?_; refine blk_far ?_ NB394_401.out _; refine pkB ?_; refine blk_far ?_ NB394_401.out _; refine pkB ?_; exact BK394.out) hb); have n3_ := Aside0.mk (blk_below (g := gb401) (o := .cells #[.int .i64 t395, .int .i64 t396, .int .i64 t397, .int .i64 t398, .int .i64 t399] 23 (0, 0)) (by refine pkB ?_; refine blk_put (cs := #[.int .i64 t395, .int .i64 t396, .int .i64 t397, .int .i64 t398, .int .i64 0]) ?_ 4 _ (by first | rfl | (subst_vars; rfl)); refine pkB ?_; refine blk_put (cs := #[.int .i64 t395, .int .i64 t396, .int .i64 t397, .int .i64 0, .int .i64 0]) ?_ 3 _ (by first | rfl | (subst_vars; rfl)); refine pkB ?_; refine blk_put (cs := #[.int .i64 t395, .int .i64 t396, .int .i64 0, .int .i64 0, .int .i64 0]) ?_ 2 _ (by first | rfl | (subst_vars; rfl)); refine pkB ?_; refine blk_put (cs := #[.int .i64 t395, .int .i64 0, .int .i64 0, .int .i64 0, .int .i64 0]) ?_ 1 _ (by first | rfl | (subst_vars; rfl)); refine pkB ?_; refine blk_put (cs := #[.int .i64 0, .int .i64 0, .int .i64 0, .int .i64 0, .int .i64 0]) ?_ 0 _ (by first | rfl | (subst_vars; rfl)); refine pkB ?_; exact BK401.out) hb); have n4_ := bst HB hb; clear BK386; clear BK387; clear BK394; clear BK401; clear HB; have BK386 := n0_; have BK387 := n1_; have BK394 := n2_; have BK401 := n3_; have HB := n4_; clear n0_ n1_ n2_ n3_ n4_; (try clear hb); (try clear hb2); (try clear hk); (try clear hi)) | ((with_reducible refine gate_dst (N := 9) rfl ?_); refine box_event ?hg (N := 9) ?hd (cs := #[.int .i64 0, .int .i64 0, .int .i64 0, .int .i64 0, .int .i64 0]) (t := 23) ?hr ?_; (case hd => rfl); (case hg => rfl); (case hr => first | (go_simp; done) | (go_simp; rfl)); intro gb408 hg w29 hbox hb; have n0_ := bst HB hb; have n1_ := Aside0.mk (hbox); have n2_ := bsz HB hg; have n3_ := bsz HB hg; have n4_ := bn1 BK386 hg; have n5_ := bn2 BK386 hg; have n6_ := bn1 BK387 hg; have n7_ := bn2 BK387 hg; have n8_ := bn1 BK394 hg; have n9_ := bn2 BK394 hg; have n10_ := bn1 BK401 hg; have n11_ := bn2 BK401 hg; replace BK386 := bbw BK386 hb; replace BK387 := bbw BK387 hb; replace BK394 := bbw BK394 hb; replace BK401 := bbw BK401 hb; clear HB; have HB := n0_; have BK408 := n1_; have GW408 := n2_; have GE408 := n3_; have NB386_408 := n4_; have NB408_386 := n5_; have NB387_408 := n6_; have NB408_387 := n7_; have NB394_408 := n8_; have NB408_394 := n9_; have NB401_408 := n10_; have NB408_401 := n11_; clear n0_ n1_ n2_ n3_ n4_ n5_ n6_ n7_ n8_ n9_ n10_ n11_; clear hb hbox hg; have hnb30 := NB408_386.out; have hnc30 := NB386_408.out; have hnb31 := NB408_387.out; have hnc31 := NB387_408.out; have hnb32 := NB408_394.out; have hnc32 := NB394_408.out; have hnb33 := NB408_401.out; have hnc33 := NB401_408.out; have hcz34_0 := hcz BK408 0; have hcz34_1 := hcz BK408 1; have hcz34_2 := hcz BK408 2; have hcz34_3 := hcz BK408 3; have hcz34_4 := hcz BK408 4; have hfz34_0 := blk_frozen BK408.out 0; have hfz34_1 := blk_frozen BK408.out 1; have hfz34_2 := blk_frozen BK408.out 2; have hfz34_3 := blk_frozen BK408.out 3; have hfz34_4 := blk_frozen BK408.out 4; have hcz35_0 := hcz BK387 0; have hcz35_1 := hcz BK387 1; have hcz35_2 := hcz BK387 2; have hcz35_3 := hcz BK387 3; have hcz35_4 := hcz BK387 4; have hfz35_0 := blk_frozen BK387.out 0; have hfz35_1 := blk_frozen BK387.out 1; have hfz35_2 := blk_frozen BK387.out 2; have hfz35_3 := blk_frozen BK387.out 3; have hfz35_4 := blk_frozen BK387.out 4) | ((with_reducible refine gate_callee (f := 13) rfl ?_); refine goesL_ (some 40) rfl rfl Try.func13 (by kernel_rfl) rfl #[.agg #[.int .i64 a1_0, .int .i64 a1_1, .int .i64 a1_2, .int .i64 a1_3, .int .i64 a1_4]] rfl (by (try simp only [List.map_toArray, List.map_cons, List.map_nil]); first | done | rfl | (simp only [List.length_drop, List.length_take]; rfl)) ?_; (with_reducible refine (linear_Neg.calls k a1_0 a1_1 a1_2 a1_3 a1_4 t409 t410 t411 t412 t413 t414 _ A6.out).mono ?_); rintro e w36 ⟨rfl, hb⟩; refine ⟨_, rfl, ?_⟩; have n0_ := Aside0.mk (blk_below (g := gb386) (o := .cells #[.int .i64 a0_0, .int .i64 a0_1, .int .i64 a0_2, .int .i64 a0_3, .int .i64 a0_4] 23 (0, 0)) (by refine pkB ?_; refine blk_far ?_ NB386_408.out _; refine pkB ?_; refine blk_far ?_ NB386_408.out _; refine pkB ?_; refine blk_far ?_ NB386_408.out _; refine pkB ?_; refine blk_far ?_ NB386_408.out _; refine pkB ?_; refine blk_far ?_ NB386_408.out _; refine pkB ?_; exact BK386.out) hb); have n1_ := Aside0.mk (blk_below (g := gb387) (o := .cells #[.int .i64 a1_0, .int .i64 a1_1, .int .i64 a1_2, .int .i64 a1_3, .int .i64 a1_4] 23 (0, 0)) (by refine pkB ?_; refine blk_far ?_ NB387_408.out _; refine pkB ?_; refine blk_far ?_ NB387_408.out _; refine pkB ?_; refine blk_far ?_ NB387_408.out _; refine pkB ?_; refine blk_far ?_ NB387_408.out _; refine pkB ?_; refine blk_far ?_ NB387_408.out _; refine pkB ?_; exact BK387.out) hb); have n2_ := Aside0.mk (blk_below (g := gb394) (o := .cells #[.int .i64 t388, .int .i64 t389, .int .i64 t390, .int .i64 t391, .int .i64 t392] 23 (0, 0)) (by refine pkB ?_; refine blk_far ?_ NB394_408.out _; refine pkB ?_; refine blk_far ?_ NB394_408.out _; refine pkB ?_; refine blk_far ?_ NB394_408.out _; refine pkB ?_; refine blk_far ?_ NB394_408.out _; refine pkB ?_; refine blk_far ?_ NB394_408.out _; refine pkB ?_; exact BK394.out) hb); have n3_ := Aside0.mk (blk_below (g := gb401) (o := .cells #[.int .i64 t395, .int .i64 t396, .int .i64 t397, .int .i64 t398, .int .i64 t399] 23 (0, 0)) (by refine pkB ?_; refine blk_far ?_ NB401_408.out _; refine pkB ?_; refine blk_far ?_ NB401_408.out _; refine pkB ?_; refine blk_far ?_ NB401_408.out _; refine pkB ?_; refine blk_far ?_ NB401_408.out _; refine pkB ?_; refine blk_far ?_ NB401_408.out _; refine pkB ?_; exact BK401.out) hb); have n4_ := Aside0.mk (blk_below (g := gb408) (o := .cells #[.int .i64 t402, .int .i64 t403, .int .i64 t404, .int .i64 t405, .int .i64 t406] 23 (0, 0)) (by refine pkB ?_; refine blk_put (cs := #[.int .i64 t402, .int .i64 t403, .int .i64 t404, .int .i64 t405, .int .i64 0]) ?_ 4 _ (by first | rfl | (subst_vars; rfl)); refine pkB ?_; refine blk_put (cs := #[.int .i64 t402, .int .i64 t403, .int .i64 t404, .int .i64 0, .int .i64 0]) ?_ 3 _ (by first | rfl | (subst_vars; rfl)); refine pkB ?_; refine blk_put (cs := #[.int .i64 t402, .int .i64 t403, .int .i64 0, .int .i64 0, .int .i64 0]) ?_ 2 _ (by first | rfl | (subst_vars; rfl)); refine pkB ?_; refine blk_put (cs := #[.int .i64 t402, .int .i64 0, .int .i64 0, .int .i64 0, .int .i64 0]) ?_ 1 _ (by first | rfl | (subst_vars; rfl)); refine pkB ?_; refine blk_put (cs := #[.int .i64 0, .int .i64 0, .int .i64 0, .int .i64 0, .int .i64 0]) ?_ 0 _ (by first | rfl | (subst_vars; rfl)); refine pkB ?_; exact BK408.out) hb); have n5_ := bst HB hb; clear BK386; clear BK387; clear BK394; clear BK401; clear BK408; clear HB; have BK386 := n0_; have BK387 := n1_; have BK394 := n2_; have BK401 := n3_; have BK408 := n4_; have HB := n5_; clear n0_ n1_ n2_ n3_ n4_ n5_; (try clear hb); (try clear hb2); (try clear hk); (try clear hi)) | ((with_reducible refine gate_dst (N := 11) rfl ?_); refine box_event ?hg (N := 11) ?hd (cs := #[.int .i64 0, .int .i64 0, .int .i64 0, .int .i64 0, .int .i64 0]) (t := 23) ?hr ?_; (case hd => rfl); (case hg => rfl); (case hr => first | (go_simp; done) | (go_simp; rfl)); intro gb415 hg w37 hbox hb; have n0_ := bst HB hb; have n1_ := Aside0.mk (hbox); have n2_ := bsz HB hg; have n3_ := bsz HB hg; have n4_ := bn1 BK386 hg; have n5_ := bn2 BK386 hg; have n6_ := bn1 BK387 hg; have n7_ := bn2 BK387 hg; have n8_ := bn1 BK394 hg; have n9_ := bn2 BK394 hg; have n10_ := bn1 BK401 hg; have n11_ := bn2 BK401 hg; have n12_ := bn1 BK408 hg; have n13_ := bn2 BK408 hg; replace BK386 := bbw BK386 hb; replace BK387 := bbw BK387 hb; replace BK394 := bbw BK394 hb; replace BK401 := bbw BK401 hb; replace BK408 := bbw BK408 hb; clear HB; have HB := n0_; have BK415 := n1_; have GW415 := n2_; have GE415 := n3_; have NB386_415 := n4_; have NB415_386 := n5_; have NB387_415 := n6_; have NB415_387 := n7_; have NB394_415 := n8_; have NB415_394 := n9_; have NB401_415 := n10_; have NB415_401 := n11_; have NB408_415 := n12_; have NB415_408 := n13_; clear n0_ n1_ n2_ n3_ n4_ n5_ n6_ n7_ n8_ n9_ n10_ n11_ n12_ n13_; clear hb hbox hg; have hnb38 := NB415_386.out; have hnc38 := NB386_415.out; have hnb39 := NB415_387.out; have hnc39 := NB387_415.out; have hnb40 := NB415_394.out; have hnc40 := NB394_415.out; have hnb41 := NB415_401.out; have hnc41 := NB401_415.out; have hnb42 := NB415_408.out; have hnc42 := NB408_415.out; have hcz43_0 := hcz BK415 0; have hcz43_1 := hcz BK415 1; have hcz43_2 := hcz BK415 2; have hcz43_3 := hcz BK415 3; have hcz43_4 := hcz BK415 4; have hfz43_0 := blk_frozen BK415.out 0; have hfz43_1 := blk_frozen BK415.out 1; have hfz43_2 := blk_frozen BK415.out 2; have hfz43_3 := blk_frozen BK415.out 3; have hfz43_4 := blk_frozen BK415.out 4))
  (try simp only [Act.put, List.setIfInBounds_toArray, List.set_cons_zero, List.set_cons_succ])
  go_cut [56] (fun v56 wc => ∃ (kq : Nat) (x56_6 : Bool), v56 = .bool x56_6 ∧ Aside0 (gimballaw14_LinearRules.j0 kq t407 t414 x56_6 a0_0 a0_1 a0_2 a0_3 a0_4 a1_0 a1_1 a1_2 a1_3 a1_4 t402 t403 t404 t405 t406 t409 t410 t411 t412 t413 = some true) ∧ Aside0 (kq ≤ k) ∧ Aside0 (wc.heap[gb386]? = some (.cells #[.int .i64 a0_0, .int .i64 a0_1, .int .i64 a0_2, .int .i64 a0_3, .int .i64 a0_4] 23 (0, 0))) ∧ Aside0 (wc.heap[gb387]? = some (.cells #[.int .i64 a1_0, .int .i64 a1_1, .int .i64 a1_2, .int .i64 a1_3, .int .i64 a1_4] 23 (0, 0))) ∧ Aside0 (wc.heap[gb394]? = some (.cells #[.int .i64 t388, .int .i64 t389, .int .i64 t390, .int .i64 t391, .int .i64 t392] 23 (0, 0))) ∧ Aside0 (wc.heap[gb401]? = some (.cells #[.int .i64 t395, .int .i64 t396, .int .i64 t397, .int .i64 t398, .int .i64 t399] 23 (0, 0))) ∧ Aside0 (wc.heap[gb408]? = some (.cells #[.int .i64 t402, .int .i64 t403, .int .i64 t404, .int .i64 t405, .int .i64 t406] 23 (0, 0))) ∧ Aside0 (wc.heap[gb415]? = some (.cells #[.int .i64 t409, .int .i64 t410, .int .i64 t411, .int .i64 t412, .int .i64 t413] 23 (0, 0))) ∧ Aside0 (Below w.heap.size w wc))
  case first =>
   have H := HC7.out
   clear HC7
   by_cases c44 : (!(t388 == t395) || (!(t389 == t396) || (!(t390 == t397) || (!(t391 == t398) || (!(t392 == t399)))))) = true
   ·
    rw [if_pos c44] at H
    have c44b0 : (!(t388 == t395) || (!(t389 == t396) || (!(t390 == t397) || (!(t391 == t398) || (!(t392 == t399)))))) = true := c44
    clear c44
    (first | rw [c44b0] | (simp only [i64_w, i32_w]; rw [c44b0]) | skip)
    have H' := Aside0.mk H
    clear H
    have hnb45 := NB394_386.out
    have hnc45 := NB386_394.out
    have hnb46 := NB394_387.out
    have hnc46 := NB387_394.out
    have hnb47 := NB394_401.out
    have hnc47 := NB401_394.out
    have hnb48 := NB394_408.out
    have hnc48 := NB408_394.out
    have hnb49 := NB394_415.out
    have hnc49 := NB415_394.out
    have hcz50_0 := hcz BK394 0
    have hcz50_1 := hcz BK394 1
    have hcz50_2 := hcz BK394 2
    have hcz50_3 := hcz BK394 3
    have hcz50_4 := hcz BK394 4
    have hfz50_0 := blk_frozen BK394.out 0
    have hfz50_1 := blk_frozen BK394.out 1
    have hfz50_2 := blk_frozen BK394.out 2
    have hfz50_3 := blk_frozen BK394.out 3
    have hfz50_4 := blk_frozen BK394.out 4
    have hnb51 := NB401_386.out
    have hnc51 := NB386_401.out
    have hnb52 := NB401_387.out
    have hnc52 := NB387_401.out
    have hnb53 := NB401_408.out
    have hnc53 := NB408_401.out
    have hnb54 := NB401_415.out
    have hnc54 := NB415_401.out
    have hcz55_0 := hcz BK401 0
    have hcz55_1 := hcz BK401 1
    have hcz55_2 := hcz BK401 2
    have hcz55_3 := hcz BK401 3
    have hcz55_4 := hcz BK401 4
    have hfz55_0 := blk_frozen BK401.out 0
    have hfz55_1 := blk_frozen BK401.out 1
    have hfz55_2 := blk_frozen BK401.out 2
    have hfz55_3 := blk_frozen BK401.out 3
    have hfz55_4 := blk_frozen BK401.out 4
    go_wp2
    go_meet
    case rel => exact ⟨_, (true), (by first | rfl | (simp; done) | (simp [*]; done)), H', ⟨by first | omega | exact Nat.le_refl _⟩, ⟨by refine pkB ?_; refine blk_far ?_ NB386_415.out _; refine pkB ?_; refine blk_far ?_ NB386_415.out _; refine pkB ?_; refine blk_far ?_ NB386_415.out _; refine pkB ?_; refine blk_far ?_ NB386_415.out _; refine pkB ?_; refine blk_far ?_ NB386_415.out _; refine pkB ?_; exact BK386.out⟩, ⟨by refine pkB ?_; refine blk_far ?_ NB387_415.out _; refine pkB ?_; refine blk_far ?_ NB387_415.out _; refine pkB ?_; refine blk_far ?_ NB387_415.out _; refine pkB ?_; refine blk_far ?_ NB387_415.out _; refine pkB ?_; refine blk_far ?_ NB387_415.out _; refine pkB ?_; exact BK387.out⟩, ⟨by refine pkB ?_; refine blk_far ?_ NB394_415.out _; refine pkB ?_; refine blk_far ?_ NB394_415.out _; refine pkB ?_; refine blk_far ?_ NB394_415.out _; refine pkB ?_; refine blk_far ?_ NB394_415.out _; refine pkB ?_; refine blk_far ?_ NB394_415.out _; refine pkB ?_; exact BK394.out⟩, ⟨by refine pkB ?_; refine blk_far ?_ NB401_415.out _; refine pkB ?_; refine blk_far ?_ NB401_415.out _; refine pkB ?_; refine blk_far ?_ NB401_415.out _; refine pkB ?_; refine blk_far ?_ NB401_415.out _; refine pkB ?_; refine blk_far ?_ NB401_415.out _; refine pkB ?_; exact BK401.out⟩, ⟨by refine pkB ?_; refine blk_far ?_ NB408_415.out _; refine pkB ?_; refine blk_far ?_ NB408_415.out _; refine pkB ?_; refine blk_far ?_ NB408_415.out _; refine pkB ?_; refine blk_far ?_ NB408_415.out _; refine pkB ?_; refine blk_far ?_ NB408_415.out _; refine pkB ?_; exact BK408.out⟩, ⟨by refine pkB ?_; refine blk_put (cs := #[.int .i64 t409, .int .i64 t410, .int .i64 t411, .int .i64 t412, .int .i64 0]) ?_ 4 _ (by first | rfl | (subst_vars; rfl)); refine pkB ?_; refine blk_put (cs := #[.int .i64 t409, .int .i64 t410, .int .i64 t411, .int .i64 0, .int .i64 0]) ?_ 3 _ (by first | rfl | (subst_vars; rfl)); refine pkB ?_; refine blk_put (cs := #[.int .i64 t409, .int .i64 t410, .int .i64 0, .int .i64 0, .int .i64 0]) ?_ 2 _ (by first | rfl | (subst_vars; rfl)); refine pkB ?_; refine blk_put (cs := #[.int .i64 t409, .int .i64 0, .int .i64 0, .int .i64 0, .int .i64 0]) ?_ 1 _ (by first | rfl | (subst_vars; rfl)); refine pkB ?_; refine blk_put (cs := #[.int .i64 0, .int .i64 0, .int .i64 0, .int .i64 0, .int .i64 0]) ?_ 0 _ (by first | rfl | (subst_vars; rfl)); refine pkB ?_; exact BK415.out⟩, bpk HB⟩
   ·
    rw [if_neg c44] at H
    have c44b0 : (!(t388 == t395) || (!(t389 == t396) || (!(t390 == t397) || (!(t391 == t398) || (!(t392 == t399)))))) = false := by simpa using c44
    clear c44
    (first | rw [c44b0] | (simp only [i64_w, i32_w]; rw [c44b0]) | skip)
    by_cases c56 : (t393 != t400) = true
    ·
     rw [if_pos c56] at H
     have c56b0 : (t393 != t400) = true := c56
     (try (have c56b1 : decide (t393 = t400) = false := by simpa using c56))
     (try (have c56b2 : (t393 == t400) = false := by simpa using c56))
     (try (have c56b3 : ¬ (t393 = t400) := by simpa using c56))
     clear c56
     have H' := Aside0.mk H
     clear H
     have hnb57 := NB394_386.out
     have hnc57 := NB386_394.out
     have hnb58 := NB394_387.out
     have hnc58 := NB387_394.out
     have hnb59 := NB394_401.out
     have hnc59 := NB401_394.out
     have hnb60 := NB394_408.out
     have hnc60 := NB408_394.out
     have hnb61 := NB394_415.out
     have hnc61 := NB415_394.out
     have hcz62_0 := hcz BK394 0
     have hcz62_1 := hcz BK394 1
     have hcz62_2 := hcz BK394 2
     have hcz62_3 := hcz BK394 3
     have hcz62_4 := hcz BK394 4
     have hfz62_0 := blk_frozen BK394.out 0
     have hfz62_1 := blk_frozen BK394.out 1
     have hfz62_2 := blk_frozen BK394.out 2
     have hfz62_3 := blk_frozen BK394.out 3
     have hfz62_4 := blk_frozen BK394.out 4
     have hnb63 := NB401_386.out
     have hnc63 := NB386_401.out
     have hnb64 := NB401_387.out
     have hnc64 := NB387_401.out
     have hnb65 := NB401_408.out
     have hnc65 := NB408_401.out
     have hnb66 := NB401_415.out
     have hnc66 := NB415_401.out
     have hcz67_0 := hcz BK401 0
     have hcz67_1 := hcz BK401 1
     have hcz67_2 := hcz BK401 2
     have hcz67_3 := hcz BK401 3
     have hcz67_4 := hcz BK401 4
     have hfz67_0 := blk_frozen BK401.out 0
     have hfz67_1 := blk_frozen BK401.out 1
     have hfz67_2 := blk_frozen BK401.out 2
     have hfz67_3 := blk_frozen BK401.out 3
     have hfz67_4 := blk_frozen BK401.out 4
     go_wp2
     go_meet
     case rel => exact ⟨_, (true), (by first | rfl | (simp; done) | (simp [*]; done)), H', ⟨by first | omega | exact Nat.le_refl _⟩, ⟨by refine pkB ?_; refine blk_far ?_ NB386_415.out _; refine pkB ?_; refine blk_far ?_ NB386_415.out _; refine pkB ?_; refine blk_far ?_ NB386_415.out _; refine pkB ?_; refine blk_far ?_ NB386_415.out _; refine pkB ?_; refine blk_far ?_ NB386_415.out _; refine pkB ?_; exact BK386.out⟩, ⟨by refine pkB ?_; refine blk_far ?_ NB387_415.out _; refine pkB ?_; refine blk_far ?_ NB387_415.out _; refine pkB ?_; refine blk_far ?_ NB387_415.out _; refine pkB ?_; refine blk_far ?_ NB387_415.out _; refine pkB ?_; refine blk_far ?_ NB387_415.out _; refine pkB ?_; exact BK387.out⟩, ⟨by refine pkB ?_; refine blk_far ?_ NB394_415.out _; refine pkB ?_; refine blk_far ?_ NB394_415.out _; refine pkB ?_; refine blk_far ?_ NB394_415.out _; refine pkB ?_; refine blk_far ?_ NB394_415.out _; refine pkB ?_; refine blk_far ?_ NB394_415.out _; refine pkB ?_; exact BK394.out⟩, ⟨by refine pkB ?_; refine blk_far ?_ NB401_415.out _; refine pkB ?_; refine blk_far ?_ NB401_415.out _; refine pkB ?_; refine blk_far ?_ NB401_415.out _; refine pkB ?_; refine blk_far ?_ NB401_415.out _; refine pkB ?_; refine blk_far ?_ NB401_415.out _; refine pkB ?_; exact BK401.out⟩, ⟨by refine pkB ?_; refine blk_far ?_ NB408_415.out _; refine pkB ?_; refine blk_far ?_ NB408_415.out _; refine pkB ?_; refine blk_far ?_ NB408_415.out _; refine pkB ?_; refine blk_far ?_ NB408_415.out _; refine pkB ?_; refine blk_far ?_ NB408_415.out _; refine pkB ?_; exact BK408.out⟩, ⟨by refine pkB ?_; refine blk_put (cs := #[.int .i64 t409, .int .i64 t410, .int .i64 t411, .int .i64 t412, .int .i64 0]) ?_ 4 _ (by first | rfl | (subst_vars; rfl)); refine pkB ?_; refine blk_put (cs := #[.int .i64 t409, .int .i64 t410, .int .i64 t411, .int .i64 0, .int .i64 0]) ?_ 3 _ (by first | rfl | (subst_vars; rfl)); refine pkB ?_; refine blk_put (cs := #[.int .i64 t409, .int .i64 t410, .int .i64 0, .int .i64 0, .int .i64 0]) ?_ 2 _ (by first | rfl | (subst_vars; rfl)); refine pkB ?_; refine blk_put (cs := #[.int .i64 t409, .int .i64 0, .int .i64 0, .int .i64 0, .int .i64 0]) ?_ 1 _ (by first | rfl | (subst_vars; rfl)); refine pkB ?_; refine blk_put (cs := #[.int .i64 0, .int .i64 0, .int .i64 0, .int .i64 0, .int .i64 0]) ?_ 0 _ (by first | rfl | (subst_vars; rfl)); refine pkB ?_; exact BK415.out⟩, bpk HB⟩
    ·
     rw [if_neg c56] at H
     have c56b0 : (t393 != t400) = false := by simpa using c56
     (try (have c56b1 : decide (t393 = t400) = true := by simpa using c56))
     (try (have c56b2 : (t393 == t400) = true := by simpa using c56))
     clear c56
     replace H := Option.bind_eq_some_iff.mp H
     obtain ⟨t416, A680, H⟩ := H
     replace H : (gimballaw14_LinearRules.j0 k t407 t414 (t414 != t416) a0_0 a0_1 a0_2 a0_3 a0_4 a1_0 a1_1 a1_2 a1_3 a1_4 t402 t403 t404 t405 t406 t409 t410 t411 t412 t413) = some true := H
     have A68 := Aside0.mk A680
     clear A680
     have H' := Aside0.mk H
     clear H
     have hnb69 := NB394_386.out
     have hnc69 := NB386_394.out
     have hnb70 := NB394_387.out
     have hnc70 := NB387_394.out
     have hnb71 := NB394_401.out
     have hnc71 := NB401_394.out
     have hnb72 := NB394_408.out
     have hnc72 := NB408_394.out
     have hnb73 := NB394_415.out
     have hnc73 := NB415_394.out
     have hcz74_0 := hcz BK394 0
     have hcz74_1 := hcz BK394 1
     have hcz74_2 := hcz BK394 2
     have hcz74_3 := hcz BK394 3
     have hcz74_4 := hcz BK394 4
     have hfz74_0 := blk_frozen BK394.out 0
     have hfz74_1 := blk_frozen BK394.out 1
     have hfz74_2 := blk_frozen BK394.out 2
     have hfz74_3 := blk_frozen BK394.out 3
     have hfz74_4 := blk_frozen BK394.out 4
     have hnb75 := NB401_386.out
     have hnc75 := NB386_401.out
     have hnb76 := NB401_387.out
     have hnc76 := NB387_401.out
     have hnb77 := NB401_408.out
     have hnc77 := NB408_401.out
     have hnb78 := NB401_415.out
     have hnc78 := NB415_401.out
     have hcz79_0 := hcz BK401 0
     have hcz79_1 := hcz BK401 1
     have hcz79_2 := hcz BK401 2
     have hcz79_3 := hcz BK401 3
     have hcz79_4 := hcz BK401 4
     have hfz79_0 := blk_frozen BK401.out 0
     have hfz79_1 := blk_frozen BK401.out 1
     have hfz79_2 := blk_frozen BK401.out 2
     have hfz79_3 := blk_frozen BK401.out 3
     have hfz79_4 := blk_frozen BK401.out 4
     have hnb80 := NB387_386.out
     have hnc80 := NB386_387.out
     have hnb81 := NB387_408.out
     have hnc81 := NB408_387.out
     have hnb82 := NB387_415.out
     have hnc82 := NB415_387.out
     have hcz83_0 := hcz BK387 0
     have hcz83_1 := hcz BK387 1
     have hcz83_2 := hcz BK387 2
     have hcz83_3 := hcz BK387 3
     have hcz83_4 := hcz BK387 4
     have hfz83_0 := blk_frozen BK387.out 0
     have hfz83_1 := blk_frozen BK387.out 1
     have hfz83_2 := blk_frozen BK387.out 2
     have hfz83_3 := blk_frozen BK387.out 3
     have hfz83_4 := blk_frozen BK387.out 4
     go_wp2_with (first | (go_at_call 17; (with_reducible refine (linear_Fit.calls k a1_0 a1_1 a1_2 a1_3 a1_4 t416 _ A68.out).mono ?_); rintro e w84 ⟨rfl, hb⟩; have n0_ := Aside0.mk (blk_below (g := gb386) (o := .cells #[.int .i64 a0_0, .int .i64 a0_1, .int .i64 a0_2, .int .i64 a0_3, .int .i64 a0_4] 23 (0, 0)) (by refine pkB ?_; refine blk_far ?_ NB386_415.out _; refine pkB ?_; refine blk_far ?_ NB386_415.out _; refine pkB ?_; refine blk_far ?_ NB386_415.out _; refine pkB ?_; refine blk_far ?_ NB386_415.out _; refine pkB ?_; refine blk_far ?_ NB386_415.out _; refine pkB ?_; exact BK386.out) hb); have n1_ := Aside0.mk (blk_below (g := gb387) (o := .cells #[.int .i64 a1_0, .int .i64 a1_1, .int .i64 a1_2, .int .i64 a1_3, .int .i64 a1_4] 23 (0, 0)) (by refine pkB ?_; refine blk_far ?_ NB387_415.out _; refine pkB ?_; refine blk_far ?_ NB387_415.out _; refine pkB ?_; refine blk_far ?_ NB387_415.out _; refine pkB ?_; refine blk_far ?_ NB387_415.out _; refine pkB ?_; refine blk_far ?_ NB387_415.out _; refine pkB ?_; exact BK387.out) hb); have n2_ := Aside0.mk (blk_below (g := gb394) (o := .cells #[.int .i64 t388, .int .i64 t389, .int .i64 t390, .int .i64 t391, .int .i64 t392] 23 (0, 0)) (by refine pkB ?_; refine blk_far ?_ NB394_415.out _; refine pkB ?_; refine blk_far ?_ NB394_415.out _; refine pkB ?_; refine blk_far ?_ NB394_415.out _; refine pkB ?_; refine blk_far ?_ NB394_415.out _; refine pkB ?_; refine blk_far ?_ NB394_415.out _; refine pkB ?_; exact BK394.out) hb); have n3_ := Aside0.mk (blk_below (g := gb401) (o := .cells #[.int .i64 t395, .int .i64 t396, .int .i64 t397, .int .i64 t398, .int .i64 t399] 23 (0, 0)) (by refine pkB ?_; refine blk_far ?_ NB401_415.out _; refine pkB ?_; refine blk_far ?_ NB401_415.out _; refine pkB ?_; refine blk_far ?_ NB401_415.out _; refine pkB ?_; refine blk_far ?_ NB401_415.out _; refine pkB ?_; refine blk_far ?_ NB401_415.out _; refine pkB ?_; exact BK401.out) hb); have n4_ := Aside0.mk (blk_below (g := gb408) (o := .cells #[.int .i64 t402, .int .i64 t403, .int .i64 t404, .int .i64 t405, .int .i64 t406] 23 (0, 0)) (by refine pkB ?_; refine blk_far ?_ NB408_415.out _; refine pkB ?_; refine blk_far ?_ NB408_415.out _; refine pkB ?_; refine blk_far ?_ NB408_415.out _; refine pkB ?_; refine blk_far ?_ NB408_415.out _; refine pkB ?_; refine blk_far ?_ NB408_415.out _; refine pkB ?_; exact BK408.out) hb); have n5_ := Aside0.mk (blk_below (g := gb415) (o := .cells #[.int .i64 t409, .int .i64 t410, .int .i64 t411, .int .i64 t412, .int .i64 t413] 23 (0, 0)) (by refine pkB ?_; refine blk_put (cs := #[.int .i64 t409, .int .i64 t410, .int .i64 t411, .int .i64 t412, .int .i64 0]) ?_ 4 _ (by first | rfl | (subst_vars; rfl)); refine pkB ?_; refine blk_put (cs := #[.int .i64 t409, .int .i64 t410, .int .i64 t411, .int .i64 0, .int .i64 0]) ?_ 3 _ (by first | rfl | (subst_vars; rfl)); refine pkB ?_; refine blk_put (cs := #[.int .i64 t409, .int .i64 t410, .int .i64 0, .int .i64 0, .int .i64 0]) ?_ 2 _ (by first | rfl | (subst_vars; rfl)); refine pkB ?_; refine blk_put (cs := #[.int .i64 t409, .int .i64 0, .int .i64 0, .int .i64 0, .int .i64 0]) ?_ 1 _ (by first | rfl | (subst_vars; rfl)); refine pkB ?_; refine blk_put (cs := #[.int .i64 0, .int .i64 0, .int .i64 0, .int .i64 0, .int .i64 0]) ?_ 0 _ (by first | rfl | (subst_vars; rfl)); refine pkB ?_; exact BK415.out) hb); have n6_ := bst HB hb; clear BK386; clear BK387; clear BK394; clear BK401; clear BK408; clear BK415; clear HB; have BK386 := n0_; have BK387 := n1_; have BK394 := n2_; have BK401 := n3_; have BK408 := n4_; have BK415 := n5_; have HB := n6_; clear n0_ n1_ n2_ n3_ n4_ n5_ n6_; (try clear hb); (try clear hb2); (try clear hk); (try clear hi)))
     go_meet
     case rel => exact ⟨_, ((t414 != t416)), (by first | rfl | (simp; done) | (simp [*]; done)), H', ⟨by first | omega | exact Nat.le_refl _⟩, pkA BK386, pkA BK387, pkA BK394, pkA BK401, pkA BK408, pkA BK415, bpk HB⟩
  case rest =>
   clear HC7
   try clear c1
   try clear c2
   try clear p2
   try clear c3
   try clear c4
   try clear c5
   try clear c6
   try clear c7
   try clear c8
   try clear c10
   try clear c11
   try clear c12
   try clear c13
   try clear c15
   try clear c16
   try clear c22
   try clear c23
   try clear c24
   try clear c30
   try clear c31
   try clear c32
   try clear c33
   try clear c38
   try clear c39
   try clear c40
   try clear c41
   try clear c42
   try clear c44
   try clear c44b0
   try clear c45
   try clear c46
   try clear c47
   try clear c48
   try clear c49
   try clear c51
   try clear c52
   try clear c53
   try clear c54
   try clear c56
   try clear c56b0
   try clear c56b1
   try clear c56b2
   try clear c57
   try clear c58
   try clear c59
   try clear c60
   try clear c61
   try clear c63
   try clear c64
   try clear c65
   try clear c66
   try clear c69
   try clear c70
   try clear c71
   try clear c72
   try clear c73
   try clear c75
   try clear c76
   try clear c77
   try clear c78
   try clear c80
   try clear c81
   try clear c82
   try clear hcz11_0
   try clear hcz11_1
   try clear hcz11_2
   try clear hcz11_3
   try clear hcz11_4
   try clear hcz12_0
   try clear hcz12_1
   try clear hcz12_2
   try clear hcz12_3
   try clear hcz12_4
   try clear hcz17_0
   try clear hcz17_1
   try clear hcz17_2
   try clear hcz17_3
   try clear hcz17_4
   try clear hcz18_0
   try clear hcz18_1
   try clear hcz18_2
   try clear hcz18_3
   try clear hcz18_4
   try clear hcz19_0
   try clear hcz19_1
   try clear hcz19_2
   try clear hcz19_3
   try clear hcz19_4
   try clear hcz25_0
   try clear hcz25_1
   try clear hcz25_2
   try clear hcz25_3
   try clear hcz25_4
   try clear hcz26_0
   try clear hcz26_1
   try clear hcz26_2
   try clear hcz26_3
   try clear hcz26_4
   try clear hcz27_0
   try clear hcz27_1
   try clear hcz27_2
   try clear hcz27_3
   try clear hcz27_4
   try clear hcz34_0
   try clear hcz34_1
   try clear hcz34_2
   try clear hcz34_3
   try clear hcz34_4
   try clear hcz35_0
   try clear hcz35_1
   try clear hcz35_2
   try clear hcz35_3
   try clear hcz35_4
   try clear hcz43_0
   try clear hcz43_1
   try clear hcz43_2
   try clear hcz43_3
   try clear hcz43_4
   try clear hcz50_0
   try clear hcz50_1
   try clear hcz50_2
   try clear hcz50_3
   try clear hcz50_4
   try clear hcz55_0
   try clear hcz55_1
   try clear hcz55_2
   try clear hcz55_3
   try clear hcz55_4
   try clear hcz62_0
   try clear hcz62_1
   try clear hcz62_2
   try clear hcz62_3
   try clear hcz62_4
   try clear hcz67_0
   try clear hcz67_1
   try clear hcz67_2
   try clear hcz67_3
   try clear hcz67_4
   try clear hcz74_0
   try clear hcz74_1
   try clear hcz74_2
   try clear hcz74_3
   try clear hcz74_4
   try clear hcz79_0
   try clear hcz79_1
   try clear hcz79_2
   try clear hcz79_3
   try clear hcz79_4
   try clear hcz83_0
   try clear hcz83_1
   try clear hcz83_2
   try clear hcz83_3
   try clear hcz83_4
   try clear hfz11_0
   try clear hfz11_1
   try clear hfz11_2
   try clear hfz11_3
   try clear hfz11_4
   try clear hfz12_0
   try clear hfz12_1
   try clear hfz12_2
   try clear hfz12_3
   try clear hfz12_4
   try clear hfz17_0
   try clear hfz17_1
   try clear hfz17_2
   try clear hfz17_3
   try clear hfz17_4
   try clear hfz18_0
   try clear hfz18_1
   try clear hfz18_2
   try clear hfz18_3
   try clear hfz18_4
   try clear hfz19_0
   try clear hfz19_1
   try clear hfz19_2
   try clear hfz19_3
   try clear hfz19_4
   try clear hfz25_0
   try clear hfz25_1
   try clear hfz25_2
   try clear hfz25_3
   try clear hfz25_4
   try clear hfz26_0
   try clear hfz26_1
   try clear hfz26_2
   try clear hfz26_3
   try clear hfz26_4
   try clear hfz27_0
   try clear hfz27_1
   try clear hfz27_2
   try clear hfz27_3
   try clear hfz27_4
   try clear hfz34_0
   try clear hfz34_1
   try clear hfz34_2
   try clear hfz34_3
   try clear hfz34_4
   try clear hfz35_0
   try clear hfz35_1
   try clear hfz35_2
   try clear hfz35_3
   try clear hfz35_4
   try clear hfz43_0
   try clear hfz43_1
   try clear hfz43_2
   try clear hfz43_3
   try clear hfz43_4
   try clear hfz50_0
   try clear hfz50_1
   try clear hfz50_2
   try clear hfz50_3
   try clear hfz50_4
   try clear hfz55_0
   try clear hfz55_1
   try clear hfz55_2
   try clear hfz55_3
   try clear hfz55_4
   try clear hfz62_0
   try clear hfz62_1
   try clear hfz62_2
   try clear hfz62_3
   try clear hfz62_4
   try clear hfz67_0
   try clear hfz67_1
   try clear hfz67_2
   try clear hfz67_3
   try clear hfz67_4
   try clear hfz74_0
   try clear hfz74_1
   try clear hfz74_2
   try clear hfz74_3
   try clear hfz74_4
   try clear hfz79_0
   try clear hfz79_1
   try clear hfz79_2
   try clear hfz79_3
   try clear hfz79_4
   try clear hfz83_0
   try clear hfz83_1
   try clear hfz83_2
   try clear hfz83_3
   try clear hfz83_4
   obtain ⟨kq, x56_6, rfl, HA, HJ6, BK386, BK387, BK394, BK401, BK408, BK415, HB⟩ := hcut
   cases kq with
   | zero => exact absurd HA.out (by simp [gimballaw14_LinearRules.j0])
   | succ kj6 =>
    have H := HA.out
    clear HA
    simp only [gimballaw14_LinearRules.j0] at H
    by_cases c85 : x56_6 = true
    ·
     subst c85
     have H1 : (some false) = some true := by rw [if_pos rfl] at H; exact H
     clear H
     have H := H1
     clear H1
     exact absurd H (by simp)
    ·
     replace c85 := Bool.eq_false_iff.mpr c85
     subst c85
     have H1 : (if t414 = true then ((linear_Add.f kj6 a0_0 a0_1 a0_2 a0_3 a0_4 t409 t410 t411 t412 t413).bind fun bt417 => ((linear_Neg.f kj6 t409 t410 t411 t412 t413).bind fun bt424 => (if (!(bt417.1 == t402) || (!(bt417.2.1 == t403) || (!(bt417.2.2.1 == t404) || (!(bt417.2.2.2.1 == t405) || (!(bt417.2.2.2.2.1 == t406)))))) = true then (some false) else (if (bt417.2.2.2.2.2 != t407) = true then (some false) else (if (!(bt424.1 == a1_0) || (!(bt424.2.1 == a1_1) || (!(bt424.2.2.1 == a1_2) || (!(bt424.2.2.2.1 == a1_3) || (!(bt424.2.2.2.2.1 == a1_4)))))) = true then (some false) else (if bt424.2.2.2.2.2 = true then (gimballaw14_LinearRules.j1 kj6 a0_0 a0_1 a0_2 a0_3 a0_4 a1_0 a1_1 a1_2 a1_3 a1_4) else (some false))))))) else (gimballaw14_LinearRules.j1 kj6 a0_0 a0_1 a0_2 a0_3 a0_4 a1_0 a1_1 a1_2 a1_3 a1_4)) = some true := by rw [if_neg (show ¬ (false = true) by decide)] at H; exact H
     clear H
     have H := H1
     clear H1
     have HC86 := Aside0.mk H
     clear H
     go_upto_if 57 with (fail)
     go_cut [] (fun wc => ∃ (kq : Nat), Aside0 (gimballaw14_LinearRules.j1 kq a0_0 a0_1 a0_2 a0_3 a0_4 a1_0 a1_1 a1_2 a1_3 a1_4 = some true) ∧ Aside0 (kq ≤ kj6) ∧ Aside0 (wc.heap[gb386]? = some (.cells #[.int .i64 a0_0, .int .i64 a0_1, .int .i64 a0_2, .int .i64 a0_3, .int .i64 a0_4] 23 (0, 0))) ∧ Aside0 (wc.heap[gb387]? = some (.cells #[.int .i64 a1_0, .int .i64 a1_1, .int .i64 a1_2, .int .i64 a1_3, .int .i64 a1_4] 23 (0, 0))) ∧ Aside0 (wc.heap[gb394]? = some (.cells #[.int .i64 t388, .int .i64 t389, .int .i64 t390, .int .i64 t391, .int .i64 t392] 23 (0, 0))) ∧ Aside0 (wc.heap[gb401]? = some (.cells #[.int .i64 t395, .int .i64 t396, .int .i64 t397, .int .i64 t398, .int .i64 t399] 23 (0, 0))) ∧ Aside0 (wc.heap[gb408]? = some (.cells #[.int .i64 t402, .int .i64 t403, .int .i64 t404, .int .i64 t405, .int .i64 t406] 23 (0, 0))) ∧ Aside0 (wc.heap[gb415]? = some (.cells #[.int .i64 t409, .int .i64 t410, .int .i64 t411, .int .i64 t412, .int .i64 t413] 23 (0, 0))) ∧ Aside0 (Below w.heap.size w wc))
     case first =>
      have H := HC86.out
      clear HC86
      by_cases c87 : t414 = true
      ·
       subst c87
       have H1 : ((linear_Add.f kj6 a0_0 a0_1 a0_2 a0_3 a0_4 t409 t410 t411 t412 t413).bind fun bt417 => ((linear_Neg.f kj6 t409 t410 t411 t412 t413).bind fun bt424 => (if (!(bt417.1 == t402) || (!(bt417.2.1 == t403) || (!(bt417.2.2.1 == t404) || (!(bt417.2.2.2.1 == t405) || (!(bt417.2.2.2.2.1 == t406)))))) = true then (some false) else (if (bt417.2.2.2.2.2 != t407) = true then (some false) else (if (!(bt424.1 == a1_0) || (!(bt424.2.1 == a1_1) || (!(bt424.2.2.1 == a1_2) || (!(bt424.2.2.2.1 == a1_3) || (!(bt424.2.2.2.2.1 == a1_4)))))) = true then (some false) else (if bt424.2.2.2.2.2 = true then (gimballaw14_LinearRules.j1 kj6 a0_0 a0_1 a0_2 a0_3 a0_4 a1_0 a1_1 a1_2 a1_3 a1_4) else (some false))))))) = some true := by rw [if_pos rfl] at H; exact H
       clear H
       have H := H1
       clear H1
       replace H := Option.bind_eq_some_iff.mp H
       obtain ⟨⟨t417, t418, t419, t420, t421, t422⟩, A880, H⟩ := H
       replace H : ((linear_Neg.f kj6 t409 t410 t411 t412 t413).bind fun bt424 => (if (!(t417 == t402) || (!(t418 == t403) || (!(t419 == t404) || (!(t420 == t405) || (!(t421 == t406)))))) = true then (some false) else (if (t422 != t407) = true then (some false) else (if (!(bt424.1 == a1_0) || (!(bt424.2.1 == a1_1) || (!(bt424.2.2.1 == a1_2) || (!(bt424.2.2.2.1 == a1_3) || (!(bt424.2.2.2.2.1 == a1_4)))))) = true then (some false) else (if bt424.2.2.2.2.2 = true then (gimballaw14_LinearRules.j1 kj6 a0_0 a0_1 a0_2 a0_3 a0_4 a1_0 a1_1 a1_2 a1_3 a1_4) else (some false)))))) = some true := H
       have A88 := Aside0.mk A880
       clear A880
       replace H := Option.bind_eq_some_iff.mp H
       obtain ⟨⟨t424, t425, t426, t427, t428, t429⟩, A890, H⟩ := H
       replace H : (if (!(t417 == t402) || (!(t418 == t403) || (!(t419 == t404) || (!(t420 == t405) || (!(t421 == t406)))))) = true then (some false) else (if (t422 != t407) = true then (some false) else (if (!(t424 == a1_0) || (!(t425 == a1_1) || (!(t426 == a1_2) || (!(t427 == a1_3) || (!(t428 == a1_4)))))) = true then (some false) else (if t429 = true then (gimballaw14_LinearRules.j1 kj6 a0_0 a0_1 a0_2 a0_3 a0_4 a1_0 a1_1 a1_2 a1_3 a1_4) else (some false))))) = some true := H
       have A89 := Aside0.mk A890
       clear A890
       by_cases c90 : (!(t417 == t402) || (!(t418 == t403) || (!(t419 == t404) || (!(t420 == t405) || (!(t421 == t406)))))) = true
       ·
        rw [if_pos c90] at H
        have c90b0 : (!(t417 == t402) || (!(t418 == t403) || (!(t419 == t404) || (!(t420 == t405) || (!(t421 == t406)))))) = true := c90
        clear c90
        (first | rw [c90b0] | (simp only [i64_w, i32_w]; rw [c90b0]) | skip)
        exact absurd H (by simp)
       ·
        rw [if_neg c90] at H
        have c90b0 : (!(t417 == t402) || (!(t418 == t403) || (!(t419 == t404) || (!(t420 == t405) || (!(t421 == t406)))))) = false := by simpa using c90
        clear c90
        (first | rw [c90b0] | (simp only [i64_w, i32_w]; rw [c90b0]) | skip)
        by_cases c91 : (t422 != t407) = true
        ·
         rw [if_pos c91] at H
         have c91b0 : (t422 != t407) = true := c91
         (try (have c91b1 : decide (t422 = t407) = false := by simpa using c91))
         (try (have c91b2 : (t422 == t407) = false := by simpa using c91))
         (try (have c91b3 : ¬ (t422 = t407) := by simpa using c91))
         clear c91
         exact absurd H (by simp)
        ·
         rw [if_neg c91] at H
         have c91b0 : (t422 != t407) = false := by simpa using c91
         (try (have c91b1 : decide (t422 = t407) = true := by simpa using c91))
         (try (have c91b2 : (t422 == t407) = true := by simpa using c91))
         clear c91
         by_cases c92 : (!(t424 == a1_0) || (!(t425 == a1_1) || (!(t426 == a1_2) || (!(t427 == a1_3) || (!(t428 == a1_4)))))) = true
         ·
          rw [if_pos c92] at H
          have c92b0 : (!(t424 == a1_0) || (!(t425 == a1_1) || (!(t426 == a1_2) || (!(t427 == a1_3) || (!(t428 == a1_4)))))) = true := c92
          clear c92
          exact absurd H (by simp)
         ·
          rw [if_neg c92] at H
          have c92b0 : (!(t424 == a1_0) || (!(t425 == a1_1) || (!(t426 == a1_2) || (!(t427 == a1_3) || (!(t428 == a1_4)))))) = false := by simpa using c92
          clear c92
          by_cases c93 : t429 = true
          ·
           subst c93
           have H1 : (gimballaw14_LinearRules.j1 kj6 a0_0 a0_1 a0_2 a0_3 a0_4 a1_0 a1_1 a1_2 a1_3 a1_4) = some true := by rw [if_pos rfl] at H; exact H
           clear H
           have H := H1
           clear H1
           have H' := Aside0.mk H
           clear H
           have hnb94 := NB386_387.out
           have hnc94 := NB387_386.out
           have hnb95 := NB386_394.out
           have hnc95 := NB394_386.out
           have hnb96 := NB386_401.out
           have hnc96 := NB401_386.out
           have hnb97 := NB386_408.out
           have hnc97 := NB408_386.out
           have hnb98 := NB386_415.out
           have hnc98 := NB415_386.out
           have hcz99_0 := hcz BK386 0
           have hcz99_1 := hcz BK386 1
           have hcz99_2 := hcz BK386 2
           have hcz99_3 := hcz BK386 3
           have hcz99_4 := hcz BK386 4
           have hfz99_0 := blk_frozen BK386.out 0
           have hfz99_1 := blk_frozen BK386.out 1
           have hfz99_2 := blk_frozen BK386.out 2
           have hfz99_3 := blk_frozen BK386.out 3
           have hfz99_4 := blk_frozen BK386.out 4
           have hnb100 := NB415_387.out
           have hnc100 := NB387_415.out
           have hnb101 := NB415_394.out
           have hnc101 := NB394_415.out
           have hnb102 := NB415_401.out
           have hnc102 := NB401_415.out
           have hnb103 := NB415_408.out
           have hnc103 := NB408_415.out
           have hcz104_0 := hcz BK415 0
           have hcz104_1 := hcz BK415 1
           have hcz104_2 := hcz BK415 2
           have hcz104_3 := hcz BK415 3
           have hcz104_4 := hcz BK415 4
           have hfz104_0 := blk_frozen BK415.out 0
           have hfz104_1 := blk_frozen BK415.out 1
           have hfz104_2 := blk_frozen BK415.out 2
           have hfz104_3 := blk_frozen BK415.out 3
           have hfz104_4 := blk_frozen BK415.out 4
           go_wp2_with (first | ((with_reducible refine gate_callee (f := 11) rfl ?_); refine goesL_ (some 61) rfl rfl Try.func11 (by kernel_rfl) rfl #[.agg #[.int .i64 a0_0, .int .i64 a0_1, .int .i64 a0_2, .int .i64 a0_3, .int .i64 a0_4], .agg #[.int .i64 t409, .int .i64 t410, .int .i64 t411, .int .i64 t412, .int .i64 t413]] rfl (by (try simp only [List.map_toArray, List.map_cons, List.map_nil]); first | done | rfl | (simp only [List.length_drop, List.length_take]; rfl)) ?_; (with_reducible refine (linear_Add.calls kj6 a0_0 a0_1 a0_2 a0_3 a0_4 t409 t410 t411 t412 t413 t417 t418 t419 t420 t421 t422 _ A88.out).mono ?_); rintro e w105 ⟨rfl, hb⟩; refine ⟨_, rfl, ?_⟩; have n0_ := bst HB hb; replace BK386 := bbw BK386 hb; replace BK387 := bbw BK387 hb; replace BK394 := bbw BK394 hb; replace BK401 := bbw BK401 hb; replace BK408 := bbw BK408 hb; replace BK415 := bbw BK415 hb; clear HB; have HB := n0_; clear n0_; (try clear hb); (try clear hb2); (try clear hk); (try clear hi)) | ((with_reducible refine gate_dst (N := 13) rfl ?_); refine box_event ?hg (N := 13) ?hd (cs := #[.int .i64 0, .int .i64 0, .int .i64 0, .int .i64 0, .int .i64 0]) (t := 23) ?hr ?_; (case hd => rfl); (case hg => rfl); (case hr => first | (go_simp; done) | (go_simp; rfl)); intro gb423 hg w106 hbox hb; have n0_ := bst HB hb; have n1_ := Aside0.mk (hbox); have n2_ := bsz HB hg; have n3_ := bsz HB hg; have n4_ := bn1 BK386 hg; have n5_ := bn2 BK386 hg; have n6_ := bn1 BK387 hg; have n7_ := bn2 BK387 hg; have n8_ := bn1 BK394 hg; have n9_ := bn2 BK394 hg; have n10_ := bn1 BK401 hg; have n11_ := bn2 BK401 hg; have n12_ := bn1 BK408 hg; have n13_ := bn2 BK408 hg; have n14_ := bn1 BK415 hg; have n15_ := bn2 BK415 hg; replace BK386 := bbw BK386 hb; replace BK387 := bbw BK387 hb; replace BK394 := bbw BK394 hb; replace BK401 := bbw BK401 hb; replace BK408 := bbw BK408 hb; replace BK415 := bbw BK415 hb; clear HB; have HB := n0_; have BK423 := n1_; have GW423 := n2_; have GE423 := n3_; have NB386_423 := n4_; have NB423_386 := n5_; have NB387_423 := n6_; have NB423_387 := n7_; have NB394_423 := n8_; have NB423_394 := n9_; have NB401_423 := n10_; have NB423_401 := n11_; have NB408_423 := n12_; have NB423_408 := n13_; have NB415_423 := n14_; have NB423_415 := n15_; clear n0_ n1_ n2_ n3_ n4_ n5_ n6_ n7_ n8_ n9_ n10_ n11_ n12_ n13_ n14_ n15_; clear hb hbox hg; have hnb107 := NB423_386.out; have hnc107 := NB386_423.out; have hnb108 := NB423_387.out; have hnc108 := NB387_423.out; have hnb109 := NB423_394.out; have hnc109 := NB394_423.out; have hnb110 := NB423_401.out; have hnc110 := NB401_423.out; have hnb111 := NB423_408.out; have hnc111 := NB408_423.out; have hnb112 := NB423_415.out; have hnc112 := NB415_423.out; have hcz113_0 := hcz BK423 0; have hcz113_1 := hcz BK423 1; have hcz113_2 := hcz BK423 2; have hcz113_3 := hcz BK423 3; have hcz113_4 := hcz BK423 4; have hfz113_0 := blk_frozen BK423.out 0; have hfz113_1 := blk_frozen BK423.out 1; have hfz113_2 := blk_frozen BK423.out 2; have hfz113_3 := blk_frozen BK423.out 3; have hfz113_4 := blk_frozen BK423.out 4; have hcz114_0 := hcz BK415 0; have hcz114_1 := hcz BK415 1; have hcz114_2 := hcz BK415 2; have hcz114_3 := hcz BK415 3; have hcz114_4 := hcz BK415 4; have hfz114_0 := blk_frozen BK415.out 0; have hfz114_1 := blk_frozen BK415.out 1; have hfz114_2 := blk_frozen BK415.out 2; have hfz114_3 := blk_frozen BK415.out 3; have hfz114_4 := blk_frozen BK415.out 4) | ((with_reducible refine gate_callee (f := 13) rfl ?_); refine goesL_ (some 66) rfl rfl Try.func13 (by kernel_rfl) rfl #[.agg #[.int .i64 t409, .int .i64 t410, .int .i64 t411, .int .i64 t412, .int .i64 t413]] rfl (by (try simp only [List.map_toArray, List.map_cons, List.map_nil]); first | done | rfl | (simp only [List.length_drop, List.length_take]; rfl)) ?_; (with_reducible refine (linear_Neg.calls kj6 t409 t410 t411 t412 t413 t424 t425 t426 t427 t428 true _ A89.out).mono ?_); rintro e w115 ⟨rfl, hb⟩; refine ⟨_, rfl, ?_⟩; have n0_ := Aside0.mk (blk_below (g := gb386) (o := .cells #[.int .i64 a0_0, .int .i64 a0_1, .int .i64 a0_2, .int .i64 a0_3, .int .i64 a0_4] 23 (0, 0)) (by refine pkB ?_; refine blk_far ?_ NB386_423.out _; refine pkB ?_; refine blk_far ?_ NB386_423.out _; refine pkB ?_; refine blk_far ?_ NB386_423.out _; refine pkB ?_; refine blk_far ?_ NB386_423.out _; refine pkB ?_; refine blk_far ?_ NB386_423.out _; refine pkB ?_; exact BK386.out) hb); have n1_ := Aside0.mk (blk_below (g := gb387) (o := .cells #[.int .i64 a1_0, .int .i64 a1_1, .int .i64 a1_2, .int .i64 a1_3, .int .i64 a1_4] 23 (0, 0)) (by refine pkB ?_; refine blk_far ?_ NB387_423.out _; refine pkB ?_; refine blk_far ?_ NB387_423.out _; refine pkB ?_; refine blk_far ?_ NB387_423.out _; refine pkB ?_; refine blk_far ?_ NB387_423.out _; refine pkB ?_; refine blk_far ?_ NB387_423.out _; refine pkB ?_; exact BK387.out) hb); have n2_ := Aside0.mk (blk_below (g := gb394) (o := .cells #[.int .i64 t388, .int .i64 t389, .int .i64 t390, .int .i64 t391, .int .i64 t392] 23 (0, 0)) (by refine pkB ?_; refine blk_far ?_ NB394_423.out _; refine pkB ?_; refine blk_far ?_ NB394_423.out _; refine pkB ?_; refine blk_far ?_ NB394_423.out _; refine pkB ?_; refine blk_far ?_ NB394_423.out _; refine pkB ?_; refine blk_far ?_ NB394_423.out _; refine pkB ?_; exact BK394.out) hb); have n3_ := Aside0.mk (blk_below (g := gb401) (o := .cells #[.int .i64 t395, .int .i64 t396, .int .i64 t397, .int .i64 t398, .int .i64 t399] 23 (0, 0)) (by refine pkB ?_; refine blk_far ?_ NB401_423.out _; refine pkB ?_; refine blk_far ?_ NB401_423.out _; refine pkB ?_; refine blk_far ?_ NB401_423.out _; refine pkB ?_; refine blk_far ?_ NB401_423.out _; refine pkB ?_; refine blk_far ?_ NB401_423.out _; refine pkB ?_; exact BK401.out) hb); have n4_ := Aside0.mk (blk_below (g := gb408) (o := .cells #[.int .i64 t402, .int .i64 t403, .int .i64 t404, .int .i64 t405, .int .i64 t406] 23 (0, 0)) (by refine pkB ?_; refine blk_far ?_ NB408_423.out _; refine pkB ?_; refine blk_far ?_ NB408_423.out _; refine pkB ?_; refine blk_far ?_ NB408_423.out _; refine pkB ?_; refine blk_far ?_ NB408_423.out _; refine pkB ?_; refine blk_far ?_ NB408_423.out _; refine pkB ?_; exact BK408.out) hb); have n5_ := Aside0.mk (blk_below (g := gb415) (o := .cells #[.int .i64 t409, .int .i64 t410, .int .i64 t411, .int .i64 t412, .int .i64 t413] 23 (0, 0)) (by refine pkB ?_; refine blk_far ?_ NB415_423.out _; refine pkB ?_; refine blk_far ?_ NB415_423.out _; refine pkB ?_; refine blk_far ?_ NB415_423.out _; refine pkB ?_; refine blk_far ?_ NB415_423.out _; refine pkB ?_; refine blk_far ?_ NB415_423.out _; refine pkB ?_; exact BK415.out) hb); have n6_ := Aside0.mk (blk_below (g := gb423) (o := .cells #[.int .i64 t417, .int .i64 t418, .int .i64 t419, .int .i64 t420, .int .i64 t421] 23 (0, 0)) (by refine pkB ?_; refine blk_put (cs := #[.int .i64 t417, .int .i64 t418, .int .i64 t419, .int .i64 t420, .int .i64 0]) ?_ 4 _ (by first | rfl | (subst_vars; rfl)); refine pkB ?_; refine blk_put (cs := #[.int .i64 t417, .int .i64 t418, .int .i64 t419, .int .i64 0, .int .i64 0]) ?_ 3 _ (by first | rfl | (subst_vars; rfl)); refine pkB ?_; refine blk_put (cs := #[.int .i64 t417, .int .i64 t418, .int .i64 0, .int .i64 0, .int .i64 0]) ?_ 2 _ (by first | rfl | (subst_vars; rfl)); refine pkB ?_; refine blk_put (cs := #[.int .i64 t417, .int .i64 0, .int .i64 0, .int .i64 0, .int .i64 0]) ?_ 1 _ (by first | rfl | (subst_vars; rfl)); refine pkB ?_; refine blk_put (cs := #[.int .i64 0, .int .i64 0, .int .i64 0, .int .i64 0, .int .i64 0]) ?_ 0 _ (by first | rfl | (subst_vars; rfl)); refine pkB ?_; exact BK423.out) hb); have n7_ := bst HB hb; clear BK386; clear BK387; clear BK394; clear BK401; clear BK408; clear BK415; clear BK423; clear HB; have BK386 := n0_; have BK387 := n1_; have BK394 := n2_; have BK401 := n3_; have BK408 := n4_; have BK415 := n5_; have BK423 := n6_; have HB := n7_; clear n0_ n1_ n2_ n3_ n4_ n5_ n6_ n7_; (try clear hb); (try clear hb2); (try clear hk); (try clear hi)) | ((with_reducible refine gate_dst (N := 15) rfl ?_); refine box_event ?hg (N := 15) ?hd (cs := #[.int .i64 0, .int .i64 0, .int .i64 0, .int .i64 0, .int .i64 0]) (t := 23) ?hr ?_; (case hd => rfl); (case hg => rfl); (case hr => first | (go_simp; done) | (go_simp; rfl)); intro gb430 hg w116 hbox hb; have n0_ := bst HB hb; have n1_ := Aside0.mk (hbox); have n2_ := bsz HB hg; have n3_ := bsz HB hg; have n4_ := bn1 BK386 hg; have n5_ := bn2 BK386 hg; have n6_ := bn1 BK387 hg; have n7_ := bn2 BK387 hg; have n8_ := bn1 BK394 hg; have n9_ := bn2 BK394 hg; have n10_ := bn1 BK401 hg; have n11_ := bn2 BK401 hg; have n12_ := bn1 BK408 hg; have n13_ := bn2 BK408 hg; have n14_ := bn1 BK415 hg; have n15_ := bn2 BK415 hg; have n16_ := bn1 BK423 hg; have n17_ := bn2 BK423 hg; replace BK386 := bbw BK386 hb; replace BK387 := bbw BK387 hb; replace BK394 := bbw BK394 hb; replace BK401 := bbw BK401 hb; replace BK408 := bbw BK408 hb; replace BK415 := bbw BK415 hb; replace BK423 := bbw BK423 hb; clear HB; have HB := n0_; have BK430 := n1_; have GW430 := n2_; have GE430 := n3_; have NB386_430 := n4_; have NB430_386 := n5_; have NB387_430 := n6_; have NB430_387 := n7_; have NB394_430 := n8_; have NB430_394 := n9_; have NB401_430 := n10_; have NB430_401 := n11_; have NB408_430 := n12_; have NB430_408 := n13_; have NB415_430 := n14_; have NB430_415 := n15_; have NB423_430 := n16_; have NB430_423 := n17_; clear n0_ n1_ n2_ n3_ n4_ n5_ n6_ n7_ n8_ n9_ n10_ n11_ n12_ n13_ n14_ n15_ n16_ n17_; clear hb hbox hg; have hnb117 := NB430_386.out; have hnc117 := NB386_430.out; have hnb118 := NB430_387.out; have hnc118 := NB387_430.out; have hnb119 := NB430_394.out; have hnc119 := NB394_430.out; have hnb120 := NB430_401.out; have hnc120 := NB401_430.out; have hnb121 := NB430_408.out; have hnc121 := NB408_430.out; have hnb122 := NB430_415.out; have hnc122 := NB415_430.out; have hnb123 := NB430_423.out; have hnc123 := NB423_430.out; have hcz124_0 := hcz BK430 0; have hcz124_1 := hcz BK430 1; have hcz124_2 := hcz BK430 2; have hcz124_3 := hcz BK430 3; have hcz124_4 := hcz BK430 4; have hfz124_0 := blk_frozen BK430.out 0; have hfz124_1 := blk_frozen BK430.out 1; have hfz124_2 := blk_frozen BK430.out 2; have hfz124_3 := blk_frozen BK430.out 3; have hfz124_4 := blk_frozen BK430.out 4; have hcz125_0 := hcz BK423 0; have hcz125_1 := hcz BK423 1; have hcz125_2 := hcz BK423 2; have hcz125_3 := hcz BK423 3; have hcz125_4 := hcz BK423 4; have hfz125_0 := blk_frozen BK423.out 0; have hfz125_1 := blk_frozen BK423.out 1; have hfz125_2 := blk_frozen BK423.out 2; have hfz125_3 := blk_frozen BK423.out 3; have hfz125_4 := blk_frozen BK423.out 4; have hnb126 := NB408_387.out; have hnc126 := NB387_408.out; have hnb127 := NB408_394.out; have hnc127 := NB394_408.out; have hnb128 := NB408_401.out; have hnc128 := NB401_408.out; have hcz129_0 := hcz BK408 0; have hcz129_1 := hcz BK408 1; have hcz129_2 := hcz BK408 2; have hcz129_3 := hcz BK408 3; have hcz129_4 := hcz BK408 4; have hfz129_0 := blk_frozen BK408.out 0; have hfz129_1 := blk_frozen BK408.out 1; have hfz129_2 := blk_frozen BK408.out 2; have hfz129_3 := blk_frozen BK408.out 3; have hfz129_4 := blk_frozen BK408.out 4; have hnb130 := NB387_394.out; have hnc130 := NB394_387.out; have hnb131 := NB387_401.out; have hnc131 := NB401_387.out; have hcz132_0 := hcz BK387 0; have hcz132_1 := hcz BK387 1; have hcz132_2 := hcz BK387 2; have hcz132_3 := hcz BK387 3; have hcz132_4 := hcz BK387 4; have hfz132_0 := blk_frozen BK387.out 0; have hfz132_1 := blk_frozen BK387.out 1; have hfz132_2 := blk_frozen BK387.out 2; have hfz132_3 := blk_frozen BK387.out 3; have hfz132_4 := blk_frozen BK387.out 4))
           go_meet
           case rel => exact ⟨_, H', ⟨by have := HJ6.out; first | omega | exact Nat.le_refl _⟩, ⟨by refine pkB ?_; refine blk_far ?_ NB386_430.out _; refine pkB ?_; refine blk_far ?_ NB386_430.out _; refine pkB ?_; refine blk_far ?_ NB386_430.out _; refine pkB ?_; refine blk_far ?_ NB386_430.out _; refine pkB ?_; refine blk_far ?_ NB386_430.out _; refine pkB ?_; exact BK386.out⟩, ⟨by refine pkB ?_; refine blk_far ?_ NB387_430.out _; refine pkB ?_; refine blk_far ?_ NB387_430.out _; refine pkB ?_; refine blk_far ?_ NB387_430.out _; refine pkB ?_; refine blk_far ?_ NB387_430.out _; refine pkB ?_; refine blk_far ?_ NB387_430.out _; refine pkB ?_; exact BK387.out⟩, ⟨by refine pkB ?_; refine blk_far ?_ NB394_430.out _; refine pkB ?_; refine blk_far ?_ NB394_430.out _; refine pkB ?_; refine blk_far ?_ NB394_430.out _; refine pkB ?_; refine blk_far ?_ NB394_430.out _; refine pkB ?_; refine blk_far ?_ NB394_430.out _; refine pkB ?_; exact BK394.out⟩, ⟨by refine pkB ?_; refine blk_far ?_ NB401_430.out _; refine pkB ?_; refine blk_far ?_ NB401_430.out _; refine pkB ?_; refine blk_far ?_ NB401_430.out _; refine pkB ?_; refine blk_far ?_ NB401_430.out _; refine pkB ?_; refine blk_far ?_ NB401_430.out _; refine pkB ?_; exact BK401.out⟩, ⟨by refine pkB ?_; refine blk_far ?_ NB408_430.out _; refine pkB ?_; refine blk_far ?_ NB408_430.out _; refine pkB ?_; refine blk_far ?_ NB408_430.out _; refine pkB ?_; refine blk_far ?_ NB408_430.out _; refine pkB ?_; refine blk_far ?_ NB408_430.out _; refine pkB ?_; exact BK408.out⟩, ⟨by refine pkB ?_; refine blk_far ?_ NB415_430.out _; refine pkB ?_; refine blk_far ?_ NB415_430.out _; refine pkB ?_; refine blk_far ?_ NB415_430.out _; refine pkB ?_; refine blk_far ?_ NB415_430.out _; refine pkB ?_; refine blk_far ?_ NB415_430.out _; refine pkB ?_; exact BK415.out⟩, bpk HB⟩
          ·
           replace c93 := Bool.eq_false_iff.mpr c93
           subst c93
           have H1 : (some false) = some true := by rw [if_neg (show ¬ (false = true) by decide)] at H; exact H
           clear H
           have H := H1
           clear H1
           exact absurd H (by simp)
      ·
       replace c87 := Bool.eq_false_iff.mpr c87
       subst c87
       have H1 : (gimballaw14_LinearRules.j1 kj6 a0_0 a0_1 a0_2 a0_3 a0_4 a1_0 a1_1 a1_2 a1_3 a1_4) = some true := by rw [if_neg (show ¬ (false = true) by decide)] at H; exact H
       clear H
       have H := H1
       clear H1
       have H' := Aside0.mk H
       clear H
       go_wp2
       go_meet
       case rel => exact ⟨_, H', ⟨by have := HJ6.out; first | omega | exact Nat.le_refl _⟩, pkA BK386, pkA BK387, pkA BK394, pkA BK401, pkA BK408, pkA BK415, bpk HB⟩
     case rest =>
      clear HC86
      try clear c1
      try clear c2
      try clear p2
      try clear c3
      try clear c4
      try clear c5
      try clear c6
      try clear c7
      try clear c8
      try clear c9
      try clear c10
      try clear c11
      try clear c12
      try clear c13
      try clear c15
      try clear c16
      try clear c22
      try clear c23
      try clear c24
      try clear c30
      try clear c31
      try clear c32
      try clear c33
      try clear c38
      try clear c39
      try clear c40
      try clear c41
      try clear c42
      try clear c44
      try clear c44b0
      try clear c45
      try clear c46
      try clear c47
      try clear c48
      try clear c49
      try clear c51
      try clear c52
      try clear c53
      try clear c54
      try clear c56
      try clear c56b0
      try clear c56b1
      try clear c56b2
      try clear c57
      try clear c58
      try clear c59
      try clear c60
      try clear c61
      try clear c63
      try clear c64
      try clear c65
      try clear c66
      try clear c69
      try clear c70
      try clear c71
      try clear c72
      try clear c73
      try clear c75
      try clear c76
      try clear c77
      try clear c78
      try clear c80
      try clear c81
      try clear c82
      try clear c85
      try clear c87
      try clear c90
      try clear c90b0
      try clear c91
      try clear c91b0
      try clear c91b1
      try clear c91b2
      try clear c92
      try clear c92b0
      try clear c93
      try clear c94
      try clear c95
      try clear c96
      try clear c97
      try clear c98
      try clear c100
      try clear c101
      try clear c102
      try clear c103
      try clear c107
      try clear c108
      try clear c109
      try clear c110
      try clear c111
      try clear c112
      try clear c117
      try clear c118
      try clear c119
      try clear c120
      try clear c121
      try clear c122
      try clear c123
      try clear c126
      try clear c127
      try clear c128
      try clear c130
      try clear c131
      try clear hcz104_0
      try clear hcz104_1
      try clear hcz104_2
      try clear hcz104_3
      try clear hcz104_4
      try clear hcz113_0
      try clear hcz113_1
      try clear hcz113_2
      try clear hcz113_3
      try clear hcz113_4
      try clear hcz114_0
      try clear hcz114_1
      try clear hcz114_2
      try clear hcz114_3
      try clear hcz114_4
      try clear hcz11_0
      try clear hcz11_1
      try clear hcz11_2
      try clear hcz11_3
      try clear hcz11_4
      try clear hcz124_0
      try clear hcz124_1
      try clear hcz124_2
      try clear hcz124_3
      try clear hcz124_4
      try clear hcz125_0
      try clear hcz125_1
      try clear hcz125_2
      try clear hcz125_3
      try clear hcz125_4
      try clear hcz129_0
      try clear hcz129_1
      try clear hcz129_2
      try clear hcz129_3
      try clear hcz129_4
      try clear hcz12_0
      try clear hcz12_1
      try clear hcz12_2
      try clear hcz12_3
      try clear hcz12_4
      try clear hcz132_0
      try clear hcz132_1
      try clear hcz132_2
      try clear hcz132_3
      try clear hcz132_4
      try clear hcz17_0
      try clear hcz17_1
      try clear hcz17_2
      try clear hcz17_3
      try clear hcz17_4
      try clear hcz18_0
      try clear hcz18_1
      try clear hcz18_2
      try clear hcz18_3
      try clear hcz18_4
      try clear hcz19_0
      try clear hcz19_1
      try clear hcz19_2
      try clear hcz19_3
      try clear hcz19_4
      try clear hcz25_0
      try clear hcz25_1
      try clear hcz25_2
      try clear hcz25_3
      try clear hcz25_4
      try clear hcz26_0
      try clear hcz26_1
      try clear hcz26_2
      try clear hcz26_3
      try clear hcz26_4
      try clear hcz27_0
      try clear hcz27_1
      try clear hcz27_2
      try clear hcz27_3
      try clear hcz27_4
      try clear hcz34_0
      try clear hcz34_1
      try clear hcz34_2
      try clear hcz34_3
      try clear hcz34_4
      try clear hcz35_0
      try clear hcz35_1
      try clear hcz35_2
      try clear hcz35_3
      try clear hcz35_4
      try clear hcz43_0
      try clear hcz43_1
      try clear hcz43_2
      try clear hcz43_3
      try clear hcz43_4
      try clear hcz50_0
      try clear hcz50_1
      try clear hcz50_2
      try clear hcz50_3
      try clear hcz50_4
      try clear hcz55_0
      try clear hcz55_1
      try clear hcz55_2
      try clear hcz55_3
      try clear hcz55_4
      try clear hcz62_0
      try clear hcz62_1
      try clear hcz62_2
      try clear hcz62_3
      try clear hcz62_4
      try clear hcz67_0
      try clear hcz67_1
      try clear hcz67_2
      try clear hcz67_3
      try clear hcz67_4
      try clear hcz74_0
      try clear hcz74_1
      try clear hcz74_2
      try clear hcz74_3
      try clear hcz74_4
      try clear hcz79_0
      try clear hcz79_1
      try clear hcz79_2
      try clear hcz79_3
      try clear hcz79_4
      try clear hcz83_0
      try clear hcz83_1
      try clear hcz83_2
      try clear hcz83_3
      try clear hcz83_4
      try clear hcz99_0
      try clear hcz99_1
      try clear hcz99_2
      try clear hcz99_3
      try clear hcz99_4
      try clear hfz104_0
      try clear hfz104_1
      try clear hfz104_2
      try clear hfz104_3
      try clear hfz104_4
      try clear hfz113_0
      try clear hfz113_1
      try clear hfz113_2
      try clear hfz113_3
      try clear hfz113_4
      try clear hfz114_0
      try clear hfz114_1
      try clear hfz114_2
      try clear hfz114_3
      try clear hfz114_4
      try clear hfz11_0
      try clear hfz11_1
      try clear hfz11_2
      try clear hfz11_3
      try clear hfz11_4
      try clear hfz124_0
      try clear hfz124_1
      try clear hfz124_2
      try clear hfz124_3
      try clear hfz124_4
      try clear hfz125_0
      try clear hfz125_1
      try clear hfz125_2
      try clear hfz125_3
      try clear hfz125_4
      try clear hfz129_0
      try clear hfz129_1
      try clear hfz129_2
      try clear hfz129_3
      try clear hfz129_4
      try clear hfz12_0
      try clear hfz12_1
      try clear hfz12_2
      try clear hfz12_3
      try clear hfz12_4
      try clear hfz132_0
      try clear hfz132_1
      try clear hfz132_2
      try clear hfz132_3
      try clear hfz132_4
      try clear hfz17_0
      try clear hfz17_1
      try clear hfz17_2
      try clear hfz17_3
      try clear hfz17_4
      try clear hfz18_0
      try clear hfz18_1
      try clear hfz18_2
      try clear hfz18_3
      try clear hfz18_4
      try clear hfz19_0
      try clear hfz19_1
      try clear hfz19_2
      try clear hfz19_3
      try clear hfz19_4
      try clear hfz25_0
      try clear hfz25_1
      try clear hfz25_2
      try clear hfz25_3
      try clear hfz25_4
      try clear hfz26_0
      try clear hfz26_1
      try clear hfz26_2
      try clear hfz26_3
      try clear hfz26_4
      try clear hfz27_0
      try clear hfz27_1
      try clear hfz27_2
      try clear hfz27_3
      try clear hfz27_4
      try clear hfz34_0
      try clear hfz34_1
      try clear hfz34_2
      try clear hfz34_3
      try clear hfz34_4
      try clear hfz35_0
      try clear hfz35_1
      try clear hfz35_2
      try clear hfz35_3
      try clear hfz35_4
      try clear hfz43_0
      try clear hfz43_1
      try clear hfz43_2
      try clear hfz43_3
      try clear hfz43_4
      try clear hfz50_0
      try clear hfz50_1
      try clear hfz50_2
      try clear hfz50_3
      try clear hfz50_4
      try clear hfz55_0
      try clear hfz55_1
      try clear hfz55_2
      try clear hfz55_3
      try clear hfz55_4
      try clear hfz62_0
      try clear hfz62_1
      try clear hfz62_2
      try clear hfz62_3
      try clear hfz62_4
      try clear hfz67_0
      try clear hfz67_1
      try clear hfz67_2
      try clear hfz67_3
      try clear hfz67_4
      try clear hfz74_0
      try clear hfz74_1
      try clear hfz74_2
      try clear hfz74_3
      try clear hfz74_4
      try clear hfz79_0
      try clear hfz79_1
      try clear hfz79_2
      try clear hfz79_3
      try clear hfz79_4
      try clear hfz83_0
      try clear hfz83_1
      try clear hfz83_2
      try clear hfz83_3
      try clear hfz83_4
      try clear hfz99_0
      try clear hfz99_1
      try clear hfz99_2
      try clear hfz99_3
      try clear hfz99_4
      try clear p2
      obtain ⟨kq, HA, HJ85, BK386, BK387, BK394, BK401, BK408, BK415, HB⟩ := hcut
      cases kq with
      | zero => exact absurd HA.out (by simp [gimballaw14_LinearRules.j1])
      | succ kj85 =>
       have H := HA.out
       clear HA
       simp only [gimballaw14_LinearRules.j1] at H
       have HC133 := Aside0.mk H
       clear H
       go_upto_region 12 with (fail)
       go_cut [113] (fun v113 wc => ∃ (kq : Nat) (x113_132 : Bool), v113 = .bool x113_132 ∧ Aside0 (gimballaw14_LinearRules.j2 kq x113_132 a0_0 a0_1 a0_2 a0_3 a0_4 a1_0 a1_1 a1_2 a1_3 a1_4 = some true) ∧ Aside0 (kq ≤ kj85) ∧ Aside0 (wc.heap[gb386]? = some (.cells #[.int .i64 a0_0, .int .i64 a0_1, .int .i64 a0_2, .int .i64 a0_3, .int .i64 a0_4] 23 (0, 0))) ∧ Aside0 (wc.heap[gb387]? = some (.cells #[.int .i64 a1_0, .int .i64 a1_1, .int .i64 a1_2, .int .i64 a1_3, .int .i64 a1_4] 23 (0, 0))) ∧ Aside0 (wc.heap[gb394]? = some (.cells #[.int .i64 t388, .int .i64 t389, .int .i64 t390, .int .i64 t391, .int .i64 t392] 23 (0, 0))) ∧ Aside0 (wc.heap[gb401]? = some (.cells #[.int .i64 t395, .int .i64 t396, .int .i64 t397, .int .i64 t398, .int .i64 t399] 23 (0, 0))) ∧ Aside0 (wc.heap[gb408]? = some (.cells #[.int .i64 t402, .int .i64 t403, .int .i64 t404, .int .i64 t405, .int .i64 t406] 23 (0, 0))) ∧ Aside0 (wc.heap[gb415]? = some (.cells #[.int .i64 t409, .int .i64 t410, .int .i64 t411, .int .i64 t412, .int .i64 t413] 23 (0, 0))) ∧ Aside0 (Below w.heap.size w wc))
       case first =>
        have H := HC133.out
        clear HC133
        replace H := Option.bind_eq_some_iff.mp H
        obtain ⟨t431, A1340, H⟩ := H
        replace H : (if t431 = true then ((linear_Fit.f kj85 a1_0 a1_1 a1_2 a1_3 a1_4).bind fun t432 => (if t432 = true then (if a0_0 > 40 then (gimballaw14_LinearRules.j2 kj85 true a0_0 a0_1 a0_2 a0_3 a0_4 a1_0 a1_1 a1_2 a1_3 a1_4) else (if a0_2 > 40 then (gimballaw14_LinearRules.j2 kj85 true a0_0 a0_1 a0_2 a0_3 a0_4 a1_0 a1_1 a1_2 a1_3 a1_4) else (if a1_0 > 40 then (gimballaw14_LinearRules.j2 kj85 true a0_0 a0_1 a0_2 a0_3 a0_4 a1_0 a1_1 a1_2 a1_3 a1_4) else (gimballaw14_LinearRules.j2 kj85 (decide (a1_2 > 40)) a0_0 a0_1 a0_2 a0_3 a0_4 a1_0 a1_1 a1_2 a1_3 a1_4)))) else (gimballaw14_LinearRules.j2 kj85 true a0_0 a0_1 a0_2 a0_3 a0_4 a1_0 a1_1 a1_2 a1_3 a1_4))) else (gimballaw14_LinearRules.j2 kj85 true a0_0 a0_1 a0_2 a0_3 a0_4 a1_0 a1_1 a1_2 a1_3 a1_4)) = some true := H
        have A134 := Aside0.mk A1340
        clear A1340
        by_cases c135 : t431 = true
        ·
         subst c135
         have H1 : ((linear_Fit.f kj85 a1_0 a1_1 a1_2 a1_3 a1_4).bind fun t432 => (if t432 = true then (if a0_0 > 40 then (gimballaw14_LinearRules.j2 kj85 true a0_0 a0_1 a0_2 a0_3 a0_4 a1_0 a1_1 a1_2 a1_3 a1_4) else (if a0_2 > 40 then (gimballaw14_LinearRules.j2 kj85 true a0_0 a0_1 a0_2 a0_3 a0_4 a1_0 a1_1 a1_2 a1_3 a1_4) else (if a1_0 > 40 then (gimballaw14_LinearRules.j2 kj85 true a0_0 a0_1 a0_2 a0_3 a0_4 a1_0 a1_1 a1_2 a1_3 a1_4) else (gimballaw14_LinearRules.j2 kj85 (decide (a1_2 > 40)) a0_0 a0_1 a0_2 a0_3 a0_4 a1_0 a1_1 a1_2 a1_3 a1_4)))) else (gimballaw14_LinearRules.j2 kj85 true a0_0 a0_1 a0_2 a0_3 a0_4 a1_0 a1_1 a1_2 a1_3 a1_4))) = some true := by rw [if_pos rfl] at H; exact H
         clear H
         have H := H1
         clear H1
         replace H := Option.bind_eq_some_iff.mp H
         obtain ⟨t432, A1360, H⟩ := H
         replace H : (if t432 = true then (if a0_0 > 40 then (gimballaw14_LinearRules.j2 kj85 true a0_0 a0_1 a0_2 a0_3 a0_4 a1_0 a1_1 a1_2 a1_3 a1_4) else (if a0_2 > 40 then (gimballaw14_LinearRules.j2 kj85 true a0_0 a0_1 a0_2 a0_3 a0_4 a1_0 a1_1 a1_2 a1_3 a1_4) else (if a1_0 > 40 then (gimballaw14_LinearRules.j2 kj85 true a0_0 a0_1 a0_2 a0_3 a0_4 a1_0 a1_1 a1_2 a1_3 a1_4) else (gimballaw14_LinearRules.j2 kj85 (decide (a1_2 > 40)) a0_0 a0_1 a0_2 a0_3 a0_4 a1_0 a1_1 a1_2 a1_3 a1_4)))) else (gimballaw14_LinearRules.j2 kj85 true a0_0 a0_1 a0_2 a0_3 a0_4 a1_0 a1_1 a1_2 a1_3 a1_4)) = some true := H
         have A136 := Aside0.mk A1360
         clear A1360
         by_cases c137 : t432 = true
         ·
          subst c137
          have H1 : (if a0_0 > 40 then (gimballaw14_LinearRules.j2 kj85 true a0_0 a0_1 a0_2 a0_3 a0_4 a1_0 a1_1 a1_2 a1_3 a1_4) else (if a0_2 > 40 then (gimballaw14_LinearRules.j2 kj85 true a0_0 a0_1 a0_2 a0_3 a0_4 a1_0 a1_1 a1_2 a1_3 a1_4) else (if a1_0 > 40 then (gimballaw14_LinearRules.j2 kj85 true a0_0 a0_1 a0_2 a0_3 a0_4 a1_0 a1_1 a1_2 a1_3 a1_4) else (gimballaw14_LinearRules.j2 kj85 (decide (a1_2 > 40)) a0_0 a0_1 a0_2 a0_3 a0_4 a1_0 a1_1 a1_2 a1_3 a1_4)))) = some true := by rw [if_pos rfl] at H; exact H
          clear H
          have H := H1
          clear H1
          by_cases c138 : a0_0 > 40
          ·
           rw [if_pos c138] at H
           have c138b0 : decide (40 < a0_0) = true := decide_eq_true c138
           clear c138
           (first | rw [c138b0] | (simp only [i64_w, i32_w]; rw [c138b0]) | skip)
           have H' := Aside0.mk H
           clear H
           have hnb139 := NB386_387.out
           have hnc139 := NB387_386.out
           have hnb140 := NB386_394.out
           have hnc140 := NB394_386.out
           have hnb141 := NB386_401.out
           have hnc141 := NB401_386.out
           have hnb142 := NB386_408.out
           have hnc142 := NB408_386.out
           have hnb143 := NB386_415.out
           have hnc143 := NB415_386.out
           have hcz144_0 := hcz BK386 0
           have hcz144_1 := hcz BK386 1
           have hcz144_2 := hcz BK386 2
           have hcz144_3 := hcz BK386 3
           have hcz144_4 := hcz BK386 4
           have hfz144_0 := blk_frozen BK386.out 0
           have hfz144_1 := blk_frozen BK386.out 1
           have hfz144_2 := blk_frozen BK386.out 2
           have hfz144_3 := blk_frozen BK386.out 3
           have hfz144_4 := blk_frozen BK386.out 4
           go_wp2_with (first | ((with_reducible refine gate_callee (f := 17) rfl ?_); refine goesL_ (some 87) rfl rfl Try.func17 (by kernel_rfl) rfl #[.agg #[.int .i64 a0_0, .int .i64 a0_1, .int .i64 a0_2, .int .i64 a0_3, .int .i64 a0_4]] rfl (by (try simp only [List.map_toArray, List.map_cons, List.map_nil]); first | done | rfl | (simp only [List.length_drop, List.length_take]; rfl)) ?_; (with_reducible refine (linear_Fit.calls kj85 a0_0 a0_1 a0_2 a0_3 a0_4 true _ A134.out).mono ?_); rintro e w145 ⟨rfl, hb⟩; refine ⟨_, rfl, ?_⟩; have n0_ := bst HB hb; replace BK386 := bbw BK386 hb; replace BK387 := bbw BK387 hb; replace BK394 := bbw BK394 hb; replace BK401 := bbw BK401 hb; replace BK408 := bbw BK408 hb; replace BK415 := bbw BK415 hb; clear HB; have HB := n0_; clear n0_; (try clear hb); (try clear hb2); (try clear hk); (try clear hi); have hnb146 := NB387_394.out; have hnc146 := NB394_387.out; have hnb147 := NB387_401.out; have hnc147 := NB401_387.out; have hnb148 := NB387_408.out; have hnc148 := NB408_387.out; have hnb149 := NB387_415.out; have hnc149 := NB415_387.out; have hcz150_0 := hcz BK387 0; have hcz150_1 := hcz BK387 1; have hcz150_2 := hcz BK387 2; have hcz150_3 := hcz BK387 3; have hcz150_4 := hcz BK387 4; have hfz150_0 := blk_frozen BK387.out 0; have hfz150_1 := blk_frozen BK387.out 1; have hfz150_2 := blk_frozen BK387.out 2; have hfz150_3 := blk_frozen BK387.out 3; have hfz150_4 := blk_frozen BK387.out 4) | (go_at_call 17; (with_reducible refine (linear_Fit.calls kj85 a1_0 a1_1 a1_2 a1_3 a1_4 true _ A136.out).mono ?_); rintro e w151 ⟨rfl, hb⟩; have n0_ := bst HB hb; replace BK386 := bbw BK386 hb; replace BK387 := bbw BK387 hb; replace BK394 := bbw BK394 hb; replace BK401 := bbw BK401 hb; replace BK408 := bbw BK408 hb; replace BK415 := bbw BK415 hb; clear HB; have HB := n0_; clear n0_; (try clear hb); (try clear hb2); (try clear hk); (try clear hi); have hcz152_0 := hcz BK386 0; have hcz152_1 := hcz BK386 1; have hcz152_2 := hcz BK386 2; have hcz152_3 := hcz BK386 3; have hcz152_4 := hcz BK386 4; have hfz152_0 := blk_frozen BK386.out 0; have hfz152_1 := blk_frozen BK386.out 1; have hfz152_2 := blk_frozen BK386.out 2; have hfz152_3 := blk_frozen BK386.out 3; have hfz152_4 := blk_frozen BK386.out 4))
           go_meet
           case rel => exact ⟨_, (true), (by first | rfl | (simp; done) | (simp [*]; done)), H', ⟨by have := HJ6.out; have := HJ85.out; first | omega | exact Nat.le_refl _⟩, pkA BK386, pkA BK387, pkA BK394, pkA BK401, pkA BK408, pkA BK415, bpk HB⟩
          ·
           rw [if_neg c138] at H
           have c138b0 : decide (40 < a0_0) = false := decide_eq_false c138
           clear c138
           (first | rw [c138b0] | (simp only [i64_w, i32_w]; rw [c138b0]) | skip)
           by_cases c153 : a0_2 > 40
           ·
            rw [if_pos c153] at H
            have c153b0 : decide (40 < a0_2) = true := decide_eq_true c153
            clear c153
            have H' := Aside0.mk H
            clear H
            have hnb154 := NB386_387.out
            have hnc154 := NB387_386.out
            have hnb155 := NB386_394.out
            have hnc155 := NB394_386.out
            have hnb156 := NB386_401.out
            have hnc156 := NB401_386.out
            have hnb157 := NB386_408.out
            have hnc157 := NB408_386.out
            have hnb158 := NB386_415.out
            have hnc158 := NB415_386.out
            have hcz159_0 := hcz BK386 0
            have hcz159_1 := hcz BK386 1
            have hcz159_2 := hcz BK386 2
            have hcz159_3 := hcz BK386 3
            have hcz159_4 := hcz BK386 4
            have hfz159_0 := blk_frozen BK386.out 0
            have hfz159_1 := blk_frozen BK386.out 1
            have hfz159_2 := blk_frozen BK386.out 2
            have hfz159_3 := blk_frozen BK386.out 3
            have hfz159_4 := blk_frozen BK386.out 4
            go_wp2_with (first | ((with_reducible refine gate_callee (f := 17) rfl ?_); refine goesL_ (some 87) rfl rfl Try.func17 (by kernel_rfl) rfl #[.agg #[.int .i64 a0_0, .int .i64 a0_1, .int .i64 a0_2, .int .i64 a0_3, .int .i64 a0_4]] rfl (by (try simp only [List.map_toArray, List.map_cons, List.map_nil]); first | done | rfl | (simp only [List.length_drop, List.length_take]; rfl)) ?_; (with_reducible refine (linear_Fit.calls kj85 a0_0 a0_1 a0_2 a0_3 a0_4 true _ A134.out).mono ?_); rintro e w160 ⟨rfl, hb⟩; refine ⟨_, rfl, ?_⟩; have n0_ := bst HB hb; replace BK386 := bbw BK386 hb; replace BK387 := bbw BK387 hb; replace BK394 := bbw BK394 hb; replace BK401 := bbw BK401 hb; replace BK408 := bbw BK408 hb; replace BK415 := bbw BK415 hb; clear HB; have HB := n0_; clear n0_; (try clear hb); (try clear hb2); (try clear hk); (try clear hi); have hnb161 := NB387_394.out; have hnc161 := NB394_387.out; have hnb162 := NB387_401.out; have hnc162 := NB401_387.out; have hnb163 := NB387_408.out; have hnc163 := NB408_387.out; have hnb164 := NB387_415.out; have hnc164 := NB415_387.out; have hcz165_0 := hcz BK387 0; have hcz165_1 := hcz BK387 1; have hcz165_2 := hcz BK387 2; have hcz165_3 := hcz BK387 3; have hcz165_4 := hcz BK387 4; have hfz165_0 := blk_frozen BK387.out 0; have hfz165_1 := blk_frozen BK387.out 1; have hfz165_2 := blk_frozen BK387.out 2; have hfz165_3 := blk_frozen BK387.out 3; have hfz165_4 := blk_frozen BK387.out 4) | (go_at_call 17; (with_reducible refine (linear_Fit.calls kj85 a1_0 a1_1 a1_2 a1_3 a1_4 true _ A136.out).mono ?_); rintro e w166 ⟨rfl, hb⟩; have n0_ := bst HB hb; replace BK386 := bbw BK386 hb; replace BK387 := bbw BK387 hb; replace BK394 := bbw BK394 hb; replace BK401 := bbw BK401 hb; replace BK408 := bbw BK408 hb; replace BK415 := bbw BK415 hb; clear HB; have HB := n0_; clear n0_; (try clear hb); (try clear hb2); (try clear hk); (try clear hi); have hcz167_0 := hcz BK386 0; have hcz167_1 := hcz BK386 1; have hcz167_2 := hcz BK386 2; have hcz167_3 := hcz BK386 3; have hcz167_4 := hcz BK386 4; have hfz167_0 := blk_frozen BK386.out 0; have hfz167_1 := blk_frozen BK386.out 1; have hfz167_2 := blk_frozen BK386.out 2; have hfz167_3 := blk_frozen BK386.out 3; have hfz167_4 := blk_frozen BK386.out 4))
            go_meet
            case rel => exact ⟨_, (true), (by first | rfl | (simp; done) | (simp [*]; done)), H', ⟨by have := HJ6.out; have := HJ85.out; first | omega | exact Nat.le_refl _⟩, pkA BK386, pkA BK387, pkA BK394, pkA BK401, pkA BK408, pkA BK415, bpk HB⟩
           ·
            rw [if_neg c153] at H
            have c153b0 : decide (40 < a0_2) = false := decide_eq_false c153
            clear c153
            by_cases c168 : a1_0 > 40
            ·
             rw [if_pos c168] at H
             have c168b0 : decide (40 < a1_0) = true := decide_eq_true c168
             clear c168
             have H' := Aside0.mk H
             clear H
             have hnb169 := NB386_387.out
             have hnc169 := NB387_386.out
             have hnb170 := NB386_394.out
             have hnc170 := NB394_386.out
             have hnb171 := NB386_401.out
             have hnc171 := NB401_386.out
             have hnb172 := NB386_408.out
             have hnc172 := NB408_386.out
             have hnb173 := NB386_415.out
             have hnc173 := NB415_386.out
             have hcz174_0 := hcz BK386 0
             have hcz174_1 := hcz BK386 1
             have hcz174_2 := hcz BK386 2
             have hcz174_3 := hcz BK386 3
             have hcz174_4 := hcz BK386 4
             have hfz174_0 := blk_frozen BK386.out 0
             have hfz174_1 := blk_frozen BK386.out 1
             have hfz174_2 := blk_frozen BK386.out 2
             have hfz174_3 := blk_frozen BK386.out 3
             have hfz174_4 := blk_frozen BK386.out 4
             go_wp2_with (first | ((with_reducible refine gate_callee (f := 17) rfl ?_); refine goesL_ (some 87) rfl rfl Try.func17 (by kernel_rfl) rfl #[.agg #[.int .i64 a0_0, .int .i64 a0_1, .int .i64 a0_2, .int .i64 a0_3, .int .i64 a0_4]] rfl (by (try simp only [List.map_toArray, List.map_cons, List.map_nil]); first | done | rfl | (simp only [List.length_drop, List.length_take]; rfl)) ?_; (with_reducible refine (linear_Fit.calls kj85 a0_0 a0_1 a0_2 a0_3 a0_4 true _ A134.out).mono ?_); rintro e w175 ⟨rfl, hb⟩; refine ⟨_, rfl, ?_⟩; have n0_ := bst HB hb; replace BK386 := bbw BK386 hb; replace BK387 := bbw BK387 hb; replace BK394 := bbw BK394 hb; replace BK401 := bbw BK401 hb; replace BK408 := bbw BK408 hb; replace BK415 := bbw BK415 hb; clear HB; have HB := n0_; clear n0_; (try clear hb); (try clear hb2); (try clear hk); (try clear hi); have hnb176 := NB387_394.out; have hnc176 := NB394_387.out; have hnb177 := NB387_401.out; have hnc177 := NB401_387.out; have hnb178 := NB387_408.out; have hnc178 := NB408_387.out; have hnb179 := NB387_415.out; have hnc179 := NB415_387.out; have hcz180_0 := hcz BK387 0; have hcz180_1 := hcz BK387 1; have hcz180_2 := hcz BK387 2; have hcz180_3 := hcz BK387 3; have hcz180_4 := hcz BK387 4; have hfz180_0 := blk_frozen BK387.out 0; have hfz180_1 := blk_frozen BK387.out 1; have hfz180_2 := blk_frozen BK387.out 2; have hfz180_3 := blk_frozen BK387.out 3; have hfz180_4 := blk_frozen BK387.out 4) | (go_at_call 17; (with_reducible refine (linear_Fit.calls kj85 a1_0 a1_1 a1_2 a1_3 a1_4 true _ A136.out).mono ?_); rintro e w181 ⟨rfl, hb⟩; have n0_ := bst HB hb; replace BK386 := bbw BK386 hb; replace BK387 := bbw BK387 hb; replace BK394 := bbw BK394 hb; replace BK401 := bbw BK401 hb; replace BK408 := bbw BK408 hb; replace BK415 := bbw BK415 hb; clear HB; have HB := n0_; clear n0_; (try clear hb); (try clear hb2); (try clear hk); (try clear hi); have hcz182_0 := hcz BK386 0; have hcz182_1 := hcz BK386 1; have hcz182_2 := hcz BK386 2; have hcz182_3 := hcz BK386 3; have hcz182_4 := hcz BK386 4; have hfz182_0 := blk_frozen BK386.out 0; have hfz182_1 := blk_frozen BK386.out 1; have hfz182_2 := blk_frozen BK386.out 2; have hfz182_3 := blk_frozen BK386.out 3; have hfz182_4 := blk_frozen BK386.out 4; have hcz183_0 := hcz BK387 0; have hcz183_1 := hcz BK387 1; have hcz183_2 := hcz BK387 2; have hcz183_3 := hcz BK387 3; have hcz183_4 := hcz BK387 4; have hfz183_0 := blk_frozen BK387.out 0; have hfz183_1 := blk_frozen BK387.out 1; have hfz183_2 := blk_frozen BK387.out 2; have hfz183_3 := blk_frozen BK387.out 3; have hfz183_4 := blk_frozen BK387.out 4))
             go_meet
             case rel => exact ⟨_, (true), (by first | rfl | (simp; done) | (simp [*]; done)), H', ⟨by have := HJ6.out; have := HJ85.out; first | omega | exact Nat.le_refl _⟩, pkA BK386, pkA BK387, pkA BK394, pkA BK401, pkA BK408, pkA BK415, bpk HB⟩
            ·
             rw [if_neg c168] at H
             have c168b0 : decide (40 < a1_0) = false := decide_eq_false c168
             clear c168
             have H' := Aside0.mk H
             clear H
             have hnb184 := NB386_387.out
             have hnc184 := NB387_386.out
             have hnb185 := NB386_394.out
             have hnc185 := NB394_386.out
             have hnb186 := NB386_401.out
             have hnc186 := NB401_386.out
             have hnb187 := NB386_408.out
             have hnc187 := NB408_386.out
             have hnb188 := NB386_415.out
             have hnc188 := NB415_386.out
             have hcz189_0 := hcz BK386 0
             have hcz189_1 := hcz BK386 1
             have hcz189_2 := hcz BK386 2
             have hcz189_3 := hcz BK386 3
             have hcz189_4 := hcz BK386 4
             have hfz189_0 := blk_frozen BK386.out 0
             have hfz189_1 := blk_frozen BK386.out 1
             have hfz189_2 := blk_frozen BK386.out 2
             have hfz189_3 := blk_frozen BK386.out 3
             have hfz189_4 := blk_frozen BK386.out 4
             go_wp2_with (first | ((with_reducible refine gate_callee (f := 17) rfl ?_); refine goesL_ (some 87) rfl rfl Try.func17 (by kernel_rfl) rfl #[.agg #[.int .i64 a0_0, .int .i64 a0_1, .int .i64 a0_2, .int .i64 a0_3, .int .i64 a0_4]] rfl (by (try simp only [List.map_toArray, List.map_cons, List.map_nil]); first | done | rfl | (simp only [List.length_drop, List.length_take]; rfl)) ?_; (with_reducible refine (linear_Fit.calls kj85 a0_0 a0_1 a0_2 a0_3 a0_4 true _ A134.out).mono ?_); rintro e w190 ⟨rfl, hb⟩; refine ⟨_, rfl, ?_⟩; have n0_ := bst HB hb; replace BK386 := bbw BK386 hb; replace BK387 := bbw BK387 hb; replace BK394 := bbw BK394 hb; replace BK401 := bbw BK401 hb; replace BK408 := bbw BK408 hb; replace BK415 := bbw BK415 hb; clear HB; have HB := n0_; clear n0_; (try clear hb); (try clear hb2); (try clear hk); (try clear hi); have hnb191 := NB387_394.out; have hnc191 := NB394_387.out; have hnb192 := NB387_401.out; have hnc192 := NB401_387.out; have hnb193 := NB387_408.out; have hnc193 := NB408_387.out; have hnb194 := NB387_415.out; have hnc194 := NB415_387.out; have hcz195_0 := hcz BK387 0; have hcz195_1 := hcz BK387 1; have hcz195_2 := hcz BK387 2; have hcz195_3 := hcz BK387 3; have hcz195_4 := hcz BK387 4; have hfz195_0 := blk_frozen BK387.out 0; have hfz195_1 := blk_frozen BK387.out 1; have hfz195_2 := blk_frozen BK387.out 2; have hfz195_3 := blk_frozen BK387.out 3; have hfz195_4 := blk_frozen BK387.out 4) | (go_at_call 17; (with_reducible refine (linear_Fit.calls kj85 a1_0 a1_1 a1_2 a1_3 a1_4 true _ A136.out).mono ?_); rintro e w196 ⟨rfl, hb⟩; have n0_ := bst HB hb; replace BK386 := bbw BK386 hb; replace BK387 := bbw BK387 hb; replace BK394 := bbw BK394 hb; replace BK401 := bbw BK401 hb; replace BK408 := bbw BK408 hb; replace BK415 := bbw BK415 hb; clear HB; have HB := n0_; clear n0_; (try clear hb); (try clear hb2); (try clear hk); (try clear hi); have hcz197_0 := hcz BK386 0; have hcz197_1 := hcz BK386 1; have hcz197_2 := hcz BK386 2; have hcz197_3 := hcz BK386 3; have hcz197_4 := hcz BK386 4; have hfz197_0 := blk_frozen BK386.out 0; have hfz197_1 := blk_frozen BK386.out 1; have hfz197_2 := blk_frozen BK386.out 2; have hfz197_3 := blk_frozen BK386.out 3; have hfz197_4 := blk_frozen BK386.out 4; have hcz198_0 := hcz BK387 0; have hcz198_1 := hcz BK387 1; have hcz198_2 := hcz BK387 2; have hcz198_3 := hcz BK387 3; have hcz198_4 := hcz BK387 4; have hfz198_0 := blk_frozen BK387.out 0; have hfz198_1 := blk_frozen BK387.out 1; have hfz198_2 := blk_frozen BK387.out 2; have hfz198_3 := blk_frozen BK387.out 3; have hfz198_4 := blk_frozen BK387.out 4))
             go_meet
             case rel => exact ⟨_, (decide (a1_2 > 40)), (by first | rfl | (simp; done) | (simp [*]; done)), H', ⟨by have := HJ6.out; have := HJ85.out; first | omega | exact Nat.le_refl _⟩, pkA BK386, pkA BK387, pkA BK394, pkA BK401, pkA BK408, pkA BK415, bpk HB⟩
         ·
          replace c137 := Bool.eq_false_iff.mpr c137
          subst c137
          have H1 : (gimballaw14_LinearRules.j2 kj85 true a0_0 a0_1 a0_2 a0_3 a0_4 a1_0 a1_1 a1_2 a1_3 a1_4) = some true := by rw [if_neg (show ¬ (false = true) by decide)] at H; exact H
          clear H
          have H := H1
          clear H1
          have H' := Aside0.mk H
          clear H
          have hnb199 := NB386_387.out
          have hnc199 := NB387_386.out
          have hnb200 := NB386_394.out
          have hnc200 := NB394_386.out
          have hnb201 := NB386_401.out
          have hnc201 := NB401_386.out
          have hnb202 := NB386_408.out
          have hnc202 := NB408_386.out
          have hnb203 := NB386_415.out
          have hnc203 := NB415_386.out
          have hcz204_0 := hcz BK386 0
          have hcz204_1 := hcz BK386 1
          have hcz204_2 := hcz BK386 2
          have hcz204_3 := hcz BK386 3
          have hcz204_4 := hcz BK386 4
          have hfz204_0 := blk_frozen BK386.out 0
          have hfz204_1 := blk_frozen BK386.out 1
          have hfz204_2 := blk_frozen BK386.out 2
          have hfz204_3 := blk_frozen BK386.out 3
          have hfz204_4 := blk_frozen BK386.out 4
          go_wp2_with (first | ((with_reducible refine gate_callee (f := 17) rfl ?_); refine goesL_ (some 87) rfl rfl Try.func17 (by kernel_rfl) rfl #[.agg #[.int .i64 a0_0, .int .i64 a0_1, .int .i64 a0_2, .int .i64 a0_3, .int .i64 a0_4]] rfl (by (try simp only [List.map_toArray, List.map_cons, List.map_nil]); first | done | rfl | (simp only [List.length_drop, List.length_take]; rfl)) ?_; (with_reducible refine (linear_Fit.calls kj85 a0_0 a0_1 a0_2 a0_3 a0_4 true _ A134.out).mono ?_); rintro e w205 ⟨rfl, hb⟩; refine ⟨_, rfl, ?_⟩; have n0_ := bst HB hb; replace BK386 := bbw BK386 hb; replace BK387 := bbw BK387 hb; replace BK394 := bbw BK394 hb; replace BK401 := bbw BK401 hb; replace BK408 := bbw BK408 hb; replace BK415 := bbw BK415 hb; clear HB; have HB := n0_; clear n0_; (try clear hb); (try clear hb2); (try clear hk); (try clear hi); have hnb206 := NB387_394.out; have hnc206 := NB394_387.out; have hnb207 := NB387_401.out; have hnc207 := NB401_387.out; have hnb208 := NB387_408.out; have hnc208 := NB408_387.out; have hnb209 := NB387_415.out; have hnc209 := NB415_387.out; have hcz210_0 := hcz BK387 0; have hcz210_1 := hcz BK387 1; have hcz210_2 := hcz BK387 2; have hcz210_3 := hcz BK387 3; have hcz210_4 := hcz BK387 4; have hfz210_0 := blk_frozen BK387.out 0; have hfz210_1 := blk_frozen BK387.out 1; have hfz210_2 := blk_frozen BK387.out 2; have hfz210_3 := blk_frozen BK387.out 3; have hfz210_4 := blk_frozen BK387.out 4) | (go_at_call 17; (with_reducible refine (linear_Fit.calls kj85 a1_0 a1_1 a1_2 a1_3 a1_4 false _ A136.out).mono ?_); rintro e w211 ⟨rfl, hb⟩; have n0_ := bst HB hb; replace BK386 := bbw BK386 hb; replace BK387 := bbw BK387 hb; replace BK394 := bbw BK394 hb; replace BK401 := bbw BK401 hb; replace BK408 := bbw BK408 hb; replace BK415 := bbw BK415 hb; clear HB; have HB := n0_; clear n0_; (try clear hb); (try clear hb2); (try clear hk); (try clear hi)))
          go_meet
          case rel => exact ⟨_, (true), (by first | rfl | (simp; done) | (simp [*]; done)), H', ⟨by have := HJ6.out; have := HJ85.out; first | omega | exact Nat.le_refl _⟩, pkA BK386, pkA BK387, pkA BK394, pkA BK401, pkA BK408, pkA BK415, bpk HB⟩
        ·
         replace c135 := Bool.eq_false_iff.mpr c135
         subst c135
         have H1 : (gimballaw14_LinearRules.j2 kj85 true a0_0 a0_1 a0_2 a0_3 a0_4 a1_0 a1_1 a1_2 a1_3 a1_4) = some true := by rw [if_neg (show ¬ (false = true) by decide)] at H; exact H
         clear H
         have H := H1
         clear H1
         have H' := Aside0.mk H
         clear H
         have hnb212 := NB386_387.out
         have hnc212 := NB387_386.out
         have hnb213 := NB386_394.out
         have hnc213 := NB394_386.out
         have hnb214 := NB386_401.out
         have hnc214 := NB401_386.out
         have hnb215 := NB386_408.out
         have hnc215 := NB408_386.out
         have hnb216 := NB386_415.out
         have hnc216 := NB415_386.out
         have hcz217_0 := hcz BK386 0
         have hcz217_1 := hcz BK386 1
         have hcz217_2 := hcz BK386 2
         have hcz217_3 := hcz BK386 3
         have hcz217_4 := hcz BK386 4
         have hfz217_0 := blk_frozen BK386.out 0
         have hfz217_1 := blk_frozen BK386.out 1
         have hfz217_2 := blk_frozen BK386.out 2
         have hfz217_3 := blk_frozen BK386.out 3
         have hfz217_4 := blk_frozen BK386.out 4
         go_wp2_with (first | ((with_reducible refine gate_callee (f := 17) rfl ?_); refine goesL_ (some 87) rfl rfl Try.func17 (by kernel_rfl) rfl #[.agg #[.int .i64 a0_0, .int .i64 a0_1, .int .i64 a0_2, .int .i64 a0_3, .int .i64 a0_4]] rfl (by (try simp only [List.map_toArray, List.map_cons, List.map_nil]); first | done | rfl | (simp only [List.length_drop, List.length_take]; rfl)) ?_; (with_reducible refine (linear_Fit.calls kj85 a0_0 a0_1 a0_2 a0_3 a0_4 false _ A134.out).mono ?_); rintro e w218 ⟨rfl, hb⟩; refine ⟨_, rfl, ?_⟩; have n0_ := bst HB hb; replace BK386 := bbw BK386 hb; replace BK387 := bbw BK387 hb; replace BK394 := bbw BK394 hb; replace BK401 := bbw BK401 hb; replace BK408 := bbw BK408 hb; replace BK415 := bbw BK415 hb; clear HB; have HB := n0_; clear n0_; (try clear hb); (try clear hb2); (try clear hk); (try clear hi)))
         go_meet
         case rel => exact ⟨_, (true), (by first | rfl | (simp; done) | (simp [*]; done)), H', ⟨by have := HJ6.out; have := HJ85.out; first | omega | exact Nat.le_refl _⟩, pkA BK386, pkA BK387, pkA BK394, pkA BK401, pkA BK408, pkA BK415, bpk HB⟩
       case rest =>
        clear HC133
        try clear c1
        try clear c2
        try clear p2
        try clear c3
        try clear c4
        try clear c5
        try clear c6
        try clear c7
        try clear c8
        try clear c9
        try clear c10
        try clear c11
        try clear c12
        try clear c13
        try clear c14
        try clear c15
        try clear c16
        try clear c17
        try clear c18
        try clear c19
        try clear c20
        try clear c21
        try clear c22
        try clear c23
        try clear c24
        try clear c30
        try clear c31
        try clear c32
        try clear c33
        try clear c38
        try clear c39
        try clear c40
        try clear c41
        try clear c42
        try clear c44
        try clear c44b0
        try clear c45
        try clear c46
        try clear c47
        try clear c48
        try clear c49
        try clear c51
        try clear c52
        try clear c53
        try clear c54
        try clear c56
        try clear c56b0
        try clear c56b1
        try clear c56b2
        try clear c57
        try clear c58
        try clear c59
        try clear c60
        try clear c61
        try clear c63
        try clear c64
        try clear c65
        try clear c66
        try clear c69
        try clear c70
        try clear c71
        try clear c72
        try clear c73
        try clear c75
        try clear c76
        try clear c77
        try clear c78
        try clear c80
        try clear c81
        try clear c82
        try clear c85
        try clear c87
        try clear c90
        try clear c90b0
        try clear c91
        try clear c91b0
        try clear c91b1
        try clear c91b2
        try clear c92
        try clear c92b0
        try clear c93
        try clear c94
        try clear c95
        try clear c96
        try clear c97
        try clear c98
        try clear c100
        try clear c101
        try clear c102
        try clear c103
        try clear c107
        try clear c108
        try clear c109
        try clear c110
        try clear c111
        try clear c112
        try clear c117
        try clear c118
        try clear c119
        try clear c120
        try clear c121
        try clear c122
        try clear c123
        try clear c126
        try clear c127
        try clear c128
        try clear c130
        try clear c131
        try clear c135
        try clear c137
        try clear c138
        try clear c138b0
        try clear c139
        try clear c140
        try clear c141
        try clear c142
        try clear c143
        try clear c146
        try clear c147
        try clear c148
        try clear c149
        try clear c153
        try clear c153b0
        try clear c154
        try clear c155
        try clear c156
        try clear c157
        try clear c158
        try clear c161
        try clear c162
        try clear c163
        try clear c164
        try clear c168
        try clear c168b0
        try clear c169
        try clear c170
        try clear c171
        try clear c172
        try clear c173
        try clear c176
        try clear c177
        try clear c178
        try clear c179
        try clear c184
        try clear c185
        try clear c186
        try clear c187
        try clear c188
        try clear c191
        try clear c192
        try clear c193
        try clear c194
        try clear c199
        try clear c200
        try clear c201
        try clear c202
        try clear c203
        try clear c206
        try clear c207
        try clear c208
        try clear c209
        try clear c212
        try clear c213
        try clear c214
        try clear c215
        try clear c216
        try clear hcz104_0
        try clear hcz104_1
        try clear hcz104_2
        try clear hcz104_3
        try clear hcz104_4
        try clear hcz113_0
        try clear hcz113_1
        try clear hcz113_2
        try clear hcz113_3
        try clear hcz113_4
        try clear hcz114_0
        try clear hcz114_1
        try clear hcz114_2
        try clear hcz114_3
        try clear hcz114_4
        try clear hcz11_0
        try clear hcz11_1
        try clear hcz11_2
        try clear hcz11_3
        try clear hcz11_4
        try clear hcz124_0
        try clear hcz124_1
        try clear hcz124_2
        try clear hcz124_3
        try clear hcz124_4
        try clear hcz125_0
        try clear hcz125_1
        try clear hcz125_2
        try clear hcz125_3
        try clear hcz125_4
        try clear hcz129_0
        try clear hcz129_1
        try clear hcz129_2
        try clear hcz129_3
        try clear hcz129_4
        try clear hcz12_0
        try clear hcz12_1
        try clear hcz12_2
        try clear hcz12_3
        try clear hcz12_4
        try clear hcz132_0
        try clear hcz132_1
        try clear hcz132_2
        try clear hcz132_3
        try clear hcz132_4
        try clear hcz144_0
        try clear hcz144_1
        try clear hcz144_2
        try clear hcz144_3
        try clear hcz144_4
        try clear hcz150_0
        try clear hcz150_1
        try clear hcz150_2
        try clear hcz150_3
        try clear hcz150_4
        try clear hcz152_0
        try clear hcz152_1
        try clear hcz152_2
        try clear hcz152_3
        try clear hcz152_4
        try clear hcz159_0
        try clear hcz159_1
        try clear hcz159_2
        try clear hcz159_3
        try clear hcz159_4
        try clear hcz165_0
        try clear hcz165_1
        try clear hcz165_2
        try clear hcz165_3
        try clear hcz165_4
        try clear hcz167_0
        try clear hcz167_1
        try clear hcz167_2
        try clear hcz167_3
        try clear hcz167_4
        try clear hcz174_0
        try clear hcz174_1
        try clear hcz174_2
        try clear hcz174_3
        try clear hcz174_4
        try clear hcz17_0
        try clear hcz17_1
        try clear hcz17_2
        try clear hcz17_3
        try clear hcz17_4
        try clear hcz180_0
        try clear hcz180_1
        try clear hcz180_2
        try clear hcz180_3
        try clear hcz180_4
        try clear hcz182_0
        try clear hcz182_1
        try clear hcz182_2
        try clear hcz182_3
        try clear hcz182_4
        try clear hcz183_0
        try clear hcz183_1
        try clear hcz183_2
        try clear hcz183_3
        try clear hcz183_4
        try clear hcz189_0
        try clear hcz189_1
        try clear hcz189_2
        try clear hcz189_3
        try clear hcz189_4
        try clear hcz18_0
        try clear hcz18_1
        try clear hcz18_2
        try clear hcz18_3
        try clear hcz18_4
        try clear hcz195_0
        try clear hcz195_1
        try clear hcz195_2
        try clear hcz195_3
        try clear hcz195_4
        try clear hcz197_0
        try clear hcz197_1
        try clear hcz197_2
        try clear hcz197_3
        try clear hcz197_4
        try clear hcz198_0
        try clear hcz198_1
        try clear hcz198_2
        try clear hcz198_3
        try clear hcz198_4
        try clear hcz19_0
        try clear hcz19_1
        try clear hcz19_2
        try clear hcz19_3
        try clear hcz19_4
        try clear hcz204_0
        try clear hcz204_1
        try clear hcz204_2
        try clear hcz204_3
        try clear hcz204_4
        try clear hcz210_0
        try clear hcz210_1
        try clear hcz210_2
        try clear hcz210_3
        try clear hcz210_4
        try clear hcz217_0
        try clear hcz217_1
        try clear hcz217_2
        try clear hcz217_3
        try clear hcz217_4
        try clear hcz25_0
        try clear hcz25_1
        try clear hcz25_2
        try clear hcz25_3
        try clear hcz25_4
        try clear hcz26_0
        try clear hcz26_1
        try clear hcz26_2
        try clear hcz26_3
        try clear hcz26_4
        try clear hcz27_0
        try clear hcz27_1
        try clear hcz27_2
        try clear hcz27_3
        try clear hcz27_4
        try clear hcz34_0
        try clear hcz34_1
        try clear hcz34_2
        try clear hcz34_3
        try clear hcz34_4
        try clear hcz35_0
        try clear hcz35_1
        try clear hcz35_2
        try clear hcz35_3
        try clear hcz35_4
        try clear hcz43_0
        try clear hcz43_1
        try clear hcz43_2
        try clear hcz43_3
        try clear hcz43_4
        try clear hcz50_0
        try clear hcz50_1
        try clear hcz50_2
        try clear hcz50_3
        try clear hcz50_4
        try clear hcz55_0
        try clear hcz55_1
        try clear hcz55_2
        try clear hcz55_3
        try clear hcz55_4
        try clear hcz62_0
        try clear hcz62_1
        try clear hcz62_2
        try clear hcz62_3
        try clear hcz62_4
        try clear hcz67_0
        try clear hcz67_1
        try clear hcz67_2
        try clear hcz67_3
        try clear hcz67_4
        try clear hcz74_0
        try clear hcz74_1
        try clear hcz74_2
        try clear hcz74_3
        try clear hcz74_4
        try clear hcz79_0
        try clear hcz79_1
        try clear hcz79_2
        try clear hcz79_3
        try clear hcz79_4
        try clear hcz83_0
        try clear hcz83_1
        try clear hcz83_2
        try clear hcz83_3
        try clear hcz83_4
        try clear hcz99_0
        try clear hcz99_1
        try clear hcz99_2
        try clear hcz99_3
        try clear hcz99_4
        try clear hfz104_0
        try clear hfz104_1
        try clear hfz104_2
        try clear hfz104_3
        try clear hfz104_4
        try clear hfz113_0
        try clear hfz113_1
        try clear hfz113_2
        try clear hfz113_3
        try clear hfz113_4
        try clear hfz114_0
        try clear hfz114_1
        try clear hfz114_2
        try clear hfz114_3
        try clear hfz114_4
        try clear hfz11_0
        try clear hfz11_1
        try clear hfz11_2
        try clear hfz11_3
        try clear hfz11_4
        try clear hfz124_0
        try clear hfz124_1
        try clear hfz124_2
        try clear hfz124_3
        try clear hfz124_4
        try clear hfz125_0
        try clear hfz125_1
        try clear hfz125_2
        try clear hfz125_3
        try clear hfz125_4
        try clear hfz129_0
        try clear hfz129_1
        try clear hfz129_2
        try clear hfz129_3
        try clear hfz129_4
        try clear hfz12_0
        try clear hfz12_1
        try clear hfz12_2
        try clear hfz12_3
        try clear hfz12_4
        try clear hfz132_0
        try clear hfz132_1
        try clear hfz132_2
        try clear hfz132_3
        try clear hfz132_4
        try clear hfz144_0
        try clear hfz144_1
        try clear hfz144_2
        try clear hfz144_3
        try clear hfz144_4
        try clear hfz150_0
        try clear hfz150_1
        try clear hfz150_2
        try clear hfz150_3
        try clear hfz150_4
        try clear hfz152_0
        try clear hfz152_1
        try clear hfz152_2
        try clear hfz152_3
        try clear hfz152_4
        try clear hfz159_0
        try clear hfz159_1
        try clear hfz159_2
        try clear hfz159_3
        try clear hfz159_4
        try clear hfz165_0
        try clear hfz165_1
        try clear hfz165_2
        try clear hfz165_3
        try clear hfz165_4
        try clear hfz167_0
        try clear hfz167_1
        try clear hfz167_2
        try clear hfz167_3
        try clear hfz167_4
        try clear hfz174_0
        try clear hfz174_1
        try clear hfz174_2
        try clear hfz174_3
        try clear hfz174_4
        try clear hfz17_0
        try clear hfz17_1
        try clear hfz17_2
        try clear hfz17_3
        try clear hfz17_4
        try clear hfz180_0
        try clear hfz180_1
        try clear hfz180_2
        try clear hfz180_3
        try clear hfz180_4
        try clear hfz182_0
        try clear hfz182_1
        try clear hfz182_2
        try clear hfz182_3
        try clear hfz182_4
        try clear hfz183_0
        try clear hfz183_1
        try clear hfz183_2
        try clear hfz183_3
        try clear hfz183_4
        try clear hfz189_0
        try clear hfz189_1
        try clear hfz189_2
        try clear hfz189_3
        try clear hfz189_4
        try clear hfz18_0
        try clear hfz18_1
        try clear hfz18_2
        try clear hfz18_3
        try clear hfz18_4
        try clear hfz195_0
        try clear hfz195_1
        try clear hfz195_2
        try clear hfz195_3
        try clear hfz195_4
        try clear hfz197_0
        try clear hfz197_1
        try clear hfz197_2
        try clear hfz197_3
        try clear hfz197_4
        try clear hfz198_0
        try clear hfz198_1
        try clear hfz198_2
        try clear hfz198_3
        try clear hfz198_4
        try clear hfz19_0
        try clear hfz19_1
        try clear hfz19_2
        try clear hfz19_3
        try clear hfz19_4
        try clear hfz204_0
        try clear hfz204_1
        try clear hfz204_2
        try clear hfz204_3
        try clear hfz204_4
        try clear hfz210_0
        try clear hfz210_1
        try clear hfz210_2
        try clear hfz210_3
        try clear hfz210_4
        try clear hfz217_0
        try clear hfz217_1
        try clear hfz217_2
        try clear hfz217_3
        try clear hfz217_4
        try clear hfz25_0
        try clear hfz25_1
        try clear hfz25_2
        try clear hfz25_3
        try clear hfz25_4
        try clear hfz26_0
        try clear hfz26_1
        try clear hfz26_2
        try clear hfz26_3
        try clear hfz26_4
        try clear hfz27_0
        try clear hfz27_1
        try clear hfz27_2
        try clear hfz27_3
        try clear hfz27_4
        try clear hfz34_0
        try clear hfz34_1
        try clear hfz34_2
        try clear hfz34_3
        try clear hfz34_4
        try clear hfz35_0
        try clear hfz35_1
        try clear hfz35_2
        try clear hfz35_3
        try clear hfz35_4
        try clear hfz43_0
        try clear hfz43_1
        try clear hfz43_2
        try clear hfz43_3
        try clear hfz43_4
        try clear hfz50_0
        try clear hfz50_1
        try clear hfz50_2
        try clear hfz50_3
        try clear hfz50_4
        try clear hfz55_0
        try clear hfz55_1
        try clear hfz55_2
        try clear hfz55_3
        try clear hfz55_4
        try clear hfz62_0
        try clear hfz62_1
        try clear hfz62_2
        try clear hfz62_3
        try clear hfz62_4
        try clear hfz67_0
        try clear hfz67_1
        try clear hfz67_2
        try clear hfz67_3
        try clear hfz67_4
        try clear hfz74_0
        try clear hfz74_1
        try clear hfz74_2
        try clear hfz74_3
        try clear hfz74_4
        try clear hfz79_0
        try clear hfz79_1
        try clear hfz79_2
        try clear hfz79_3
        try clear hfz79_4
        try clear hfz83_0
        try clear hfz83_1
        try clear hfz83_2
        try clear hfz83_3
        try clear hfz83_4
        try clear hfz99_0
        try clear hfz99_1
        try clear hfz99_2
        try clear hfz99_3
        try clear hfz99_4
        try clear p2
        obtain ⟨kq, x113_132, rfl, HA, HJ132, BK386, BK387, BK394, BK401, BK408, BK415, HB⟩ := hcut
        cases kq with
        | zero => exact absurd HA.out (by simp [gimballaw14_LinearRules.j2])
        | succ kj132 =>
         have H := HA.out
         clear HA
         simp only [gimballaw14_LinearRules.j2] at H
         by_cases c219 : x113_132 = true
         ·
          subst c219
          have H1 : ((gimballaw14_awake.f kj132).bind fun t433 => (some t433)) = some true := by rw [if_pos rfl] at H; exact H
          clear H
          have H := H1
          clear H1
          replace H := Option.bind_eq_some_iff.mp H
          obtain ⟨t433, A2200, H⟩ := H
          replace H : (some t433) = some true := H
          have A220 := Aside0.mk A2200
          clear A2200
          have hret_ := Option.some.inj H
          clear H
          go_wp2_with (first | ((with_reducible refine gate_callee (f := 10) rfl ?_); refine goesL_ (some 114) rfl rfl Try.func10 (by kernel_rfl) rfl #[] rfl (by (try simp only [List.map_toArray, List.map_cons, List.map_nil]); first | done | rfl | (simp only [List.length_drop, List.length_take]; rfl)) ?_; (with_reducible refine (gimballaw14_awake.calls kj132  t433 _ A220.out).mono ?_); rintro e w221 ⟨rfl, hb⟩; refine ⟨_, rfl, ?_⟩; have n0_ := bst HB hb; replace BK386 := bbw BK386 hb; replace BK387 := bbw BK387 hb; replace BK394 := bbw BK394 hb; replace BK401 := bbw BK401 hb; replace BK408 := bbw BK408 hb; replace BK415 := bbw BK415 hb; clear HB; have HB := n0_; clear n0_; (try clear hb); (try clear hb2); (try clear hk); (try clear hi)))
          go_ret
          exact ⟨by first | rfl | (simp [errW_none, errW_some] <;> rfl) | (simp [*, errW_none, errW_some] <;> rfl) | kernel_rfl, by repeat (first | (with_reducible first | exact HB.out | apply below_alloc | apply pw_below_drewN | apply below_drew1 | refine below_set ?_ GE386.out | refine below_set ?_ GE387.out | refine below_set ?_ GE394.out | refine below_set ?_ GE401.out | refine below_set ?_ GE408.out | refine below_set ?_ GE415.out) | exact HB.out)⟩
         ·
          replace c219 := Bool.eq_false_iff.mpr c219
          subst c219
          have H1 : (if 41 ≤ 35184372088832 then ((some (List.replicate 41 0 : List Int)).bind fun y434 => ((linear_Value.f kj132 a0_0 a0_1 a0_2 a0_3 a0_4 y434).bind fun t437 => ((linear_Value.f kj132 a1_0 a1_1 a1_2 a1_3 a1_4 y434).bind fun t438 => (gimballaw14_LinearRules.l0 kj132 y434 (t437 == t438) 0 a0_0 a0_1 a0_2 a0_3 a0_4 a1_0 a1_1 a1_2 a1_3 a1_4)))) else (none)) = some true := by rw [if_neg (show ¬ (false = true) by decide)] at H; exact H
          clear H
          have H := H1
          clear H1
          by_cases c222 : 41 ≤ 35184372088832
          ·
           rw [if_pos c222] at H
           have c222b0 := eq_true c222
           have c222b1 : decide (41 ≤ 35184372088832) = true := decide_eq_true c222
           clear c222
           obtain ⟨y434, hy434⟩ : ∃ y_ : List Int, y_ = (List.replicate 41 0) := ⟨_, rfl⟩
           replace H : ((linear_Value.f kj132 a0_0 a0_1 a0_2 a0_3 a0_4 y434).bind fun t437 => ((linear_Value.f kj132 a1_0 a1_1 a1_2 a1_3 a1_4 y434).bind fun t438 => (gimballaw14_LinearRules.l0 kj132 y434 (t437 == t438) 0 a0_0 a0_1 a0_2 a0_3 a0_4 a1_0 a1_1 a1_2 a1_3 a1_4))) = some true := by first | (rw [hy434]; with_reducible exact H) | (have H2_ := (Option.bind_some _ _).symm.trans H; rw [hy434]; with_reducible exact H2_) | (have H2_ := (Option.bind_some _ _).symm.trans H; with_reducible exact H2_) | with_reducible exact H | (rw [hy434]; exact H) | exact H
           have Ny434 := Aside0.mk hy434
           clear hy434
           replace H := Option.bind_eq_some_iff.mp H
           obtain ⟨t437, A2230, H⟩ := H
           replace H : ((linear_Value.f kj132 a1_0 a1_1 a1_2 a1_3 a1_4 y434).bind fun t438 => (gimballaw14_LinearRules.l0 kj132 y434 (t437 == t438) 0 a0_0 a0_1 a0_2 a0_3 a0_4 a1_0 a1_1 a1_2 a1_3 a1_4)) = some true := H
           have A223 := Aside0.mk A2230
           clear A2230
           replace H := Option.bind_eq_some_iff.mp H
           obtain ⟨t438, A2240, H⟩ := H
           replace H : (gimballaw14_LinearRules.l0 kj132 y434 (t437 == t438) 0 a0_0 a0_1 a0_2 a0_3 a0_4 a1_0 a1_1 a1_2 a1_3 a1_4) = some true := H
           have A224 := Aside0.mk A2240
           clear A2240
           have H' := Aside0.mk H
           clear H
           try go_wp2_with (first | ((with_reducible refine gate_dst (N := 115) rfl ?_); refine Kd.R_make (Kd.int .i64) _ 2 rfl (N := 115) rfl 24 _ _ rfl 41 rfl rfl Try.underlying24 (.int .i64 0) 8 info2 rfl (by decide) (by omega) 0 (ok := fun _ => True) (okp := fun _ => True) rfl (fun _ hk => hk) trivial (by omega) (by omega) (Below.refl _ _) (Nat.le_refl _) ?_; intro v435 w225 ho226 hb hg_ hnew_; clear hg_ hnew_; (first | rw [← Ny434.out] at ho226 | (simp only [Int.reduceToNat] at ho226; rw [← Ny434.out] at ho226)); have n0_ := Aside0.mk (Kd.R_lower ho226 (below_size (by repeat (first | (with_reducible first | exact HB.out | apply below_alloc | apply pw_below_drewN | apply below_drew1 | refine below_set ?_ GE386.out | refine below_set ?_ GE387.out | refine below_set ?_ GE394.out | refine below_set ?_ GE401.out | refine below_set ?_ GE408.out | refine below_set ?_ GE415.out) | exact HB.out)))); have n1_ := bst HB hb; replace BK386 := bbw BK386 hb; replace BK387 := bbw BK387 hb; replace BK394 := bbw BK394 hb; replace BK401 := bbw BK401 hb; replace BK408 := bbw BK408 hb; replace BK415 := bbw BK415 hb; clear HB; have HO436 := n0_; have HB := n1_; clear n0_ n1_; clear hb ho226))
           have n0_ := Aside0.mk (Kd.R_drew HO436.out)
           have n1_ := Aside0.mk (blk_drew BK386.out)
           have n2_ := Aside0.mk (blk_drew BK387.out)
           have n3_ := Aside0.mk (blk_drew BK394.out)
           have n4_ := Aside0.mk (blk_drew BK401.out)
           have n5_ := Aside0.mk (blk_drew BK408.out)
           have n6_ := Aside0.mk (blk_drew BK415.out)
           have n7_ := Aside0.mk (below_drew1 HB.out)
           clear HO436
           clear BK386
           clear BK387
           clear BK394
           clear BK401
           clear BK408
           clear BK415
           clear HB
           have HO436 := n0_
           have BK386 := n1_
           have BK387 := n2_
           have BK394 := n3_
           have BK401 := n4_
           have BK408 := n5_
           have BK415 := n6_
           have HB := n7_
           clear n0_ n1_ n2_ n3_ n4_ n5_ n6_ n7_
           obtain ⟨Ao228, co228, eo228⟩ := Kd.R_slice HO436.out
           (first | subst eo228 | (injection eo228 with f1_ f2_ f3_; have f4_ := f1_.symm; have f5_ := f3_.symm; clear f1_ f2_ f3_; subst f4_; subst f5_))
           refine start_ (n := 8) (S := fun w' => w'.cell? ⟨gb386, 0, none⟩ = some (.int .i64 a0_0) ∧ w'.cell? ⟨gb386, 1, none⟩ = some (.int .i64 a0_1) ∧ w'.cell? ⟨gb386, 2, none⟩ = some (.int .i64 a0_2) ∧ w'.cell? ⟨gb386, 3, none⟩ = some (.int .i64 a0_3) ∧ w'.cell? ⟨gb386, 4, none⟩ = some (.int .i64 a0_4) ∧ w'.cell? ⟨gb387, 0, none⟩ = some (.int .i64 a1_0) ∧ w'.cell? ⟨gb387, 1, none⟩ = some (.int .i64 a1_1) ∧ w'.cell? ⟨gb387, 2, none⟩ = some (.int .i64 a1_2) ∧ w'.cell? ⟨gb387, 3, none⟩ = some (.int .i64 a1_3) ∧ w'.cell? ⟨gb387, 4, none⟩ = some (.int .i64 a1_4)) (ds := []) #[false, false, false, false, false, false, false, false] (by kernel_rfl) rfl rfl ⟨hcz BK386 0, hcz BK386 1, hcz BK386 2, hcz BK386 3, hcz BK386 4, hcz BK387 0, hcz BK387 1, hcz BK387 2, hcz BK387 3, hcz BK387 4⟩ (fun hHeld => ?_); refine with_tabW gimballaw14_LinearRules.tab15 gimballaw14_LinearRules.bits15 (fun HT_ HW_ => ?_)
           generalize w225.drew = w227 at HO436 BK386 BK387 BK394 BK401 BK408 BK415 HB hHeld ⊢
           refine pureQ 1 117 HT_.out ?_
           refine pureQ 4 120 HT_.out ?_
           refine takeQ 0 116 HT_.out HW_.out hHeld ?_
           refine takeQ 3 119 HT_.out HW_.out hHeld ?_
           refine oneQ 2 118 HT_.out (fun K hK => ?_)
           refine goesQ Try.func8 #[.agg #[.int .i64 a0_0, .int .i64 a0_1, .int .i64 a0_2, .int .i64 a0_3, .int .i64 a0_4], .slice Ao228 y434.length co228] ?_
           with_reducible refine (linear_Value.calls kj132 a0_0 a0_1 a0_2 a0_3 a0_4 _ _ y434 t437 _ ?side1 ?side2 A223.out).mono ?_
           (case side1 => repeat (first | exact (Kd.R_reads' HO436.out).2.2 | (with_reducible refine Kd.C_alloc ?_ _) | (with_reducible refine Kd.C_drewN ?_ _) | (with_reducible refine Kd.C_drew ?_)))
           (case side2 => exact (Kd.R_reads' HO436.out).2.1)
           rintro e w229 ⟨rfl, hb⟩
           refine ⟨_, rfl, ?_⟩
           have n0_ := Aside0.mk (Kd.R_below (by (with_reducible repeat (first | apply Kd.R_alloc | apply Kd.R_drewN | apply Kd.R_drew)); exact HO436.out) hb)
           have n1_ := bst HB hb
           replace BK386 := bbw BK386 hb
           replace BK387 := bbw BK387 hb
           replace BK394 := bbw BK394 hb
           replace BK401 := bbw BK401 hb
           replace BK408 := bbw BK408 hb
           replace BK415 := bbw BK415 hb
           clear HO436
           clear HB
           have HO436 := n0_
           have HB := n1_
           clear n0_ n1_
           (try clear hb)
           (try clear hb2)
           (try clear hk)
           (try clear hi)
           refine hK.out _ _ ⟨hcz BK386 0, hcz BK386 1, hcz BK386 2, hcz BK386 3, hcz BK386 4, hcz BK387 0, hcz BK387 1, hcz BK387 2, hcz BK387 3, hcz BK387 4⟩ (fun hHeld => ?_)
           clear hK K
           refine normQ (N := 118) ?_
           refine oneQ 5 121 HT_.out (fun K hK => ?_)
           refine goesQ Try.func8 #[.agg #[.int .i64 a1_0, .int .i64 a1_1, .int .i64 a1_2, .int .i64 a1_3, .int .i64 a1_4], .slice Ao228 y434.length co228] ?_
           with_reducible refine (linear_Value.calls kj132 a1_0 a1_1 a1_2 a1_3 a1_4 _ _ y434 t438 _ ?side1 ?side2 A224.out).mono ?_
           (case side1 => repeat (first | exact (Kd.R_reads' HO436.out).2.2 | (with_reducible refine Kd.C_alloc ?_ _) | (with_reducible refine Kd.C_drewN ?_ _) | (with_reducible refine Kd.C_drew ?_)))
           (case side2 => exact (Kd.R_reads' HO436.out).2.1)
           rintro e w230 ⟨rfl, hb⟩
           refine ⟨_, rfl, ?_⟩
           have n0_ := Aside0.mk (Kd.R_below (by (with_reducible repeat (first | apply Kd.R_alloc | apply Kd.R_drewN | apply Kd.R_drew)); exact HO436.out) hb)
           have n1_ := bst HB hb
           replace BK386 := bbw BK386 hb
           replace BK387 := bbw BK387 hb
           replace BK394 := bbw BK394 hb
           replace BK401 := bbw BK401 hb
           replace BK408 := bbw BK408 hb
           replace BK415 := bbw BK415 hb
           clear HO436
           clear HB
           have HO436 := n0_
           have HB := n1_
           clear n0_ n1_
           (try clear hb)
           (try clear hb2)
           (try clear hk)
           (try clear hi)
           refine hK.out _ _ ⟨hcz BK386 0, hcz BK386 1, hcz BK386 2, hcz BK386 3, hcz BK386 4, hcz BK387 0, hcz BK387 1, hcz BK387 2, hcz BK387 3, hcz BK387 4⟩ (fun hHeld => ?_)
           clear hK K
           refine normQ (N := 121) ?_
           refine pureQ 6 122 HT_.out ?_
           refine pureQ 7 18 HT_.out ?_
           refine done_ (done_of HT_.out (by kernel_rfl)) ?_
           try go_wp2
           go_loopg [18, 19] kj132 (fun kq v18 v19 w' => ∃ (x17_4 : List Int) (x18_4 : Bool) (x19_4 : Int), v18 = .bool x18_4 ∧ v19 = .int .i64 x19_4 ∧ Aside0 (gimballaw14_LinearRules.l0 kq x17_4 x18_4 x19_4 a0_0 a0_1 a0_2 a0_3 a0_4 a1_0 a1_1 a1_2 a1_3 a1_4 = some true) ∧ Aside0 (kq ≤ kj132) ∧ Aside0 (Kd.R (Kd.int .i64) 2 w' w.heap.size (fun _ => True) (.slice Ao228 y434.length co228) x17_4) ∧ Aside0 (w'.heap[gb386]? = some (.cells #[.int .i64 a0_0, .int .i64 a0_1, .int .i64 a0_2, .int .i64 a0_3, .int .i64 a0_4] 23 (0, 0))) ∧ Aside0 (w'.heap[gb387]? = some (.cells #[.int .i64 a1_0, .int .i64 a1_1, .int .i64 a1_2, .int .i64 a1_3, .int .i64 a1_4] 23 (0, 0))) ∧ Aside0 (w'.heap[gb394]? = some (.cells #[.int .i64 t388, .int .i64 t389, .int .i64 t390, .int .i64 t391, .int .i64 t392] 23 (0, 0))) ∧ Aside0 (w'.heap[gb401]? = some (.cells #[.int .i64 t395, .int .i64 t396, .int .i64 t397, .int .i64 t398, .int .i64 t399] 23 (0, 0))) ∧ Aside0 (w'.heap[gb408]? = some (.cells #[.int .i64 t402, .int .i64 t403, .int .i64 t404, .int .i64 t405, .int .i64 t406] 23 (0, 0))) ∧ Aside0 (w'.heap[gb415]? = some (.cells #[.int .i64 t409, .int .i64 t410, .int .i64 t411, .int .i64 t412, .int .i64 t413] 23 (0, 0))) ∧ Aside0 (Below w.heap.size w w'))
           case atStart => exact ⟨(y434), ((t437 == t438)), (0), (by first | rfl | (simp; done) | (simp [*]; done)), (by first | rfl | (simp; done) | (simp [*]; done)), H', ⟨Nat.le_refl _⟩, ⟨by (with_reducible repeat (first | apply Kd.R_alloc | apply Kd.R_drewN | apply Kd.R_drew)); exact HO436.out⟩, pkA BK386, pkA BK387, pkA BK394, pkA BK401, pkA BK408, pkA BK415, bpk HB⟩
           case round =>
            clear H'
            try clear c1
            try clear c2
            try clear p2
            try clear c8
            try clear c10
            try clear c21
            try clear c22
            try clear c219
            try clear c222
            try clear c222b0
            try clear c222b1
            try clear hcz132_4
            try clear hcz144_0
            try clear hcz144_1
            try clear hcz144_2
            try clear hcz144_3
            try clear hcz144_4
            try clear hcz150_0
            try clear hcz150_1
            try clear hcz150_2
            try clear hcz150_3
            try clear hcz150_4
            try clear hcz152_0
            try clear hcz152_1
            try clear hcz152_2
            try clear hcz152_3
            try clear hcz152_4
            try clear hcz159_0
            try clear hcz159_1
            try clear hcz159_2
            try clear hcz159_3
            try clear hcz159_4
            try clear hcz165_0
            try clear hcz165_1
            try clear hcz165_2
            try clear hcz165_3
            try clear hcz165_4
            try clear hcz167_0
            try clear hcz167_1
            try clear hcz167_2
            try clear hcz167_3
            try clear hcz167_4
            try clear hcz174_0
            try clear hcz174_1
            try clear hcz174_2
            try clear hcz174_3
            try clear hcz174_4
            try clear hcz17_0
            try clear hcz17_1
            try clear hcz17_2
            try clear hcz17_3
            try clear hcz17_4
            try clear hcz180_0
            try clear hcz180_1
            try clear hcz180_2
            try clear hcz180_3
            try clear hcz180_4
            try clear hcz182_0
            try clear hcz182_1
            try clear hcz182_2
            try clear hcz182_3
            try clear hcz182_4
            try clear hcz183_0
            try clear hcz183_1
            try clear hcz183_2
            try clear hcz183_3
            try clear hcz183_4
            try clear hcz189_0
            try clear hcz189_1
            try clear hcz189_2
            try clear hcz189_3
            try clear hcz189_4
            try clear hcz18_0
            try clear hcz18_1
            try clear hcz18_2
            try clear hcz18_3
            try clear hcz18_4
            try clear hcz195_0
            try clear hcz195_1
            try clear hcz195_2
            try clear hcz195_3
            try clear hcz195_4
            try clear hcz197_0
            try clear hcz197_1
            try clear hcz197_2
            try clear hcz197_3
            try clear hcz197_4
            try clear hcz198_0
            try clear hcz198_1
            try clear hcz198_2
            try clear hcz198_3
            try clear hcz198_4
            try clear hcz19_0
            try clear hcz19_1
            try clear hcz19_2
            try clear hcz19_3
            try clear hcz19_4
            try clear hcz204_0
            try clear hcz204_1
            try clear hcz204_2
            try clear hcz204_3
            try clear hcz204_4
            try clear hcz210_0
            try clear hcz210_1
            try clear hcz210_2
            try clear hcz210_3
            try clear hcz210_4
            try clear hcz217_0
            try clear hcz217_1
            try clear hcz217_2
            try clear hcz217_3
            try clear hcz217_4
            try clear hcz25_0
            try clear hcz25_1
            try clear hcz25_2
            try clear hcz25_3
            try clear hcz25_4
            try clear hcz26_0
            try clear hcz26_1
            try clear hcz26_2
            try clear hcz26_3
            try clear hcz26_4
            try clear hcz27_0
            try clear hcz27_1
            try clear hcz27_2
            try clear hcz27_3
            try clear hcz27_4
            try clear hcz34_0
            try clear hcz34_1
            try clear hcz34_2
            try clear hcz34_3
            try clear hcz34_4
            try clear hcz35_0
            try clear hcz35_1
            try clear hcz35_2
            try clear hcz35_3
            try clear hcz35_4
            try clear hcz43_0
            try clear hcz43_1
            try clear hcz43_2
            try clear hcz43_3
            try clear hcz43_4
            try clear hcz50_0
            try clear hcz50_1
            try clear hcz50_2
            try clear hcz50_3
            try clear hcz50_4
            try clear hcz55_0
            try clear hcz55_1
            try clear hcz55_2
            try clear hcz55_3
            try clear hcz55_4
            try clear hcz62_0
            try clear hcz62_1
            try clear hcz62_2
            try clear hcz62_3
            try clear hcz62_4
            try clear hcz67_0
            try clear hcz67_1
            try clear hcz67_2
            try clear hcz67_3
            try clear hcz67_4
            try clear hcz74_0
            try clear hcz74_1
            try clear hcz74_2
            try clear hcz74_3
            try clear hcz74_4
            try clear hcz79_0
            try clear hcz79_1
            try clear hcz79_2
            try clear hcz79_3
            try clear hcz79_4
            try clear hcz83_0
            try clear hcz83_1
            try clear hcz83_2
            try clear hcz83_3
            try clear hcz83_4
            try clear hcz99_0
            try clear hcz99_1
            try clear hcz99_2
            try clear hcz99_3
            try clear hcz99_4
            try clear hfz104_0
            try clear hfz104_1
            try clear hfz104_2
            try clear hfz104_3
            try clear hfz104_4
            try clear hfz113_0
            try clear hfz113_1
            try clear hfz113_2
            try clear hfz113_3
            try clear hfz113_4
            try clear hfz114_0
            try clear hfz114_1
            try clear hfz114_2
            try clear hfz114_3
            try clear hfz114_4
            try clear hfz11_0
            try clear hfz11_1
            try clear hfz11_2
            try clear hfz11_3
            try clear hfz11_4
            try clear hfz124_0
            try clear hfz124_1
            try clear hfz124_2
            try clear hfz124_3
            try clear hfz124_4
            try clear hfz125_0
            try clear hfz125_1
            try clear hfz125_2
            try clear hfz125_3
            try clear hfz125_4
            try clear hfz129_0
            try clear hfz129_1
            try clear hfz129_2
            try clear hfz129_3
            try clear hfz129_4
            try clear hfz12_0
            try clear hfz12_1
            try clear hfz12_2
            try clear hfz12_3
            try clear hfz12_4
            try clear hfz132_0
            try clear hfz132_1
            try clear hfz132_2
            try clear hfz132_3
            try clear hfz132_4
            try clear hfz144_0
            try clear hfz144_1
            try clear hfz144_2
            try clear hfz144_3
            try clear hfz144_4
            try clear hfz150_0
            try clear hfz150_1
            try clear hfz150_2
            try clear hfz150_3
            try clear hfz150_4
            try clear hfz152_0
            try clear hfz152_1
            try clear hfz152_2
            try clear hfz152_3
            try clear hfz152_4
            try clear hfz159_0
            try clear hfz159_1
            try clear hfz159_2
            try clear hfz159_3
            try clear hfz159_4
            try clear hfz165_0
            try clear hfz165_1
            try clear hfz165_2
            try clear hfz165_3
            try clear hfz165_4
            try clear hfz167_0
            try clear hfz167_1
            try clear hfz167_2
            try clear hfz167_3
            try clear hfz167_4
            try clear hfz174_0
            try clear hfz174_1
            try clear hfz174_2
            try clear hfz174_3
            try clear hfz174_4
            try clear hfz17_0
            try clear hfz17_1
            try clear hfz17_2
            try clear hfz17_3
            try clear hfz17_4
            try clear hfz180_0
            try clear hfz180_1
            try clear hfz180_2
            try clear hfz180_3
            try clear hfz180_4
            try clear hfz182_0
            try clear hfz182_1
            try clear hfz182_2
            try clear hfz182_3
            try clear hfz182_4
            try clear hfz183_0
            try clear hfz183_1
            try clear hfz183_2
            try clear hfz183_3
            try clear hfz183_4
            try clear hfz189_0
            try clear hfz189_1
            try clear hfz189_2
            try clear hfz189_3
            try clear hfz189_4
            try clear hfz18_0
            try clear hfz18_1
            try clear hfz18_2
            try clear hfz18_3
            try clear hfz18_4
            try clear hfz195_0
            try clear hfz195_1
            try clear hfz195_2
            try clear hfz195_3
            try clear hfz195_4
            try clear hfz197_0
            try clear hfz197_1
            try clear hfz197_2
            try clear hfz197_3
            try clear hfz197_4
            try clear hfz198_0
            try clear hfz198_1
            try clear hfz198_2
            try clear hfz198_3
            try clear hfz198_4
            try clear hfz19_0
            try clear hfz19_1
            try clear hfz19_2
            try clear hfz19_3
            try clear hfz19_4
            try clear hfz204_0
            try clear hfz204_1
            try clear hfz204_2
            try clear hfz204_3
            try clear hfz204_4
            try clear hfz210_0
            try clear hfz210_1
            try clear hfz210_2
            try clear hfz210_3
            try clear hfz210_4
            try clear hfz217_0
            try clear hfz217_1
            try clear hfz217_2
            try clear hfz217_3
            try clear hfz217_4
            try clear hfz25_0
            try clear hfz25_1
            try clear hfz25_2
            try clear hfz25_3
            try clear hfz25_4
            try clear hfz26_0
            try clear hfz26_1
            try clear hfz26_2
            try clear hfz26_3
            try clear hfz26_4
            try clear hfz27_0
            try clear hfz27_1
            try clear hfz27_2
            try clear hfz27_3
            try clear hfz27_4
            try clear hfz34_0
            try clear hfz34_1
            try clear hfz34_2
            try clear hfz34_3
            try clear hfz34_4
            try clear hfz35_0
            try clear hfz35_1
            try clear hfz35_2
            try clear hfz35_3
            try clear hfz35_4
            try clear hfz43_0
            try clear hfz43_1
            try clear hfz43_2
            try clear hfz43_3
            try clear hfz43_4
            try clear hfz50_0
            try clear hfz50_1
            try clear hfz50_2
            try clear hfz50_3
            try clear hfz50_4
            try clear hfz55_0
            try clear hfz55_1
            try clear hfz55_2
            try clear hfz55_3
            try clear hfz55_4
            try clear hfz62_0
            try clear hfz62_1
            try clear hfz62_2
            try clear hfz62_3
            try clear hfz62_4
            try clear hfz67_0
            try clear hfz67_1
            try clear hfz67_2
            try clear hfz67_3
            try clear hfz67_4
            try clear hfz74_0
            try clear hfz74_1
            try clear hfz74_2
            try clear hfz74_3
            try clear hfz74_4
            try clear hfz79_0
            try clear hfz79_1
            try clear hfz79_2
            try clear hfz79_3
            try clear hfz79_4
            try clear hfz83_0
            try clear hfz83_1
            try clear hfz83_2
            try clear hfz83_3
            try clear hfz83_4
            try clear hfz99_0
            try clear hfz99_1
            try clear hfz99_2
            try clear hfz99_3
            try clear hfz99_4
            try clear p2
            obtain ⟨x17_4, x18_4, x19_4, rfl, rfl, HA, HK4, HO_17, BK386, BK387, BK394, BK401, BK408, BK415, HB⟩ := hrel
            have hl17_4 := (Kd.R_reads' HO_17.out).1
            rw [hl17_4] at HO_17
            (try simp only [hl17_4])
            (try simp only [hl17_4] at BK386)
            (try simp only [hl17_4] at BK387)
            (try simp only [hl17_4] at BK394)
            (try simp only [hl17_4] at BK401)
            (try simp only [hl17_4] at BK408)
            (try simp only [hl17_4] at BK415)
            cases gk with
            | zero => exact absurd HA.out (by simp [gimballaw14_LinearRules.l0])
            | succ k4 =>
             have H := HA.out
             clear HA
             simp only [gimballaw14_LinearRules.l0] at H
             by_cases c231 : x19_4 < 41
             ·
              rw [if_pos c231] at H
              have c231b0 : decide (x19_4 < 41) = true := decide_eq_true c231
              (try simp only [hl17_4] at c231b0)
              clear c231
              by_cases c232 : 0 ≤ x19_4
              ·
               rw [if_pos c232] at H
               have c232b0 : decide (0 ≤ x19_4) = true := decide_eq_true c232
               (try simp only [hl17_4] at c232b0)
               clear c232
               by_cases c233 : x19_4 < (x17_4.length : Int)
               ·
                rw [if_pos c233] at H
                have c233b0 : decide (x19_4 < (x17_4.length : Int)) = true := decide_eq_true c233
                (try simp only [hl17_4] at c233b0)
                clear c233
                obtain ⟨y439, hy439⟩ : ∃ y_ : List Int, y_ = (x17_4.set (x19_4 : Int).toNat 1) := ⟨_, rfl⟩
                replace H : (if x18_4 = true then ((linear_Value.f k4 a0_0 a0_1 a0_2 a0_3 a0_4 y439).bind fun t440 => ((linear_Value.f k4 a1_0 a1_1 a1_2 a1_3 a1_4 y439).bind fun t441 => (gimballaw14_LinearRules.l0 k4 (y439.set (x19_4 : Int).toNat 0) (t440 == t441) (wrap64 (x19_4 + 1)) a0_0 a0_1 a0_2 a0_3 a0_4 a1_0 a1_1 a1_2 a1_3 a1_4))) else (gimballaw14_LinearRules.l0 k4 (y439.set (x19_4 : Int).toNat 0) false (wrap64 (x19_4 + 1)) a0_0 a0_1 a0_2 a0_3 a0_4 a1_0 a1_1 a1_2 a1_3 a1_4)) = some true := by first | (rw [hy439]; with_reducible exact H) | (have H2_ := (Option.bind_some _ _).symm.trans H; rw [hy439]; with_reducible exact H2_) | (have H2_ := (Option.bind_some _ _).symm.trans H; with_reducible exact H2_) | with_reducible exact H | (rw [hy439]; exact H) | exact H
                have Ny439 := Aside0.mk hy439
                clear hy439
                by_cases c235 : x18_4 = true
                ·
                 subst c235
                 have H1 : ((linear_Value.f k4 a0_0 a0_1 a0_2 a0_3 a0_4 y439).bind fun t440 => ((linear_Value.f k4 a1_0 a1_1 a1_2 a1_3 a1_4 y439).bind fun t441 => (gimballaw14_LinearRules.l0 k4 (y439.set (x19_4 : Int).toNat 0) (t440 == t441) (wrap64 (x19_4 + 1)) a0_0 a0_1 a0_2 a0_3 a0_4 a1_0 a1_1 a1_2 a1_3 a1_4))) = some true := by rw [if_pos rfl] at H; exact H
                 clear H
                 have H := H1
                 clear H1
                 replace H := Option.bind_eq_some_iff.mp H
                 obtain ⟨t440, A2360, H⟩ := H
                 replace H : ((linear_Value.f k4 a1_0 a1_1 a1_2 a1_3 a1_4 y439).bind fun t441 => (gimballaw14_LinearRules.l0 k4 (y439.set (x19_4 : Int).toNat 0) (t440 == t441) (wrap64 (x19_4 + 1)) a0_0 a0_1 a0_2 a0_3 a0_4 a1_0 a1_1 a1_2 a1_3 a1_4)) = some true := H
                 have A236 := Aside0.mk A2360
                 clear A2360
                 replace H := Option.bind_eq_some_iff.mp H
                 obtain ⟨t441, A2370, H⟩ := H
                 replace H : (gimballaw14_LinearRules.l0 k4 (y439.set (x19_4 : Int).toNat 0) (t440 == t441) (wrap64 (x19_4 + 1)) a0_0 a0_1 a0_2 a0_3 a0_4 a1_0 a1_1 a1_2 a1_3 a1_4) = some true := H
                 have A237 := Aside0.mk A2370
                 clear A2370
                 obtain ⟨y442, hy442⟩ : ∃ y_ : List Int, y_ = (y439.set (x19_4 : Int).toNat 0) := ⟨_, rfl⟩
                 replace H : (gimballaw14_LinearRules.l0 k4 y442 (t440 == t441) (wrap64 (x19_4 + 1)) a0_0 a0_1 a0_2 a0_3 a0_4 a1_0 a1_1 a1_2 a1_3 a1_4) = some true := by first | (rw [hy442]; with_reducible exact H) | (have H2_ := (Option.bind_some _ _).symm.trans H; rw [hy442]; with_reducible exact H2_) | (have H2_ := (Option.bind_some _ _).symm.trans H; with_reducible exact H2_) | with_reducible exact H | (rw [hy442]; exact H) | exact H
                 have Ny442 := Aside0.mk hy442
                 clear hy442
                 have H' := Aside0.mk H
                 clear H
                 have p234 : 0 ≤ (x19_4 : Int) := of_decide_eq_true (by first | (with_reducible assumption) | assumption)
                 have q234 : (x19_4 : Int) < ((x17_4.length : Int) : Int) := of_decide_eq_true (by first | (with_reducible assumption) | assumption)
                 obtain ⟨go234, co234, eo234, gb234, gl234, cl234, HG234⟩ := Kd.R_form HO_17.out (by omega)
                 (first | cases eo234 | (injection eo234 with ea_ en_ ec_; (first | subst ea_ | (injection ea_ with ea_; subst ea_)); subst ec_; clear en_))
                 have GB234 := Aside0.mk gb234
                 have GG234 := Aside0.mk HG234
                 clear gb234 gl234 HG234
                 obtain ⟨hx234_0, hf234_0⟩ := Kd.R_celln 0 HO_17.out (x19_4 : Int) p234 q234
                 replace p234 := eq_true p234
                 replace q234 := eq_true q234
                 have HP239 := Kd.R_putg HO_17.out (x19_4 : Int) 1
                 try go_wp2_with (first | ((with_reducible refine gate_store (t := 2) (p := 129) rfl ?_); refine store_event (t := 2) (p := 129) (v := ?vo_w240) (w1 := (wr.setCell ⟨go234, (x19_4 : Int).toNat, none⟩ (.int .i64 1))) ?hg ?ho ?hn ?hr ?_; (case ho => rfl); (case hg => rfl); (case hn => rfl); (case hr => first | (go_simp; done) | (go_simp; rfl)); intro w240 hw; have hg : wr.grownBy w240 (some go234) := (by rw [hw]; exact HP239.2); have hp_ : Kd.R (Kd.int .i64) 2 w240 w.heap.size (fun _ => True) (.slice (some ⟨go234, 0, none⟩) x17_4.length co228) y439 := (by rw [hw, Ny439.out]; exact HP239.1); clear HP239; have n0_ := Aside0.mk (hp_); have n1_ := Aside0.mk (blk_grown (g := gb386) (o := .cells #[.int .i64 a0_0, .int .i64 a0_1, .int .i64 a0_2, .int .i64 a0_3, .int .i64 a0_4] 23 (0, 0)) (pk BK386.out) hg (Kd.R_ne HO_17.out BK386.out (by decide))); have n2_ := Aside0.mk (blk_grown (g := gb387) (o := .cells #[.int .i64 a1_0, .int .i64 a1_1, .int .i64 a1_2, .int .i64 a1_3, .int .i64 a1_4] 23 (0, 0)) (pk BK387.out) hg (Kd.R_ne HO_17.out BK387.out (by decide))); have n3_ := Aside0.mk (blk_grown (g := gb394) (o := .cells #[.int .i64 t388, .int .i64 t389, .int .i64 t390, .int .i64 t391, .int .i64 t392] 23 (0, 0)) (pk BK394.out) hg (Kd.R_ne HO_17.out BK394.out (by decide))); have n4_ := Aside0.mk (blk_grown (g := gb401) (o := .cells #[.int .i64 t395, .int .i64 t396, .int .i64 t397, .int .i64 t398, .int .i64 t399] 23 (0, 0)) (pk BK401.out) hg (Kd.R_ne HO_17.out BK401.out (by decide))); have n5_ := Aside0.mk (blk_grown (g := gb408) (o := .cells #[.int .i64 t402, .int .i64 t403, .int .i64 t404, .int .i64 t405, .int .i64 t406] 23 (0, 0)) (pk BK408.out) hg (Kd.R_ne HO_17.out BK408.out (by decide))); have n6_ := Aside0.mk (blk_grown (g := gb415) (o := .cells #[.int .i64 t409, .int .i64 t410, .int .i64 t411, .int .i64 t412, .int .i64 t413] 23 (0, 0)) (pk BK415.out) hg (Kd.R_ne HO_17.out BK415.out (by decide))); have n7_ := Aside0.mk ((by rw [hw]; exact below_set (HB.out) GB234.out : Below w.heap.size w w240)); clear HO_17; clear BK386; clear BK387; clear BK394; clear BK401; clear BK408; clear BK415; clear HB; have HO_17 := n0_; have BK386 := n1_; have BK387 := n2_; have BK394 := n3_; have BK401 := n4_; have BK408 := n5_; have BK415 := n6_; have HB := n7_; clear n0_ n1_ n2_ n3_ n4_ n5_ n6_ n7_; clear hg hw hp_))
                 have n0_ := Aside0.mk (Kd.R_drew HO_17.out)
                 have n1_ := Aside0.mk (blk_drew BK386.out)
                 have n2_ := Aside0.mk (blk_drew BK387.out)
                 have n3_ := Aside0.mk (blk_drew BK394.out)
                 have n4_ := Aside0.mk (blk_drew BK401.out)
                 have n5_ := Aside0.mk (blk_drew BK408.out)
                 have n6_ := Aside0.mk (blk_drew BK415.out)
                 have n7_ := Aside0.mk (below_drew1 HB.out)
                 clear HO_17
                 clear BK386
                 clear BK387
                 clear BK394
                 clear BK401
                 clear BK408
                 clear BK415
                 clear HB
                 have HO_17 := n0_
                 have BK386 := n1_
                 have BK387 := n2_
                 have BK394 := n3_
                 have BK401 := n4_
                 have BK408 := n5_
                 have BK415 := n6_
                 have HB := n7_
                 clear n0_ n1_ n2_ n3_ n4_ n5_ n6_ n7_
                 refine start_ (n := 11) (S := fun w' => w'.cell? ⟨gb386, 0, none⟩ = some (.int .i64 a0_0) ∧ w'.cell? ⟨gb386, 1, none⟩ = some (.int .i64 a0_1) ∧ w'.cell? ⟨gb386, 2, none⟩ = some (.int .i64 a0_2) ∧ w'.cell? ⟨gb386, 3, none⟩ = some (.int .i64 a0_3) ∧ w'.cell? ⟨gb386, 4, none⟩ = some (.int .i64 a0_4) ∧ w'.cell? ⟨gb387, 0, none⟩ = some (.int .i64 a1_0) ∧ w'.cell? ⟨gb387, 1, none⟩ = some (.int .i64 a1_1) ∧ w'.cell? ⟨gb387, 2, none⟩ = some (.int .i64 a1_2) ∧ w'.cell? ⟨gb387, 3, none⟩ = some (.int .i64 a1_3) ∧ w'.cell? ⟨gb387, 4, none⟩ = some (.int .i64 a1_4)) (ds := []) #[false, false, false, false, false, false, false, false, false, false, false] (by kernel_rfl) rfl rfl ⟨hcz BK386 0, hcz BK386 1, hcz BK386 2, hcz BK386 3, hcz BK386 4, hcz BK387 0, hcz BK387 1, hcz BK387 2, hcz BK387 3, hcz BK387 4⟩ (fun hHeld => ?_); refine with_tabW gimballaw14_LinearRules.tab20 gimballaw14_LinearRules.bits20 (fun HT_ HW_ => ?_)
                 generalize w240.drew = w241 at HO_17 BK386 BK387 BK394 BK401 BK408 BK415 HB hHeld ⊢
                 refine pureQ 0 130 HT_.out ?_
                 refine pureQ 1 131 HT_.out ?_
                 refine pureQ 3 133 HT_.out ?_
                 refine pureQ 6 136 HT_.out ?_
                 refine takeQ 2 132 HT_.out HW_.out hHeld ?_
                 refine takeQ 5 135 HT_.out HW_.out hHeld ?_
                 refine oneQ 4 134 HT_.out (fun K hK => ?_)
                 refine goes_ Try.func8 (by kernel_rfl) rfl #[.agg #[.int .i64 a0_0, .int .i64 a0_1, .int .i64 a0_2, .int .i64 a0_3, .int .i64 a0_4], .slice (some ⟨go234, 0, none⟩) y439.length co228] (by rfl) rfl rfl (by (try simp only [List.map_toArray, List.map_cons, List.map_nil]); first | done | (rw [show y439.length = x17_4.length from (Kd.R_reads' HO_17.out).1.symm] <;> rfl) | rfl | (simp only [List.length_drop, List.length_take]; rfl)) ?_
                 with_reducible refine (linear_Value.calls k4 a0_0 a0_1 a0_2 a0_3 a0_4 _ _ y439 t440 _ ?side1 ?side2 A236.out).mono ?_
                 (case side1 => repeat (first | exact (Kd.R_reads' HO_17.out).2.2 | (with_reducible refine Kd.C_alloc ?_ _) | (with_reducible refine Kd.C_drewN ?_ _) | (with_reducible refine Kd.C_drew ?_)))
                 (case side2 => rw [show y439.length = x17_4.length from (Kd.R_reads' HO_17.out).1.symm]; exact (Kd.R_reads' HO_17.out).2.1)
                 rintro e w242 ⟨rfl, hb⟩
                 refine ⟨_, rfl, ?_⟩
                 have n0_ := Aside0.mk (Kd.R_below (by (with_reducible repeat (first | apply Kd.R_alloc | apply Kd.R_drewN | apply Kd.R_drew)); exact HO_17.out) hb)
                 have n1_ := bst HB hb
                 replace BK386 := bbw BK386 hb
                 replace BK387 := bbw BK387 hb
                 replace BK394 := bbw BK394 hb
                 replace BK401 := bbw BK401 hb
                 replace BK408 := bbw BK408 hb
                 replace BK415 := bbw BK415 hb
                 clear HO_17
                 clear HB
                 have HO_17 := n0_
                 have HB := n1_
                 clear n0_ n1_
                 (try clear hb)
                 (try clear hb2)
                 (try clear hk)
                 (try clear hi)
                 refine hK.out _ _ ⟨hcz BK386 0, hcz BK386 1, hcz BK386 2, hcz BK386 3, hcz BK386 4, hcz BK387 0, hcz BK387 1, hcz BK387 2, hcz BK387 3, hcz BK387 4⟩ (fun hHeld => ?_)
                 clear hK K
                 refine normQ (N := 134) ?_
                 refine oneQ 7 137 HT_.out (fun K hK => ?_)
                 refine goes_ Try.func8 (by kernel_rfl) rfl #[.agg #[.int .i64 a1_0, .int .i64 a1_1, .int .i64 a1_2, .int .i64 a1_3, .int .i64 a1_4], .slice (some ⟨go234, 0, none⟩) y439.length co228] (by rfl) rfl rfl (by (try simp only [List.map_toArray, List.map_cons, List.map_nil]); first | done | (rw [show y439.length = x17_4.length from (Kd.R_reads' HO_17.out).1.symm] <;> rfl) | rfl | (simp only [List.length_drop, List.length_take]; rfl)) ?_
                 with_reducible refine (linear_Value.calls k4 a1_0 a1_1 a1_2 a1_3 a1_4 _ _ y439 t441 _ ?side1 ?side2 A237.out).mono ?_
                 (case side1 => repeat (first | exact (Kd.R_reads' HO_17.out).2.2 | (with_reducible refine Kd.C_alloc ?_ _) | (with_reducible refine Kd.C_drewN ?_ _) | (with_reducible refine Kd.C_drew ?_)))
                 (case side2 => rw [show y439.length = x17_4.length from (Kd.R_reads' HO_17.out).1.symm]; exact (Kd.R_reads' HO_17.out).2.1)
                 rintro e w243 ⟨rfl, hb⟩
                 refine ⟨_, rfl, ?_⟩
                 have n0_ := Aside0.mk (Kd.R_below (by (with_reducible repeat (first | apply Kd.R_alloc | apply Kd.R_drewN | apply Kd.R_drew)); exact HO_17.out) hb)
                 have n1_ := bst HB hb
                 replace BK386 := bbw BK386 hb
                 replace BK387 := bbw BK387 hb
                 replace BK394 := bbw BK394 hb
                 replace BK401 := bbw BK401 hb
                 replace BK408 := bbw BK408 hb
                 replace BK415 := bbw BK415 hb
                 clear HO_17
                 clear HB
                 have HO_17 := n0_
                 have HB := n1_
                 clear n0_ n1_
                 (try clear hb)
                 (try clear hb2)
                 (try clear hk)
                 (try clear hi)
                 refine hK.out _ _ ⟨hcz BK386 0, hcz BK386 1, hcz BK386 2, hcz BK386 3, hcz BK386 4, hcz BK387 0, hcz BK387 1, hcz BK387 2, hcz BK387 3, hcz BK387 4⟩ (fun hHeld => ?_)
                 clear hK K
                 refine normQ (N := 137) ?_
                 refine pureQ 8 138 HT_.out ?_
                 refine pureQ 9 139 HT_.out ?_
                 refine pureQ 10 18 HT_.out ?_
                 refine done_ (done_of HT_.out (by kernel_rfl)) ?_
                 have p238 : 0 ≤ (x19_4 : Int) := of_decide_eq_true (by first | (with_reducible assumption) | assumption)
                 have q238 : (x19_4 : Int) < ((x17_4.length : Int) : Int) := of_decide_eq_true (by first | (with_reducible assumption) | assumption)
                 obtain ⟨hx238_0, hf238_0⟩ := Kd.R_celln 0 HO_17.out (x19_4 : Int) p238 q238
                 replace p238 := eq_true p238
                 replace q238 := eq_true q238
                 obtain ⟨hy244_, hz244_⟩ := Kd.R_celln 0 HO_17.out (x19_4 : Int) (of_decide_eq_true (by first | (with_reducible assumption) | assumption)) (of_decide_eq_true (by first | (with_reducible assumption) | assumption))
                 have HP244 := Kd.R_putg HO_17.out (x19_4 : Int) 0
                 try go_wp2_with (first | ((with_reducible refine gate_store (t := 2) (p := 142) rfl ?_); refine store_event (t := 2) (p := 142) (v := ?vo_w245) (w1 := (w243.setCell ⟨go234, (x19_4 : Int).toNat, none⟩ (.int .i64 0))) ?hg ?ho ?hn ?hr ?_; (case ho => rfl); (case hg => rfl); (case hn => rfl); (case hr => first | (go_simp; done) | (go_simp; rfl)); intro w245 hw; have hg : w243.grownBy w245 (some go234) := (by rw [hw]; exact HP244.2); have hp_ : Kd.R (Kd.int .i64) 2 w245 w.heap.size (fun _ => True) (.slice (some ⟨go234, 0, none⟩) x17_4.length co228) y442 := (by rw [hw, Ny442.out]; exact HP244.1); clear HP244; have n0_ := Aside0.mk (hp_); have n1_ := Aside0.mk (blk_grown (g := gb386) (o := .cells #[.int .i64 a0_0, .int .i64 a0_1, .int .i64 a0_2, .int .i64 a0_3, .int .i64 a0_4] 23 (0, 0)) (pk BK386.out) hg (Kd.R_ne HO_17.out BK386.out (by decide))); have n2_ := Aside0.mk (blk_grown (g := gb387) (o := .cells #[.int .i64 a1_0, .int .i64 a1_1, .int .i64 a1_2, .int .i64 a1_3, .int .i64 a1_4] 23 (0, 0)) (pk BK387.out) hg (Kd.R_ne HO_17.out BK387.out (by decide))); have n3_ := Aside0.mk (blk_grown (g := gb394) (o := .cells #[.int .i64 t388, .int .i64 t389, .int .i64 t390, .int .i64 t391, .int .i64 t392] 23 (0, 0)) (pk BK394.out) hg (Kd.R_ne HO_17.out BK394.out (by decide))); have n4_ := Aside0.mk (blk_grown (g := gb401) (o := .cells #[.int .i64 t395, .int .i64 t396, .int .i64 t397, .int .i64 t398, .int .i64 t399] 23 (0, 0)) (pk BK401.out) hg (Kd.R_ne HO_17.out BK401.out (by decide))); have n5_ := Aside0.mk (blk_grown (g := gb408) (o := .cells #[.int .i64 t402, .int .i64 t403, .int .i64 t404, .int .i64 t405, .int .i64 t406] 23 (0, 0)) (pk BK408.out) hg (Kd.R_ne HO_17.out BK408.out (by decide))); have n6_ := Aside0.mk (blk_grown (g := gb415) (o := .cells #[.int .i64 t409, .int .i64 t410, .int .i64 t411, .int .i64 t412, .int .i64 t413] 23 (0, 0)) (pk BK415.out) hg (Kd.R_ne HO_17.out BK415.out (by decide))); have n7_ := Aside0.mk ((by rw [hw]; exact below_set (HB.out) GB234.out : Below w.heap.size w w245)); clear HO_17; clear BK386; clear BK387; clear BK394; clear BK401; clear BK408; clear BK415; clear HB; have HO_17 := n0_; have BK386 := n1_; have BK387 := n2_; have BK394 := n3_; have BK401 := n4_; have BK408 := n5_; have BK415 := n6_; have HB := n7_; clear n0_ n1_ n2_ n3_ n4_ n5_ n6_ n7_; clear hg hw hp_))
                 (try simp only [← hl17_4])
                 go_roundg k4
                 case measure => have := HJ6.out; have := HJ85.out; have := HJ132.out; have := HK4.out; omega
                 case rel => exact ⟨(y442), ((t440 == t441)), (wrap64 (x19_4 + 1)), (by first | rfl | (simp; done) | (simp [*]; done)), (by first | rfl | (simp; done) | (simp [*]; done)), H', ⟨by have := HJ6.out; have := HJ85.out; have := HJ132.out; have := HK4.out; omega⟩, ⟨by (try simp only [hl17_4]); (with_reducible repeat (first | apply Kd.R_alloc | apply Kd.R_drewN | apply Kd.R_drew)); exact HO_17.out⟩, ⟨by (try simp only [hl17_4]); refine pkB ?_; exact BK386.out⟩, ⟨by (try simp only [hl17_4]); refine pkB ?_; exact BK387.out⟩, ⟨by (try simp only [hl17_4]); refine pkB ?_; exact BK394.out⟩, ⟨by (try simp only [hl17_4]); refine pkB ?_; exact BK401.out⟩, ⟨by (try simp only [hl17_4]); refine pkB ?_; exact BK408.out⟩, ⟨by (try simp only [hl17_4]); refine pkB ?_; exact BK415.out⟩, bpk HB⟩
                ·
                 replace c235 := Bool.eq_false_iff.mpr c235
                 subst c235
                 have H1 : (gimballaw14_LinearRules.l0 k4 (y439.set (x19_4 : Int).toNat 0) false (wrap64 (x19_4 + 1)) a0_0 a0_1 a0_2 a0_3 a0_4 a1_0 a1_1 a1_2 a1_3 a1_4) = some true := by rw [if_neg (show ¬ (false = true) by decide)] at H; exact H
                 clear H
                 have H := H1
                 clear H1
                 obtain ⟨y443, hy443⟩ : ∃ y_ : List Int, y_ = (y439.set (x19_4 : Int).toNat 0) := ⟨_, rfl⟩
                 replace H : (gimballaw14_LinearRules.l0 k4 y443 false (wrap64 (x19_4 + 1)) a0_0 a0_1 a0_2 a0_3 a0_4 a1_0 a1_1 a1_2 a1_3 a1_4) = some true := by first | (rw [hy443]; with_reducible exact H) | (have H2_ := (Option.bind_some _ _).symm.trans H; rw [hy443]; with_reducible exact H2_) | (have H2_ := (Option.bind_some _ _).symm.trans H; with_reducible exact H2_) | with_reducible exact H | (rw [hy443]; exact H) | exact H
                 have Ny443 := Aside0.mk hy443
                 clear hy443
                 have H' := Aside0.mk H
                 clear H
                 have p234 : 0 ≤ (x19_4 : Int) := of_decide_eq_true (by first | (with_reducible assumption) | assumption)
                 have q234 : (x19_4 : Int) < ((x17_4.length : Int) : Int) := of_decide_eq_true (by first | (with_reducible assumption) | assumption)
                 obtain ⟨go234, co234, eo234, gb234, gl234, cl234, HG234⟩ := Kd.R_form HO_17.out (by omega)
                 (first | cases eo234 | (injection eo234 with ea_ en_ ec_; (first | subst ea_ | (injection ea_ with ea_; subst ea_)); subst ec_; clear en_))
                 have GB234 := Aside0.mk gb234
                 have GG234 := Aside0.mk HG234
                 clear gb234 gl234 HG234
                 obtain ⟨hx234_0, hf234_0⟩ := Kd.R_celln 0 HO_17.out (x19_4 : Int) p234 q234
                 replace p234 := eq_true p234
                 replace q234 := eq_true q234
                 have HP247 := Kd.R_putg HO_17.out (x19_4 : Int) 1
                 try go_wp2_with (first | ((with_reducible refine gate_store (t := 2) (p := 129) rfl ?_); refine store_event (t := 2) (p := 129) (v := ?vo_w248) (w1 := (wr.setCell ⟨go234, (x19_4 : Int).toNat, none⟩ (.int .i64 1))) ?hg ?ho ?hn ?hr ?_; (case ho => rfl); (case hg => rfl); (case hn => rfl); (case hr => first | (go_simp; done) | (go_simp; rfl)); intro w248 hw; have hg : wr.grownBy w248 (some go234) := (by rw [hw]; exact HP247.2); have hp_ : Kd.R (Kd.int .i64) 2 w248 w.heap.size (fun _ => True) (.slice (some ⟨go234, 0, none⟩) x17_4.length co228) y439 := (by rw [hw, Ny439.out]; exact HP247.1); clear HP247; have n0_ := Aside0.mk (hp_); have n1_ := Aside0.mk (blk_grown (g := gb386) (o := .cells #[.int .i64 a0_0, .int .i64 a0_1, .int .i64 a0_2, .int .i64 a0_3, .int .i64 a0_4] 23 (0, 0)) (pk BK386.out) hg (Kd.R_ne HO_17.out BK386.out (by decide))); have n2_ := Aside0.mk (blk_grown (g := gb387) (o := .cells #[.int .i64 a1_0, .int .i64 a1_1, .int .i64 a1_2, .int .i64 a1_3, .int .i64 a1_4] 23 (0, 0)) (pk BK387.out) hg (Kd.R_ne HO_17.out BK387.out (by decide))); have n3_ := Aside0.mk (blk_grown (g := gb394) (o := .cells #[.int .i64 t388, .int .i64 t389, .int .i64 t390, .int .i64 t391, .int .i64 t392] 23 (0, 0)) (pk BK394.out) hg (Kd.R_ne HO_17.out BK394.out (by decide))); have n4_ := Aside0.mk (blk_grown (g := gb401) (o := .cells #[.int .i64 t395, .int .i64 t396, .int .i64 t397, .int .i64 t398, .int .i64 t399] 23 (0, 0)) (pk BK401.out) hg (Kd.R_ne HO_17.out BK401.out (by decide))); have n5_ := Aside0.mk (blk_grown (g := gb408) (o := .cells #[.int .i64 t402, .int .i64 t403, .int .i64 t404, .int .i64 t405, .int .i64 t406] 23 (0, 0)) (pk BK408.out) hg (Kd.R_ne HO_17.out BK408.out (by decide))); have n6_ := Aside0.mk (blk_grown (g := gb415) (o := .cells #[.int .i64 t409, .int .i64 t410, .int .i64 t411, .int .i64 t412, .int .i64 t413] 23 (0, 0)) (pk BK415.out) hg (Kd.R_ne HO_17.out BK415.out (by decide))); have n7_ := Aside0.mk ((by rw [hw]; exact below_set (HB.out) GB234.out : Below w.heap.size w w248)); clear HO_17; clear BK386; clear BK387; clear BK394; clear BK401; clear BK408; clear BK415; clear HB; have HO_17 := n0_; have BK386 := n1_; have BK387 := n2_; have BK394 := n3_; have BK401 := n4_; have BK408 := n5_; have BK415 := n6_; have HB := n7_; clear n0_ n1_ n2_ n3_ n4_ n5_ n6_ n7_; clear hg hw hp_))
                 have n0_ := Aside0.mk (Kd.R_drew HO_17.out)
                 have n1_ := Aside0.mk (blk_drew BK386.out)
                 have n2_ := Aside0.mk (blk_drew BK387.out)
                 have n3_ := Aside0.mk (blk_drew BK394.out)
                 have n4_ := Aside0.mk (blk_drew BK401.out)
                 have n5_ := Aside0.mk (blk_drew BK408.out)
                 have n6_ := Aside0.mk (blk_drew BK415.out)
                 have n7_ := Aside0.mk (below_drew1 HB.out)
                 clear HO_17
                 clear BK386
                 clear BK387
                 clear BK394
                 clear BK401
                 clear BK408
                 clear BK415
                 clear HB
                 have HO_17 := n0_
                 have BK386 := n1_
                 have BK387 := n2_
                 have BK394 := n3_
                 have BK401 := n4_
                 have BK408 := n5_
                 have BK415 := n6_
                 have HB := n7_
                 clear n0_ n1_ n2_ n3_ n4_ n5_ n6_ n7_
                 refine start_ (n := 11) (S := fun w' => True) (ds := []) #[false, false, false, false, false, false, false, false, false, false, false] (by kernel_rfl) rfl rfl trivial (fun hHeld => ?_); refine with_tabW gimballaw14_LinearRules.tab20 gimballaw14_LinearRules.bits20 (fun HT_ HW_ => ?_)
                 generalize w248.drew = w249 at HO_17 BK386 BK387 BK394 BK401 BK408 BK415 HB hHeld ⊢
                 refine pureQ 0 130 HT_.out ?_
                 refine pureQ 1 131 HT_.out ?_
                 refine pureU 2 132 HT_.out ?_
                 refine pureU 3 133 HT_.out ?_
                 refine pureU 4 134 HT_.out ?_
                 refine pureU 5 135 HT_.out ?_
                 refine pureU 6 136 HT_.out ?_
                 refine pureU 7 137 HT_.out ?_
                 refine pureU 8 138 HT_.out ?_
                 refine pureQ 9 139 HT_.out ?_
                 refine pureQ 10 18 HT_.out ?_
                 refine done_ (done_of HT_.out (by kernel_rfl)) ?_
                 have p246 : 0 ≤ (x19_4 : Int) := of_decide_eq_true (by first | (with_reducible assumption) | assumption)
                 have q246 : (x19_4 : Int) < ((x17_4.length : Int) : Int) := of_decide_eq_true (by first | (with_reducible assumption) | assumption)
                 obtain ⟨hx246_0, hf246_0⟩ := Kd.R_celln 0 HO_17.out (x19_4 : Int) p246 q246
                 replace p246 := eq_true p246
                 replace q246 := eq_true q246
                 obtain ⟨hy250_, hz250_⟩ := Kd.R_celln 0 HO_17.out (x19_4 : Int) (of_decide_eq_true (by first | (with_reducible assumption) | assumption)) (of_decide_eq_true (by first | (with_reducible assumption) | assumption))
                 have HP250 := Kd.R_putg HO_17.out (x19_4 : Int) 0
                 try go_wp2_with (first | ((with_reducible refine gate_store (t := 2) (p := 142) rfl ?_); refine store_event (t := 2) (p := 142) (v := ?vo_w251) (w1 := (w249.setCell ⟨go234, (x19_4 : Int).toNat, none⟩ (.int .i64 0))) ?hg ?ho ?hn ?hr ?_; (case ho => rfl); (case hg => rfl); (case hn => rfl); (case hr => first | (go_simp; done) | (go_simp; rfl)); intro w251 hw; have hg : w249.grownBy w251 (some go234) := (by rw [hw]; exact HP250.2); have hp_ : Kd.R (Kd.int .i64) 2 w251 w.heap.size (fun _ => True) (.slice (some ⟨go234, 0, none⟩) x17_4.length co228) y443 := (by rw [hw, Ny443.out]; exact HP250.1); clear HP250; have n0_ := Aside0.mk (hp_); have n1_ := Aside0.mk (blk_grown (g := gb386) (o := .cells #[.int .i64 a0_0, .int .i64 a0_1, .int .i64 a0_2, .int .i64 a0_3, .int .i64 a0_4] 23 (0, 0)) (pk BK386.out) hg (Kd.R_ne HO_17.out BK386.out (by decide))); have n2_ := Aside0.mk (blk_grown (g := gb387) (o := .cells #[.int .i64 a1_0, .int .i64 a1_1, .int .i64 a1_2, .int .i64 a1_3, .int .i64 a1_4] 23 (0, 0)) (pk BK387.out) hg (Kd.R_ne HO_17.out BK387.out (by decide))); have n3_ := Aside0.mk (blk_grown (g := gb394) (o := .cells #[.int .i64 t388, .int .i64 t389, .int .i64 t390, .int .i64 t391, .int .i64 t392] 23 (0, 0)) (pk BK394.out) hg (Kd.R_ne HO_17.out BK394.out (by decide))); have n4_ := Aside0.mk (blk_grown (g := gb401) (o := .cells #[.int .i64 t395, .int .i64 t396, .int .i64 t397, .int .i64 t398, .int .i64 t399] 23 (0, 0)) (pk BK401.out) hg (Kd.R_ne HO_17.out BK401.out (by decide))); have n5_ := Aside0.mk (blk_grown (g := gb408) (o := .cells #[.int .i64 t402, .int .i64 t403, .int .i64 t404, .int .i64 t405, .int .i64 t406] 23 (0, 0)) (pk BK408.out) hg (Kd.R_ne HO_17.out BK408.out (by decide))); have n6_ := Aside0.mk (blk_grown (g := gb415) (o := .cells #[.int .i64 t409, .int .i64 t410, .int .i64 t411, .int .i64 t412, .int .i64 t413] 23 (0, 0)) (pk BK415.out) hg (Kd.R_ne HO_17.out BK415.out (by decide))); have n7_ := Aside0.mk ((by rw [hw]; exact below_set (HB.out) GB234.out : Below w.heap.size w w251)); clear HO_17; clear BK386; clear BK387; clear BK394; clear BK401; clear BK408; clear BK415; clear HB; have HO_17 := n0_; have BK386 := n1_; have BK387 := n2_; have BK394 := n3_; have BK401 := n4_; have BK408 := n5_; have BK415 := n6_; have HB := n7_; clear n0_ n1_ n2_ n3_ n4_ n5_ n6_ n7_; clear hg hw hp_))
                 (try simp only [← hl17_4])
                 go_roundg k4
                 case measure => have := HJ6.out; have := HJ85.out; have := HJ132.out; have := HK4.out; omega
                 case rel => exact ⟨(y443), (false), (wrap64 (x19_4 + 1)), (by first | rfl | (simp; done) | (simp [*]; done)), (by first | rfl | (simp; done) | (simp [*]; done)), H', ⟨by have := HJ6.out; have := HJ85.out; have := HJ132.out; have := HK4.out; omega⟩, ⟨by (try simp only [hl17_4]); (with_reducible repeat (first | apply Kd.R_alloc | apply Kd.R_drewN | apply Kd.R_drew)); exact HO_17.out⟩, ⟨by (try simp only [hl17_4]); refine pkB ?_; exact BK386.out⟩, ⟨by (try simp only [hl17_4]); refine pkB ?_; exact BK387.out⟩, ⟨by (try simp only [hl17_4]); refine pkB ?_; exact BK394.out⟩, ⟨by (try simp only [hl17_4]); refine pkB ?_; exact BK401.out⟩, ⟨by (try simp only [hl17_4]); refine pkB ?_; exact BK408.out⟩, ⟨by (try simp only [hl17_4]); refine pkB ?_; exact BK415.out⟩, bpk HB⟩
               ·
                rw [if_neg c233] at H
                exact absurd H (by simp)
              ·
               rw [if_neg c232] at H
               exact absurd H (by simp)
             ·
              rw [if_neg c231] at H
              have c231b0 : decide (x19_4 < 41) = false := decide_eq_false c231
              (try simp only [hl17_4] at c231b0)
              clear c231
              by_cases c252 : (x18_4 == (a0_0 == a1_0 && (a0_1 == a1_1 && (a0_2 == a1_2 && (a0_3 == a1_3 && (a0_4 == a1_4)))))) = true
              ·
               rw [if_pos c252] at H
               have c252b0 : (x18_4 == (a0_0 == a1_0 && (a0_1 == a1_1 && (a0_2 == a1_2 && (a0_3 == a1_3 && (a0_4 == a1_4)))))) = true := c252
               (try simp only [hl17_4] at c252b0)
               (try (have c252b1 : decide (x18_4 = (a0_0 == a1_0 && (a0_1 == a1_1 && (a0_2 == a1_2 && (a0_3 == a1_3 && (a0_4 == a1_4)))))) = true := by simpa using c252))
               (try simp only [hl17_4] at c252b1)
               (try (have c252b2 : (x18_4 == (a0_0 == a1_0 && (a0_1 == a1_1 && (a0_2 == a1_2 && (a0_3 == a1_3 && (a0_4 == a1_4)))))) = true := by simpa using c252))
               (try simp only [hl17_4] at c252b2)
               clear c252
               replace H := Option.bind_eq_some_iff.mp H
               obtain ⟨t444, A2530, H⟩ := H
               replace H : (some t444) = some true := H
               have A253 := Aside0.mk A2530
               clear A2530
               have hret_ := Option.some.inj H
               clear H
               have hnb254 := NB386_387.out
               have hnc254 := NB387_386.out
               have hnb255 := NB386_394.out
               have hnc255 := NB394_386.out
               have hnb256 := NB386_401.out
               have hnc256 := NB401_386.out
               have hnb257 := NB386_408.out
               have hnc257 := NB408_386.out
               have hnb258 := NB386_415.out
               have hnc258 := NB415_386.out
               have hcz259_0 := hcz BK386 0
               have hcz259_1 := hcz BK386 1
               have hcz259_2 := hcz BK386 2
               have hcz259_3 := hcz BK386 3
               have hcz259_4 := hcz BK386 4
               have hfz259_0 := blk_frozen BK386.out 0
               have hfz259_1 := blk_frozen BK386.out 1
               have hfz259_2 := blk_frozen BK386.out 2
               have hfz259_3 := blk_frozen BK386.out 3
               have hfz259_4 := blk_frozen BK386.out 4
               have hnb260 := NB387_394.out
               have hnc260 := NB394_387.out
               have hnb261 := NB387_401.out
               have hnc261 := NB401_387.out
               have hnb262 := NB387_408.out
               have hnc262 := NB408_387.out
               have hnb263 := NB387_415.out
               have hnc263 := NB415_387.out
               have hcz264_0 := hcz BK387 0
               have hcz264_1 := hcz BK387 1
               have hcz264_2 := hcz BK387 2
               have hcz264_3 := hcz BK387 3
               have hcz264_4 := hcz BK387 4
               have hfz264_0 := blk_frozen BK387.out 0
               have hfz264_1 := blk_frozen BK387.out 1
               have hfz264_2 := blk_frozen BK387.out 2
               have hfz264_3 := blk_frozen BK387.out 3
               have hfz264_4 := blk_frozen BK387.out 4
               go_wp2_with (first | (go_at_call 10; (with_reducible refine (gimballaw14_awake.calls k4  t444 _ A253.out).mono ?_); rintro e w265 ⟨rfl, hb⟩; have n0_ := Aside0.mk (Kd.R_below (by (with_reducible repeat (first | apply Kd.R_alloc | apply Kd.R_drewN | apply Kd.R_drew)); exact HO_17.out) hb); have n1_ := bst HB hb; replace BK386 := bbw BK386 hb; replace BK387 := bbw BK387 hb; replace BK394 := bbw BK394 hb; replace BK401 := bbw BK401 hb; replace BK408 := bbw BK408 hb; replace BK415 := bbw BK415 hb; clear HO_17; clear HB; have HO_17 := n0_; have HB := n1_; clear n0_ n1_; (try clear hb); (try clear hb2); (try clear hk); (try clear hi)))
               go_ret
               exact ⟨by first | rfl | (simp [errW_none, errW_some] <;> rfl) | (simp [*, errW_none, errW_some] <;> rfl) | kernel_rfl, by repeat (first | (with_reducible first | exact HB.out | apply below_alloc | apply pw_below_drewN | apply below_drew1 | refine below_set ?_ GE386.out | refine below_set ?_ GE387.out | refine below_set ?_ GE394.out | refine below_set ?_ GE401.out | refine below_set ?_ GE408.out | refine below_set ?_ GE415.out) | exact HB.out)⟩
              ·
               rw [if_neg c252] at H
               have c252b0 : (x18_4 == (a0_0 == a1_0 && (a0_1 == a1_1 && (a0_2 == a1_2 && (a0_3 == a1_3 && (a0_4 == a1_4)))))) = false := by simpa using c252
               (try simp only [hl17_4] at c252b0)
               (try (have c252b1 : decide (x18_4 = (a0_0 == a1_0 && (a0_1 == a1_1 && (a0_2 == a1_2 && (a0_3 == a1_3 && (a0_4 == a1_4)))))) = false := by simpa using c252))
               (try simp only [hl17_4] at c252b1)
               (try (have c252b2 : (x18_4 == (a0_0 == a1_0 && (a0_1 == a1_1 && (a0_2 == a1_2 && (a0_3 == a1_3 && (a0_4 == a1_4)))))) = false := by simpa using c252))
               (try simp only [hl17_4] at c252b2)
               (try (have c252b3 : ¬ (x18_4 = (a0_0 == a1_0 && (a0_1 == a1_1 && (a0_2 == a1_2 && (a0_3 == a1_3 && (a0_4 == a1_4)))))) := by simpa using c252))
               (try simp only [hl17_4] at c252b3)
               clear c252
               exact absurd H (by simp)
          ·
           rw [if_neg c222] at H
           exact absurd H (by simp)
/-- THE ONE PURE STATEMENT of gimballaw14_LinearRules: yours. -/
def gimballaw14_LinearRules.Pure : Prop := ∀ (a0_0 : Int) (a0_1 : Int) (a0_2 : Int) (a0_3 : Int) (a0_4 : Int) (a1_0 : Int) (a1_1 : Int) (a1_2 : Int) (a1_3 : Int) (a1_4 : Int), (Lit.int .i64 a0_0).wf = true → (Lit.int .i64 a0_1).wf = true → (Lit.int .i64 a0_2).wf = true → (Lit.int .i64 a0_3).wf = true → (Lit.int .i64 a0_4).wf = true → (Lit.int .i64 a1_0).wf = true → (Lit.int .i64 a1_1).wf = true → (Lit.int .i64 a1_2).wf = true → (Lit.int .i64 a1_3).wf = true → (Lit.int .i64 a1_4).wf = true → ∃ k, gimballaw14_LinearRules.f k a0_0 a0_1 a0_2 a0_3 a0_4 a1_0 a1_1 a1_2 a1_3 a1_4 = some true
theorem gimballaw14_LinearRules.walk (P : gimballaw14_LinearRules.Pure) (a0_0 : Int) (a0_1 : Int) (a0_2 : Int) (a0_3 : Int) (a0_4 : Int) (a1_0 : Int) (a1_1 : Int) (a1_2 : Int) (a1_3 : Int) (a1_4 : Int) (w : World) (w0_0 : (Lit.int .i64 a0_0).wf = true) (w0_1 : (Lit.int .i64 a0_1).wf = true) (w0_2 : (Lit.int .i64 a0_2).wf = true) (w0_3 : (Lit.int .i64 a0_3).wf = true) (w0_4 : (Lit.int .i64 a0_4).wf = true) (w1_0 : (Lit.int .i64 a1_0).wf = true) (w1_1 : (Lit.int .i64 a1_1).wf = true) (w1_2 : (Lit.int .i64 a1_2).wf = true) (w1_3 : (Lit.int .i64 a1_3).wf = true) (w1_4 : (Lit.int .i64 a1_4).wf = true) :
    Calls Try.prog 6 #[.agg #[.int .i64 a0_0, .int .i64 a0_1, .int .i64 a0_2, .int .i64 a0_3, .int .i64 a0_4], .agg #[.int .i64 a1_0, .int .i64 a1_1, .int .i64 a1_2, .int .i64 a1_3, .int .i64 a1_4]] w fun e w' => e = .returned (.bool true) ∧ Below w.heap.size w w' := by
  obtain ⟨k, h⟩ := P a0_0 a0_1 a0_2 a0_3 a0_4 a1_0 a1_1 a1_2 a1_3 a1_4 w0_0 w0_1 w0_2 w0_3 w0_4 w1_0 w1_1 w1_2 w1_3 w1_4
  refine (gimballaw14_LinearRules.calls k a0_0 a0_1 a0_2 a0_3 a0_4 a1_0 a1_1 a1_2 a1_3 a1_4  w h).mono ?_
  rintro e w' ⟨rfl, hd⟩
  exact ⟨rfl, hd⟩
end Go.Proofs.Ytllfopbchdahoaa.P
