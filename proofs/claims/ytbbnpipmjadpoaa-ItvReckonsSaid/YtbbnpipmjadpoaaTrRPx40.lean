/- What the law's proof needs of Px40. -/
import Derived.Test.YtbbnpipmjadpoaaTrRPx0
import Derived.Test.YtbbnpipmjadpoaaTrRPx1
import Derived.Test.YtbbnpipmjadpoaaTrRPx17
import Derived.Test.YtbbnpipmjadpoaaTrRPx23
import Derived.Test.YtbbnpipmjadpoaaTrRPx26
import Derived.Test.YtbbnpipmjadpoaaTrRPx27
import Derived.Test.YtbbnpipmjadpoaaTrRPx28
import Derived.Test.YtbbnpipmjadpoaaTrRPx32
import Derived.Test.YtbbnpipmjadpoaaTrRPx34
import Derived.Test.YtbbnpipmjadpoaaTrRPx35
import Derived.Test.YtbbnpipmjadpoaaTrRPx36
import Derived.Test.YtbbnpipmjadpoaaTrRPx37
import Derived.Test.YtbbnpipmjadpoaaTrRPx38
import Derived.Test.YtbbnpipmjadpoaaTrRPx39
-- PRINTED by print.py (a twelfth state) out of the translation. Not trusted: Lean checks it.
namespace Go.Proofs.Ytbbnpipmjadpoaa.P
open Go.RowKit Go.Proofs.YtbbnpipmjadpoaaW.PrintWords Go.Proofs.YtbbnpipmjadpoaaW.PrintLast Go.Proofs.YtbbnpipmjadpoaaW.PrintMore Go.Proofs.YtbbnpipmjadpoaaO
attribute [local go_sem] max2_int min2_int max_two min_two max_three min_three max_four min_four   -- for this text's walks alone
set_option linter.unusedVariables false
set_option linter.unusedSimpArgs false
attribute [local go_sem high] eqA23
def gimballaw02_ItvReckons.f (k : Nat) (a0_0 : Int) (a0_1 : Int) (a1_0 : Int) (a1_1 : Int) : Option (Bool) := (itv_Add.f k a0_0 a0_1 a1_0 a1_1).bind fun bt997 => ((gimbalref02_Add.f k a0_0 a0_1 a1_0 a1_1).bind fun bt999 => (if (bt997.1 == bt999.1 && (bt997.2 == bt999.2)) = true then ((itv_Sub.f k a0_0 a0_1 a1_0 a1_1).bind fun bt1001 => ((gimbalref02_Sub.f k a0_0 a0_1 a1_0 a1_1).bind fun bt1003 => (if (bt1001.1 == bt1003.1 && (bt1001.2 == bt1003.2)) = true then ((itv_Mul.f k a0_0 a0_1 a1_0 a1_1).bind fun bt1005 => ((gimbalref02_Mul.f k a0_0 a0_1 a1_0 a1_1).bind fun bt1007 => (if (bt1005.1 == bt1007.1 && (bt1005.2 == bt1007.2)) = true then ((itv_Neg.f a0_0 a0_1).bind fun bt1009 => ((gimbalref02_Neg.f k a0_0 a0_1).bind fun bt1011 => (if (bt1009.1 == bt1011.1 && (bt1009.2 == bt1011.2)) = true then ((itv_Abs.f k a0_0 a0_1).bind fun bt1013 => ((gimbalref02_Abs.f k a0_0 a0_1).bind fun bt1015 => (if (bt1013.1 == bt1015.1 && (bt1013.2 == bt1015.2)) = true then ((itv_Min.f k a0_0 a0_1 a1_0 a1_1).bind fun bt1017 => ((gimbalref02_Min.f k a0_0 a0_1 a1_0 a1_1).bind fun bt1019 => (if (bt1017.1 == bt1019.1 && (bt1017.2 == bt1019.2)) = true then ((itv_Max.f k a0_0 a0_1 a1_0 a1_1).bind fun bt1021 => ((gimbalref02_Max.f k a0_0 a0_1 a1_0 a1_1).bind fun bt1023 => (if (bt1021.1 == bt1023.1 && (bt1021.2 == bt1023.2)) = true then ((gimballaw02_awake.f k).bind fun t1025 => (some t1025)) else (some false)))) else (some false)))) else (some false)))) else (some false)))) else (some false)))) else (some false)))) else (some false)))
def gimballaw02_ItvReckons.T1 : Bool × List (List Nat × List Nat) := (true, [([], []), ([], []), ([0, 1], [0, 1]), ([], []), ([], []), ([3, 4, 2], [3, 4]), ([2, 5], [2, 5]), ([6, 5], [6]), ([7], [7]), ([7], [7]), ([8, 9, 7, 7], [7, 8, 9]), ([7], [7]), ([7], [7]), ([11, 12, 10, 7], [7, 11, 12]), ([10, 13, 7], [7, 10, 13]), ([7, 14], [7, 14]), ([15, 13], [15]), ([16], [16]), ([16], [16]), ([17, 18, 16, 16], [16, 17, 18]), ([16], [16]), ([16], [16]), ([20, 21, 19, 16], [16, 20, 21]), ([19, 22, 16], [16, 19, 22]), ([16, 23], [16, 23]), ([24, 22], [24]), ([25], [25]), ([26, 25, 25], [25, 26]), ([25], [25]), ([28, 27, 25], [25, 28]), ([27, 29, 25], [25, 27, 29]), ([25, 30], [25, 30]), ([31, 29], [31]), ([32], [32]), ([33, 32, 32], [32, 33]), ([32], [32]), ([35, 34, 32], [32, 35]), ([34, 36, 32], [32, 34, 36]), ([32, 37], [32, 37]), ([38, 36], [38]), ([39], [39]), ([39], [39]), ([40, 41, 39, 39], [39, 40, 41]), ([39], [39]), ([39], [39]), ([43, 44, 42, 39], [39, 43, 44]), ([42, 45, 39], [39, 42, 45]), ([39, 46], [39, 46]), ([47, 45], [47]), ([48], [48]), ([48], [48]), ([49, 50, 48, 48], [48, 49, 50]), ([48], [48]), ([48], [48]), ([52, 53, 51, 48], [48, 52, 53]), ([51, 54, 48], [48, 51, 54]), ([48, 55], [48, 55]), ([56, 54], [56]), ([57, 57], [57]), ([57, 58], [57, 58]), ([59, 58, 0, 1, 2, 3, 4, 5, 6, 7, 8, 9, 10, 11, 12, 13, 14, 15, 16, 17, 18, 19, 20, 21, 22, 23, 24, 25, 26, 27, 28, 29, 30, 31, 32, 33, 34, 35, 36, 37, 38, 39, 40, 41, 42, 43, 44, 45, 46, 47, 48, 49, 50, 51, 52, 53, 54, 55, 56, 57, 58, 59], [59])])
def gimballaw02_ItvReckons.B1 : List Nat := [0, 0, 3, 0, 0, 31, 63, 127, 255, 255, 1023, 255, 255, 8191, 16383, 32767, 65535, 131071, 131071, 524287, 131071, 131071, 4194303, 8388607, 16777215, 33554431, 67108863, 134217727, 67108863, 536870911, 1073741823, 2147483647, 4294967295, 8589934591, 17179869183, 8589934591, 68719476735, 137438953471, 274877906943, 549755813887, 1099511627775, 1099511627775, 4398046511103, 1099511627775, 1099511627775, 35184372088831, 70368744177663, 140737488355327, 281474976710655, 562949953421311, 562949953421311, 2251799813685247, 562949953421311, 562949953421311, 18014398509481983, 36028797018963967, 72057594037927935, 144115188075855871, 288230376151711743, 576460752303423487, 1152921504606846975]
theorem gimballaw02_ItvReckons.tab1 : rtab .any (opsOf Try.f9 1) = gimballaw02_ItvReckons.T1 := by kernel_rfl
theorem gimballaw02_ItvReckons.bits1 : waitsOk gimballaw02_ItvReckons.T1.2 gimballaw02_ItvReckons.B1 = true := by kernel_rfl
set_option maxHeartbeats 8000000 in
set_option maxRecDepth 100000 in
theorem gimballaw02_ItvReckons.calls (k : Nat) (a0_0 : Int) (a0_1 : Int) (a1_0 : Int) (a1_1 : Int) (w : World) (h : gimballaw02_ItvReckons.f k a0_0 a0_1 a1_0 a1_1 = some true) :
    Calls Try.prog 9 #[.agg #[.int .i64 a0_0, .int .i64 a0_1], .agg #[.int .i64 a1_0, .int .i64 a1_1]] w fun e w' => e = .returned (.bool true) ∧ Below w.heap.size w w' := by
  have hu23 := Try.underlying23
  have HB := Aside0.mk (Below.refl w.heap.size w)
  have H : ((itv_Add.f k a0_0 a0_1 a1_0 a1_1).bind fun bt997 => ((gimbalref02_Add.f k a0_0 a0_1 a1_0 a1_1).bind fun bt999 => (if (bt997.1 == bt999.1 && (bt997.2 == bt999.2)) = true then ((itv_Sub.f k a0_0 a0_1 a1_0 a1_1).bind fun bt1001 => ((gimbalref02_Sub.f k a0_0 a0_1 a1_0 a1_1).bind fun bt1003 => (if (bt1001.1 == bt1003.1 && (bt1001.2 == bt1003.2)) = true then ((itv_Mul.f k a0_0 a0_1 a1_0 a1_1).bind fun bt1005 => ((gimbalref02_Mul.f k a0_0 a0_1 a1_0 a1_1).bind fun bt1007 => (if (bt1005.1 == bt1007.1 && (bt1005.2 == bt1007.2)) = true then ((itv_Neg.f a0_0 a0_1).bind fun bt1009 => ((gimbalref02_Neg.f k a0_0 a0_1).bind fun bt1011 => (if (bt1009.1 == bt1011.1 && (bt1009.2 == bt1011.2)) = true then ((itv_Abs.f k a0_0 a0_1).bind fun bt1013 => ((gimbalref02_Abs.f k a0_0 a0_1).bind fun bt1015 => (if (bt1013.1 == bt1015.1 && (bt1013.2 == bt1015.2)) = true then ((itv_Min.f k a0_0 a0_1 a1_0 a1_1).bind fun bt1017 => ((gimbalref02_Min.f k a0_0 a0_1 a1_0 a1_1).bind fun bt1019 => (if (bt1017.1 == bt1019.1 && (bt1017.2 == bt1019.2)) = true then ((itv_Max.f k a0_0 a0_1 a1_0 a1_1).bind fun bt1021 => ((gimbalref02_Max.f k a0_0 a0_1 a1_0 a1_1).bind fun bt1023 => (if (bt1021.1 == bt1023.1 && (bt1021.2 == bt1023.2)) = true then ((gimballaw02_awake.f k).bind fun t1025 => (some t1025)) else (some false)))) else (some false)))) else (some false)))) else (some false)))) else (some false)))) else (some false)))) else (some false)))) = some true := h
  clear h
  replace H := Option.bind_eq_some_iff.mp H
  obtain ⟨⟨t997, t998⟩, A30, H⟩ := H
  replace H : ((gimbalref02_Add.f k a0_0 a0_1 a1_0 a1_1).bind fun bt999 => (if (t997 == bt999.1 && (t998 == bt999.2)) = true then ((itv_Sub.f k a0_0 a0_1 a1_0 a1_1).bind fun bt1001 => ((gimbalref02_Sub.f k a0_0 a0_1 a1_0 a1_1).bind fun bt1003 => (if (bt1001.1 == bt1003.1 && (bt1001.2 == bt1003.2)) = true then ((itv_Mul.f k a0_0 a0_1 a1_0 a1_1).bind fun bt1005 => ((gimbalref02_Mul.f k a0_0 a0_1 a1_0 a1_1).bind fun bt1007 => (if (bt1005.1 == bt1007.1 && (bt1005.2 == bt1007.2)) = true then ((itv_Neg.f a0_0 a0_1).bind fun bt1009 => ((gimbalref02_Neg.f k a0_0 a0_1).bind fun bt1011 => (if (bt1009.1 == bt1011.1 && (bt1009.2 == bt1011.2)) = true then ((itv_Abs.f k a0_0 a0_1).bind fun bt1013 => ((gimbalref02_Abs.f k a0_0 a0_1).bind fun bt1015 => (if (bt1013.1 == bt1015.1 && (bt1013.2 == bt1015.2)) = true then ((itv_Min.f k a0_0 a0_1 a1_0 a1_1).bind fun bt1017 => ((gimbalref02_Min.f k a0_0 a0_1 a1_0 a1_1).bind fun bt1019 => (if (bt1017.1 == bt1019.1 && (bt1017.2 == bt1019.2)) = true then ((itv_Max.f k a0_0 a0_1 a1_0 a1_1).bind fun bt1021 => ((gimbalref02_Max.f k a0_0 a0_1 a1_0 a1_1).bind fun bt1023 => (if (bt1021.1 == bt1023.1 && (bt1021.2 == bt1023.2)) = true then ((gimballaw02_awake.f k).bind fun t1025 => (some t1025)) else (some false)))) else (some false)))) else (some false)))) else (some false)))) else (some false)))) else (some false)))) else (some false))) = some true := H
  have A3 := Aside0.mk A30
  clear A30
  replace H := Option.bind_eq_some_iff.mp H
  obtain ⟨⟨t999, t1000⟩, A40, H⟩ := H
  replace H : (if (t997 == t999 && (t998 == t1000)) = true then ((itv_Sub.f k a0_0 a0_1 a1_0 a1_1).bind fun bt1001 => ((gimbalref02_Sub.f k a0_0 a0_1 a1_0 a1_1).bind fun bt1003 => (if (bt1001.1 == bt1003.1 && (bt1001.2 == bt1003.2)) = true then ((itv_Mul.f k a0_0 a0_1 a1_0 a1_1).bind fun bt1005 => ((gimbalref02_Mul.f k a0_0 a0_1 a1_0 a1_1).bind fun bt1007 => (if (bt1005.1 == bt1007.1 && (bt1005.2 == bt1007.2)) = true then ((itv_Neg.f a0_0 a0_1).bind fun bt1009 => ((gimbalref02_Neg.f k a0_0 a0_1).bind fun bt1011 => (if (bt1009.1 == bt1011.1 && (bt1009.2 == bt1011.2)) = true then ((itv_Abs.f k a0_0 a0_1).bind fun bt1013 => ((gimbalref02_Abs.f k a0_0 a0_1).bind fun bt1015 => (if (bt1013.1 == bt1015.1 && (bt1013.2 == bt1015.2)) = true then ((itv_Min.f k a0_0 a0_1 a1_0 a1_1).bind fun bt1017 => ((gimbalref02_Min.f k a0_0 a0_1 a1_0 a1_1).bind fun bt1019 => (if (bt1017.1 == bt1019.1 && (bt1017.2 == bt1019.2)) = true then ((itv_Max.f k a0_0 a0_1 a1_0 a1_1).bind fun bt1021 => ((gimbalref02_Max.f k a0_0 a0_1 a1_0 a1_1).bind fun bt1023 => (if (bt1021.1 == bt1023.1 && (bt1021.2 == bt1023.2)) = true then ((gimballaw02_awake.f k).bind fun t1025 => (some t1025)) else (some false)))) else (some false)))) else (some false)))) else (some false)))) else (some false)))) else (some false)))) else (some false)) = some true := H
  have A4 := Aside0.mk A40
  clear A40
  by_cases c5 : (t997 == t999 && (t998 == t1000)) = true
  ·
   rw [if_pos c5] at H
   have c5b0 : (t997 == t999 && (t998 == t1000)) = true := c5
   (try (have c5b1 : decide (t997 = t999 && (t998 == t1000)) = true := by simpa using c5))
   (try (have c5b2 : (t997 == t999 && (t998 == t1000)) = true := by simpa using c5))
   clear c5
   replace H := Option.bind_eq_some_iff.mp H
   obtain ⟨⟨t1001, t1002⟩, A60, H⟩ := H
   replace H : ((gimbalref02_Sub.f k a0_0 a0_1 a1_0 a1_1).bind fun bt1003 => (if (t1001 == bt1003.1 && (t1002 == bt1003.2)) = true then ((itv_Mul.f k a0_0 a0_1 a1_0 a1_1).bind fun bt1005 => ((gimbalref02_Mul.f k a0_0 a0_1 a1_0 a1_1).bind fun bt1007 => (if (bt1005.1 == bt1007.1 && (bt1005.2 == bt1007.2)) = true then ((itv_Neg.f a0_0 a0_1).bind fun bt1009 => ((gimbalref02_Neg.f k a0_0 a0_1).bind fun bt1011 => (if (bt1009.1 == bt1011.1 && (bt1009.2 == bt1011.2)) = true then ((itv_Abs.f k a0_0 a0_1).bind fun bt1013 => ((gimbalref02_Abs.f k a0_0 a0_1).bind fun bt1015 => (if (bt1013.1 == bt1015.1 && (bt1013.2 == bt1015.2)) = true then ((itv_Min.f k a0_0 a0_1 a1_0 a1_1).bind fun bt1017 => ((gimbalref02_Min.f k a0_0 a0_1 a1_0 a1_1).bind fun bt1019 => (if (bt1017.1 == bt1019.1 && (bt1017.2 == bt1019.2)) = true then ((itv_Max.f k a0_0 a0_1 a1_0 a1_1).bind fun bt1021 => ((gimbalref02_Max.f k a0_0 a0_1 a1_0 a1_1).bind fun bt1023 => (if (bt1021.1 == bt1023.1 && (bt1021.2 == bt1023.2)) = true then ((gimballaw02_awake.f k).bind fun t1025 => (some t1025)) else (some false)))) else (some false)))) else (some false)))) else (some false)))) else (some false)))) else (some false))) = some true := H
   have A6 := Aside0.mk A60
   clear A60
   replace H := Option.bind_eq_some_iff.mp H
   obtain ⟨⟨t1003, t1004⟩, A70, H⟩ := H
   replace H : (if (t1001 == t1003 && (t1002 == t1004)) = true then ((itv_Mul.f k a0_0 a0_1 a1_0 a1_1).bind fun bt1005 => ((gimbalref02_Mul.f k a0_0 a0_1 a1_0 a1_1).bind fun bt1007 => (if (bt1005.1 == bt1007.1 && (bt1005.2 == bt1007.2)) = true then ((itv_Neg.f a0_0 a0_1).bind fun bt1009 => ((gimbalref02_Neg.f k a0_0 a0_1).bind fun bt1011 => (if (bt1009.1 == bt1011.1 && (bt1009.2 == bt1011.2)) = true then ((itv_Abs.f k a0_0 a0_1).bind fun bt1013 => ((gimbalref02_Abs.f k a0_0 a0_1).bind fun bt1015 => (if (bt1013.1 == bt1015.1 && (bt1013.2 == bt1015.2)) = true then ((itv_Min.f k a0_0 a0_1 a1_0 a1_1).bind fun bt1017 => ((gimbalref02_Min.f k a0_0 a0_1 a1_0 a1_1).bind fun bt1019 => (if (bt1017.1 == bt1019.1 && (bt1017.2 == bt1019.2)) = true then ((itv_Max.f k a0_0 a0_1 a1_0 a1_1).bind fun bt1021 => ((gimbalref02_Max.f k a0_0 a0_1 a1_0 a1_1).bind fun bt1023 => (if (bt1021.1 == bt1023.1 && (bt1021.2 == bt1023.2)) = true then ((gimballaw02_awake.f k).bind fun t1025 => (some t1025)) else (some false)))) else (some false)))) else (some false)))) else (some false)))) else (some false)))) else (some false)) = some true := H
   have A7 := Aside0.mk A70
   clear A70
   by_cases c8 : (t1001 == t1003 && (t1002 == t1004)) = true
   ·
    rw [if_pos c8] at H
    have c8b0 : (t1001 == t1003 && (t1002 == t1004)) = true := c8
    (try (have c8b1 : decide (t1001 = t1003 && (t1002 == t1004)) = true := by simpa using c8))
    (try (have c8b2 : (t1001 == t1003 && (t1002 == t1004)) = true := by simpa using c8))
    clear c8
    replace H := Option.bind_eq_some_iff.mp H
    obtain ⟨⟨t1005, t1006⟩, A90, H⟩ := H
    replace H : ((gimbalref02_Mul.f k a0_0 a0_1 a1_0 a1_1).bind fun bt1007 => (if (t1005 == bt1007.1 && (t1006 == bt1007.2)) = true then ((itv_Neg.f a0_0 a0_1).bind fun bt1009 => ((gimbalref02_Neg.f k a0_0 a0_1).bind fun bt1011 => (if (bt1009.1 == bt1011.1 && (bt1009.2 == bt1011.2)) = true then ((itv_Abs.f k a0_0 a0_1).bind fun bt1013 => ((gimbalref02_Abs.f k a0_0 a0_1).bind fun bt1015 => (if (bt1013.1 == bt1015.1 && (bt1013.2 == bt1015.2)) = true then ((itv_Min.f k a0_0 a0_1 a1_0 a1_1).bind fun bt1017 => ((gimbalref02_Min.f k a0_0 a0_1 a1_0 a1_1).bind fun bt1019 => (if (bt1017.1 == bt1019.1 && (bt1017.2 == bt1019.2)) = true then ((itv_Max.f k a0_0 a0_1 a1_0 a1_1).bind fun bt1021 => ((gimbalref02_Max.f k a0_0 a0_1 a1_0 a1_1).bind fun bt1023 => (if (bt1021.1 == bt1023.1 && (bt1021.2 == bt1023.2)) = true then ((gimballaw02_awake.f k).bind fun t1025 => (some t1025)) else (some false)))) else (some false)))) else (some false)))) else (some false)))) else (some false))) = some true := H
    have A9 := Aside0.mk A90
    clear A90
    replace H := Option.bind_eq_some_iff.mp H
    obtain ⟨⟨t1007, t1008⟩, A100, H⟩ := H
    replace H : (if (t1005 == t1007 && (t1006 == t1008)) = true then ((itv_Neg.f a0_0 a0_1).bind fun bt1009 => ((gimbalref02_Neg.f k a0_0 a0_1).bind fun bt1011 => (if (bt1009.1 == bt1011.1 && (bt1009.2 == bt1011.2)) = true then ((itv_Abs.f k a0_0 a0_1).bind fun bt1013 => ((gimbalref02_Abs.f k a0_0 a0_1).bind fun bt1015 => (if (bt1013.1 == bt1015.1 && (bt1013.2 == bt1015.2)) = true then ((itv_Min.f k a0_0 a0_1 a1_0 a1_1).bind fun bt1017 => ((gimbalref02_Min.f k a0_0 a0_1 a1_0 a1_1).bind fun bt1019 => (if (bt1017.1 == bt1019.1 && (bt1017.2 == bt1019.2)) = true then ((itv_Max.f k a0_0 a0_1 a1_0 a1_1).bind fun bt1021 => ((gimbalref02_Max.f k a0_0 a0_1 a1_0 a1_1).bind fun bt1023 => (if (bt1021.1 == bt1023.1 && (bt1021.2 == bt1023.2)) = true then ((gimballaw02_awake.f k).bind fun t1025 => (some t1025)) else (some false)))) else (some false)))) else (some false)))) else (some false)))) else (some false)) = some true := H
    have A10 := Aside0.mk A100
    clear A100
    by_cases c11 : (t1005 == t1007 && (t1006 == t1008)) = true
    ·
     rw [if_pos c11] at H
     have c11b0 : (t1005 == t1007 && (t1006 == t1008)) = true := c11
     (try (have c11b1 : decide (t1005 = t1007 && (t1006 == t1008)) = true := by simpa using c11))
     (try (have c11b2 : (t1005 == t1007 && (t1006 == t1008)) = true := by simpa using c11))
     clear c11
     replace H := Option.bind_eq_some_iff.mp H
     obtain ⟨⟨t1009, t1010⟩, A120, H⟩ := H
     replace H : ((gimbalref02_Neg.f k a0_0 a0_1).bind fun bt1011 => (if (t1009 == bt1011.1 && (t1010 == bt1011.2)) = true then ((itv_Abs.f k a0_0 a0_1).bind fun bt1013 => ((gimbalref02_Abs.f k a0_0 a0_1).bind fun bt1015 => (if (bt1013.1 == bt1015.1 && (bt1013.2 == bt1015.2)) = true then ((itv_Min.f k a0_0 a0_1 a1_0 a1_1).bind fun bt1017 => ((gimbalref02_Min.f k a0_0 a0_1 a1_0 a1_1).bind fun bt1019 => (if (bt1017.1 == bt1019.1 && (bt1017.2 == bt1019.2)) = true then ((itv_Max.f k a0_0 a0_1 a1_0 a1_1).bind fun bt1021 => ((gimbalref02_Max.f k a0_0 a0_1 a1_0 a1_1).bind fun bt1023 => (if (bt1021.1 == bt1023.1 && (bt1021.2 == bt1023.2)) = true then ((gimballaw02_awake.f k).bind fun t1025 => (some t1025)) else (some false)))) else (some false)))) else (some false)))) else (some false))) = some true := H
     have A12 := Aside0.mk A120
     clear A120
     replace H := Option.bind_eq_some_iff.mp H
     obtain ⟨⟨t1011, t1012⟩, A130, H⟩ := H
     replace H : (if (t1009 == t1011 && (t1010 == t1012)) = true then ((itv_Abs.f k a0_0 a0_1).bind fun bt1013 => ((gimbalref02_Abs.f k a0_0 a0_1).bind fun bt1015 => (if (bt1013.1 == bt1015.1 && (bt1013.2 == bt1015.2)) = true then ((itv_Min.f k a0_0 a0_1 a1_0 a1_1).bind fun bt1017 => ((gimbalref02_Min.f k a0_0 a0_1 a1_0 a1_1).bind fun bt1019 => (if (bt1017.1 == bt1019.1 && (bt1017.2 == bt1019.2)) = true then ((itv_Max.f k a0_0 a0_1 a1_0 a1_1).bind fun bt1021 => ((gimbalref02_Max.f k a0_0 a0_1 a1_0 a1_1).bind fun bt1023 => (if (bt1021.1 == bt1023.1 && (bt1021.2 == bt1023.2)) = true then ((gimballaw02_awake.f k).bind fun t1025 => (some t1025)) else (some false)))) else (some false)))) else (some false)))) else (some false)) = some true := H
     have A13 := Aside0.mk A130
     clear A130
     by_cases c14 : (t1009 == t1011 && (t1010 == t1012)) = true
     ·
      rw [if_pos c14] at H
      have c14b0 : (t1009 == t1011 && (t1010 == t1012)) = true := c14
      (try (have c14b1 : decide (t1009 = t1011 && (t1010 == t1012)) = true := by simpa using c14))
      (try (have c14b2 : (t1009 == t1011 && (t1010 == t1012)) = true := by simpa using c14))
      clear c14
      replace H := Option.bind_eq_some_iff.mp H
      obtain ⟨⟨t1013, t1014⟩, A150, H⟩ := H
      replace H : ((gimbalref02_Abs.f k a0_0 a0_1).bind fun bt1015 => (if (t1013 == bt1015.1 && (t1014 == bt1015.2)) = true then ((itv_Min.f k a0_0 a0_1 a1_0 a1_1).bind fun bt1017 => ((gimbalref02_Min.f k a0_0 a0_1 a1_0 a1_1).bind fun bt1019 => (if (bt1017.1 == bt1019.1 && (bt1017.2 == bt1019.2)) = true then ((itv_Max.f k a0_0 a0_1 a1_0 a1_1).bind fun bt1021 => ((gimbalref02_Max.f k a0_0 a0_1 a1_0 a1_1).bind fun bt1023 => (if (bt1021.1 == bt1023.1 && (bt1021.2 == bt1023.2)) = true then ((gimballaw02_awake.f k).bind fun t1025 => (some t1025)) else (some false)))) else (some false)))) else (some false))) = some true := H
      have A15 := Aside0.mk A150
      clear A150
      replace H := Option.bind_eq_some_iff.mp H
      obtain ⟨⟨t1015, t1016⟩, A160, H⟩ := H
      replace H : (if (t1013 == t1015 && (t1014 == t1016)) = true then ((itv_Min.f k a0_0 a0_1 a1_0 a1_1).bind fun bt1017 => ((gimbalref02_Min.f k a0_0 a0_1 a1_0 a1_1).bind fun bt1019 => (if (bt1017.1 == bt1019.1 && (bt1017.2 == bt1019.2)) = true then ((itv_Max.f k a0_0 a0_1 a1_0 a1_1).bind fun bt1021 => ((gimbalref02_Max.f k a0_0 a0_1 a1_0 a1_1).bind fun bt1023 => (if (bt1021.1 == bt1023.1 && (bt1021.2 == bt1023.2)) = true then ((gimballaw02_awake.f k).bind fun t1025 => (some t1025)) else (some false)))) else (some false)))) else (some false)) = some true := H
      have A16 := Aside0.mk A160
      clear A160
      by_cases c17 : (t1013 == t1015 && (t1014 == t1016)) = true
      ·
       rw [if_pos c17] at H
       have c17b0 : (t1013 == t1015 && (t1014 == t1016)) = true := c17
       (try (have c17b1 : decide (t1013 = t1015 && (t1014 == t1016)) = true := by simpa using c17))
       (try (have c17b2 : (t1013 == t1015 && (t1014 == t1016)) = true := by simpa using c17))
       clear c17
       replace H := Option.bind_eq_some_iff.mp H
       obtain ⟨⟨t1017, t1018⟩, A180, H⟩ := H
       replace H : ((gimbalref02_Min.f k a0_0 a0_1 a1_0 a1_1).bind fun bt1019 => (if (t1017 == bt1019.1 && (t1018 == bt1019.2)) = true then ((itv_Max.f k a0_0 a0_1 a1_0 a1_1).bind fun bt1021 => ((gimbalref02_Max.f k a0_0 a0_1 a1_0 a1_1).bind fun bt1023 => (if (bt1021.1 == bt1023.1 && (bt1021.2 == bt1023.2)) = true then ((gimballaw02_awake.f k).bind fun t1025 => (some t1025)) else (some false)))) else (some false))) = some true := H
       have A18 := Aside0.mk A180
       clear A180
       replace H := Option.bind_eq_some_iff.mp H
       obtain ⟨⟨t1019, t1020⟩, A190, H⟩ := H
       replace H : (if (t1017 == t1019 && (t1018 == t1020)) = true then ((itv_Max.f k a0_0 a0_1 a1_0 a1_1).bind fun bt1021 => ((gimbalref02_Max.f k a0_0 a0_1 a1_0 a1_1).bind fun bt1023 => (if (bt1021.1 == bt1023.1 && (bt1021.2 == bt1023.2)) = true then ((gimballaw02_awake.f k).bind fun t1025 => (some t1025)) else (some false)))) else (some false)) = some true := H
       have A19 := Aside0.mk A190
       clear A190
       by_cases c20 : (t1017 == t1019 && (t1018 == t1020)) = true
       ·
        rw [if_pos c20] at H
        have c20b0 : (t1017 == t1019 && (t1018 == t1020)) = true := c20
        (try (have c20b1 : decide (t1017 = t1019 && (t1018 == t1020)) = true := by simpa using c20))
        (try (have c20b2 : (t1017 == t1019 && (t1018 == t1020)) = true := by simpa using c20))
        clear c20
        replace H := Option.bind_eq_some_iff.mp H
        obtain ⟨⟨t1021, t1022⟩, A210, H⟩ := H
        replace H : ((gimbalref02_Max.f k a0_0 a0_1 a1_0 a1_1).bind fun bt1023 => (if (t1021 == bt1023.1 && (t1022 == bt1023.2)) = true then ((gimballaw02_awake.f k).bind fun t1025 => (some t1025)) else (some false))) = some true := H
        have A21 := Aside0.mk A210
        clear A210
        replace H := Option.bind_eq_some_iff.mp H
        obtain ⟨⟨t1023, t1024⟩, A220, H⟩ := H
        replace H : (if (t1021 == t1023 && (t1022 == t1024)) = true then ((gimballaw02_awake.f k).bind fun t1025 => (some t1025)) else (some false)) = some true := H
        have A22 := Aside0.mk A220
        clear A220
        by_cases c23 : (t1021 == t1023 && (t1022 == t1024)) = true
        ·
         rw [if_pos c23] at H
         have c23b0 : (t1021 == t1023 && (t1022 == t1024)) = true := c23
         (try (have c23b1 : decide (t1021 = t1023 && (t1022 == t1024)) = true := by simpa using c23))
         (try (have c23b2 : (t1021 == t1023 && (t1022 == t1024)) = true := by simpa using c23))
         clear c23
         replace H := Option.bind_eq_some_iff.mp H
         obtain ⟨t1025, A240, H⟩ := H
         replace H : (some t1025) = some true := H
         have A24 := Aside0.mk A240
         clear A240
         have hret_ := Option.some.inj H
         clear H
         go_enter Try.func9, Try.ntmps9
         try go_wp2_with (first | ((with_reducible refine gate_dst (N := 2) rfl ?_); refine box_event ?hg (N := 2) ?hd (cs := #[.int .i64 a0_0, .int .i64 a0_1]) (t := 23) ?hr ?_; (case hd => rfl); (case hg => rfl); (case hr => first | (go_simp; done) | (go_simp; rfl)); intro gb995 hg w25 hbox hb; have n0_ := Aside0.mk (below_step (by repeat (first | (with_reducible first | exact HB.out | apply below_alloc | apply pw_below_drewN | apply below_drew1) | exact HB.out)) hb); have n1_ := Aside0.mk (hbox); have n2_ := Aside0.mk ((by rw [hg]; exact (below_size (by repeat (first | (with_reducible first | exact HB.out | apply below_alloc | apply pw_below_drewN | apply below_drew1) | exact HB.out))) : w.heap.size ≤ gb995)); have n3_ := Aside0.mk ((by rw [hg]; exact (below_size (by repeat (first | (with_reducible first | exact HB.out | apply below_alloc | apply pw_below_drewN | apply below_drew1) | exact HB.out))) : w.heap.size ≤ gb995)); clear HB; have HB := n0_; have BK995 := n1_; have GW995 := n2_; have GE995 := n3_; clear n0_ n1_ n2_ n3_; clear hb hbox hg) | ((with_reducible refine gate_dst (N := 3) rfl ?_); refine box_event ?hg (N := 3) ?hd (cs := #[.int .i64 a1_0, .int .i64 a1_1]) (t := 23) ?hr ?_; (case hd => rfl); (case hg => rfl); (case hr => first | (go_simp; done) | (go_simp; rfl)); intro gb996 hg w26 hbox hb; have n0_ := Aside0.mk (below_step (by repeat (first | (with_reducible first | exact HB.out | apply below_alloc | apply pw_below_drewN | apply below_drew1 | refine below_set ?_ GE995.out) | exact HB.out)) hb); have n1_ := Aside0.mk (hbox); have n2_ := Aside0.mk ((by rw [hg]; exact (below_size (by repeat (first | (with_reducible first | exact HB.out | apply below_alloc | apply pw_below_drewN | apply below_drew1 | refine below_set ?_ GE995.out) | exact HB.out))) : w.heap.size ≤ gb996)); have n3_ := Aside0.mk ((by rw [hg]; exact (below_size (by repeat (first | (with_reducible first | exact HB.out | apply below_alloc | apply pw_below_drewN | apply below_drew1 | refine below_set ?_ GE995.out) | exact HB.out))) : w.heap.size ≤ gb996)); have n4_ := Aside0.mk ((by rw [hg]; exact Nat.ne_of_lt (blk_lt (g := gb995) (o := .cells #[.int .i64 a0_0, .int .i64 a0_1] 23 (0, 0)) (pk BK995.out)) : gb995 ≠ gb996)); have n5_ := Aside0.mk ((by rw [hg]; exact Nat.ne_of_gt (blk_lt (g := gb995) (o := .cells #[.int .i64 a0_0, .int .i64 a0_1] 23 (0, 0)) (pk BK995.out)) : gb996 ≠ gb995)); replace BK995 := bbw BK995 hb; clear HB; have HB := n0_; have BK996 := n1_; have GW996 := n2_; have GE996 := n3_; have NB995_996 := n4_; have NB996_995 := n5_; clear n0_ n1_ n2_ n3_ n4_ n5_; clear hb hbox hg))
         have n0_ := Aside0.mk (blk_drew BK995.out)
         have n1_ := Aside0.mk (blk_drew BK996.out)
         have n2_ := Aside0.mk (below_drew1 HB.out)
         clear BK995
         clear BK996
         clear HB
         have BK995 := n0_
         have BK996 := n1_
         have HB := n2_
         clear n0_ n1_ n2_
         refine start_ (n := 61) (S := fun w' => w'.cell? ⟨gb995, 0, none⟩ = some (.int .i64 a0_0) ∧ w'.cell? ⟨gb995, 1, none⟩ = some (.int .i64 a0_1) ∧ w'.cell? ⟨gb996, 0, none⟩ = some (.int .i64 a1_0) ∧ w'.cell? ⟨gb996, 1, none⟩ = some (.int .i64 a1_1)) (ds := []) #[false, false, false, false, false, false, false, false, false, false, false, false, false, false, false, false, false, false, false, false, false, false, false, false, false, false, false, false, false, false, false, false, false, false, false, false, false, false, false, false, false, false, false, false, false, false, false, false, false, false, false, false, false, false, false, false, false, false, false, false, false] (by kernel_rfl) rfl rfl ⟨(blk_cell BK995.out 0).trans rfl, (blk_cell BK995.out 1).trans rfl, (blk_cell BK996.out 0).trans rfl, (blk_cell BK996.out 1).trans rfl⟩ (fun hHeld => ?_); refine with_tabW gimballaw02_ItvReckons.tab1 gimballaw02_ItvReckons.bits1 (fun HT_ HW_ => ?_)
         generalize w26.drew = w27 at BK995 BK996 HB hHeld ⊢
         refine take_ (i := 0) (N := some 5) (v := ?_) (a' := ?_) #[true, false, false, false, false, false, false, false, false, false, false, false, false, false, false, false, false, false, false, false, false, false, false, false, false, false, false, false, false, false, false, false, false, false, false, false, false, false, false, false, false, false, false, false, false, false, false, false, false, false, false, false, false, false, false, false, false, false, false, false, false] rfl rfl (take_ofW HT_.out HW_.out (by kernel_rfl)) (fun _ _ _ h => h) (Or.inl ⟨by rfl, ?_⟩) hHeld ?_ ?_
         rotate_left
         ·
          rintro w' ⟨s0, s1, s2, s3⟩
          go_simp
          with_reducible rfl
         rotate_left
         ·
          simp only [Act.put, List.setIfInBounds_toArray, List.set_cons_zero, List.set_cons_succ, i64_w, i32_w]
          rfl
         refine take_ (i := 1) (N := some 6) (v := ?_) (a' := ?_) #[true, true, false, false, false, false, false, false, false, false, false, false, false, false, false, false, false, false, false, false, false, false, false, false, false, false, false, false, false, false, false, false, false, false, false, false, false, false, false, false, false, false, false, false, false, false, false, false, false, false, false, false, false, false, false, false, false, false, false, false, false] rfl rfl (take_ofW HT_.out HW_.out (by kernel_rfl)) (fun _ _ _ h => h) (Or.inl ⟨by rfl, ?_⟩) hHeld ?_ ?_
         rotate_left
         ·
          rintro w' ⟨s0, s1, s2, s3⟩
          go_simp
          with_reducible rfl
         rotate_left
         ·
          simp only [Act.put, List.setIfInBounds_toArray, List.set_cons_zero, List.set_cons_succ, i64_w, i32_w]
          rfl
         refine take_ (i := 3) (N := some 8) (v := ?_) (a' := ?_) #[true, true, false, true, false, false, false, false, false, false, false, false, false, false, false, false, false, false, false, false, false, false, false, false, false, false, false, false, false, false, false, false, false, false, false, false, false, false, false, false, false, false, false, false, false, false, false, false, false, false, false, false, false, false, false, false, false, false, false, false, false] rfl rfl (take_ofW HT_.out HW_.out (by kernel_rfl)) (fun _ _ _ h => h) (Or.inl ⟨by rfl, ?_⟩) hHeld ?_ ?_
         rotate_left
         ·
          rintro w' ⟨s0, s1, s2, s3⟩
          go_simp
          with_reducible rfl
         rotate_left
         ·
          simp only [Act.put, List.setIfInBounds_toArray, List.set_cons_zero, List.set_cons_succ, i64_w, i32_w]
          rfl
         refine take_ (i := 4) (N := some 9) (v := ?_) (a' := ?_) #[true, true, false, true, true, false, false, false, false, false, false, false, false, false, false, false, false, false, false, false, false, false, false, false, false, false, false, false, false, false, false, false, false, false, false, false, false, false, false, false, false, false, false, false, false, false, false, false, false, false, false, false, false, false, false, false, false, false, false, false, false] rfl rfl (take_ofW HT_.out HW_.out (by kernel_rfl)) (fun _ _ _ h => h) (Or.inl ⟨by rfl, ?_⟩) hHeld ?_ ?_
         rotate_left
         ·
          rintro w' ⟨s0, s1, s2, s3⟩
          go_simp
          with_reducible rfl
         rotate_left
         ·
          simp only [Act.put, List.setIfInBounds_toArray, List.set_cons_zero, List.set_cons_succ, i64_w, i32_w]
          rfl
         refine one_ (i := 2) (N := some 7) #[true, true, true, true, true, false, false, false, false, false, false, false, false, false, false, false, false, false, false, false, false, false, false, false, false, false, false, false, false, false, false, false, false, false, false, false, false, false, false, false, false, false, false, false, false, false, false, false, false, false, false, false, false, false, false, false, false, false, false, false, false] rfl rfl (one_of HT_.out (by kernel_rfl)) (by decide) (fun K hK => ?_)
         refine goes_ Try.func40 (by kernel_rfl) rfl #[.agg #[.int .i64 a0_0, .int .i64 a0_1], .agg #[.int .i64 a1_0, .int .i64 a1_1]] (by rfl) rfl rfl (by (try simp only [List.map_toArray, List.map_cons, List.map_nil]); first | done | rfl | (simp only [List.length_drop, List.length_take]; rfl)) ?_
         with_reducible refine (itv_Add.calls k a0_0 a0_1 a1_0 a1_1 t997 t998 _ A3.out).mono ?_
         rintro e w28 ⟨rfl, hb⟩
         refine ⟨_, rfl, ?_⟩
         have n0_ := Aside0.mk (below_step (by repeat (first | (with_reducible first | exact HB.out | apply below_alloc | apply pw_below_drewN | apply below_drew1 | refine below_set ?_ GE995.out | refine below_set ?_ GE996.out) | exact HB.out)) hb)
         replace BK995 := bbw BK995 hb
         replace BK996 := bbw BK996 hb
         clear HB
         have HB := n0_
         clear n0_
         (try clear hb)
         (try clear hb2)
         (try clear hk)
         (try clear hi)
         refine hK.out _ _ ⟨(blk_cell BK995.out 0).trans rfl, (blk_cell BK995.out 1).trans rfl, (blk_cell BK996.out 0).trans rfl, (blk_cell BK996.out 1).trans rfl⟩ (fun hHeld => ?_)
         clear hK K
         refine norm_ (a' := ?_) ?_ ?_
         rotate_left
         ·
          show Act.put _ (some 7) _ = _
          simp only [Act.put, List.setIfInBounds_toArray, List.set_cons_zero, List.set_cons_succ, i64_w, i32_w]
          rfl
         refine one_ (i := 5) (N := some 10) #[true, true, true, true, true, true, false, false, false, false, false, false, false, false, false, false, false, false, false, false, false, false, false, false, false, false, false, false, false, false, false, false, false, false, false, false, false, false, false, false, false, false, false, false, false, false, false, false, false, false, false, false, false, false, false, false, false, false, false, false, false] rfl rfl (one_of HT_.out (by kernel_rfl)) (by decide) (fun K hK => ?_)
         refine goes_ Try.func48 (by kernel_rfl) rfl #[.agg #[.int .i64 a0_0, .int .i64 a0_1], .agg #[.int .i64 a1_0, .int .i64 a1_1]] (by rfl) rfl rfl (by (try simp only [List.map_toArray, List.map_cons, List.map_nil]); first | done | rfl | (simp only [List.length_drop, List.length_take]; rfl)) ?_
         with_reducible refine (gimbalref02_Add.calls k a0_0 a0_1 a1_0 a1_1 t999 t1000 _ A4.out).mono ?_
         rintro e w29 ⟨rfl, hb⟩
         refine ⟨_, rfl, ?_⟩
         have n0_ := Aside0.mk (below_step (by repeat (first | (with_reducible first | exact HB.out | apply below_alloc | apply pw_below_drewN | apply below_drew1 | refine below_set ?_ GE995.out | refine below_set ?_ GE996.out) | exact HB.out)) hb)
         replace BK995 := bbw BK995 hb
         replace BK996 := bbw BK996 hb
         clear HB
         have HB := n0_
         clear n0_
         (try clear hb)
         (try clear hb2)
         (try clear hk)
         (try clear hi)
         refine hK.out _ _ ⟨(blk_cell BK995.out 0).trans rfl, (blk_cell BK995.out 1).trans rfl, (blk_cell BK996.out 0).trans rfl, (blk_cell BK996.out 1).trans rfl⟩ (fun hHeld => ?_)
         clear hK K
         refine norm_ (a' := ?_) ?_ ?_
         rotate_left
         ·
          show Act.put _ (some 10) _ = _
          simp only [Act.put, List.setIfInBounds_toArray, List.set_cons_zero, List.set_cons_succ, i64_w, i32_w]
          rfl
         refine pure_ (i := 6) (N := some 11) (v := ?_) (a' := ?_) #[true, true, true, true, true, true, true, false, false, false, false, false, false, false, false, false, false, false, false, false, false, false, false, false, false, false, false, false, false, false, false, false, false, false, false, false, false, false, false, false, false, false, false, false, false, false, false, false, false, false, false, false, false, false, false, false, false, false, false, false, false] rfl rfl (any_of HT_.out (by kernel_rfl)) (fun _ _ _ h => h) (Or.inl ⟨by rfl, ?_⟩) ?_ ?_
         rotate_left
         ·
          intro w'
          go_simp
          with_reducible rfl
         rotate_left
         ·
          simp only [Act.put, List.setIfInBounds_toArray, List.set_cons_zero, List.set_cons_succ, i64_w, i32_w]
          rfl
         refine pure_ (i := 7) (N := some 12) (v := ?_) (a' := ?_) #[true, true, true, true, true, true, true, true, false, false, false, false, false, false, false, false, false, false, false, false, false, false, false, false, false, false, false, false, false, false, false, false, false, false, false, false, false, false, false, false, false, false, false, false, false, false, false, false, false, false, false, false, false, false, false, false, false, false, false, false, false] rfl rfl (any_of HT_.out (by kernel_rfl)) (fun _ _ _ h => h) (Or.inl ⟨by rfl, ?_⟩) ?_ ?_
         rotate_left
         ·
          intro w'
          go_simp
          with_reducible rfl
         rotate_left
         ·
          simp only [Act.put, List.setIfInBounds_toArray, List.set_cons_zero, List.set_cons_succ, i64_w, i32_w]
          rfl
         refine take_ (i := 8) (N := some 13) (v := ?_) (a' := ?_) #[true, true, true, true, true, true, true, true, true, false, false, false, false, false, false, false, false, false, false, false, false, false, false, false, false, false, false, false, false, false, false, false, false, false, false, false, false, false, false, false, false, false, false, false, false, false, false, false, false, false, false, false, false, false, false, false, false, false, false, false, false] rfl rfl (take_ofW HT_.out HW_.out (by kernel_rfl)) (fun _ _ _ h => h) (Or.inl ⟨by rfl, ?_⟩) hHeld ?_ ?_
         rotate_left
         ·
          rintro w' ⟨s0, s1, s2, s3⟩
          go_simp
          with_reducible rfl
         rotate_left
         ·
          simp only [Act.put, List.setIfInBounds_toArray, List.set_cons_zero, List.set_cons_succ, i64_w, i32_w]
          rfl
         refine take_ (i := 9) (N := some 14) (v := ?_) (a' := ?_) #[true, true, true, true, true, true, true, true, true, true, false, false, false, false, false, false, false, false, false, false, false, false, false, false, false, false, false, false, false, false, false, false, false, false, false, false, false, false, false, false, false, false, false, false, false, false, false, false, false, false, false, false, false, false, false, false, false, false, false, false, false] rfl rfl (take_ofW HT_.out HW_.out (by kernel_rfl)) (fun _ _ _ h => h) (Or.inl ⟨by rfl, ?_⟩) hHeld ?_ ?_
         rotate_left
         ·
          rintro w' ⟨s0, s1, s2, s3⟩
          go_simp
          with_reducible rfl
         rotate_left
         ·
          simp only [Act.put, List.setIfInBounds_toArray, List.set_cons_zero, List.set_cons_succ, i64_w, i32_w]
          rfl
         refine take_ (i := 11) (N := some 16) (v := ?_) (a' := ?_) #[true, true, true, true, true, true, true, true, true, true, false, true, false, false, false, false, false, false, false, false, false, false, false, false, false, false, false, false, false, false, false, false, false, false, false, false, false, false, false, false, false, false, false, false, false, false, false, false, false, false, false, false, false, false, false, false, false, false, false, false, false] rfl rfl (take_ofW HT_.out HW_.out (by kernel_rfl)) (fun _ _ _ h => h) (Or.inl ⟨by rfl, ?_⟩) hHeld ?_ ?_
         rotate_left
         ·
          rintro w' ⟨s0, s1, s2, s3⟩
          go_simp
          with_reducible rfl
         rotate_left
         ·
          simp only [Act.put, List.setIfInBounds_toArray, List.set_cons_zero, List.set_cons_succ, i64_w, i32_w]
          rfl
         refine take_ (i := 12) (N := some 17) (v := ?_) (a' := ?_) #[true, true, true, true, true, true, true, true, true, true, false, true, true, false, false, false, false, false, false, false, false, false, false, false, false, false, false, false, false, false, false, false, false, false, false, false, false, false, false, false, false, false, false, false, false, false, false, false, false, false, false, false, false, false, false, false, false, false, false, false, false] rfl rfl (take_ofW HT_.out HW_.out (by kernel_rfl)) (fun _ _ _ h => h) (Or.inl ⟨by rfl, ?_⟩) hHeld ?_ ?_
         rotate_left
         ·
          rintro w' ⟨s0, s1, s2, s3⟩
          go_simp
          with_reducible rfl
         rotate_left
         ·
          simp only [Act.put, List.setIfInBounds_toArray, List.set_cons_zero, List.set_cons_succ, i64_w, i32_w]
          rfl
         refine one_ (i := 10) (N := some 15) #[true, true, true, true, true, true, true, true, true, true, true, true, true, false, false, false, false, false, false, false, false, false, false, false, false, false, false, false, false, false, false, false, false, false, false, false, false, false, false, false, false, false, false, false, false, false, false, false, false, false, false, false, false, false, false, false, false, false, false, false, false] rfl rfl (one_of HT_.out (by kernel_rfl)) (by decide) (fun K hK => ?_)
         refine goes_ Try.func41 (by kernel_rfl) rfl #[.agg #[.int .i64 a0_0, .int .i64 a0_1], .agg #[.int .i64 a1_0, .int .i64 a1_1]] (by rfl) rfl rfl (by (try simp only [List.map_toArray, List.map_cons, List.map_nil]); first | done | rfl | (simp only [List.length_drop, List.length_take]; rfl)) ?_
         with_reducible refine (itv_Sub.calls k a0_0 a0_1 a1_0 a1_1 t1001 t1002 _ A6.out).mono ?_
         rintro e w30 ⟨rfl, hb⟩
         refine ⟨_, rfl, ?_⟩
         have n0_ := Aside0.mk (below_step (by repeat (first | (with_reducible first | exact HB.out | apply below_alloc | apply pw_below_drewN | apply below_drew1 | refine below_set ?_ GE995.out | refine below_set ?_ GE996.out) | exact HB.out)) hb)
         replace BK995 := bbw BK995 hb
         replace BK996 := bbw BK996 hb
         clear HB
         have HB := n0_
         clear n0_
         (try clear hb)
         (try clear hb2)
         (try clear hk)
         (try clear hi)
         refine hK.out _ _ ⟨(blk_cell BK995.out 0).trans rfl, (blk_cell BK995.out 1).trans rfl, (blk_cell BK996.out 0).trans rfl, (blk_cell BK996.out 1).trans rfl⟩ (fun hHeld => ?_)
         clear hK K
         refine norm_ (a' := ?_) ?_ ?_
         rotate_left
         ·
          show Act.put _ (some 15) _ = _
          simp only [Act.put, List.setIfInBounds_toArray, List.set_cons_zero, List.set_cons_succ, i64_w, i32_w]
          rfl
         refine one_ (i := 13) (N := some 18) #[true, true, true, true, true, true, true, true, true, true, true, true, true, true, false, false, false, false, false, false, false, false, false, false, false, false, false, false, false, false, false, false, false, false, false, false, false, false, false, false, false, false, false, false, false, false, false, false, false, false, false, false, false, false, false, false, false, false, false, false, false] rfl rfl (one_of HT_.out (by kernel_rfl)) (by decide) (fun K hK => ?_)
         refine goes_ Try.func49 (by kernel_rfl) rfl #[.agg #[.int .i64 a0_0, .int .i64 a0_1], .agg #[.int .i64 a1_0, .int .i64 a1_1]] (by rfl) rfl rfl (by (try simp only [List.map_toArray, List.map_cons, List.map_nil]); first | done | rfl | (simp only [List.length_drop, List.length_take]; rfl)) ?_
         with_reducible refine (gimbalref02_Sub.calls k a0_0 a0_1 a1_0 a1_1 t1003 t1004 _ A7.out).mono ?_
         rintro e w31 ⟨rfl, hb⟩
         refine ⟨_, rfl, ?_⟩
         have n0_ := Aside0.mk (below_step (by repeat (first | (with_reducible first | exact HB.out | apply below_alloc | apply pw_below_drewN | apply below_drew1 | refine below_set ?_ GE995.out | refine below_set ?_ GE996.out) | exact HB.out)) hb)
         replace BK995 := bbw BK995 hb
         replace BK996 := bbw BK996 hb
         clear HB
         have HB := n0_
         clear n0_
         (try clear hb)
         (try clear hb2)
         (try clear hk)
         (try clear hi)
         refine hK.out _ _ ⟨(blk_cell BK995.out 0).trans rfl, (blk_cell BK995.out 1).trans rfl, (blk_cell BK996.out 0).trans rfl, (blk_cell BK996.out 1).trans rfl⟩ (fun hHeld => ?_)
         clear hK K
         refine norm_ (a' := ?_) ?_ ?_
         rotate_left
         ·
          show Act.put _ (some 18) _ = _
          simp only [Act.put, List.setIfInBounds_toArray, List.set_cons_zero, List.set_cons_succ, i64_w, i32_w]
          rfl
         refine pure_ (i := 14) (N := some 19) (v := ?_) (a' := ?_) #[true, true, true, true, true, true, true, true, true, true, true, true, true, true, true, false, false, false, false, false, false, false, false, false, false, false, false, false, false, false, false, false, false, false, false, false, false, false, false, false, false, false, false, false, false, false, false, false, false, false, false, false, false, false, false, false, false, false, false, false, false] rfl rfl (any_of HT_.out (by kernel_rfl)) (fun _ _ _ h => h) (Or.inl ⟨by rfl, ?_⟩) ?_ ?_
         rotate_left
         ·
          intro w'
          go_simp
          with_reducible rfl
         rotate_left
         ·
          simp only [Act.put, List.setIfInBounds_toArray, List.set_cons_zero, List.set_cons_succ, i64_w, i32_w]
          rfl
         refine pure_ (i := 15) (N := some 20) (v := ?_) (a' := ?_) #[true, true, true, true, true, true, true, true, true, true, true, true, true, true, true, true, false, false, false, false, false, false, false, false, false, false, false, false, false, false, false, false, false, false, false, false, false, false, false, false, false, false, false, false, false, false, false, false, false, false, false, false, false, false, false, false, false, false, false, false, false] rfl rfl (any_of HT_.out (by kernel_rfl)) (fun _ _ _ h => h) (Or.inl ⟨by rfl, ?_⟩) ?_ ?_
         rotate_left
         ·
          intro w'
          go_simp
          with_reducible rfl
         rotate_left
         ·
          simp only [Act.put, List.setIfInBounds_toArray, List.set_cons_zero, List.set_cons_succ, i64_w, i32_w]
          rfl
         refine pure_ (i := 16) (N := some 21) (v := ?_) (a' := ?_) #[true, true, true, true, true, true, true, true, true, true, true, true, true, true, true, true, true, false, false, false, false, false, false, false, false, false, false, false, false, false, false, false, false, false, false, false, false, false, false, false, false, false, false, false, false, false, false, false, false, false, false, false, false, false, false, false, false, false, false, false, false] rfl rfl (any_of HT_.out (by kernel_rfl)) (fun _ _ _ h => h) (Or.inl ⟨by rfl, ?_⟩) ?_ ?_
         rotate_left
         ·
          intro w'
          go_simp
          with_reducible rfl
         rotate_left
         ·
          simp only [Act.put, List.setIfInBounds_toArray, List.set_cons_zero, List.set_cons_succ, i64_w, i32_w]
          rfl
         refine take_ (i := 17) (N := some 22) (v := ?_) (a' := ?_) #[true, true, true, true, true, true, true, true, true, true, true, true, true, true, true, true, true, true, false, false, false, false, false, false, false, false, false, false, false, false, false, false, false, false, false, false, false, false, false, false, false, false, false, false, false, false, false, false, false, false, false, false, false, false, false, false, false, false, false, false, false] rfl rfl (take_ofW HT_.out HW_.out (by kernel_rfl)) (fun _ _ _ h => h) (Or.inl ⟨by rfl, ?_⟩) hHeld ?_ ?_
         rotate_left
         ·
          rintro w' ⟨s0, s1, s2, s3⟩
          go_simp
          with_reducible rfl
         rotate_left
         ·
          simp only [Act.put, List.setIfInBounds_toArray, List.set_cons_zero, List.set_cons_succ, i64_w, i32_w]
          rfl
         refine take_ (i := 18) (N := some 23) (v := ?_) (a' := ?_) #[true, true, true, true, true, true, true, true, true, true, true, true, true, true, true, true, true, true, true, false, false, false, false, false, false, false, false, false, false, false, false, false, false, false, false, false, false, false, false, false, false, false, false, false, false, false, false, false, false, false, false, false, false, false, false, false, false, false, false, false, false] rfl rfl (take_ofW HT_.out HW_.out (by kernel_rfl)) (fun _ _ _ h => h) (Or.inl ⟨by rfl, ?_⟩) hHeld ?_ ?_
         rotate_left
         ·
          rintro w' ⟨s0, s1, s2, s3⟩
          go_simp
          with_reducible rfl
         rotate_left
         ·
          simp only [Act.put, List.setIfInBounds_toArray, List.set_cons_zero, List.set_cons_succ, i64_w, i32_w]
          rfl
         refine take_ (i := 20) (N := some 25) (v := ?_) (a' := ?_) #[true, true, true, true, true, true, true, true, true, true, true, true, true, true, true, true, true, true, true, false, true, false, false, false, false, false, false, false, false, false, false, false, false, false, false, false, false, false, false, false, false, false, false, false, false, false, false, false, false, false, false, false, false, false, false, false, false, false, false, false, false] rfl rfl (take_ofW HT_.out HW_.out (by kernel_rfl)) (fun _ _ _ h => h) (Or.inl ⟨by rfl, ?_⟩) hHeld ?_ ?_
         rotate_left
         ·
          rintro w' ⟨s0, s1, s2, s3⟩
          go_simp
          with_reducible rfl
         rotate_left
         ·
          simp only [Act.put, List.setIfInBounds_toArray, List.set_cons_zero, List.set_cons_succ, i64_w, i32_w]
          rfl
         refine take_ (i := 21) (N := some 26) (v := ?_) (a' := ?_) #[true, true, true, true, true, true, true, true, true, true, true, true, true, true, true, true, true, true, true, false, true, true, false, false, false, false, false, false, false, false, false, false, false, false, false, false, false, false, false, false, false, false, false, false, false, false, false, false, false, false, false, false, false, false, false, false, false, false, false, false, false] rfl rfl (take_ofW HT_.out HW_.out (by kernel_rfl)) (fun _ _ _ h => h) (Or.inl ⟨by rfl, ?_⟩) hHeld ?_ ?_
         rotate_left
         ·
          rintro w' ⟨s0, s1, s2, s3⟩
          go_simp
          with_reducible rfl
         rotate_left
         ·
          simp only [Act.put, List.setIfInBounds_toArray, List.set_cons_zero, List.set_cons_succ, i64_w, i32_w]
          rfl
         refine one_ (i := 19) (N := some 24) #[true, true, true, true, true, true, true, true, true, true, true, true, true, true, true, true, true, true, true, true, true, true, false, false, false, false, false, false, false, false, false, false, false, false, false, false, false, false, false, false, false, false, false, false, false, false, false, false, false, false, false, false, false, false, false, false, false, false, false, false, false] rfl rfl (one_of HT_.out (by kernel_rfl)) (by decide) (fun K hK => ?_)
         refine goes_ Try.func42 (by kernel_rfl) rfl #[.agg #[.int .i64 a0_0, .int .i64 a0_1], .agg #[.int .i64 a1_0, .int .i64 a1_1]] (by rfl) rfl rfl (by (try simp only [List.map_toArray, List.map_cons, List.map_nil]); first | done | rfl | (simp only [List.length_drop, List.length_take]; rfl)) ?_
         with_reducible refine (itv_Mul.calls k a0_0 a0_1 a1_0 a1_1 t1005 t1006 _ A9.out).mono ?_
         rintro e w32 ⟨rfl, hb⟩
         refine ⟨_, rfl, ?_⟩
         have n0_ := Aside0.mk (below_step (by repeat (first | (with_reducible first | exact HB.out | apply below_alloc | apply pw_below_drewN | apply below_drew1 | refine below_set ?_ GE995.out | refine below_set ?_ GE996.out) | exact HB.out)) hb)
         replace BK995 := bbw BK995 hb
         replace BK996 := bbw BK996 hb
         clear HB
         have HB := n0_
         clear n0_
         (try clear hb)
         (try clear hb2)
         (try clear hk)
         (try clear hi)
         refine hK.out _ _ ⟨(blk_cell BK995.out 0).trans rfl, (blk_cell BK995.out 1).trans rfl, (blk_cell BK996.out 0).trans rfl, (blk_cell BK996.out 1).trans rfl⟩ (fun hHeld => ?_)
         clear hK K
         refine norm_ (a' := ?_) ?_ ?_
         rotate_left
         ·
          show Act.put _ (some 24) _ = _
          simp only [Act.put, List.setIfInBounds_toArray, List.set_cons_zero, List.set_cons_succ, i64_w, i32_w]
          rfl
         refine one_ (i := 22) (N := some 27) #[true, true, true, true, true, true, true, true, true, true, true, true, true, true, true, true, true, true, true, true, true, true, true, false, false, false, false, false, false, false, false, false, false, false, false, false, false, false, false, false, false, false, false, false, false, false, false, false, false, false, false, false, false, false, false, false, false, false, false, false, false] rfl rfl (one_of HT_.out (by kernel_rfl)) (by decide) (fun K hK => ?_)
         refine goes_ Try.func50 (by kernel_rfl) rfl #[.agg #[.int .i64 a0_0, .int .i64 a0_1], .agg #[.int .i64 a1_0, .int .i64 a1_1]] (by rfl) rfl rfl (by (try simp only [List.map_toArray, List.map_cons, List.map_nil]); first | done | rfl | (simp only [List.length_drop, List.length_take]; rfl)) ?_
         with_reducible refine (gimbalref02_Mul.calls k a0_0 a0_1 a1_0 a1_1 t1007 t1008 _ A10.out).mono ?_
         rintro e w33 ⟨rfl, hb⟩
         refine ⟨_, rfl, ?_⟩
         have n0_ := Aside0.mk (below_step (by repeat (first | (with_reducible first | exact HB.out | apply below_alloc | apply pw_below_drewN | apply below_drew1 | refine below_set ?_ GE995.out | refine below_set ?_ GE996.out) | exact HB.out)) hb)
         replace BK995 := bbw BK995 hb
         replace BK996 := bbw BK996 hb
         clear HB
         have HB := n0_
         clear n0_
         (try clear hb)
         (try clear hb2)
         (try clear hk)
         (try clear hi)
         refine hK.out _ _ ⟨(blk_cell BK995.out 0).trans rfl, (blk_cell BK995.out 1).trans rfl, (blk_cell BK996.out 0).trans rfl, (blk_cell BK996.out 1).trans rfl⟩ (fun hHeld => ?_)
         clear hK K
         refine norm_ (a' := ?_) ?_ ?_
         rotate_left
         ·
          show Act.put _ (some 27) _ = _
          simp only [Act.put, List.setIfInBounds_toArray, List.set_cons_zero, List.set_cons_succ, i64_w, i32_w]
          rfl
         refine pure_ (i := 23) (N := some 28) (v := ?_) (a' := ?_) #[true, true, true, true, true, true, true, true, true, true, true, true, true, true, true, true, true, true, true, true, true, true, true, true, false, false, false, false, false, false, false, false, false, false, false, false, false, false, false, false, false, false, false, false, false, false, false, false, false, false, false, false, false, false, false, false, false, false, false, false, false] rfl rfl (any_of HT_.out (by kernel_rfl)) (fun _ _ _ h => h) (Or.inl ⟨by rfl, ?_⟩) ?_ ?_
         rotate_left
         ·
          intro w'
          go_simp
          with_reducible rfl
         rotate_left
         ·
          simp only [Act.put, List.setIfInBounds_toArray, List.set_cons_zero, List.set_cons_succ, i64_w, i32_w]
          rfl
         refine pure_ (i := 24) (N := some 29) (v := ?_) (a' := ?_) #[true, true, true, true, true, true, true, true, true, true, true, true, true, true, true, true, true, true, true, true, true, true, true, true, true, false, false, false, false, false, false, false, false, false, false, false, false, false, false, false, false, false, false, false, false, false, false, false, false, false, false, false, false, false, false, false, false, false, false, false, false] rfl rfl (any_of HT_.out (by kernel_rfl)) (fun _ _ _ h => h) (Or.inl ⟨by rfl, ?_⟩) ?_ ?_
         rotate_left
         ·
          intro w'
          go_simp
          with_reducible rfl
         rotate_left
         ·
          simp only [Act.put, List.setIfInBounds_toArray, List.set_cons_zero, List.set_cons_succ, i64_w, i32_w]
          rfl
         refine pure_ (i := 25) (N := some 30) (v := ?_) (a' := ?_) #[true, true, true, true, true, true, true, true, true, true, true, true, true, true, true, true, true, true, true, true, true, true, true, true, true, true, false, false, false, false, false, false, false, false, false, false, false, false, false, false, false, false, false, false, false, false, false, false, false, false, false, false, false, false, false, false, false, false, false, false, false] rfl rfl (any_of HT_.out (by kernel_rfl)) (fun _ _ _ h => h) (Or.inl ⟨by rfl, ?_⟩) ?_ ?_
         rotate_left
         ·
          intro w'
          go_simp
          with_reducible rfl
         rotate_left
         ·
          simp only [Act.put, List.setIfInBounds_toArray, List.set_cons_zero, List.set_cons_succ, i64_w, i32_w]
          rfl
         refine take_ (i := 26) (N := some 31) (v := ?_) (a' := ?_) #[true, true, true, true, true, true, true, true, true, true, true, true, true, true, true, true, true, true, true, true, true, true, true, true, true, true, true, false, false, false, false, false, false, false, false, false, false, false, false, false, false, false, false, false, false, false, false, false, false, false, false, false, false, false, false, false, false, false, false, false, false] rfl rfl (take_ofW HT_.out HW_.out (by kernel_rfl)) (fun _ _ _ h => h) (Or.inl ⟨by rfl, ?_⟩) hHeld ?_ ?_
         rotate_left
         ·
          rintro w' ⟨s0, s1, s2, s3⟩
          go_simp
          with_reducible rfl
         rotate_left
         ·
          simp only [Act.put, List.setIfInBounds_toArray, List.set_cons_zero, List.set_cons_succ, i64_w, i32_w]
          rfl
         refine take_ (i := 28) (N := some 33) (v := ?_) (a' := ?_) #[true, true, true, true, true, true, true, true, true, true, true, true, true, true, true, true, true, true, true, true, true, true, true, true, true, true, true, false, true, false, false, false, false, false, false, false, false, false, false, false, false, false, false, false, false, false, false, false, false, false, false, false, false, false, false, false, false, false, false, false, false] rfl rfl (take_ofW HT_.out HW_.out (by kernel_rfl)) (fun _ _ _ h => h) (Or.inl ⟨by rfl, ?_⟩) hHeld ?_ ?_
         rotate_left
         ·
          rintro w' ⟨s0, s1, s2, s3⟩
          go_simp
          with_reducible rfl
         rotate_left
         ·
          simp only [Act.put, List.setIfInBounds_toArray, List.set_cons_zero, List.set_cons_succ, i64_w, i32_w]
          rfl
         refine one_ (i := 27) (N := some 32) #[true, true, true, true, true, true, true, true, true, true, true, true, true, true, true, true, true, true, true, true, true, true, true, true, true, true, true, true, true, false, false, false, false, false, false, false, false, false, false, false, false, false, false, false, false, false, false, false, false, false, false, false, false, false, false, false, false, false, false, false, false] rfl rfl (one_of HT_.out (by kernel_rfl)) (by decide) (fun K hK => ?_)
         refine goes_ Try.func46 (by kernel_rfl) rfl #[.agg #[.int .i64 a0_0, .int .i64 a0_1]] (by rfl) rfl rfl (by (try simp only [List.map_toArray, List.map_cons, List.map_nil]); first | done | rfl | (simp only [List.length_drop, List.length_take]; rfl)) ?_
         with_reducible refine (itv_Neg.calls a0_0 a0_1 t1009 t1010 _ A12.out).mono ?_
         rintro e w34 ⟨rfl, hb⟩
         refine ⟨_, rfl, ?_⟩
         have n0_ := Aside0.mk (below_step (by repeat (first | (with_reducible first | exact HB.out | apply below_alloc | apply pw_below_drewN | apply below_drew1 | refine below_set ?_ GE995.out | refine below_set ?_ GE996.out) | exact HB.out)) hb)
         replace BK995 := bbw BK995 hb
         replace BK996 := bbw BK996 hb
         clear HB
         have HB := n0_
         clear n0_
         (try clear hb)
         (try clear hb2)
         (try clear hk)
         (try clear hi)
         refine hK.out _ _ ⟨(blk_cell BK995.out 0).trans rfl, (blk_cell BK995.out 1).trans rfl, (blk_cell BK996.out 0).trans rfl, (blk_cell BK996.out 1).trans rfl⟩ (fun hHeld => ?_)
         clear hK K
         refine norm_ (a' := ?_) ?_ ?_
         rotate_left
         ·
          show Act.put _ (some 32) _ = _
          simp only [Act.put, List.setIfInBounds_toArray, List.set_cons_zero, List.set_cons_succ, i64_w, i32_w]
          rfl
         refine one_ (i := 29) (N := some 34) #[true, true, true, true, true, true, true, true, true, true, true, true, true, true, true, true, true, true, true, true, true, true, true, true, true, true, true, true, true, true, false, false, false, false, false, false, false, false, false, false, false, false, false, false, false, false, false, false, false, false, false, false, false, false, false, false, false, false, false, false, false] rfl rfl (one_of HT_.out (by kernel_rfl)) (by decide) (fun K hK => ?_)
         refine goes_ Try.func51 (by kernel_rfl) rfl #[.agg #[.int .i64 a0_0, .int .i64 a0_1]] (by rfl) rfl rfl (by (try simp only [List.map_toArray, List.map_cons, List.map_nil]); first | done | rfl | (simp only [List.length_drop, List.length_take]; rfl)) ?_
         with_reducible refine (gimbalref02_Neg.calls k a0_0 a0_1 t1011 t1012 _ A13.out).mono ?_
         rintro e w35 ⟨rfl, hb⟩
         refine ⟨_, rfl, ?_⟩
         have n0_ := Aside0.mk (below_step (by repeat (first | (with_reducible first | exact HB.out | apply below_alloc | apply pw_below_drewN | apply below_drew1 | refine below_set ?_ GE995.out | refine below_set ?_ GE996.out) | exact HB.out)) hb)
         replace BK995 := bbw BK995 hb
         replace BK996 := bbw BK996 hb
         clear HB
         have HB := n0_
         clear n0_
         (try clear hb)
         (try clear hb2)
         (try clear hk)
         (try clear hi)
         refine hK.out _ _ ⟨(blk_cell BK995.out 0).trans rfl, (blk_cell BK995.out 1).trans rfl, (blk_cell BK996.out 0).trans rfl, (blk_cell BK996.out 1).trans rfl⟩ (fun hHeld => ?_)
         clear hK K
         refine norm_ (a' := ?_) ?_ ?_
         rotate_left
         ·
          show Act.put _ (some 34) _ = _
          simp only [Act.put, List.setIfInBounds_toArray, List.set_cons_zero, List.set_cons_succ, i64_w, i32_w]
          rfl
         refine pure_ (i := 30) (N := some 35) (v := ?_) (a' := ?_) #[true, true, true, true, true, true, true, true, true, true, true, true, true, true, true, true, true, true, true, true, true, true, true, true, true, true, true, true, true, true, true, false, false, false, false, false, false, false, false, false, false, false, false, false, false, false, false, false, false, false, false, false, false, false, false, false, false, false, false, false, false] rfl rfl (any_of HT_.out (by kernel_rfl)) (fun _ _ _ h => h) (Or.inl ⟨by rfl, ?_⟩) ?_ ?_
         rotate_left
         ·
          intro w'
          go_simp
          with_reducible rfl
         rotate_left
         ·
          simp only [Act.put, List.setIfInBounds_toArray, List.set_cons_zero, List.set_cons_succ, i64_w, i32_w]
          rfl
         refine pure_ (i := 31) (N := some 36) (v := ?_) (a' := ?_) #[true, true, true, true, true, true, true, true, true, true, true, true, true, true, true, true, true, true, true, true, true, true, true, true, true, true, true, true, true, true, true, true, false, false, false, false, false, false, false, false, false, false, false, false, false, false, false, false, false, false, false, false, false, false, false, false, false, false, false, false, false] rfl rfl (any_of HT_.out (by kernel_rfl)) (fun _ _ _ h => h) (Or.inl ⟨by rfl, ?_⟩) ?_ ?_
         rotate_left
         ·
          intro w'
          go_simp
          with_reducible rfl
         rotate_left
         ·
          simp only [Act.put, List.setIfInBounds_toArray, List.set_cons_zero, List.set_cons_succ, i64_w, i32_w]
          rfl
         refine pure_ (i := 32) (N := some 37) (v := ?_) (a' := ?_) #[true, true, true, true, true, true, true, true, true, true, true, true, true, true, true, true, true, true, true, true, true, true, true, true, true, true, true, true, true, true, true, true, true, false, false, false, false, false, false, false, false, false, false, false, false, false, false, false, false, false, false, false, false, false, false, false, false, false, false, false, false] rfl rfl (any_of HT_.out (by kernel_rfl)) (fun _ _ _ h => h) (Or.inl ⟨by rfl, ?_⟩) ?_ ?_
         rotate_left
         ·
          intro w'
          go_simp
          with_reducible rfl
         rotate_left
         ·
          simp only [Act.put, List.setIfInBounds_toArray, List.set_cons_zero, List.set_cons_succ, i64_w, i32_w]
          rfl
         refine take_ (i := 33) (N := some 38) (v := ?_) (a' := ?_) #[true, true, true, true, true, true, true, true, true, true, true, true, true, true, true, true, true, true, true, true, true, true, true, true, true, true, true, true, true, true, true, true, true, true, false, false, false, false, false, false, false, false, false, false, false, false, false, false, false, false, false, false, false, false, false, false, false, false, false, false, false] rfl rfl (take_ofW HT_.out HW_.out (by kernel_rfl)) (fun _ _ _ h => h) (Or.inl ⟨by rfl, ?_⟩) hHeld ?_ ?_
         rotate_left
         ·
          rintro w' ⟨s0, s1, s2, s3⟩
          go_simp
          with_reducible rfl
         rotate_left
         ·
          simp only [Act.put, List.setIfInBounds_toArray, List.set_cons_zero, List.set_cons_succ, i64_w, i32_w]
          rfl
         refine take_ (i := 35) (N := some 40) (v := ?_) (a' := ?_) #[true, true, true, true, true, true, true, true, true, true, true, true, true, true, true, true, true, true, true, true, true, true, true, true, true, true, true, true, true, true, true, true, true, true, false, true, false, false, false, false, false, false, false, false, false, false, false, false, false, false, false, false, false, false, false, false, false, false, false, false, false] rfl rfl (take_ofW HT_.out HW_.out (by kernel_rfl)) (fun _ _ _ h => h) (Or.inl ⟨by rfl, ?_⟩) hHeld ?_ ?_
         rotate_left
         ·
          rintro w' ⟨s0, s1, s2, s3⟩
          go_simp
          with_reducible rfl
         rotate_left
         ·
          simp only [Act.put, List.setIfInBounds_toArray, List.set_cons_zero, List.set_cons_succ, i64_w, i32_w]
          rfl
         refine one_ (i := 34) (N := some 39) #[true, true, true, true, true, true, true, true, true, true, true, true, true, true, true, true, true, true, true, true, true, true, true, true, true, true, true, true, true, true, true, true, true, true, true, true, false, false, false, false, false, false, false, false, false, false, false, false, false, false, false, false, false, false, false, false, false, false, false, false, false] rfl rfl (one_of HT_.out (by kernel_rfl)) (by decide) (fun K hK => ?_)
         refine goes_ Try.func47 (by kernel_rfl) rfl #[.agg #[.int .i64 a0_0, .int .i64 a0_1]] (by rfl) rfl rfl (by (try simp only [List.map_toArray, List.map_cons, List.map_nil]); first | done | rfl | (simp only [List.length_drop, List.length_take]; rfl)) ?_
         with_reducible refine (itv_Abs.calls k a0_0 a0_1 t1013 t1014 _ A15.out).mono ?_
         rintro e w36 ⟨rfl, hb⟩
         refine ⟨_, rfl, ?_⟩
         have n0_ := Aside0.mk (below_step (by repeat (first | (with_reducible first | exact HB.out | apply below_alloc | apply pw_below_drewN | apply below_drew1 | refine below_set ?_ GE995.out | refine below_set ?_ GE996.out) | exact HB.out)) hb)
         replace BK995 := bbw BK995 hb
         replace BK996 := bbw BK996 hb
         clear HB
         have HB := n0_
         clear n0_
         (try clear hb)
         (try clear hb2)
         (try clear hk)
         (try clear hi)
         refine hK.out _ _ ⟨(blk_cell BK995.out 0).trans rfl, (blk_cell BK995.out 1).trans rfl, (blk_cell BK996.out 0).trans rfl, (blk_cell BK996.out 1).trans rfl⟩ (fun hHeld => ?_)
         clear hK K
         refine norm_ (a' := ?_) ?_ ?_
         rotate_left
         ·
          show Act.put _ (some 39) _ = _
          simp only [Act.put, List.setIfInBounds_toArray, List.set_cons_zero, List.set_cons_succ, i64_w, i32_w]
          rfl
         refine one_ (i := 36) (N := some 41) #[true, true, true, true, true, true, true, true, true, true, true, true, true, true, true, true, true, true, true, true, true, true, true, true, true, true, true, true, true, true, true, true, true, true, true, true, true, false, false, false, false, false, false, false, false, false, false, false, false, false, false, false, false, false, false, false, false, false, false, false, false] rfl rfl (one_of HT_.out (by kernel_rfl)) (by decide) (fun K hK => ?_)
         refine goes_ Try.func52 (by kernel_rfl) rfl #[.agg #[.int .i64 a0_0, .int .i64 a0_1]] (by rfl) rfl rfl (by (try simp only [List.map_toArray, List.map_cons, List.map_nil]); first | done | rfl | (simp only [List.length_drop, List.length_take]; rfl)) ?_
         with_reducible refine (gimbalref02_Abs.calls k a0_0 a0_1 t1015 t1016 _ A16.out).mono ?_
         rintro e w37 ⟨rfl, hb⟩
         refine ⟨_, rfl, ?_⟩
         have n0_ := Aside0.mk (below_step (by repeat (first | (with_reducible first | exact HB.out | apply below_alloc | apply pw_below_drewN | apply below_drew1 | refine below_set ?_ GE995.out | refine below_set ?_ GE996.out) | exact HB.out)) hb)
         replace BK995 := bbw BK995 hb
         replace BK996 := bbw BK996 hb
         clear HB
         have HB := n0_
         clear n0_
         (try clear hb)
         (try clear hb2)
         (try clear hk)
         (try clear hi)
         refine hK.out _ _ ⟨(blk_cell BK995.out 0).trans rfl, (blk_cell BK995.out 1).trans rfl, (blk_cell BK996.out 0).trans rfl, (blk_cell BK996.out 1).trans rfl⟩ (fun hHeld => ?_)
         clear hK K
         refine norm_ (a' := ?_) ?_ ?_
         rotate_left
         ·
          show Act.put _ (some 41) _ = _
          simp only [Act.put, List.setIfInBounds_toArray, List.set_cons_zero, List.set_cons_succ, i64_w, i32_w]
          rfl
         refine pure_ (i := 37) (N := some 42) (v := ?_) (a' := ?_) #[true, true, true, true, true, true, true, true, true, true, true, true, true, true, true, true, true, true, true, true, true, true, true, true, true, true, true, true, true, true, true, true, true, true, true, true, true, true, false, false, false, false, false, false, false, false, false, false, false, false, false, false, false, false, false, false, false, false, false, false, false] rfl rfl (any_of HT_.out (by kernel_rfl)) (fun _ _ _ h => h) (Or.inl ⟨by rfl, ?_⟩) ?_ ?_
         rotate_left
         ·
          intro w'
          go_simp
          with_reducible rfl
         rotate_left
         ·
          simp only [Act.put, List.setIfInBounds_toArray, List.set_cons_zero, List.set_cons_succ, i64_w, i32_w]
          rfl
         refine pure_ (i := 38) (N := some 43) (v := ?_) (a' := ?_) #[true, true, true, true, true, true, true, true, true, true, true, true, true, true, true, true, true, true, true, true, true, true, true, true, true, true, true, true, true, true, true, true, true, true, true, true, true, true, true, false, false, false, false, false, false, false, false, false, false, false, false, false, false, false, false, false, false, false, false, false, false] rfl rfl (any_of HT_.out (by kernel_rfl)) (fun _ _ _ h => h) (Or.inl ⟨by rfl, ?_⟩) ?_ ?_
         rotate_left
         ·
          intro w'
          go_simp
          with_reducible rfl
         rotate_left
         ·
          simp only [Act.put, List.setIfInBounds_toArray, List.set_cons_zero, List.set_cons_succ, i64_w, i32_w]
          rfl
         refine pure_ (i := 39) (N := some 44) (v := ?_) (a' := ?_) #[true, true, true, true, true, true, true, true, true, true, true, true, true, true, true, true, true, true, true, true, true, true, true, true, true, true, true, true, true, true, true, true, true, true, true, true, true, true, true, true, false, false, false, false, false, false, false, false, false, false, false, false, false, false, false, false, false, false, false, false, false] rfl rfl (any_of HT_.out (by kernel_rfl)) (fun _ _ _ h => h) (Or.inl ⟨by rfl, ?_⟩) ?_ ?_
         rotate_left
         ·
          intro w'
          go_simp
          with_reducible rfl
         rotate_left
         ·
          simp only [Act.put, List.setIfInBounds_toArray, List.set_cons_zero, List.set_cons_succ, i64_w, i32_w]
          rfl
         refine take_ (i := 40) (N := some 45) (v := ?_) (a' := ?_) #[true, true, true, true, true, true, true, true, true, true, true, true, true, true, true, true, true, true, true, true, true, true, true, true, true, true, true, true, true, true, true, true, true, true, true, true, true, true, true, true, true, false, false, false, false, false, false, false, false, false, false, false, false, false, false, false, false, false, false, false, false] rfl rfl (take_ofW HT_.out HW_.out (by kernel_rfl)) (fun _ _ _ h => h) (Or.inl ⟨by rfl, ?_⟩) hHeld ?_ ?_
         rotate_left
         ·
          rintro w' ⟨s0, s1, s2, s3⟩
          go_simp
          with_reducible rfl
         rotate_left
         ·
          simp only [Act.put, List.setIfInBounds_toArray, List.set_cons_zero, List.set_cons_succ, i64_w, i32_w]
          rfl
         refine take_ (i := 41) (N := some 46) (v := ?_) (a' := ?_) #[true, true, true, true, true, true, true, true, true, true, true, true, true, true, true, true, true, true, true, true, true, true, true, true, true, true, true, true, true, true, true, true, true, true, true, true, true, true, true, true, true, true, false, false, false, false, false, false, false, false, false, false, false, false, false, false, false, false, false, false, false] rfl rfl (take_ofW HT_.out HW_.out (by kernel_rfl)) (fun _ _ _ h => h) (Or.inl ⟨by rfl, ?_⟩) hHeld ?_ ?_
         rotate_left
         ·
          rintro w' ⟨s0, s1, s2, s3⟩
          go_simp
          with_reducible rfl
         rotate_left
         ·
          simp only [Act.put, List.setIfInBounds_toArray, List.set_cons_zero, List.set_cons_succ, i64_w, i32_w]
          rfl
         refine take_ (i := 43) (N := some 48) (v := ?_) (a' := ?_) #[true, true, true, true, true, true, true, true, true, true, true, true, true, true, true, true, true, true, true, true, true, true, true, true, true, true, true, true, true, true, true, true, true, true, true, true, true, true, true, true, true, true, false, true, false, false, false, false, false, false, false, false, false, false, false, false, false, false, false, false, false] rfl rfl (take_ofW HT_.out HW_.out (by kernel_rfl)) (fun _ _ _ h => h) (Or.inl ⟨by rfl, ?_⟩) hHeld ?_ ?_
         rotate_left
         ·
          rintro w' ⟨s0, s1, s2, s3⟩
          go_simp
          with_reducible rfl
         rotate_left
         ·
          simp only [Act.put, List.setIfInBounds_toArray, List.set_cons_zero, List.set_cons_succ, i64_w, i32_w]
          rfl
         refine take_ (i := 44) (N := some 49) (v := ?_) (a' := ?_) #[true, true, true, true, true, true, true, true, true, true, true, true, true, true, true, true, true, true, true, true, true, true, true, true, true, true, true, true, true, true, true, true, true, true, true, true, true, true, true, true, true, true, false, true, true, false, false, false, false, false, false, false, false, false, false, false, false, false, false, false, false] rfl rfl (take_ofW HT_.out HW_.out (by kernel_rfl)) (fun _ _ _ h => h) (Or.inl ⟨by rfl, ?_⟩) hHeld ?_ ?_
         rotate_left
         ·
          rintro w' ⟨s0, s1, s2, s3⟩
          go_simp
          with_reducible rfl
         rotate_left
         ·
          simp only [Act.put, List.setIfInBounds_toArray, List.set_cons_zero, List.set_cons_succ, i64_w, i32_w]
          rfl
         refine one_ (i := 42) (N := some 47) #[true, true, true, true, true, true, true, true, true, true, true, true, true, true, true, true, true, true, true, true, true, true, true, true, true, true, true, true, true, true, true, true, true, true, true, true, true, true, true, true, true, true, true, true, true, false, false, false, false, false, false, false, false, false, false, false, false, false, false, false, false] rfl rfl (one_of HT_.out (by kernel_rfl)) (by decide) (fun K hK => ?_)
         refine goes_ Try.func43 (by kernel_rfl) rfl #[.agg #[.int .i64 a0_0, .int .i64 a0_1], .agg #[.int .i64 a1_0, .int .i64 a1_1]] (by rfl) rfl rfl (by (try simp only [List.map_toArray, List.map_cons, List.map_nil]); first | done | rfl | (simp only [List.length_drop, List.length_take]; rfl)) ?_
         with_reducible refine (itv_Min.calls k a0_0 a0_1 a1_0 a1_1 t1017 t1018 _ A18.out).mono ?_
         rintro e w38 ⟨rfl, hb⟩
         refine ⟨_, rfl, ?_⟩
         have n0_ := Aside0.mk (below_step (by repeat (first | (with_reducible first | exact HB.out | apply below_alloc | apply pw_below_drewN | apply below_drew1 | refine below_set ?_ GE995.out | refine below_set ?_ GE996.out) | exact HB.out)) hb)
         replace BK995 := bbw BK995 hb
         replace BK996 := bbw BK996 hb
         clear HB
         have HB := n0_
         clear n0_
         (try clear hb)
         (try clear hb2)
         (try clear hk)
         (try clear hi)
         refine hK.out _ _ ⟨(blk_cell BK995.out 0).trans rfl, (blk_cell BK995.out 1).trans rfl, (blk_cell BK996.out 0).trans rfl, (blk_cell BK996.out 1).trans rfl⟩ (fun hHeld => ?_)
         clear hK K
         refine norm_ (a' := ?_) ?_ ?_
         rotate_left
         ·
          show Act.put _ (some 47) _ = _
          simp only [Act.put, List.setIfInBounds_toArray, List.set_cons_zero, List.set_cons_succ, i64_w, i32_w]
          rfl
         refine one_ (i := 45) (N := some 50) #[true, true, true, true, true, true, true, true, true, true, true, true, true, true, true, true, true, true, true, true, true, true, true, true, true, true, true, true, true, true, true, true, true, true, true, true, true, true, true, true, true, true, true, true, true, true, false, false, false, false, false, false, false, false, false, false, false, false, false, false, false] rfl rfl (one_of HT_.out (by kernel_rfl)) (by decide) (fun K hK => ?_)
         refine goes_ Try.func53 (by kernel_rfl) rfl #[.agg #[.int .i64 a0_0, .int .i64 a0_1], .agg #[.int .i64 a1_0, .int .i64 a1_1]] (by rfl) rfl rfl (by (try simp only [List.map_toArray, List.map_cons, List.map_nil]); first | done | rfl | (simp only [List.length_drop, List.length_take]; rfl)) ?_
         with_reducible refine (gimbalref02_Min.calls k a0_0 a0_1 a1_0 a1_1 t1019 t1020 _ A19.out).mono ?_
         rintro e w39 ⟨rfl, hb⟩
         refine ⟨_, rfl, ?_⟩
         have n0_ := Aside0.mk (below_step (by repeat (first | (with_reducible first | exact HB.out | apply below_alloc | apply pw_below_drewN | apply below_drew1 | refine below_set ?_ GE995.out | refine below_set ?_ GE996.out) | exact HB.out)) hb)
         replace BK995 := bbw BK995 hb
         replace BK996 := bbw BK996 hb
         clear HB
         have HB := n0_
         clear n0_
         (try clear hb)
         (try clear hb2)
         (try clear hk)
         (try clear hi)
         refine hK.out _ _ ⟨(blk_cell BK995.out 0).trans rfl, (blk_cell BK995.out 1).trans rfl, (blk_cell BK996.out 0).trans rfl, (blk_cell BK996.out 1).trans rfl⟩ (fun hHeld => ?_)
         clear hK K
         refine norm_ (a' := ?_) ?_ ?_
         rotate_left
         ·
          show Act.put _ (some 50) _ = _
          simp only [Act.put, List.setIfInBounds_toArray, List.set_cons_zero, List.set_cons_succ, i64_w, i32_w]
          rfl
         refine pure_ (i := 46) (N := some 51) (v := ?_) (a' := ?_) #[true, true, true, true, true, true, true, true, true, true, true, true, true, true, true, true, true, true, true, true, true, true, true, true, true, true, true, true, true, true, true, true, true, true, true, true, true, true, true, true, true, true, true, true, true, true, true, false, false, false, false, false, false, false, false, false, false, false, false, false, false] rfl rfl (any_of HT_.out (by kernel_rfl)) (fun _ _ _ h => h) (Or.inl ⟨by rfl, ?_⟩) ?_ ?_
         rotate_left
         ·
          intro w'
          go_simp
          with_reducible rfl
         rotate_left
         ·
          simp only [Act.put, List.setIfInBounds_toArray, List.set_cons_zero, List.set_cons_succ, i64_w, i32_w]
          rfl
         refine pure_ (i := 47) (N := some 52) (v := ?_) (a' := ?_) #[true, true, true, true, true, true, true, true, true, true, true, true, true, true, true, true, true, true, true, true, true, true, true, true, true, true, true, true, true, true, true, true, true, true, true, true, true, true, true, true, true, true, true, true, true, true, true, true, false, false, false, false, false, false, false, false, false, false, false, false, false] rfl rfl (any_of HT_.out (by kernel_rfl)) (fun _ _ _ h => h) (Or.inl ⟨by rfl, ?_⟩) ?_ ?_
         rotate_left
         ·
          intro w'
          go_simp
          with_reducible rfl
         rotate_left
         ·
          simp only [Act.put, List.setIfInBounds_toArray, List.set_cons_zero, List.set_cons_succ, i64_w, i32_w]
          rfl
         refine pure_ (i := 48) (N := some 53) (v := ?_) (a' := ?_) #[true, true, true, true, true, true, true, true, true, true, true, true, true, true, true, true, true, true, true, true, true, true, true, true, true, true, true, true, true, true, true, true, true, true, true, true, true, true, true, true, true, true, true, true, true, true, true, true, true, false, false, false, false, false, false, false, false, false, false, false, false] rfl rfl (any_of HT_.out (by kernel_rfl)) (fun _ _ _ h => h) (Or.inl ⟨by rfl, ?_⟩) ?_ ?_
         rotate_left
         ·
          intro w'
          go_simp
          with_reducible rfl
         rotate_left
         ·
          simp only [Act.put, List.setIfInBounds_toArray, List.set_cons_zero, List.set_cons_succ, i64_w, i32_w]
          rfl
         refine take_ (i := 49) (N := some 54) (v := ?_) (a' := ?_) #[true, true, true, true, true, true, true, true, true, true, true, true, true, true, true, true, true, true, true, true, true, true, true, true, true, true, true, true, true, true, true, true, true, true, true, true, true, true, true, true, true, true, true, true, true, true, true, true, true, true, false, false, false, false, false, false, false, false, false, false, false] rfl rfl (take_ofW HT_.out HW_.out (by kernel_rfl)) (fun _ _ _ h => h) (Or.inl ⟨by rfl, ?_⟩) hHeld ?_ ?_
         rotate_left
         ·
          rintro w' ⟨s0, s1, s2, s3⟩
          go_simp
          with_reducible rfl
         rotate_left
         ·
          simp only [Act.put, List.setIfInBounds_toArray, List.set_cons_zero, List.set_cons_succ, i64_w, i32_w]
          rfl
         refine take_ (i := 50) (N := some 55) (v := ?_) (a' := ?_) #[true, true, true, true, true, true, true, true, true, true, true, true, true, true, true, true, true, true, true, true, true, true, true, true, true, true, true, true, true, true, true, true, true, true, true, true, true, true, true, true, true, true, true, true, true, true, true, true, true, true, true, false, false, false, false, false, false, false, false, false, false] rfl rfl (take_ofW HT_.out HW_.out (by kernel_rfl)) (fun _ _ _ h => h) (Or.inl ⟨by rfl, ?_⟩) hHeld ?_ ?_
         rotate_left
         ·
          rintro w' ⟨s0, s1, s2, s3⟩
          go_simp
          with_reducible rfl
         rotate_left
         ·
          simp only [Act.put, List.setIfInBounds_toArray, List.set_cons_zero, List.set_cons_succ, i64_w, i32_w]
          rfl
         refine take_ (i := 52) (N := some 57) (v := ?_) (a' := ?_) #[true, true, true, true, true, true, true, true, true, true, true, true, true, true, true, true, true, true, true, true, true, true, true, true, true, true, true, true, true, true, true, true, true, true, true, true, true, true, true, true, true, true, true, true, true, true, true, true, true, true, true, false, true, false, false, false, false, false, false, false, false] rfl rfl (take_ofW HT_.out HW_.out (by kernel_rfl)) (fun _ _ _ h => h) (Or.inl ⟨by rfl, ?_⟩) hHeld ?_ ?_
         rotate_left
         ·
          rintro w' ⟨s0, s1, s2, s3⟩
          go_simp
          with_reducible rfl
         rotate_left
         ·
          simp only [Act.put, List.setIfInBounds_toArray, List.set_cons_zero, List.set_cons_succ, i64_w, i32_w]
          rfl
         refine take_ (i := 53) (N := some 58) (v := ?_) (a' := ?_) #[true, true, true, true, true, true, true, true, true, true, true, true, true, true, true, true, true, true, true, true, true, true, true, true, true, true, true, true, true, true, true, true, true, true, true, true, true, true, true, true, true, true, true, true, true, true, true, true, true, true, true, false, true, true, false, false, false, false, false, false, false] rfl rfl (take_ofW HT_.out HW_.out (by kernel_rfl)) (fun _ _ _ h => h) (Or.inl ⟨by rfl, ?_⟩) hHeld ?_ ?_
         rotate_left
         ·
          rintro w' ⟨s0, s1, s2, s3⟩
          go_simp
          with_reducible rfl
         rotate_left
         ·
          simp only [Act.put, List.setIfInBounds_toArray, List.set_cons_zero, List.set_cons_succ, i64_w, i32_w]
          rfl
         refine one_ (i := 51) (N := some 56) #[true, true, true, true, true, true, true, true, true, true, true, true, true, true, true, true, true, true, true, true, true, true, true, true, true, true, true, true, true, true, true, true, true, true, true, true, true, true, true, true, true, true, true, true, true, true, true, true, true, true, true, true, true, true, false, false, false, false, false, false, false] rfl rfl (one_of HT_.out (by kernel_rfl)) (by decide) (fun K hK => ?_)
         refine goes_ Try.func44 (by kernel_rfl) rfl #[.agg #[.int .i64 a0_0, .int .i64 a0_1], .agg #[.int .i64 a1_0, .int .i64 a1_1]] (by rfl) rfl rfl (by (try simp only [List.map_toArray, List.map_cons, List.map_nil]); first | done | rfl | (simp only [List.length_drop, List.length_take]; rfl)) ?_
         with_reducible refine (itv_Max.calls k a0_0 a0_1 a1_0 a1_1 t1021 t1022 _ A21.out).mono ?_
         rintro e w40 ⟨rfl, hb⟩
         refine ⟨_, rfl, ?_⟩
         have n0_ := Aside0.mk (below_step (by repeat (first | (with_reducible first | exact HB.out | apply below_alloc | apply pw_below_drewN | apply below_drew1 | refine below_set ?_ GE995.out | refine below_set ?_ GE996.out) | exact HB.out)) hb)
         replace BK995 := bbw BK995 hb
         replace BK996 := bbw BK996 hb
         clear HB
         have HB := n0_
         clear n0_
         (try clear hb)
         (try clear hb2)
         (try clear hk)
         (try clear hi)
         refine hK.out _ _ ⟨(blk_cell BK995.out 0).trans rfl, (blk_cell BK995.out 1).trans rfl, (blk_cell BK996.out 0).trans rfl, (blk_cell BK996.out 1).trans rfl⟩ (fun hHeld => ?_)
         clear hK K
         refine norm_ (a' := ?_) ?_ ?_
         rotate_left
         ·
          show Act.put _ (some 56) _ = _
          simp only [Act.put, List.setIfInBounds_toArray, List.set_cons_zero, List.set_cons_succ, i64_w, i32_w]
          rfl
         refine one_ (i := 54) (N := some 59) #[true, true, true, true, true, true, true, true, true, true, true, true, true, true, true, true, true, true, true, true, true, true, true, true, true, true, true, true, true, true, true, true, true, true, true, true, true, true, true, true, true, true, true, true, true, true, true, true, true, true, true, true, true, true, true, false, false, false, false, false, false] rfl rfl (one_of HT_.out (by kernel_rfl)) (by decide) (fun K hK => ?_)
         refine goes_ Try.func54 (by kernel_rfl) rfl #[.agg #[.int .i64 a0_0, .int .i64 a0_1], .agg #[.int .i64 a1_0, .int .i64 a1_1]] (by rfl) rfl rfl (by (try simp only [List.map_toArray, List.map_cons, List.map_nil]); first | done | rfl | (simp only [List.length_drop, List.length_take]; rfl)) ?_
         with_reducible refine (gimbalref02_Max.calls k a0_0 a0_1 a1_0 a1_1 t1023 t1024 _ A22.out).mono ?_
         rintro e w41 ⟨rfl, hb⟩
         refine ⟨_, rfl, ?_⟩
         have n0_ := Aside0.mk (below_step (by repeat (first | (with_reducible first | exact HB.out | apply below_alloc | apply pw_below_drewN | apply below_drew1 | refine below_set ?_ GE995.out | refine below_set ?_ GE996.out) | exact HB.out)) hb)
         replace BK995 := bbw BK995 hb
         replace BK996 := bbw BK996 hb
         clear HB
         have HB := n0_
         clear n0_
         (try clear hb)
         (try clear hb2)
         (try clear hk)
         (try clear hi)
         refine hK.out _ _ ⟨(blk_cell BK995.out 0).trans rfl, (blk_cell BK995.out 1).trans rfl, (blk_cell BK996.out 0).trans rfl, (blk_cell BK996.out 1).trans rfl⟩ (fun hHeld => ?_)
         clear hK K
         refine norm_ (a' := ?_) ?_ ?_
         rotate_left
         ·
          show Act.put _ (some 59) _ = _
          simp only [Act.put, List.setIfInBounds_toArray, List.set_cons_zero, List.set_cons_succ, i64_w, i32_w]
          rfl
         refine pure_ (i := 55) (N := some 60) (v := ?_) (a' := ?_) #[true, true, true, true, true, true, true, true, true, true, true, true, true, true, true, true, true, true, true, true, true, true, true, true, true, true, true, true, true, true, true, true, true, true, true, true, true, true, true, true, true, true, true, true, true, true, true, true, true, true, true, true, true, true, true, true, false, false, false, false, false] rfl rfl (any_of HT_.out (by kernel_rfl)) (fun _ _ _ h => h) (Or.inl ⟨by rfl, ?_⟩) ?_ ?_
         rotate_left
         ·
          intro w'
          go_simp
          with_reducible rfl
         rotate_left
         ·
          simp only [Act.put, List.setIfInBounds_toArray, List.set_cons_zero, List.set_cons_succ, i64_w, i32_w]
          rfl
         refine pure_ (i := 56) (N := some 61) (v := ?_) (a' := ?_) #[true, true, true, true, true, true, true, true, true, true, true, true, true, true, true, true, true, true, true, true, true, true, true, true, true, true, true, true, true, true, true, true, true, true, true, true, true, true, true, true, true, true, true, true, true, true, true, true, true, true, true, true, true, true, true, true, true, false, false, false, false] rfl rfl (any_of HT_.out (by kernel_rfl)) (fun _ _ _ h => h) (Or.inl ⟨by rfl, ?_⟩) ?_ ?_
         rotate_left
         ·
          intro w'
          go_simp
          with_reducible rfl
         rotate_left
         ·
          simp only [Act.put, List.setIfInBounds_toArray, List.set_cons_zero, List.set_cons_succ, i64_w, i32_w]
          rfl
         refine pure_ (i := 57) (N := some 62) (v := ?_) (a' := ?_) #[true, true, true, true, true, true, true, true, true, true, true, true, true, true, true, true, true, true, true, true, true, true, true, true, true, true, true, true, true, true, true, true, true, true, true, true, true, true, true, true, true, true, true, true, true, true, true, true, true, true, true, true, true, true, true, true, true, true, false, false, false] rfl rfl (any_of HT_.out (by kernel_rfl)) (fun _ _ _ h => h) (Or.inl ⟨by rfl, ?_⟩) ?_ ?_
         rotate_left
         ·
          intro w'
          go_simp
          with_reducible rfl
         rotate_left
         ·
          simp only [Act.put, List.setIfInBounds_toArray, List.set_cons_zero, List.set_cons_succ, i64_w, i32_w]
          rfl
         refine one_ (i := 58) (N := some 63) #[true, true, true, true, true, true, true, true, true, true, true, true, true, true, true, true, true, true, true, true, true, true, true, true, true, true, true, true, true, true, true, true, true, true, true, true, true, true, true, true, true, true, true, true, true, true, true, true, true, true, true, true, true, true, true, true, true, true, true, false, false] rfl rfl (one_of HT_.out (by kernel_rfl)) (by decide) (fun K hK => ?_)
         refine goes_ Try.func36 (by kernel_rfl) rfl #[] (by rfl) rfl rfl (by (try simp only [List.map_toArray, List.map_cons, List.map_nil]); first | done | rfl | (simp only [List.length_drop, List.length_take]; rfl)) ?_
         with_reducible refine (gimballaw02_awake.calls k  t1025 _ A24.out).mono ?_
         rintro e w42 ⟨rfl, hb⟩
         refine ⟨_, rfl, ?_⟩
         have n0_ := Aside0.mk (below_step (by repeat (first | (with_reducible first | exact HB.out | apply below_alloc | apply pw_below_drewN | apply below_drew1 | refine below_set ?_ GE995.out | refine below_set ?_ GE996.out) | exact HB.out)) hb)
         replace BK995 := bbw BK995 hb
         replace BK996 := bbw BK996 hb
         clear HB
         have HB := n0_
         clear n0_
         (try clear hb)
         (try clear hb2)
         (try clear hk)
         (try clear hi)
         refine hK.out _ _ ⟨(blk_cell BK995.out 0).trans rfl, (blk_cell BK995.out 1).trans rfl, (blk_cell BK996.out 0).trans rfl, (blk_cell BK996.out 1).trans rfl⟩ (fun hHeld => ?_)
         clear hK K
         refine norm_ (a' := ?_) ?_ ?_
         rotate_left
         ·
          show Act.put _ (some 63) _ = _
          simp only [Act.put, List.setIfInBounds_toArray, List.set_cons_zero, List.set_cons_succ, i64_w, i32_w]
          rfl
         refine pure_ (i := 59) (N := some 64) (v := ?_) (a' := ?_) #[true, true, true, true, true, true, true, true, true, true, true, true, true, true, true, true, true, true, true, true, true, true, true, true, true, true, true, true, true, true, true, true, true, true, true, true, true, true, true, true, true, true, true, true, true, true, true, true, true, true, true, true, true, true, true, true, true, true, true, true, false] rfl rfl (any_of HT_.out (by kernel_rfl)) (fun _ _ _ h => h) (Or.inl ⟨by rfl, ?_⟩) ?_ ?_
         rotate_left
         ·
          intro w'
          go_simp
          with_reducible rfl
         rotate_left
         ·
          simp only [Act.put, List.setIfInBounds_toArray, List.set_cons_zero, List.set_cons_succ, i64_w, i32_w]
          rfl
         refine pure_ (i := 60) (N := some 4) (v := ?_) (a' := ?_) #[true, true, true, true, true, true, true, true, true, true, true, true, true, true, true, true, true, true, true, true, true, true, true, true, true, true, true, true, true, true, true, true, true, true, true, true, true, true, true, true, true, true, true, true, true, true, true, true, true, true, true, true, true, true, true, true, true, true, true, true, true] rfl rfl (any_of HT_.out (by kernel_rfl)) (fun _ _ _ h => h) (Or.inl ⟨by rfl, ?_⟩) ?_ ?_
         rotate_left
         ·
          intro w'
          go_simp
          with_reducible rfl
         rotate_left
         ·
          simp only [Act.put, List.setIfInBounds_toArray, List.set_cons_zero, List.set_cons_succ, i64_w, i32_w]
          rfl
         refine done_ (done_of HT_.out (by kernel_rfl)) ?_
         try go_wp2
         go_ret
         exact ⟨by first | rfl | (simp [errW_none, errW_some] <;> rfl) | (simp [*, errW_none, errW_some] <;> rfl) | kernel_rfl, by repeat (first | (with_reducible first | exact HB.out | apply below_alloc | apply pw_below_drewN | apply below_drew1 | refine below_set ?_ GE995.out | refine below_set ?_ GE996.out) | exact HB.out)⟩
        ·
         rw [if_neg c23] at H
         have c23b0 : (t1021 == t1023 && (t1022 == t1024)) = false := by simpa using c23
         (try (have c23b1 : decide (t1021 = t1023 && (t1022 == t1024)) = false := by simpa using c23))
         (try (have c23b2 : (t1021 == t1023 && (t1022 == t1024)) = false := by simpa using c23))
         (try (have c23b3 : ¬ (t1021 = t1023 && (t1022 == t1024)) := by simpa using c23))
         clear c23
         exact absurd H (by simp)
       ·
        rw [if_neg c20] at H
        have c20b0 : (t1017 == t1019 && (t1018 == t1020)) = false := by simpa using c20
        (try (have c20b1 : decide (t1017 = t1019 && (t1018 == t1020)) = false := by simpa using c20))
        (try (have c20b2 : (t1017 == t1019 && (t1018 == t1020)) = false := by simpa using c20))
        (try (have c20b3 : ¬ (t1017 = t1019 && (t1018 == t1020)) := by simpa using c20))
        clear c20
        exact absurd H (by simp)
      ·
       rw [if_neg c17] at H
       have c17b0 : (t1013 == t1015 && (t1014 == t1016)) = false := by simpa using c17
       (try (have c17b1 : decide (t1013 = t1015 && (t1014 == t1016)) = false := by simpa using c17))
       (try (have c17b2 : (t1013 == t1015 && (t1014 == t1016)) = false := by simpa using c17))
       (try (have c17b3 : ¬ (t1013 = t1015 && (t1014 == t1016)) := by simpa using c17))
       clear c17
       exact absurd H (by simp)
     ·
      rw [if_neg c14] at H
      have c14b0 : (t1009 == t1011 && (t1010 == t1012)) = false := by simpa using c14
      (try (have c14b1 : decide (t1009 = t1011 && (t1010 == t1012)) = false := by simpa using c14))
      (try (have c14b2 : (t1009 == t1011 && (t1010 == t1012)) = false := by simpa using c14))
      (try (have c14b3 : ¬ (t1009 = t1011 && (t1010 == t1012)) := by simpa using c14))
      clear c14
      exact absurd H (by simp)
    ·
     rw [if_neg c11] at H
     have c11b0 : (t1005 == t1007 && (t1006 == t1008)) = false := by simpa using c11
     (try (have c11b1 : decide (t1005 = t1007 && (t1006 == t1008)) = false := by simpa using c11))
     (try (have c11b2 : (t1005 == t1007 && (t1006 == t1008)) = false := by simpa using c11))
     (try (have c11b3 : ¬ (t1005 = t1007 && (t1006 == t1008)) := by simpa using c11))
     clear c11
     exact absurd H (by simp)
   ·
    rw [if_neg c8] at H
    have c8b0 : (t1001 == t1003 && (t1002 == t1004)) = false := by simpa using c8
    (try (have c8b1 : decide (t1001 = t1003 && (t1002 == t1004)) = false := by simpa using c8))
    (try (have c8b2 : (t1001 == t1003 && (t1002 == t1004)) = false := by simpa using c8))
    (try (have c8b3 : ¬ (t1001 = t1003 && (t1002 == t1004)) := by simpa using c8))
    clear c8
    exact absurd H (by simp)
  ·
   rw [if_neg c5] at H
   have c5b0 : (t997 == t999 && (t998 == t1000)) = false := by simpa using c5
   (try (have c5b1 : decide (t997 = t999 && (t998 == t1000)) = false := by simpa using c5))
   (try (have c5b2 : (t997 == t999 && (t998 == t1000)) = false := by simpa using c5))
   (try (have c5b3 : ¬ (t997 = t999 && (t998 == t1000)) := by simpa using c5))
   clear c5
   exact absurd H (by simp)
/-- THE ONE PURE STATEMENT of gimballaw02_ItvReckons: yours. -/
def gimballaw02_ItvReckons.Pure : Prop := ∀ (a0_0 : Int) (a0_1 : Int) (a1_0 : Int) (a1_1 : Int), (Lit.int .i64 a0_0).wf = true → (Lit.int .i64 a0_1).wf = true → (Lit.int .i64 a1_0).wf = true → (Lit.int .i64 a1_1).wf = true → ∃ k, gimballaw02_ItvReckons.f k a0_0 a0_1 a1_0 a1_1 = some true
theorem gimballaw02_ItvReckons.walk (P : gimballaw02_ItvReckons.Pure) (a0_0 : Int) (a0_1 : Int) (a1_0 : Int) (a1_1 : Int) (w : World) (w0_0 : (Lit.int .i64 a0_0).wf = true) (w0_1 : (Lit.int .i64 a0_1).wf = true) (w1_0 : (Lit.int .i64 a1_0).wf = true) (w1_1 : (Lit.int .i64 a1_1).wf = true) :
    Calls Try.prog 9 #[.agg #[.int .i64 a0_0, .int .i64 a0_1], .agg #[.int .i64 a1_0, .int .i64 a1_1]] w fun e w' => e = .returned (.bool true) ∧ Below w.heap.size w w' := by
  obtain ⟨k, h⟩ := P a0_0 a0_1 a1_0 a1_1 w0_0 w0_1 w1_0 w1_1
  refine (gimballaw02_ItvReckons.calls k a0_0 a0_1 a1_0 a1_1  w h).mono ?_
  rintro e w' ⟨rfl, hd⟩
  exact ⟨rfl, hd⟩
end Go.Proofs.Ytbbnpipmjadpoaa.P
