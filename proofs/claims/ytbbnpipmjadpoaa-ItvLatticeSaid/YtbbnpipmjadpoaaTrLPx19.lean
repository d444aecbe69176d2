/- What the law's proof needs of Px19. -/
import Derived.Test.YtbbnpipmjadpoaaTrLU
import Derived.Test.YtbbnpipmjadpoaaTrLPx0
import Derived.Test.YtbbnpipmjadpoaaTrLPx1
import Derived.Test.YtbbnpipmjadpoaaTrLPx2
import Derived.Test.YtbbnpipmjadpoaaTrLPx6
import Derived.Test.YtbbnpipmjadpoaaTrLPx8
import Derived.Test.YtbbnpipmjadpoaaTrLPx10
import Derived.Test.YtbbnpipmjadpoaaTrLPx18
-- PRINTED by print.py (a twelfth state) out of the translation. Not trusted: Lean checks it.
namespace Go.Proofs.Ytbbnpipmjadpoaa.P
open Go.RowKit Go.Proofs.YtbbnpipmjadpoaaW.PrintWords Go.Proofs.YtbbnpipmjadpoaaW.PrintLast Go.Proofs.YtbbnpipmjadpoaaW.PrintMore Go.Proofs.YtbbnpipmjadpoaaO
attribute [local go_sem] max2_int min2_int max_two min_two max_three min_three max_four min_four   -- for this text's walks alone
set_option linter.unusedVariables false
set_option linter.unusedSimpArgs false
attribute [local go_sem high] eqA23
mutual
def gimballaw02_ItvLattice.j0 : Nat → Bool → Int → Int → Int → Int → Int → Int → Int → Int → Int → Int → Option (Bool)
  | 0, _, _, _, _, _, _, _, _, _, _, _ => none
  | k + 1, x50, x392000, x392001, x393000, x393001, x394000, x394001, x397000, x397001, x400000, x400001 => if x50 = true then (some false) else ((itv_Leq.f x392000 x392001 x394000 x394001).bind fun t408 => (if t408 = true then ((itv_Leq.f x393000 x393001 x394000 x394001).bind fun t409 => (if t409 = true then ((itv_Leq.f x397000 x397001 x394000 x394001).bind fun t410 => (if t410 = true then ((itv_Leq.f x394000 x394001 x392000 x392001).bind fun t411 => (if t411 = true then ((itv_Leq.f x394000 x394001 x393000 x393001).bind fun t412 => (if t412 = true then ((itv_Leq.f x394000 x394001 x400000 x400001).bind fun t413 => (gimballaw02_ItvLattice.j1 k (!t413) x392000 x392001 x393000 x393001 x394000 x394001 x397000 x397001 x400000 x400001)) else (gimballaw02_ItvLattice.j1 k false x392000 x392001 x393000 x393001 x394000 x394001 x397000 x397001 x400000 x400001))) else (gimballaw02_ItvLattice.j1 k false x392000 x392001 x393000 x393001 x394000 x394001 x397000 x397001 x400000 x400001))) else (gimballaw02_ItvLattice.j1 k true x392000 x392001 x393000 x393001 x394000 x394001 x397000 x397001 x400000 x400001))) else ((itv_Leq.f x394000 x394001 x392000 x392001).bind fun t414 => (if t414 = true then ((itv_Leq.f x394000 x394001 x393000 x393001).bind fun t415 => (if t415 = true then ((itv_Leq.f x394000 x394001 x400000 x400001).bind fun t416 => (gimballaw02_ItvLattice.j1 k (!t416) x392000 x392001 x393000 x393001 x394000 x394001 x397000 x397001 x400000 x400001)) else (gimballaw02_ItvLattice.j1 k false x392000 x392001 x393000 x393001 x394000 x394001 x397000 x397001 x400000 x400001))) else (gimballaw02_ItvLattice.j1 k false x392000 x392001 x393000 x393001 x394000 x394001 x397000 x397001 x400000 x400001))))) else ((itv_Leq.f x394000 x394001 x392000 x392001).bind fun t417 => (if t417 = true then ((itv_Leq.f x394000 x394001 x393000 x393001).bind fun t418 => (if t418 = true then ((itv_Leq.f x394000 x394001 x400000 x400001).bind fun t419 => (gimballaw02_ItvLattice.j1 k (!t419) x392000 x392001 x393000 x393001 x394000 x394001 x397000 x397001 x400000 x400001)) else (gimballaw02_ItvLattice.j1 k false x392000 x392001 x393000 x393001 x394000 x394001 x397000 x397001 x400000 x400001))) else (gimballaw02_ItvLattice.j1 k false x392000 x392001 x393000 x393001 x394000 x394001 x397000 x397001 x400000 x400001)))))
def gimballaw02_ItvLattice.j1 : Nat → Bool → Int → Int → Int → Int → Int → Int → Int → Int → Int → Int → Option (Bool)
  | 0, _, _, _, _, _, _, _, _, _, _, _ => none
  | k + 1, x80, x392000, x392001, x393000, x393001, x394000, x394001, x397000, x397001, x400000, x400001 => if x80 = true then (some false) else ((itv_Leq.f x392000 x392001 x393000 x393001).bind fun t420 => (if t420 = true then ((itv_Leq.f x393000 x393001 x394000 x394001).bind fun t421 => (if t421 = true then ((itv_Leq.f x392000 x392001 x394000 x394001).bind fun t422 => (if t422 = true then ((itv_Leq.f x392000 x392001 x393000 x393001).bind fun t423 => (if t423 = true then ((itv_Leq.f x393000 x393001 x392000 x392001).bind fun t424 => (if t424 = true then ((itv_Of.f x392000 x392001).bind fun bt425 => ((itv_Of.f x393000 x393001).bind fun bt427 => (gimballaw02_ItvLattice.j2 k (!(bt425.1 == bt427.1) || (!(bt425.2 == bt427.2))) x392000 x392001 x393000 x393001 x394000 x394001 x397000 x397001 x400000 x400001))) else (gimballaw02_ItvLattice.j2 k false x392000 x392001 x393000 x393001 x394000 x394001 x397000 x397001 x400000 x400001))) else (gimballaw02_ItvLattice.j2 k false x392000 x392001 x393000 x393001 x394000 x394001 x397000 x397001 x400000 x400001))) else (gimballaw02_ItvLattice.j2 k true x392000 x392001 x393000 x393001 x394000 x394001 x397000 x397001 x400000 x400001))) else ((itv_Leq.f x392000 x392001 x393000 x393001).bind fun t429 => (if t429 = true then ((itv_Leq.f x393000 x393001 x392000 x392001).bind fun t430 => (if t430 = true then ((itv_Of.f x392000 x392001).bind fun bt431 => ((itv_Of.f x393000 x393001).bind fun bt433 => (gimballaw02_ItvLattice.j2 k (!(bt431.1 == bt433.1) || (!(bt431.2 == bt433.2))) x392000 x392001 x393000 x393001 x394000 x394001 x397000 x397001 x400000 x400001))) else (gimballaw02_ItvLattice.j2 k false x392000 x392001 x393000 x393001 x394000 x394001 x397000 x397001 x400000 x400001))) else (gimballaw02_ItvLattice.j2 k false x392000 x392001 x393000 x393001 x394000 x394001 x397000 x397001 x400000 x400001))))) else ((itv_Leq.f x392000 x392001 x393000 x393001).bind fun t435 => (if t435 = true then ((itv_Leq.f x393000 x393001 x392000 x392001).bind fun t436 => (if t436 = true then ((itv_Of.f x392000 x392001).bind fun bt437 => ((itv_Of.f x393000 x393001).bind fun bt439 => (gimballaw02_ItvLattice.j2 k (!(bt437.1 == bt439.1) || (!(bt437.2 == bt439.2))) x392000 x392001 x393000 x393001 x394000 x394001 x397000 x397001 x400000 x400001))) else (gimballaw02_ItvLattice.j2 k false x392000 x392001 x393000 x393001 x394000 x394001 x397000 x397001 x400000 x400001))) else (gimballaw02_ItvLattice.j2 k false x392000 x392001 x393000 x393001 x394000 x394001 x397000 x397001 x400000 x400001)))))
def gimballaw02_ItvLattice.j2 : Nat → Bool → Int → Int → Int → Int → Int → Int → Int → Int → Int → Int → Option (Bool)
  | 0, _, _, _, _, _, _, _, _, _, _, _ => none
  | k + 1, x117, x392000, x392001, x393000, x393001, x394000, x394001, x397000, x397001, x400000, x400001 => if x117 = true then (some false) else ((itv_Join.f x392000 x392001 x400000 x400001).bind fun bt441 => ((itv_Of.f x392000 x392001).bind fun bt443 => (if (bt441.1 == bt443.1 && (bt441.2 == bt443.2)) = true then ((itv_Join.f x397000 x397001 x394000 x394001).bind fun bt445 => ((itv_Join.f x393000 x393001 x394000 x394001).bind fun bt447 => ((itv_Join.f x392000 x392001 bt447.1 bt447.2).bind fun bt449 => (if (bt445.1 == bt449.1 && (bt445.2 == bt449.2)) = true then ((itv_Meet.f k x400000 x400001 x394000 x394001).bind fun bt451 => ((itv_Meet.f k x393000 x393001 x394000 x394001).bind fun bt453 => ((itv_Meet.f k x392000 x392001 bt453.1 bt453.2).bind fun bt455 => (if (bt451.1 == bt455.1 && (bt451.2 == bt455.2)) = true then ((gimballaw02_awake.f k).bind fun t457 => (some t457)) else (some false))))) else (some false))))) else (some false))))
end
def gimballaw02_ItvLattice.f (k : Nat) (a0_0 : Int) (a0_1 : Int) (a1_0 : Int) (a1_1 : Int) (a2_0 : Int) (a2_1 : Int) : Option (Bool) := (itv_Join.f a0_0 a0_1 a1_0 a1_1).bind fun bt394 => ((itv_Meet.f k a0_0 a0_1 a1_0 a1_1).bind fun bt397 => ((itv_Leq.f a0_0 a0_1 bt394.1 bt394.2).bind fun t400 => (if t400 = true then ((itv_Leq.f a1_0 a1_1 bt394.1 bt394.2).bind fun t401 => (if t401 = true then ((itv_Leq.f bt397.1 bt397.2 a0_0 a0_1).bind fun t402 => (if t402 = true then ((itv_Leq.f bt397.1 bt397.2 a1_0 a1_1).bind fun t403 => (if t403 = true then ((itv_Join.f a1_0 a1_1 a0_0 a0_1).bind fun bt404 => (if (!(bt394.1 == bt404.1) || (!(bt394.2 == bt404.2))) = true then (gimballaw02_ItvLattice.j0 k true a0_0 a0_1 a1_0 a1_1 a2_0 a2_1 bt394.1 bt394.2 bt397.1 bt397.2) else ((itv_Meet.f k a1_0 a1_1 a0_0 a0_1).bind fun bt406 => (gimballaw02_ItvLattice.j0 k (!(bt397.1 == bt406.1) || (!(bt397.2 == bt406.2))) a0_0 a0_1 a1_0 a1_1 a2_0 a2_1 bt394.1 bt394.2 bt397.1 bt397.2)))) else (gimballaw02_ItvLattice.j0 k true a0_0 a0_1 a1_0 a1_1 a2_0 a2_1 bt394.1 bt394.2 bt397.1 bt397.2))) else (gimballaw02_ItvLattice.j0 k true a0_0 a0_1 a1_0 a1_1 a2_0 a2_1 bt394.1 bt394.2 bt397.1 bt397.2))) else (gimballaw02_ItvLattice.j0 k true a0_0 a0_1 a1_0 a1_1 a2_0 a2_1 bt394.1 bt394.2 bt397.1 bt397.2))) else (gimballaw02_ItvLattice.j0 k true a0_0 a0_1 a1_0 a1_1 a2_0 a2_1 bt394.1 bt394.2 bt397.1 bt397.2))))
def gimballaw02_ItvLattice.T3 : Bool × List (List Nat × List Nat) := (true, [([], []), ([], []), ([0, 1], [0, 1]), ([2], [2]), ([3, 2], [3]), ([4], [4]), ([4], [4]), ([5, 6, 4, 4], [4, 5, 6]), ([7, 4], [4, 7]), ([4, 8], [4, 8]), ([9, 7], [9]), ([10], [10]), ([10], [10]), ([11, 12, 10, 10], [10, 11, 12]), ([13, 10], [10, 13]), ([10, 14], [10, 14]), ([15, 13], [15]), ([16], [16]), ([16], [16]), ([17, 18, 16, 16], [16, 17, 18]), ([19, 16], [16, 19]), ([16, 20], [16, 20]), ([21, 19], [21]), ([22], [22]), ([22], [22]), ([22], [22]), ([24, 25, 22, 22], [22, 24, 25]), ([23, 26, 22], [22, 23, 26]), ([22, 27], [22, 27]), ([28, 26], [28]), ([29], [29]), ([29], [29]), ([29], [29]), ([31, 32, 29, 29], [29, 31, 32]), ([30, 33, 29], [29, 30, 33]), ([29, 34], [29, 34])])
def gimballaw02_ItvLattice.B3 : List Nat := [0, 0, 3, 7, 15, 31, 31, 127, 255, 511, 1023, 2047, 2047, 8191, 16383, 32767, 65535, 131071, 131071, 524287, 1048575, 2097151, 4194303, 8388607, 8388607, 8388607, 58720255, 134217727, 268435455, 536870911, 1073741823, 1073741823, 1073741823, 7516192767, 17179869183, 34359738367]
theorem gimballaw02_ItvLattice.tab3 : rtab .any (opsOf Try.f6 3) = gimballaw02_ItvLattice.T3 := by kernel_rfl
theorem gimballaw02_ItvLattice.bits3 : waitsOk gimballaw02_ItvLattice.T3.2 gimballaw02_ItvLattice.B3 = true := by kernel_rfl
def gimballaw02_ItvLattice.T7 : Bool × List (List Nat × List Nat) := (true, [([], []), ([], []), ([0, 1], [0, 1]), ([2, 2], [2]), ([3], [3]), ([3], [3]), ([4, 5, 3, 3], [3, 4, 5]), ([3, 6], [3, 6]), ([7, 6], [7]), ([8], [8]), ([8], [8]), ([9, 10, 8, 8], [8, 9, 10]), ([11, 8], [8, 11]), ([8, 12], [8, 12]), ([13, 11], [13]), ([14], [14]), ([14], [14]), ([15, 16, 14, 14], [14, 15, 16]), ([17, 17, 14], [14, 17]), ([18], [18]), ([18], [18]), ([19, 20, 18, 18], [18, 19, 20]), ([18, 21, 14], [14, 18, 21]), ([22, 21, 14], [14, 22]), ([23], [23]), ([24, 23], [23, 24]), ([23], [23]), ([26, 23], [23, 26]), ([25, 27, 23, 23], [23, 25, 27]), ([23], [23]), ([29, 23], [23, 29]), ([23], [23]), ([31, 23], [23, 31]), ([30, 32, 28, 23], [23, 30, 32]), ([28, 33, 23], [23, 28, 33]), ([23, 34, 14], [14, 23, 34]), ([14, 35], [14, 35])])
def gimballaw02_ItvLattice.B7 : List Nat := [0, 0, 3, 7, 15, 15, 63, 127, 255, 511, 511, 2047, 4095, 8191, 16383, 32767, 32767, 131071, 262143, 524287, 524287, 2097151, 4194303, 8388607, 16777215, 33554431, 16777215, 83886079, 268435455, 16777215, 553648127, 16777215, 2164260863, 8589934591, 17179869183, 34359738367, 68719476735]
theorem gimballaw02_ItvLattice.tab7 : rtab .any (opsOf Try.f6 7) = gimballaw02_ItvLattice.T7 := by kernel_rfl
theorem gimballaw02_ItvLattice.bits7 : waitsOk gimballaw02_ItvLattice.T7.2 gimballaw02_ItvLattice.B7 = true := by kernel_rfl
def gimballaw02_ItvLattice.T9 : Bool × List (List Nat × List Nat) := (true, [([], []), ([], []), ([0, 1], [0, 1]), ([], []), ([3], [3]), ([], []), ([5], [5]), ([4, 6, 2], [4, 6]), ([2, 7], [2, 7]), ([8, 7], [8]), ([9], [9]), ([9], [9]), ([10, 11, 9, 9], [9, 10, 11]), ([9], [9]), ([9], [9]), ([9], [9]), ([14, 15, 12, 9], [9, 14, 15]), ([13, 16, 16, 9], [9, 13, 16]), ([12, 17, 9], [9, 12, 17]), ([9, 18], [9, 18]), ([19, 17], [19]), ([20], [20]), ([20], [20]), ([21, 22, 20, 20], [20, 21, 22]), ([20], [20]), ([20], [20]), ([20], [20]), ([25, 26, 23, 20], [20, 25, 26]), ([24, 27, 27, 20], [20, 24, 27]), ([23, 28, 20], [20, 23, 28]), ([20, 29], [20, 29]), ([30, 28], [30]), ([31, 31], [31]), ([31, 32], [31, 32]), ([33, 32, 0, 1, 2, 3, 4, 5, 6, 7, 8, 9, 10, 11, 12, 13, 14, 15, 16, 17, 18, 19, 20, 21, 22, 23, 24, 25, 26, 27, 28, 29, 30, 31, 32, 33], [33])])
def gimballaw02_ItvLattice.B9 : List Nat := [0, 0, 3, 0, 8, 0, 32, 127, 255, 511, 1023, 1023, 4095, 1023, 1023, 1023, 57343, 131071, 262143, 524287, 1048575, 2097151, 2097151, 8388607, 2097151, 2097151, 2097151, 117440511, 268435455, 536870911, 1073741823, 2147483647, 4294967295, 8589934591, 17179869183]
theorem gimballaw02_ItvLattice.tab9 : rtab .any (opsOf Try.f6 9) = gimballaw02_ItvLattice.T9 := by kernel_rfl
theorem gimballaw02_ItvLattice.bits9 : waitsOk gimballaw02_ItvLattice.T9.2 gimballaw02_ItvLattice.B9 = true := by kernel_rfl
set_option maxHeartbeats 8000000 in
set_option maxRecDepth 100000 in
theorem gimballaw02_ItvLattice.calls (k : Nat) (a0_0 : Int) (a0_1 : Int) (a1_0 : Int) (a1_1 : Int) (a2_0 : Int) (a2_1 : Int) (w : World) (h : gimballaw02_ItvLattice.f k a0_0 a0_1 a1_0 a1_1 a2_0 a2_1 = some true) :
    Calls Try.prog 6 #[.agg #[.int .i64 a0_0, .int .i64 a0_1], .agg #[.int .i64 a1_0, .int .i64 a1_1], .agg #[.int .i64 a2_0, .int .i64 a2_1]] w fun e w' => e = .returned (.bool true) ∧ Below w.heap.size w w' := by
  have hu23 := Try.underlying23
  have HB := Aside0.mk (Below.refl w.heap.size w)
  have H : ((itv_Join.f a0_0 a0_1 a1_0 a1_1).bind fun bt394 => ((itv_Meet.f k a0_0 a0_1 a1_0 a1_1).bind fun bt397 => ((itv_Leq.f a0_0 a0_1 bt394.1 bt394.2).bind fun t400 => (if t400 = true then ((itv_Leq.f a1_0 a1_1 bt394.1 bt394.2).bind fun t401 => (if t401 = true then ((itv_Leq.f bt397.1 bt397.2 a0_0 a0_1).bind fun t402 => (if t402 = true then ((itv_Leq.f bt397.1 bt397.2 a1_0 a1_1).bind fun t403 => (if t403 = true then ((itv_Join.f a1_0 a1_1 a0_0 a0_1).bind fun bt404 => (if (!(bt394.1 == bt404.1) || (!(bt394.2 == bt404.2))) = true then (gimballaw02_ItvLattice.j0 k true a0_0 a0_1 a1_0 a1_1 a2_0 a2_1 bt394.1 bt394.2 bt397.1 bt397.2) else ((itv_Meet.f k a1_0 a1_1 a0_0 a0_1).bind fun bt406 => (gimballaw02_ItvLattice.j0 k (!(bt397.1 == bt406.1) || (!(bt397.2 == bt406.2))) a0_0 a0_1 a1_0 a1_1 a2_0 a2_1 bt394.1 bt394.2 bt397.1 bt397.2)))) else (gimballaw02_ItvLattice.j0 k true a0_0 a0_1 a1_0 a1_1 a2_0 a2_1 bt394.1 bt394.2 bt397.1 bt397.2))) else (gimballaw02_ItvLattice.j0 k true a0_0 a0_1 a1_0 a1_1 a2_0 a2_1 bt394.1 bt394.2 bt397.1 bt397.2))) else (gimballaw02_ItvLattice.j0 k true a0_0 a0_1 a1_0 a1_1 a2_0 a2_1 bt394.1 bt394.2 bt397.1 bt397.2))) else (gimballaw02_ItvLattice.j0 k true a0_0 a0_1 a1_0 a1_1 a2_0 a2_1 bt394.1 bt394.2 bt397.1 bt397.2))))) = some true := h
  clear h
  replace H := Option.bind_eq_some_iff.mp H
  obtain ⟨⟨t394, t395⟩, A40, H⟩ := H
  replace H : ((itv_Meet.f k a0_0 a0_1 a1_0 a1_1).bind fun bt397 => ((itv_Leq.f a0_0 a0_1 t394 t395).bind fun t400 => (if t400 = true then ((itv_Leq.f a1_0 a1_1 t394 t395).bind fun t401 => (if t401 = true then ((itv_Leq.f bt397.1 bt397.2 a0_0 a0_1).bind fun t402 => (if t402 = true then ((itv_Leq.f bt397.1 bt397.2 a1_0 a1_1).bind fun t403 => (if t403 = true then ((itv_Join.f a1_0 a1_1 a0_0 a0_1).bind fun bt404 => (if (!(t394 == bt404.1) || (!(t395 == bt404.2))) = true then (gimballaw02_ItvLattice.j0 k true a0_0 a0_1 a1_0 a1_1 a2_0 a2_1 t394 t395 bt397.1 bt397.2) else ((itv_Meet.f k a1_0 a1_1 a0_0 a0_1).bind fun bt406 => (gimballaw02_ItvLattice.j0 k (!(bt397.1 == bt406.1) || (!(bt397.2 == bt406.2))) a0_0 a0_1 a1_0 a1_1 a2_0 a2_1 t394 t395 bt397.1 bt397.2)))) else (gimballaw02_ItvLattice.j0 k true a0_0 a0_1 a1_0 a1_1 a2_0 a2_1 t394 t395 bt397.1 bt397.2))) else (gimballaw02_ItvLattice.j0 k true a0_0 a0_1 a1_0 a1_1 a2_0 a2_1 t394 t395 bt397.1 bt397.2))) else (gimballaw02_ItvLattice.j0 k true a0_0 a0_1 a1_0 a1_1 a2_0 a2_1 t394 t395 bt397.1 bt397.2))) else (gimballaw02_ItvLattice.j0 k true a0_0 a0_1 a1_0 a1_1 a2_0 a2_1 t394 t395 bt397.1 bt397.2)))) = some true := H
  have A4 := Aside0.mk A40
  clear A40
  replace H := Option.bind_eq_some_iff.mp H
  obtain ⟨⟨t397, t398⟩, A50, H⟩ := H
  replace H : ((itv_Leq.f a0_0 a0_1 t394 t395).bind fun t400 => (if t400 = true then ((itv_Leq.f a1_0 a1_1 t394 t395).bind fun t401 => (if t401 = true then ((itv_Leq.f t397 t398 a0_0 a0_1).bind fun t402 => (if t402 = true then ((itv_Leq.f t397 t398 a1_0 a1_1).bind fun t403 => (if t403 = true then ((itv_Join.f a1_0 a1_1 a0_0 a0_1).bind fun bt404 => (if (!(t394 == bt404.1) || (!(t395 == bt404.2))) = true then (gimballaw02_ItvLattice.j0 k true a0_0 a0_1 a1_0 a1_1 a2_0 a2_1 t394 t395 t397 t398) else ((itv_Meet.f k a1_0 a1_1 a0_0 a0_1).bind fun bt406 => (gimballaw02_ItvLattice.j0 k (!(t397 == bt406.1) || (!(t398 == bt406.2))) a0_0 a0_1 a1_0 a1_1 a2_0 a2_1 t394 t395 t397 t398)))) else (gimballaw02_ItvLattice.j0 k true a0_0 a0_1 a1_0 a1_1 a2_0 a2_1 t394 t395 t397 t398))) else (gimballaw02_ItvLattice.j0 k true a0_0 a0_1 a1_0 a1_1 a2_0 a2_1 t394 t395 t397 t398))) else (gimballaw02_ItvLattice.j0 k true a0_0 a0_1 a1_0 a1_1 a2_0 a2_1 t394 t395 t397 t398))) else (gimballaw02_ItvLattice.j0 k true a0_0 a0_1 a1_0 a1_1 a2_0 a2_1 t394 t395 t397 t398))) = some true := H
  have A5 := Aside0.mk A50
  clear A50
  have HC6 := Aside0.mk H
  clear H
  go_enter Try.func6, Try.ntmps6
  go_upto_region 3 with (first | ((with_reducible refine gate_dst (N := 3) rfl ?_); refine box_event ?hg (N := 3) ?hd (cs := #[.int .i64 a0_0, .int .i64 a0_1]) (t := 23) ?hr ?_; (case hd => rfl); (case hg => rfl); (case hr => first | (go_simp; done) | (go_simp; rfl)); intro gb391 hg w7 hbox hb; have n0_ := bst HB hb; have n1_ := Aside0.mk (hbox); have n2_ := bsz HB hg; have n3_ := bsz HB hg; clear HB; have HB := n0_; have BK391 := n1_; have GW391 := n2_; have GE391 := n3_; clear n0_ n1_ n2_ n3_; clear hb hbox hg) | ((with_reducible refine gate_dst (N := 4) rfl ?_); refine box_event ?hg (N := 4) ?hd (cs := #[.int .i64 a1_0, .int .i64 a1_1]) (t := 23) ?hr ?_; (case hd => rfl); (case hg => rfl); (case hr => first | (go_simp; done) | (go_simp; rfl)); intro gb392 hg w8 hbox hb; have n0_ := bst HB hb; have n1_ := Aside0.mk (hbox); have n2_ := bsz HB hg; have n3_ := bsz HB hg; have n4_ := bn1 BK391 hg; have n5_ := bn2 BK391 hg; replace BK391 := bbw BK391 hb; clear HB; have HB := n0_; have BK392 := n1_; have GW392 := n2_; have GE392 := n3_; have NB391_392 := n4_; have NB392_391 := n5_; clear n0_ n1_ n2_ n3_ n4_ n5_; clear hb hbox hg) | ((with_reducible refine gate_dst (N := 5) rfl ?_); refine box_event ?hg (N := 5) ?hd (cs := #[.int .i64 a2_0, .int .i64 a2_1]) (t := 23) ?hr ?_; (case hd => rfl); (case hg => rfl); (case hr => first | (go_simp; done) | (go_simp; rfl)); intro gb393 hg w9 hbox hb; have n0_ := bst HB hb; have n1_ := Aside0.mk (hbox); have n2_ := bsz HB hg; have n3_ := bsz HB hg; have n4_ := bn1 BK391 hg; have n5_ := bn2 BK391 hg; have n6_ := bn1 BK392 hg; have n7_ := bn2 BK392 hg; replace BK391 := bbw BK391 hb; replace BK392 := bbw BK392 hb; clear HB; have HB := n0_; have BK393 := n1_; have GW393 := n2_; have GE393 := n3_; have NB391_393 := n4_; have NB393_391 := n5_; have NB392_393 := n6_; have NB393_392 := n7_; clear n0_ n1_ n2_ n3_ n4_ n5_ n6_ n7_; clear hb hbox hg; have hnb10 := NB391_392.out; have hnc10 := NB392_391.out; have hnb11 := NB391_393.out; have hnc11 := NB393_391.out; have hcz12_0 := hcz BK391 0; have hcz12_1 := hcz BK391 1; have hfz12_0 := blk_frozen BK391.out 0; have hfz12_1 := blk_frozen BK391.out 1; have hnb13 := NB392_393.out; have hnc13 := NB393_392.out; have hcz14_0 := hcz BK392 0; have hcz14_1 := hcz BK392 1; have hfz14_0 := blk_frozen BK392.out 0; have hfz14_1 := blk_frozen BK392.out 1) | ((with_reducible refine gate_callee (f := 26) rfl ?_); refine goesL_ (some 11) rfl rfl Try.func26 (by kernel_rfl) rfl #[.agg #[.int .i64 a0_0, .int .i64 a0_1], .agg #[.int .i64 a1_0, .int .i64 a1_1]] rfl (by (try simp only [List.map_toArray, List.map_cons, List.map_nil]); first | done | rfl | (simp only [List.length_drop, List.length_take]; rfl)) ?_; (with_reducible refine (itv_Join.calls a0_0 a0_1 a1_0 a1_1 t394 t395 _ A4.out).mono ?_); rintro e w15 ⟨rfl, hb⟩; refine ⟨_, rfl, ?_⟩; have n0_ := bst HB hb; replace BK391 := bbw BK391 hb; replace BK392 := bbw BK392 hb; replace BK393 := bbw BK393 hb; clear HB; have HB := n0_; clear n0_; (try clear hb); (try clear hb2); (try clear hk); (try clear hi)) | ((with_reducible refine gate_dst (N := 7) rfl ?_); refine box_event ?hg (N := 7) ?hd (cs := #[.int .i64 0, .int .i64 0]) (t := 23) ?hr ?_; (case hd => rfl); (case hg => rfl); (case hr => first | (go_simp; done) | (go_simp; rfl)); intro gb396 hg w16 hbox hb; have n0_ := bst HB hb; have n1_ := Aside0.mk (hbox); have n2_ := bsz HB hg; have n3_ := bsz HB hg; have n4_ := bn1 BK391 hg; have n5_ := bn2 BK391 hg; have n6_ := bn1 BK392 hg; have n7_ := bn2 BK392 hg; have n8_ := bn1 BK393 hg; have n9_ := bn2 BK393 hg; replace BK391 := bbw BK391 hb; replace BK392 := bbw BK392 hb; replace BK393 := bbw BK393 hb; clear HB; have HB := n0_; have BK396 := n1_; have GW396 := n2_; have GE396 := n3_; have NB391_396 := n4_; have NB396_391 := n5_; have NB392_396 := n6_; have NB396_392 := n7_; have NB393_396 := n8_; have NB396_393 := n9_; clear n0_ n1_ n2_ n3_ n4_ n5_ n6_ n7_ n8_ n9_; clear hb hbox hg; have hnb17 := NB396_391.out; have hnc17 := NB391_396.out; have hnb18 := NB396_392.out; have hnc18 := NB392_396.out; have hnb19 := NB396_393.out; have hnc19 := NB393_396.out; have hcz20_0 := hcz BK396 0; have hcz20_1 := hcz BK396 1; have hfz20_0 := blk_frozen BK396.out 0; have hfz20_1 := blk_frozen BK396.out 1; have hcz21_0 := hcz BK391 0; have hcz21_1 := hcz BK391 1; have hfz21_0 := blk_frozen BK391.out 0; have hfz21_1 := blk_frozen BK391.out 1; have hcz22_0 := hcz BK392 0; have hcz22_1 := hcz BK392 1; have hfz22_0 := blk_frozen BK392.out 0; have hfz22_1 := blk_frozen BK392.out 1) | ((with_reducible refine gate_callee (f := 28) rfl ?_); refine goesL_ (some 14) rfl rfl Try.func28 (by kernel_rfl) rfl #[.agg #[.int .i64 a0_0, .int .i64 a0_1], .agg #[.int .i64 a1_0, .int .i64 a1_1]] rfl (by (try simp only [List.map_toArray, List.map_cons, List.map_nil]); first | done | rfl | (simp only [List.length_drop, List.length_take]; rfl)) ?_; (with_reducible refine (itv_Meet.calls k a0_0 a0_1 a1_0 a1_1 t397 t398 _ A5.out).mono ?_); rintro e w23 ⟨rfl, hb⟩; refine ⟨_, rfl, ?_⟩; have n0_ := Aside0.mk (blk_below (g := gb391) (o := .cells #[.int .i64 a0_0, .int .i64 a0_1] 23 (0, 0)) (by (with_reducible repeat (first | refine blk_drewN ?_ _ | refine blk_drew ?_ | refine blk_alloc ?_ _)); refine blk_far ?_ NB391_396.out _; (with_reducible repeat (first | refine blk_drewN ?_ _ | refine blk_drew ?_ | refine blk_alloc ?_ _)); refine blk_far ?_ NB391_396.out _; (with_reducible repeat (first | refine blk_drewN ?_ _ | refine blk_drew ?_ | refine blk_alloc ?_ _)); exact BK391.out) hb); have n1_ := Aside0.mk (blk_below (g := gb392) (o := .cells #[.int .i64 a1_0, .int .i64 a1_1] 23 (0, 0)) (by (with_reducible repeat (first | refine blk_drewN ?_ _ | refine blk_drew ?_ | refine blk_alloc ?_ _)); refine blk_far ?_ NB392_396.out _; (with_reducible repeat (first | refine blk_drewN ?_ _ | refine blk_drew ?_ | refine blk_alloc ?_ _)); refine blk_far ?_ NB392_396.out _; (with_reducible repeat (first | refine blk_drewN ?_ _ | refine blk_drew ?_ | refine blk_alloc ?_ _)); exact BK392.out) hb); have n2_ := Aside0.mk (blk_below (g := gb393) (o := .cells #[.int .i64 a2_0, .int .i64 a2_1] 23 (0, 0)) (by (with_reducible repeat (first | refine blk_drewN ?_ _ | refine blk_drew ?_ | refine blk_alloc ?_ _)); refine blk_far ?_ NB393_396.out _; (with_reducible repeat (first | refine blk_drewN ?_ _ | refine blk_drew ?_ | refine blk_alloc ?_ _)); refine blk_far ?_ NB393_396.out _; (with_reducible repeat (first | refine blk_drewN ?_ _ | refine blk_drew ?_ | refine blk_alloc ?_ _)); exact BK393.out) hb); have n3_ := Aside0.mk (blk_below (g := gb396) (o := .cells #[.int .i64 t394, .int .i64 t395] 23 (0, 0)) (by (with_reducible repeat (first | refine blk_drewN ?_ _ | refine blk_drew ?_ | refine blk_alloc ?_ _)); refine blk_put (cs := #[.int .i64 t394, .int .i64 0]) ?_ 1 _ (by first | rfl | (subst_vars; rfl)); (with_reducible repeat (first | refine blk_drewN ?_ _ | refine blk_drew ?_ | refine blk_alloc ?_ _)); refine blk_put (cs := #[.int .i64 0, .int .i64 0]) ?_ 0 _ (by first | rfl | (subst_vars; rfl)); (with_reducible repeat (first | refine blk_drewN ?_ _ | refine blk_drew ?_ | refine blk_alloc ?_ _)); exact BK396.out) hb); have n4_ := bst HB hb; clear BK391; clear BK392; clear BK393; clear BK396; clear HB; have BK391 := n0_; have BK392 := n1_; have BK393 := n2_; have BK396 := n3_; have HB := n4_; clear n0_ n1_ n2_ n3_ n4_; (try clear hb); (try clear hb2); (try clear hk); (try clear hi)) | ((with_reducible refine gate_dst (N := 8) rfl ?_); refine box_event ?hg (N := 8) ?hd (cs := #[.int .i64 0, .int .i64 0]) (t := 23) ?hr ?_; (case hd => rfl); (case hg => rfl); (case hr => first | (go_simp; done) | (go_simp; rfl)); intro gb399 hg w24 hbox hb; have n0_ := bst HB hb; have n1_ := Aside0.mk (hbox); have n2_ := bsz HB hg; have n3_ := bsz HB hg; have n4_ := bn1 BK391 hg; have n5_ := bn2 BK391 hg; have n6_ := bn1 BK392 hg; have n7_ := bn2 BK392 hg; have n8_ := bn1 BK393 hg; have n9_ := bn2 BK393 hg; have n10_ := bn1 BK396 hg; have n11_ := bn2 BK396 hg; replace BK391 := bbw BK391 hb; replace BK392 := bbw BK392 hb; replace BK393 := bbw BK393 hb; replace BK396 := bbw BK396 hb; clear HB; have HB := n0_; have BK399 := n1_; have GW399 := n2_; have GE399 := n3_; have NB391_399 := n4_; have NB399_391 := n5_; have NB392_399 := n6_; have NB399_392 := n7_; have NB393_399 := n8_; have NB399_393 := n9_; have NB396_399 := n10_; have NB399_396 := n11_; clear n0_ n1_ n2_ n3_ n4_ n5_ n6_ n7_ n8_ n9_ n10_ n11_; clear hb hbox hg; have hnb25 := NB399_391.out; have hnc25 := NB391_399.out; have hnb26 := NB399_392.out; have hnc26 := NB392_399.out; have hnb27 := NB399_393.out; have hnc27 := NB393_399.out; have hnb28 := NB399_396.out; have hnc28 := NB396_399.out; have hcz29_0 := hcz BK399 0; have hcz29_1 := hcz BK399 1; have hfz29_0 := blk_frozen BK399.out 0; have hfz29_1 := blk_frozen BK399.out 1))
  (try simp only [Act.put, List.setIfInBounds_toArray, List.set_cons_zero, List.set_cons_succ])
  go_cut [50] (fun v50 wc => ∃ (kq : Nat) (x50_5 : Bool), v50 = .bool x50_5 ∧ Aside0 (gimballaw02_ItvLattice.j0 kq x50_5 a0_0 a0_1 a1_0 a1_1 a2_0 a2_1 t394 t395 t397 t398 = some true) ∧ Aside0 (kq ≤ k) ∧ Aside0 (wc.heap[gb391]? = some (.cells #[.int .i64 a0_0, .int .i64 a0_1] 23 (0, 0))) ∧ Aside0 (wc.heap[gb392]? = some (.cells #[.int .i64 a1_0, .int .i64 a1_1] 23 (0, 0))) ∧ Aside0 (wc.heap[gb393]? = some (.cells #[.int .i64 a2_0, .int .i64 a2_1] 23 (0, 0))) ∧ Aside0 (wc.heap[gb396]? = some (.cells #[.int .i64 t394, .int .i64 t395] 23 (0, 0))) ∧ Aside0 (wc.heap[gb399]? = some (.cells #[.int .i64 t397, .int .i64 t398] 23 (0, 0))) ∧ Aside0 (Below w.heap.size w wc))
  case first => as_aux_lemma =>
   have H := HC6.out
   clear HC6
   replace H := Option.bind_eq_some_iff.mp H
   obtain ⟨t400, A300, H⟩ := H
   replace H : (if t400 = true then ((itv_Leq.f a1_0 a1_1 t394 t395).bind fun t401 => (if t401 = true then ((itv_Leq.f t397 t398 a0_0 a0_1).bind fun t402 => (if t402 = true then ((itv_Leq.f t397 t398 a1_0 a1_1).bind fun t403 => (if t403 = true then ((itv_Join.f a1_0 a1_1 a0_0 a0_1).bind fun bt404 => (if (!(t394 == bt404.1) || (!(t395 == bt404.2))) = true then (gimballaw02_ItvLattice.j0 k true a0_0 a0_1 a1_0 a1_1 a2_0 a2_1 t394 t395 t397 t398) else ((itv_Meet.f k a1_0 a1_1 a0_0 a0_1).bind fun bt406 => (gimballaw02_ItvLattice.j0 k (!(t397 == bt406.1) || (!(t398 == bt406.2))) a0_0 a0_1 a1_0 a1_1 a2_0 a2_1 t394 t395 t397 t398)))) else (gimballaw02_ItvLattice.j0 k true a0_0 a0_1 a1_0 a1_1 a2_0 a2_1 t394 t395 t397 t398))) else (gimballaw02_ItvLattice.j0 k true a0_0 a0_1 a1_0 a1_1 a2_0 a2_1 t394 t395 t397 t398))) else (gimballaw02_ItvLattice.j0 k true a0_0 a0_1 a1_0 a1_1 a2_0 a2_1 t394 t395 t397 t398))) else (gimballaw02_ItvLattice.j0 k true a0_0 a0_1 a1_0 a1_1 a2_0 a2_1 t394 t395 t397 t398)) = some true := H
   have A30 := Aside0.mk A300
   clear A300
   by_cases c31 : t400 = true
   ·
    subst c31
    have H1 : ((itv_Leq.f a1_0 a1_1 t394 t395).bind fun t401 => (if t401 = true then ((itv_Leq.f t397 t398 a0_0 a0_1).bind fun t402 => (if t402 = true then ((itv_Leq.f t397 t398 a1_0 a1_1).bind fun t403 => (if t403 = true then ((itv_Join.f a1_0 a1_1 a0_0 a0_1).bind fun bt404 => (if (!(t394 == bt404.1) || (!(t395 == bt404.2))) = true then (gimballaw02_ItvLattice.j0 k true a0_0 a0_1 a1_0 a1_1 a2_0 a2_1 t394 t395 t397 t398) else ((itv_Meet.f k a1_0 a1_1 a0_0 a0_1).bind fun bt406 => (gimballaw02_ItvLattice.j0 k (!(t397 == bt406.1) || (!(t398 == bt406.2))) a0_0 a0_1 a1_0 a1_1 a2_0 a2_1 t394 t395 t397 t398)))) else (gimballaw02_ItvLattice.j0 k true a0_0 a0_1 a1_0 a1_1 a2_0 a2_1 t394 t395 t397 t398))) else (gimballaw02_ItvLattice.j0 k true a0_0 a0_1 a1_0 a1_1 a2_0 a2_1 t394 t395 t397 t398))) else (gimballaw02_ItvLattice.j0 k true a0_0 a0_1 a1_0 a1_1 a2_0 a2_1 t394 t395 t397 t398))) = some true := by rw [if_pos rfl] at H; exact H
    clear H
    have H := H1
    clear H1
    replace H := Option.bind_eq_some_iff.mp H
    obtain ⟨t401, A320, H⟩ := H
    replace H : (if t401 = true then ((itv_Leq.f t397 t398 a0_0 a0_1).bind fun t402 => (if t402 = true then ((itv_Leq.f t397 t398 a1_0 a1_1).bind fun t403 => (if t403 = true then ((itv_Join.f a1_0 a1_1 a0_0 a0_1).bind fun bt404 => (if (!(t394 == bt404.1) || (!(t395 == bt404.2))) = true then (gimballaw02_ItvLattice.j0 k true a0_0 a0_1 a1_0 a1_1 a2_0 a2_1 t394 t395 t397 t398) else ((itv_Meet.f k a1_0 a1_1 a0_0 a0_1).bind fun bt406 => (gimballaw02_ItvLattice.j0 k (!(t397 == bt406.1) || (!(t398 == bt406.2))) a0_0 a0_1 a1_0 a1_1 a2_0 a2_1 t394 t395 t397 t398)))) else (gimballaw02_ItvLattice.j0 k true a0_0 a0_1 a1_0 a1_1 a2_0 a2_1 t394 t395 t397 t398))) else (gimballaw02_ItvLattice.j0 k true a0_0 a0_1 a1_0 a1_1 a2_0 a2_1 t394 t395 t397 t398))) else (gimballaw02_ItvLattice.j0 k true a0_0 a0_1 a1_0 a1_1 a2_0 a2_1 t394 t395 t397 t398)) = some true := H
    have A32 := Aside0.mk A320
    clear A320
    by_cases c33 : t401 = true
    ·
     subst c33
     have H1 : ((itv_Leq.f t397 t398 a0_0 a0_1).bind fun t402 => (if t402 = true then ((itv_Leq.f t397 t398 a1_0 a1_1).bind fun t403 => (if t403 = true then ((itv_Join.f a1_0 a1_1 a0_0 a0_1).bind fun bt404 => (if (!(t394 == bt404.1) || (!(t395 == bt404.2))) = true then (gimballaw02_ItvLattice.j0 k true a0_0 a0_1 a1_0 a1_1 a2_0 a2_1 t394 t395 t397 t398) else ((itv_Meet.f k a1_0 a1_1 a0_0 a0_1).bind fun bt406 => (gimballaw02_ItvLattice.j0 k (!(t397 == bt406.1) || (!(t398 == bt406.2))) a0_0 a0_1 a1_0 a1_1 a2_0 a2_1 t394 t395 t397 t398)))) else (gimballaw02_ItvLattice.j0 k true a0_0 a0_1 a1_0 a1_1 a2_0 a2_1 t394 t395 t397 t398))) else (gimballaw02_ItvLattice.j0 k true a0_0 a0_1 a1_0 a1_1 a2_0 a2_1 t394 t395 t397 t398))) = some true := by rw [if_pos rfl] at H; exact H
     clear H
     have H := H1
     clear H1
     replace H := Option.bind_eq_some_iff.mp H
     obtain ⟨t402, A340, H⟩ := H
     replace H : (if t402 = true then ((itv_Leq.f t397 t398 a1_0 a1_1).bind fun t403 => (if t403 = true then ((itv_Join.f a1_0 a1_1 a0_0 a0_1).bind fun bt404 => (if (!(t394 == bt404.1) || (!(t395 == bt404.2))) = true then (gimballaw02_ItvLattice.j0 k true a0_0 a0_1 a1_0 a1_1 a2_0 a2_1 t394 t395 t397 t398) else ((itv_Meet.f k a1_0 a1_1 a0_0 a0_1).bind fun bt406 => (gimballaw02_ItvLattice.j0 k (!(t397 == bt406.1) || (!(t398 == bt406.2))) a0_0 a0_1 a1_0 a1_1 a2_0 a2_1 t394 t395 t397 t398)))) else (gimballaw02_ItvLattice.j0 k true a0_0 a0_1 a1_0 a1_1 a2_0 a2_1 t394 t395 t397 t398))) else (gimballaw02_ItvLattice.j0 k true a0_0 a0_1 a1_0 a1_1 a2_0 a2_1 t394 t395 t397 t398)) = some true := H
     have A34 := Aside0.mk A340
     clear A340
     by_cases c35 : t402 = true
     ·
      subst c35
      have H1 : ((itv_Leq.f t397 t398 a1_0 a1_1).bind fun t403 => (if t403 = true then ((itv_Join.f a1_0 a1_1 a0_0 a0_1).bind fun bt404 => (if (!(t394 == bt404.1) || (!(t395 == bt404.2))) = true then (gimballaw02_ItvLattice.j0 k true a0_0 a0_1 a1_0 a1_1 a2_0 a2_1 t394 t395 t397 t398) else ((itv_Meet.f k a1_0 a1_1 a0_0 a0_1).bind fun bt406 => (gimballaw02_ItvLattice.j0 k (!(t397 == bt406.1) || (!(t398 == bt406.2))) a0_0 a0_1 a1_0 a1_1 a2_0 a2_1 t394 t395 t397 t398)))) else (gimballaw02_ItvLattice.j0 k true a0_0 a0_1 a1_0 a1_1 a2_0 a2_1 t394 t395 t397 t398))) = some true := by rw [if_pos rfl] at H; exact H
      clear H
      have H := H1
      clear H1
      replace H := Option.bind_eq_some_iff.mp H
      obtain ⟨t403, A360, H⟩ := H
      replace H : (if t403 = true then ((itv_Join.f a1_0 a1_1 a0_0 a0_1).bind fun bt404 => (if (!(t394 == bt404.1) || (!(t395 == bt404.2))) = true then (gimballaw02_ItvLattice.j0 k true a0_0 a0_1 a1_0 a1_1 a2_0 a2_1 t394 t395 t397 t398) else ((itv_Meet.f k a1_0 a1_1 a0_0 a0_1).bind fun bt406 => (gimballaw02_ItvLattice.j0 k (!(t397 == bt406.1) || (!(t398 == bt406.2))) a0_0 a0_1 a1_0 a1_1 a2_0 a2_1 t394 t395 t397 t398)))) else (gimballaw02_ItvLattice.j0 k true a0_0 a0_1 a1_0 a1_1 a2_0 a2_1 t394 t395 t397 t398)) = some true := H
      have A36 := Aside0.mk A360
      clear A360
      by_cases c37 : t403 = true
      ·
       subst c37
       have H1 : ((itv_Join.f a1_0 a1_1 a0_0 a0_1).bind fun bt404 => (if (!(t394 == bt404.1) || (!(t395 == bt404.2))) = true then (gimballaw02_ItvLattice.j0 k true a0_0 a0_1 a1_0 a1_1 a2_0 a2_1 t394 t395 t397 t398) else ((itv_Meet.f k a1_0 a1_1 a0_0 a0_1).bind fun bt406 => (gimballaw02_ItvLattice.j0 k (!(t397 == bt406.1) || (!(t398 == bt406.2))) a0_0 a0_1 a1_0 a1_1 a2_0 a2_1 t394 t395 t397 t398)))) = some true := by rw [if_pos rfl] at H; exact H
       clear H
       have H := H1
       clear H1
       replace H := Option.bind_eq_some_iff.mp H
       obtain ⟨⟨t404, t405⟩, A380, H⟩ := H
       replace H : (if (!(t394 == t404) || (!(t395 == t405))) = true then (gimballaw02_ItvLattice.j0 k true a0_0 a0_1 a1_0 a1_1 a2_0 a2_1 t394 t395 t397 t398) else ((itv_Meet.f k a1_0 a1_1 a0_0 a0_1).bind fun bt406 => (gimballaw02_ItvLattice.j0 k (!(t397 == bt406.1) || (!(t398 == bt406.2))) a0_0 a0_1 a1_0 a1_1 a2_0 a2_1 t394 t395 t397 t398))) = some true := H
       have A38 := Aside0.mk A380
       clear A380
       by_cases c39 : (!(t394 == t404) || (!(t395 == t405))) = true
       ·
        rw [if_pos c39] at H
        have c39b0 : (!(t394 == t404) || (!(t395 == t405))) = true := c39
        clear c39
        (first | rw [c39b0] | (simp only [i64_w, i32_w]; rw [c39b0]) | skip)
        have H' := Aside0.mk H
        clear H
        try go_wp2
        have n0_ : Aside0 (((w24.setCell ⟨gb399, 0, none⟩ (.int .i64 t397)).setCell ⟨gb399, 1, none⟩ (.int .i64 t398)).heap[gb391]? = some (.cells #[.int .i64 a0_0, .int .i64 a0_1] 23 (0, 0))) := far2 BK391 NB391_399
        have n1_ : Aside0 (((w24.setCell ⟨gb399, 0, none⟩ (.int .i64 t397)).setCell ⟨gb399, 1, none⟩ (.int .i64 t398)).heap[gb392]? = some (.cells #[.int .i64 a1_0, .int .i64 a1_1] 23 (0, 0))) := far2 BK392 NB392_399
        have n2_ : Aside0 (((w24.setCell ⟨gb399, 0, none⟩ (.int .i64 t397)).setCell ⟨gb399, 1, none⟩ (.int .i64 t398)).heap[gb393]? = some (.cells #[.int .i64 a2_0, .int .i64 a2_1] 23 (0, 0))) := far2 BK393 NB393_399
        have n3_ : Aside0 (((w24.setCell ⟨gb399, 0, none⟩ (.int .i64 t397)).setCell ⟨gb399, 1, none⟩ (.int .i64 t398)).heap[gb396]? = some (.cells #[.int .i64 t394, .int .i64 t395] 23 (0, 0))) := far2 BK396 NB396_399
        have n4_ : Aside0 (((w24.setCell ⟨gb399, 0, none⟩ (.int .i64 t397)).setCell ⟨gb399, 1, none⟩ (.int .i64 t398)).heap[gb399]? = some (.cells #[.int .i64 t397, .int .i64 t398] 23 (0, 0))) := ⟨by (with_reducible repeat (first | refine blk_drewN ?_ _ | refine blk_drew ?_ | refine blk_alloc ?_ _)); refine blk_put (cs := #[.int .i64 t397, .int .i64 0]) ?_ 1 _ (by first | rfl | (subst_vars; rfl)); (with_reducible repeat (first | refine blk_drewN ?_ _ | refine blk_drew ?_ | refine blk_alloc ?_ _)); refine blk_put (cs := #[.int .i64 0, .int .i64 0]) ?_ 0 _ (by first | rfl | (subst_vars; rfl)); (with_reducible repeat (first | refine blk_drewN ?_ _ | refine blk_drew ?_ | refine blk_alloc ?_ _)); exact BK399.out⟩
        have n5_ : Aside0 (Below w.heap.size w ((w24.setCell ⟨gb399, 0, none⟩ (.int .i64 t397)).setCell ⟨gb399, 1, none⟩ (.int .i64 t398))) := bpk HB
        (try clear BK391)
        (try clear BK392)
        (try clear BK393)
        (try clear BK396)
        (try clear BK399)
        (try clear HB)
        generalize ((w24.setCell ⟨gb399, 0, none⟩ (.int .i64 t397)).setCell ⟨gb399, 1, none⟩ (.int .i64 t398)) = w40 at n0_ n1_ n2_ n3_ n4_ n5_ ⊢
        have BK391 := n0_
        have BK392 := n1_
        have BK393 := n2_
        have BK396 := n3_
        have BK399 := n4_
        have HB := n5_
        clear n0_ n1_ n2_ n3_ n4_ n5_
        have n0_ := Aside0.mk (blk_drew BK391.out)
        have n1_ := Aside0.mk (blk_drew BK392.out)
        have n2_ := Aside0.mk (blk_drew BK393.out)
        have n3_ := Aside0.mk (blk_drew BK396.out)
        have n4_ := Aside0.mk (blk_drew BK399.out)
        have n5_ := Aside0.mk (below_drew1 HB.out)
        clear BK391
        clear BK392
        clear BK393
        clear BK396
        clear BK399
        clear HB
        have BK391 := n0_
        have BK392 := n1_
        have BK393 := n2_
        have BK396 := n3_
        have BK399 := n4_
        have HB := n5_
        clear n0_ n1_ n2_ n3_ n4_ n5_
        refine start_ (n := 36) (S := fun w' => w'.cell? ⟨gb391, 0, none⟩ = some (.int .i64 a0_0) ∧ w'.cell? ⟨gb391, 1, none⟩ = some (.int .i64 a0_1) ∧ w'.cell? ⟨gb396, 0, none⟩ = some (.int .i64 t394) ∧ w'.cell? ⟨gb396, 1, none⟩ = some (.int .i64 t395) ∧ w'.cell? ⟨gb392, 0, none⟩ = some (.int .i64 a1_0) ∧ w'.cell? ⟨gb392, 1, none⟩ = some (.int .i64 a1_1) ∧ w'.cell? ⟨gb399, 0, none⟩ = some (.int .i64 t397) ∧ w'.cell? ⟨gb399, 1, none⟩ = some (.int .i64 t398)) (ds := []) #[false, false, false, false, false, false, false, false, false, false, false, false, false, false, false, false, false, false, false, false, false, false, false, false, false, false, false, false, false, false, false, false, false, false, false, false] (by kernel_rfl) rfl rfl ⟨hcz BK391 0, hcz BK391 1, hcz BK396 0, hcz BK396 1, hcz BK392 0, hcz BK392 1, hcz BK399 0, hcz BK399 1⟩ (fun hHeld => ?_); refine with_tabW gimballaw02_ItvLattice.tab3 gimballaw02_ItvLattice.bits3 (fun HT_ HW_ => ?_)
        generalize w40.drew = w41 at BK391 BK392 BK393 BK396 BK399 HB hHeld ⊢
        refine takeQ 0 15 HT_.out HW_.out hHeld ?_
        refine takeQ 1 16 HT_.out HW_.out hHeld ?_
        refine oneQ 2 17 HT_.out (fun K hK => ?_)
        refine goesQ Try.func24 #[.agg #[.int .i64 a0_0, .int .i64 a0_1], .agg #[.int .i64 t394, .int .i64 t395]] ?_
        with_reducible refine (itv_Leq.calls a0_0 a0_1 t394 t395 true _ A30.out).mono ?_
        rintro e w42 ⟨rfl, hb⟩
        refine ⟨_, rfl, ?_⟩
        have n0_ := bst HB hb
        replace BK391 := bbw BK391 hb
        replace BK392 := bbw BK392 hb
        replace BK393 := bbw BK393 hb
        replace BK396 := bbw BK396 hb
        replace BK399 := bbw BK399 hb
        clear HB
        have HB := n0_
        clear n0_
        (try clear hb)
        (try clear hb2)
        (try clear hk)
        (try clear hi)
        refine hK.out _ _ ⟨hcz BK391 0, hcz BK391 1, hcz BK396 0, hcz BK396 1, hcz BK392 0, hcz BK392 1, hcz BK399 0, hcz BK399 1⟩ (fun hHeld => ?_)
        clear hK K
        refine normQ (N := 17) ?_
        refine pureQ 3 18 HT_.out ?_
        refine pureQ 4 19 HT_.out ?_
        refine takeQ 5 20 HT_.out HW_.out hHeld ?_
        refine takeQ 6 21 HT_.out HW_.out hHeld ?_
        refine oneQ 7 22 HT_.out (fun K hK => ?_)
        refine goesQ Try.func24 #[.agg #[.int .i64 a1_0, .int .i64 a1_1], .agg #[.int .i64 t394, .int .i64 t395]] ?_
        with_reducible refine (itv_Leq.calls a1_0 a1_1 t394 t395 true _ A32.out).mono ?_
        rintro e w43 ⟨rfl, hb⟩
        refine ⟨_, rfl, ?_⟩
        have n0_ := bst HB hb
        replace BK391 := bbw BK391 hb
        replace BK392 := bbw BK392 hb
        replace BK393 := bbw BK393 hb
        replace BK396 := bbw BK396 hb
        replace BK399 := bbw BK399 hb
        clear HB
        have HB := n0_
        clear n0_
        (try clear hb)
        (try clear hb2)
        (try clear hk)
        (try clear hi)
        refine hK.out _ _ ⟨hcz BK391 0, hcz BK391 1, hcz BK396 0, hcz BK396 1, hcz BK392 0, hcz BK392 1, hcz BK399 0, hcz BK399 1⟩ (fun hHeld => ?_)
        clear hK K
        refine normQ (N := 22) ?_
        refine pureQ 8 23 HT_.out ?_
        refine pureQ 9 24 HT_.out ?_
        refine pureQ 10 25 HT_.out ?_
        refine takeQ 11 26 HT_.out HW_.out hHeld ?_
        refine takeQ 12 27 HT_.out HW_.out hHeld ?_
        refine oneQ 13 28 HT_.out (fun K hK => ?_)
        refine goesQ Try.func24 #[.agg #[.int .i64 t397, .int .i64 t398], .agg #[.int .i64 a0_0, .int .i64 a0_1]] ?_
        with_reducible refine (itv_Leq.calls t397 t398 a0_0 a0_1 true _ A34.out).mono ?_
        rintro e w44 ⟨rfl, hb⟩
        refine ⟨_, rfl, ?_⟩
        have n0_ := bst HB hb
        replace BK391 := bbw BK391 hb
        replace BK392 := bbw BK392 hb
        replace BK393 := bbw BK393 hb
        replace BK396 := bbw BK396 hb
        replace BK399 := bbw BK399 hb
        clear HB
        have HB := n0_
        clear n0_
        (try clear hb)
        (try clear hb2)
        (try clear hk)
        (try clear hi)
        refine hK.out _ _ ⟨hcz BK391 0, hcz BK391 1, hcz BK396 0, hcz BK396 1, hcz BK392 0, hcz BK392 1, hcz BK399 0, hcz BK399 1⟩ (fun hHeld => ?_)
        clear hK K
        refine normQ (N := 28) ?_
        refine pureQ 14 29 HT_.out ?_
        refine pureQ 15 30 HT_.out ?_
        refine pureQ 16 31 HT_.out ?_
        refine takeQ 17 32 HT_.out HW_.out hHeld ?_
        refine takeQ 18 33 HT_.out HW_.out hHeld ?_
        refine oneQ 19 34 HT_.out (fun K hK => ?_)
        refine goesQ Try.func24 #[.agg #[.int .i64 t397, .int .i64 t398], .agg #[.int .i64 a1_0, .int .i64 a1_1]] ?_
        with_reducible refine (itv_Leq.calls t397 t398 a1_0 a1_1 true _ A36.out).mono ?_
        rintro e w45 ⟨rfl, hb⟩
        refine ⟨_, rfl, ?_⟩
        have n0_ := bst HB hb
        replace BK391 := bbw BK391 hb
        replace BK392 := bbw BK392 hb
        replace BK393 := bbw BK393 hb
        replace BK396 := bbw BK396 hb
        replace BK399 := bbw BK399 hb
        clear HB
        have HB := n0_
        clear n0_
        (try clear hb)
        (try clear hb2)
        (try clear hk)
        (try clear hi)
        refine hK.out _ _ ⟨hcz BK391 0, hcz BK391 1, hcz BK396 0, hcz BK396 1, hcz BK392 0, hcz BK392 1, hcz BK399 0, hcz BK399 1⟩ (fun hHeld => ?_)
        clear hK K
        refine normQ (N := 34) ?_
        refine pureQ 20 35 HT_.out ?_
        refine pureQ 21 36 HT_.out ?_
        refine pureQ 22 37 HT_.out ?_
        refine takeQ 23 38 HT_.out HW_.out hHeld ?_
        refine takeQ 24 39 HT_.out HW_.out hHeld ?_
        refine takeQ 25 40 HT_.out HW_.out hHeld ?_
        refine oneQ 26 41 HT_.out (fun K hK => ?_)
        refine goesQ Try.func26 #[.agg #[.int .i64 a1_0, .int .i64 a1_1], .agg #[.int .i64 a0_0, .int .i64 a0_1]] ?_
        with_reducible refine (itv_Join.calls a1_0 a1_1 a0_0 a0_1 t404 t405 _ A38.out).mono ?_
        rintro e w46 ⟨rfl, hb⟩
        refine ⟨_, rfl, ?_⟩
        have n0_ := bst HB hb
        replace BK391 := bbw BK391 hb
        replace BK392 := bbw BK392 hb
        replace BK393 := bbw BK393 hb
        replace BK396 := bbw BK396 hb
        replace BK399 := bbw BK399 hb
        clear HB
        have HB := n0_
        clear n0_
        (try clear hb)
        (try clear hb2)
        (try clear hk)
        (try clear hi)
        refine hK.out _ _ ⟨hcz BK391 0, hcz BK391 1, hcz BK396 0, hcz BK396 1, hcz BK392 0, hcz BK392 1, hcz BK399 0, hcz BK399 1⟩ (fun hHeld => ?_)
        clear hK K
        refine normQ (N := 41) ?_
        refine pureQ 27 42 HT_.out ?_
        refine pureQ 28 43 HT_.out ?_
        refine pureQ 29 44 HT_.out ?_
        refine pureU 30 45 HT_.out ?_
        refine pureU 31 46 HT_.out ?_
        refine pureU 32 47 HT_.out ?_
        refine pureU 33 48 HT_.out ?_
        refine pureU 34 49 HT_.out ?_
        refine pureQ 35 50 HT_.out ?_
        refine done_ (done_of HT_.out (by kernel_rfl)) ?_
        try go_wp2
        go_meet
        case rel => exact ⟨_, (true), (by first | rfl | (simp; done) | (simp [*]; done)), H', ⟨by first | omega | exact Nat.le_refl _⟩, pkA BK391, pkA BK392, pkA BK393, pkA BK396, pkA BK399, bpk HB⟩
       ·
        rw [if_neg c39] at H
        have c39b0 : (!(t394 == t404) || (!(t395 == t405))) = false := by simpa using c39
        clear c39
        (first | rw [c39b0] | (simp only [i64_w, i32_w]; rw [c39b0]) | skip)
        replace H := Option.bind_eq_some_iff.mp H
        obtain ⟨⟨t406, t407⟩, A470, H⟩ := H
        replace H : (gimballaw02_ItvLattice.j0 k (!(t397 == t406) || (!(t398 == t407))) a0_0 a0_1 a1_0 a1_1 a2_0 a2_1 t394 t395 t397 t398) = some true := H
        have A47 := Aside0.mk A470
        clear A470
        have H' := Aside0.mk H
        clear H
        try go_wp2
        have n0_ : Aside0 (((w24.setCell ⟨gb399, 0, none⟩ (.int .i64 t397)).setCell ⟨gb399, 1, none⟩ (.int .i64 t398)).heap[gb391]? = some (.cells #[.int .i64 a0_0, .int .i64 a0_1] 23 (0, 0))) := far2 BK391 NB391_399
        have n1_ : Aside0 (((w24.setCell ⟨gb399, 0, none⟩ (.int .i64 t397)).setCell ⟨gb399, 1, none⟩ (.int .i64 t398)).heap[gb392]? = some (.cells #[.int .i64 a1_0, .int .i64 a1_1] 23 (0, 0))) := far2 BK392 NB392_399
        have n2_ : Aside0 (((w24.setCell ⟨gb399, 0, none⟩ (.int .i64 t397)).setCell ⟨gb399, 1, none⟩ (.int .i64 t398)).heap[gb393]? = some (.cells #[.int .i64 a2_0, .int .i64 a2_1] 23 (0, 0))) := far2 BK393 NB393_399
        have n3_ : Aside0 (((w24.setCell ⟨gb399, 0, none⟩ (.int .i64 t397)).setCell ⟨gb399, 1, none⟩ (.int .i64 t398)).heap[gb396]? = some (.cells #[.int .i64 t394, .int .i64 t395] 23 (0, 0))) := far2 BK396 NB396_399
        have n4_ : Aside0 (((w24.setCell ⟨gb399, 0, none⟩ (.int .i64 t397)).setCell ⟨gb399, 1, none⟩ (.int .i64 t398)).heap[gb399]? = some (.cells #[.int .i64 t397, .int .i64 t398] 23 (0, 0))) := ⟨by (with_reducible repeat (first | refine blk_drewN ?_ _ | refine blk_drew ?_ | refine blk_alloc ?_ _)); refine blk_put (cs := #[.int .i64 t397, .int .i64 0]) ?_ 1 _ (by first | rfl | (subst_vars; rfl)); (with_reducible repeat (first | refine blk_drewN ?_ _ | refine blk_drew ?_ | refine blk_alloc ?_ _)); refine blk_put (cs := #[.int .i64 0, .int .i64 0]) ?_ 0 _ (by first | rfl | (subst_vars; rfl)); (with_reducible repeat (first | refine blk_drewN ?_ _ | refine blk_drew ?_ | refine blk_alloc ?_ _)); exact BK399.out⟩
        have n5_ : Aside0 (Below w.heap.size w ((w24.setCell ⟨gb399, 0, none⟩ (.int .i64 t397)).setCell ⟨gb399, 1, none⟩ (.int .i64 t398))) := bpk HB
        (try clear BK391)
        (try clear BK392)
        (try clear BK393)
        (try clear BK396)
        (try clear BK399)
        (try clear HB)
        generalize ((w24.setCell ⟨gb399, 0, none⟩ (.int .i64 t397)).setCell ⟨gb399, 1, none⟩ (.int .i64 t398)) = w48 at n0_ n1_ n2_ n3_ n4_ n5_ ⊢
        have BK391 := n0_
        have BK392 := n1_
        have BK393 := n2_
        have BK396 := n3_
        have BK399 := n4_
        have HB := n5_
        clear n0_ n1_ n2_ n3_ n4_ n5_
        have n0_ := Aside0.mk (blk_drew BK391.out)
        have n1_ := Aside0.mk (blk_drew BK392.out)
        have n2_ := Aside0.mk (blk_drew BK393.out)
        have n3_ := Aside0.mk (blk_drew BK396.out)
        have n4_ := Aside0.mk (blk_drew BK399.out)
        have n5_ := Aside0.mk (below_drew1 HB.out)
        clear BK391
        clear BK392
        clear BK393
        clear BK396
        clear BK399
        clear HB
        have BK391 := n0_
        have BK392 := n1_
        have BK393 := n2_
        have BK396 := n3_
        have BK399 := n4_
        have HB := n5_
        clear n0_ n1_ n2_ n3_ n4_ n5_
        refine start_ (n := 36) (S := fun w' => w'.cell? ⟨gb391, 0, none⟩ = some (.int .i64 a0_0) ∧ w'.cell? ⟨gb391, 1, none⟩ = some (.int .i64 a0_1) ∧ w'.cell? ⟨gb396, 0, none⟩ = some (.int .i64 t394) ∧ w'.cell? ⟨gb396, 1, none⟩ = some (.int .i64 t395) ∧ w'.cell? ⟨gb392, 0, none⟩ = some (.int .i64 a1_0) ∧ w'.cell? ⟨gb392, 1, none⟩ = some (.int .i64 a1_1) ∧ w'.cell? ⟨gb399, 0, none⟩ = some (.int .i64 t397) ∧ w'.cell? ⟨gb399, 1, none⟩ = some (.int .i64 t398)) (ds := []) #[false, false, false, false, false, false, false, false, false, false, false, false, false, false, false, false, false, false, false, false, false, false, false, false, false, false, false, false, false, false, false, false, false, false, false, false] (by kernel_rfl) rfl rfl ⟨hcz BK391 0, hcz BK391 1, hcz BK396 0, hcz BK396 1, hcz BK392 0, hcz BK392 1, hcz BK399 0, hcz BK399 1⟩ (fun hHeld => ?_); refine with_tabW gimballaw02_ItvLattice.tab3 gimballaw02_ItvLattice.bits3 (fun HT_ HW_ => ?_)
        generalize w48.drew = w49 at BK391 BK392 BK393 BK396 BK399 HB hHeld ⊢
        refine takeQ 0 15 HT_.out HW_.out hHeld ?_
        refine takeQ 1 16 HT_.out HW_.out hHeld ?_
        refine oneQ 2 17 HT_.out (fun K hK => ?_)
        refine goesQ Try.func24 #[.agg #[.int .i64 a0_0, .int .i64 a0_1], .agg #[.int .i64 t394, .int .i64 t395]] ?_
        with_reducible refine (itv_Leq.calls a0_0 a0_1 t394 t395 true _ A30.out).mono ?_
        rintro e w50 ⟨rfl, hb⟩
        refine ⟨_, rfl, ?_⟩
        have n0_ := bst HB hb
        replace BK391 := bbw BK391 hb
        replace BK392 := bbw BK392 hb
        replace BK393 := bbw BK393 hb
        replace BK396 := bbw BK396 hb
        replace BK399 := bbw BK399 hb
        clear HB
        have HB := n0_
        clear n0_
        (try clear hb)
        (try clear hb2)
        (try clear hk)
        (try clear hi)
        refine hK.out _ _ ⟨hcz BK391 0, hcz BK391 1, hcz BK396 0, hcz BK396 1, hcz BK392 0, hcz BK392 1, hcz BK399 0, hcz BK399 1⟩ (fun hHeld => ?_)
        clear hK K
        refine normQ (N := 17) ?_
        refine pureQ 3 18 HT_.out ?_
        refine pureQ 4 19 HT_.out ?_
        refine takeQ 5 20 HT_.out HW_.out hHeld ?_
        refine takeQ 6 21 HT_.out HW_.out hHeld ?_
        refine oneQ 7 22 HT_.out (fun K hK => ?_)
        refine goesQ Try.func24 #[.agg #[.int .i64 a1_0, .int .i64 a1_1], .agg #[.int .i64 t394, .int .i64 t395]] ?_
        with_reducible refine (itv_Leq.calls a1_0 a1_1 t394 t395 true _ A32.out).mono ?_
        rintro e w51 ⟨rfl, hb⟩
        refine ⟨_, rfl, ?_⟩
        have n0_ := bst HB hb
        replace BK391 := bbw BK391 hb
        replace BK392 := bbw BK392 hb
        replace BK393 := bbw BK393 hb
        replace BK396 := bbw BK396 hb
        replace BK399 := bbw BK399 hb
        clear HB
        have HB := n0_
        clear n0_
        (try clear hb)
        (try clear hb2)
        (try clear hk)
        (try clear hi)
        refine hK.out _ _ ⟨hcz BK391 0, hcz BK391 1, hcz BK396 0, hcz BK396 1, hcz BK392 0, hcz BK392 1, hcz BK399 0, hcz BK399 1⟩ (fun hHeld => ?_)
        clear hK K
        refine normQ (N := 22) ?_
        refine pureQ 8 23 HT_.out ?_
        refine pureQ 9 24 HT_.out ?_
        refine pureQ 10 25 HT_.out ?_
        refine takeQ 11 26 HT_.out HW_.out hHeld ?_
        refine takeQ 12 27 HT_.out HW_.out hHeld ?_
        refine oneQ 13 28 HT_.out (fun K hK => ?_)
        refine goesQ Try.func24 #[.agg #[.int .i64 t397, .int .i64 t398], .agg #[.int .i64 a0_0, .int .i64 a0_1]] ?_
        with_reducible refine (itv_Leq.calls t397 t398 a0_0 a0_1 true _ A34.out).mono ?_
        rintro e w52 ⟨rfl, hb⟩
        refine ⟨_, rfl, ?_⟩
        have n0_ := bst HB hb
        replace BK391 := bbw BK391 hb
        replace BK392 := bbw BK392 hb
        replace BK393 := bbw BK393 hb
        replace BK396 := bbw BK396 hb
        replace BK399 := bbw BK399 hb
        clear HB
        have HB := n0_
        clear n0_
        (try clear hb)
        (try clear hb2)
        (try clear hk)
        (try clear hi)
        refine hK.out _ _ ⟨hcz BK391 0, hcz BK391 1, hcz BK396 0, hcz BK396 1, hcz BK392 0, hcz BK392 1, hcz BK399 0, hcz BK399 1⟩ (fun hHeld => ?_)
        clear hK K
        refine normQ (N := 28) ?_
        refine pureQ 14 29 HT_.out ?_
        refine pureQ 15 30 HT_.out ?_
        refine pureQ 16 31 HT_.out ?_
        refine takeQ 17 32 HT_.out HW_.out hHeld ?_
        refine takeQ 18 33 HT_.out HW_.out hHeld ?_
        refine oneQ 19 34 HT_.out (fun K hK => ?_)
        refine goesQ Try.func24 #[.agg #[.int .i64 t397, .int .i64 t398], .agg #[.int .i64 a1_0, .int .i64 a1_1]] ?_
        with_reducible refine (itv_Leq.calls t397 t398 a1_0 a1_1 true _ A36.out).mono ?_
        rintro e w53 ⟨rfl, hb⟩
        refine ⟨_, rfl, ?_⟩
        have n0_ := bst HB hb
        replace BK391 := bbw BK391 hb
        replace BK392 := bbw BK392 hb
        replace BK393 := bbw BK393 hb
        replace BK396 := bbw BK396 hb
        replace BK399 := bbw BK399 hb
        clear HB
        have HB := n0_
        clear n0_
        (try clear hb)
        (try clear hb2)
        (try clear hk)
        (try clear hi)
        refine hK.out _ _ ⟨hcz BK391 0, hcz BK391 1, hcz BK396 0, hcz BK396 1, hcz BK392 0, hcz BK392 1, hcz BK399 0, hcz BK399 1⟩ (fun hHeld => ?_)
        clear hK K
        refine normQ (N := 34) ?_
        refine pureQ 20 35 HT_.out ?_
        refine pureQ 21 36 HT_.out ?_
        refine pureQ 22 37 HT_.out ?_
        refine takeQ 23 38 HT_.out HW_.out hHeld ?_
        refine takeQ 24 39 HT_.out HW_.out hHeld ?_
        refine takeQ 25 40 HT_.out HW_.out hHeld ?_
        refine oneQ 26 41 HT_.out (fun K hK => ?_)
        refine goesQ Try.func26 #[.agg #[.int .i64 a1_0, .int .i64 a1_1], .agg #[.int .i64 a0_0, .int .i64 a0_1]] ?_
        with_reducible refine (itv_Join.calls a1_0 a1_1 a0_0 a0_1 t404 t405 _ A38.out).mono ?_
        rintro e w54 ⟨rfl, hb⟩
        refine ⟨_, rfl, ?_⟩
        have n0_ := bst HB hb
        replace BK391 := bbw BK391 hb
        replace BK392 := bbw BK392 hb
        replace BK393 := bbw BK393 hb
        replace BK396 := bbw BK396 hb
        replace BK399 := bbw BK399 hb
        clear HB
        have HB := n0_
        clear n0_
        (try clear hb)
        (try clear hb2)
        (try clear hk)
        (try clear hi)
        refine hK.out _ _ ⟨hcz BK391 0, hcz BK391 1, hcz BK396 0, hcz BK396 1, hcz BK392 0, hcz BK392 1, hcz BK399 0, hcz BK399 1⟩ (fun hHeld => ?_)
        clear hK K
        refine normQ (N := 41) ?_
        refine pureQ 27 42 HT_.out ?_
        refine pureQ 28 43 HT_.out ?_
        refine pureQ 29 44 HT_.out ?_
        refine takeQ 30 45 HT_.out HW_.out hHeld ?_
        refine takeQ 31 46 HT_.out HW_.out hHeld ?_
        refine takeQ 32 47 HT_.out HW_.out hHeld ?_
        refine oneQ 33 48 HT_.out (fun K hK => ?_)
        refine goesQ Try.func28 #[.agg #[.int .i64 a1_0, .int .i64 a1_1], .agg #[.int .i64 a0_0, .int .i64 a0_1]] ?_
        with_reducible refine (itv_Meet.calls k a1_0 a1_1 a0_0 a0_1 t406 t407 _ A47.out).mono ?_
        rintro e w55 ⟨rfl, hb⟩
        refine ⟨_, rfl, ?_⟩
        have n0_ := bst HB hb
        replace BK391 := bbw BK391 hb
        replace BK392 := bbw BK392 hb
        replace BK393 := bbw BK393 hb
        replace BK396 := bbw BK396 hb
        replace BK399 := bbw BK399 hb
        clear HB
        have HB := n0_
        clear n0_
        (try clear hb)
        (try clear hb2)
        (try clear hk)
        (try clear hi)
        refine hK.out _ _ ⟨hcz BK391 0, hcz BK391 1, hcz BK396 0, hcz BK396 1, hcz BK392 0, hcz BK392 1, hcz BK399 0, hcz BK399 1⟩ (fun hHeld => ?_)
        clear hK K
        refine normQ (N := 48) ?_
        refine pureQ 34 49 HT_.out ?_
        refine pureQ 35 50 HT_.out ?_
        refine done_ (done_of HT_.out (by kernel_rfl)) ?_
        try go_wp2
        go_meet
        case rel => exact ⟨_, ((!(t397 == t406) || (!(t398 == t407)))), (by first | rfl | (simp; done) | (simp [*]; done)), H', ⟨by first | omega | exact Nat.le_refl _⟩, pkA BK391, pkA BK392, pkA BK393, pkA BK396, pkA BK399, bpk HB⟩
      ·
       replace c37 := Bool.eq_false_iff.mpr c37
       subst c37
       have H1 : (gimballaw02_ItvLattice.j0 k true a0_0 a0_1 a1_0 a1_1 a2_0 a2_1 t394 t395 t397 t398) = some true := by rw [if_neg (show ¬ (false = true) by decide)] at H; exact H
       clear H
       have H := H1
       clear H1
       have H' := Aside0.mk H
       clear H
       try go_wp2
       have n0_ : Aside0 (((w24.setCell ⟨gb399, 0, none⟩ (.int .i64 t397)).setCell ⟨gb399, 1, none⟩ (.int .i64 t398)).heap[gb391]? = some (.cells #[.int .i64 a0_0, .int .i64 a0_1] 23 (0, 0))) := far2 BK391 NB391_399
       have n1_ : Aside0 (((w24.setCell ⟨gb399, 0, none⟩ (.int .i64 t397)).setCell ⟨gb399, 1, none⟩ (.int .i64 t398)).heap[gb392]? = some (.cells #[.int .i64 a1_0, .int .i64 a1_1] 23 (0, 0))) := far2 BK392 NB392_399
       have n2_ : Aside0 (((w24.setCell ⟨gb399, 0, none⟩ (.int .i64 t397)).setCell ⟨gb399, 1, none⟩ (.int .i64 t398)).heap[gb393]? = some (.cells #[.int .i64 a2_0, .int .i64 a2_1] 23 (0, 0))) := far2 BK393 NB393_399
       have n3_ : Aside0 (((w24.setCell ⟨gb399, 0, none⟩ (.int .i64 t397)).setCell ⟨gb399, 1, none⟩ (.int .i64 t398)).heap[gb396]? = some (.cells #[.int .i64 t394, .int .i64 t395] 23 (0, 0))) := far2 BK396 NB396_399
       have n4_ : Aside0 (((w24.setCell ⟨gb399, 0, none⟩ (.int .i64 t397)).setCell ⟨gb399, 1, none⟩ (.int .i64 t398)).heap[gb399]? = some (.cells #[.int .i64 t397, .int .i64 t398] 23 (0, 0))) := ⟨by (with_reducible repeat (first | refine blk_drewN ?_ _ | refine blk_drew ?_ | refine blk_alloc ?_ _)); refine blk_put (cs := #[.int .i64 t397, .int .i64 0]) ?_ 1 _ (by first | rfl | (subst_vars; rfl)); (with_reducible repeat (first | refine blk_drewN ?_ _ | refine blk_drew ?_ | refine blk_alloc ?_ _)); refine blk_put (cs := #[.int .i64 0, .int .i64 0]) ?_ 0 _ (by first | rfl | (subst_vars; rfl)); (with_reducible repeat (first | refine blk_drewN ?_ _ | refine blk_drew ?_ | refine blk_alloc ?_ _)); exact BK399.out⟩
       have n5_ : Aside0 (Below w.heap.size w ((w24.setCell ⟨gb399, 0, none⟩ (.int .i64 t397)).setCell ⟨gb399, 1, none⟩ (.int .i64 t398))) := bpk HB
       (try clear BK391)
       (try clear BK392)
       (try clear BK393)
       (try clear BK396)
       (try clear BK399)
       (try clear HB)
       generalize ((w24.setCell ⟨gb399, 0, none⟩ (.int .i64 t397)).setCell ⟨gb399, 1, none⟩ (.int .i64 t398)) = w56 at n0_ n1_ n2_ n3_ n4_ n5_ ⊢
       have BK391 := n0_
       have BK392 := n1_
       have BK393 := n2_
       have BK396 := n3_
       have BK399 := n4_
       have HB := n5_
       clear n0_ n1_ n2_ n3_ n4_ n5_
       have n0_ := Aside0.mk (blk_drew BK391.out)
       have n1_ := Aside0.mk (blk_drew BK392.out)
       have n2_ := Aside0.mk (blk_drew BK393.out)
       have n3_ := Aside0.mk (blk_drew BK396.out)
       have n4_ := Aside0.mk (blk_drew BK399.out)
       have n5_ := Aside0.mk (below_drew1 HB.out)
       clear BK391
       clear BK392
       clear BK393
       clear BK396
       clear BK399
       clear HB
       have BK391 := n0_
       have BK392 := n1_
       have BK393 := n2_
       have BK396 := n3_
       have BK399 := n4_
       have HB := n5_
       clear n0_ n1_ n2_ n3_ n4_ n5_
       refine start_ (n := 36) (S := fun w' => w'.cell? ⟨gb391, 0, none⟩ = some (.int .i64 a0_0) ∧ w'.cell? ⟨gb391, 1, none⟩ = some (.int .i64 a0_1) ∧ w'.cell? ⟨gb396, 0, none⟩ = some (.int .i64 t394) ∧ w'.cell? ⟨gb396, 1, none⟩ = some (.int .i64 t395) ∧ w'.cell? ⟨gb392, 0, none⟩ = some (.int .i64 a1_0) ∧ w'.cell? ⟨gb392, 1, none⟩ = some (.int .i64 a1_1) ∧ w'.cell? ⟨gb399, 0, none⟩ = some (.int .i64 t397) ∧ w'.cell? ⟨gb399, 1, none⟩ = some (.int .i64 t398)) (ds := []) #[false, false, false, false, false, false, false, false, false, false, false, false, false, false, false, false, false, false, false, false, false, false, false, false, false, false, false, false, false, false, false, false, false, false, false, false] (by kernel_rfl) rfl rfl ⟨hcz BK391 0, hcz BK391 1, hcz BK396 0, hcz BK396 1, hcz BK392 0, hcz BK392 1, hcz BK399 0, hcz BK399 1⟩ (fun hHeld => ?_); refine with_tabW gimballaw02_ItvLattice.tab3 gimballaw02_ItvLattice.bits3 (fun HT_ HW_ => ?_)
       generalize w56.drew = w57 at BK391 BK392 BK393 BK396 BK399 HB hHeld ⊢
       refine takeQ 0 15 HT_.out HW_.out hHeld ?_
       refine takeQ 1 16 HT_.out HW_.out hHeld ?_
       refine oneQ 2 17 HT_.out (fun K hK => ?_)
       refine goesQ Try.func24 #[.agg #[.int .i64 a0_0, .int .i64 a0_1], .agg #[.int .i64 t394, .int .i64 t395]] ?_
       with_reducible refine (itv_Leq.calls a0_0 a0_1 t394 t395 true _ A30.out).mono ?_
       rintro e w58 ⟨rfl, hb⟩
       refine ⟨_, rfl, ?_⟩
       have n0_ := bst HB hb
       replace BK391 := bbw BK391 hb
       replace BK392 := bbw BK392 hb
       replace BK393 := bbw BK393 hb
       replace BK396 := bbw BK396 hb
       replace BK399 := bbw BK399 hb
       clear HB
       have HB := n0_
       clear n0_
       (try clear hb)
       (try clear hb2)
       (try clear hk)
       (try clear hi)
       refine hK.out _ _ ⟨hcz BK391 0, hcz BK391 1, hcz BK396 0, hcz BK396 1, hcz BK392 0, hcz BK392 1, hcz BK399 0, hcz BK399 1⟩ (fun hHeld => ?_)
       clear hK K
       refine normQ (N := 17) ?_
       refine pureQ 3 18 HT_.out ?_
       refine pureQ 4 19 HT_.out ?_
       refine takeQ 5 20 HT_.out HW_.out hHeld ?_
       refine takeQ 6 21 HT_.out HW_.out hHeld ?_
       refine oneQ 7 22 HT_.out (fun K hK => ?_)
       refine goesQ Try.func24 #[.agg #[.int .i64 a1_0, .int .i64 a1_1], .agg #[.int .i64 t394, .int .i64 t395]] ?_
       with_reducible refine (itv_Leq.calls a1_0 a1_1 t394 t395 true _ A32.out).mono ?_
       rintro e w59 ⟨rfl, hb⟩
       refine ⟨_, rfl, ?_⟩
       have n0_ := bst HB hb
       replace BK391 := bbw BK391 hb
       replace BK392 := bbw BK392 hb
       replace BK393 := bbw BK393 hb
       replace BK396 := bbw BK396 hb
       replace BK399 := bbw BK399 hb
       clear HB
       have HB := n0_
       clear n0_
       (try clear hb)
       (try clear hb2)
       (try clear hk)
       (try clear hi)
       refine hK.out _ _ ⟨hcz BK391 0, hcz BK391 1, hcz BK396 0, hcz BK396 1, hcz BK392 0, hcz BK392 1, hcz BK399 0, hcz BK399 1⟩ (fun hHeld => ?_)
       clear hK K
       refine normQ (N := 22) ?_
       refine pureQ 8 23 HT_.out ?_
       refine pureQ 9 24 HT_.out ?_
       refine pureQ 10 25 HT_.out ?_
       refine takeQ 11 26 HT_.out HW_.out hHeld ?_
       refine takeQ 12 27 HT_.out HW_.out hHeld ?_
       refine oneQ 13 28 HT_.out (fun K hK => ?_)
       refine goesQ Try.func24 #[.agg #[.int .i64 t397, .int .i64 t398], .agg #[.int .i64 a0_0, .int .i64 a0_1]] ?_
       with_reducible refine (itv_Leq.calls t397 t398 a0_0 a0_1 true _ A34.out).mono ?_
       rintro e w60 ⟨rfl, hb⟩
       refine ⟨_, rfl, ?_⟩
       have n0_ := bst HB hb
       replace BK391 := bbw BK391 hb
       replace BK392 := bbw BK392 hb
       replace BK393 := bbw BK393 hb
       replace BK396 := bbw BK396 hb
       replace BK399 := bbw BK399 hb
       clear HB
       have HB := n0_
       clear n0_
       (try clear hb)
       (try clear hb2)
       (try clear hk)
       (try clear hi)
       refine hK.out _ _ ⟨hcz BK391 0, hcz BK391 1, hcz BK396 0, hcz BK396 1, hcz BK392 0, hcz BK392 1, hcz BK399 0, hcz BK399 1⟩ (fun hHeld => ?_)
       clear hK K
       refine normQ (N := 28) ?_
       refine pureQ 14 29 HT_.out ?_
       refine pureQ 15 30 HT_.out ?_
       refine pureQ 16 31 HT_.out ?_
       refine takeQ 17 32 HT_.out HW_.out hHeld ?_
       refine takeQ 18 33 HT_.out HW_.out hHeld ?_
       refine oneQ 19 34 HT_.out (fun K hK => ?_)
       refine goesQ Try.func24 #[.agg #[.int .i64 t397, .int .i64 t398], .agg #[.int .i64 a1_0, .int .i64 a1_1]] ?_
       with_reducible refine (itv_Leq.calls t397 t398 a1_0 a1_1 false _ A36.out).mono ?_
       rintro e w61 ⟨rfl, hb⟩
       refine ⟨_, rfl, ?_⟩
       have n0_ := bst HB hb
       replace BK391 := bbw BK391 hb
       replace BK392 := bbw BK392 hb
       replace BK393 := bbw BK393 hb
       replace BK396 := bbw BK396 hb
       replace BK399 := bbw BK399 hb
       clear HB
       have HB := n0_
       clear n0_
       (try clear hb)
       (try clear hb2)
       (try clear hk)
       (try clear hi)
       refine hK.out _ _ ⟨hcz BK391 0, hcz BK391 1, hcz BK396 0, hcz BK396 1, hcz BK392 0, hcz BK392 1, hcz BK399 0, hcz BK399 1⟩ (fun hHeld => ?_)
       clear hK K
       refine normQ (N := 34) ?_
       refine pureQ 20 35 HT_.out ?_
       refine pureQ 21 36 HT_.out ?_
       refine pureQ 22 37 HT_.out ?_
       refine pureU 23 38 HT_.out ?_
       refine pureU 24 39 HT_.out ?_
       refine pureU 25 40 HT_.out ?_
       refine pureU 26 41 HT_.out ?_
       refine pureU 27 42 HT_.out ?_
       refine pureQ 28 43 HT_.out ?_
       refine pureQ 29 44 HT_.out ?_
       refine pureU 30 45 HT_.out ?_
       refine pureU 31 46 HT_.out ?_
       refine pureU 32 47 HT_.out ?_
       refine pureU 33 48 HT_.out ?_
       refine pureU 34 49 HT_.out ?_
       refine pureQ 35 50 HT_.out ?_
       refine done_ (done_of HT_.out (by kernel_rfl)) ?_
       try go_wp2
       go_meet
       case rel => exact ⟨_, (true), (by first | rfl | (simp; done) | (simp [*]; done)), H', ⟨by first | omega | exact Nat.le_refl _⟩, pkA BK391, pkA BK392, pkA BK393, pkA BK396, pkA BK399, bpk HB⟩
     ·
      replace c35 := Bool.eq_false_iff.mpr c35
      subst c35
      have H1 : (gimballaw02_ItvLattice.j0 k true a0_0 a0_1 a1_0 a1_1 a2_0 a2_1 t394 t395 t397 t398) = some true := by rw [if_neg (show ¬ (false = true) by decide)] at H; exact H
      clear H
      have H := H1
      clear H1
      have H' := Aside0.mk H
      clear H
      try go_wp2
      have n0_ : Aside0 (((w24.setCell ⟨gb399, 0, none⟩ (.int .i64 t397)).setCell ⟨gb399, 1, none⟩ (.int .i64 t398)).heap[gb391]? = some (.cells #[.int .i64 a0_0, .int .i64 a0_1] 23 (0, 0))) := far2 BK391 NB391_399
      have n1_ : Aside0 (((w24.setCell ⟨gb399, 0, none⟩ (.int .i64 t397)).setCell ⟨gb399, 1, none⟩ (.int .i64 t398)).heap[gb392]? = some (.cells #[.int .i64 a1_0, .int .i64 a1_1] 23 (0, 0))) := far2 BK392 NB392_399
      have n2_ : Aside0 (((w24.setCell ⟨gb399, 0, none⟩ (.int .i64 t397)).setCell ⟨gb399, 1, none⟩ (.int .i64 t398)).heap[gb393]? = some (.cells #[.int .i64 a2_0, .int .i64 a2_1] 23 (0, 0))) := far2 BK393 NB393_399
      have n3_ : Aside0 (((w24.setCell ⟨gb399, 0, none⟩ (.int .i64 t397)).setCell ⟨gb399, 1, none⟩ (.int .i64 t398)).heap[gb396]? = some (.cells #[.int .i64 t394, .int .i64 t395] 23 (0, 0))) := far2 BK396 NB396_399
      have n4_ : Aside0 (((w24.setCell ⟨gb399, 0, none⟩ (.int .i64 t397)).setCell ⟨gb399, 1, none⟩ (.int .i64 t398)).heap[gb399]? = some (.cells #[.int .i64 t397, .int .i64 t398] 23 (0, 0))) := ⟨by (with_reducible repeat (first | refine blk_drewN ?_ _ | refine blk_drew ?_ | refine blk_alloc ?_ _)); refine blk_put (cs := #[.int .i64 t397, .int .i64 0]) ?_ 1 _ (by first | rfl | (subst_vars; rfl)); (with_reducible repeat (first | refine blk_drewN ?_ _ | refine blk_drew ?_ | refine blk_alloc ?_ _)); refine blk_put (cs := #[.int .i64 0, .int .i64 0]) ?_ 0 _ (by first | rfl | (subst_vars; rfl)); (with_reducible repeat (first | refine blk_drewN ?_ _ | refine blk_drew ?_ | refine blk_alloc ?_ _)); exact BK399.out⟩
      have n5_ : Aside0 (Below w.heap.size w ((w24.setCell ⟨gb399, 0, none⟩ (.int .i64 t397)).setCell ⟨gb399, 1, none⟩ (.int .i64 t398))) := bpk HB
      (try clear BK391)
      (try clear BK392)
      (try clear BK393)
      (try clear BK396)
      (try clear BK399)
      (try clear HB)
      generalize ((w24.setCell ⟨gb399, 0, none⟩ (.int .i64 t397)).setCell ⟨gb399, 1, none⟩ (.int .i64 t398)) = w62 at n0_ n1_ n2_ n3_ n4_ n5_ ⊢
      have BK391 := n0_
      have BK392 := n1_
      have BK393 := n2_
      have BK396 := n3_
      have BK399 := n4_
      have HB := n5_
      clear n0_ n1_ n2_ n3_ n4_ n5_
      have n0_ := Aside0.mk (blk_drew BK391.out)
      have n1_ := Aside0.mk (blk_drew BK392.out)
      have n2_ := Aside0.mk (blk_drew BK393.out)
      have n3_ := Aside0.mk (blk_drew BK396.out)
      have n4_ := Aside0.mk (blk_drew BK399.out)
      have n5_ := Aside0.mk (below_drew1 HB.out)
      clear BK391
      clear BK392
      clear BK393
      clear BK396
      clear BK399
      clear HB
      have BK391 := n0_
      have BK392 := n1_
      have BK393 := n2_
      have BK396 := n3_
      have BK399 := n4_
      have HB := n5_
      clear n0_ n1_ n2_ n3_ n4_ n5_
      refine start_ (n := 36) (S := fun w' => w'.cell? ⟨gb391, 0, none⟩ = some (.int .i64 a0_0) ∧ w'.cell? ⟨gb391, 1, none⟩ = some (.int .i64 a0_1) ∧ w'.cell? ⟨gb396, 0, none⟩ = some (.int .i64 t394) ∧ w'.cell? ⟨gb396, 1, none⟩ = some (.int .i64 t395) ∧ w'.cell? ⟨gb392, 0, none⟩ = some (.int .i64 a1_0) ∧ w'.cell? ⟨gb392, 1, none⟩ = some (.int .i64 a1_1) ∧ w'.cell? ⟨gb399, 0, none⟩ = some (.int .i64 t397) ∧ w'.cell? ⟨gb399, 1, none⟩ = some (.int .i64 t398)) (ds := []) #[false, false, false, false, false, false, false, false, false, false, false, false, false, false, false, false, false, false, false, false, false, false, false, false, false, false, false, false, false, false, false, false, false, false, false, false] (by kernel_rfl) rfl rfl ⟨hcz BK391 0, hcz BK391 1, hcz BK396 0, hcz BK396 1, hcz BK392 0, hcz BK392 1, hcz BK399 0, hcz BK399 1⟩ (fun hHeld => ?_); refine with_tabW gimballaw02_ItvLattice.tab3 gimballaw02_ItvLattice.bits3 (fun HT_ HW_ => ?_)
      generalize w62.drew = w63 at BK391 BK392 BK393 BK396 BK399 HB hHeld ⊢
      refine takeQ 0 15 HT_.out HW_.out hHeld ?_
      refine takeQ 1 16 HT_.out HW_.out hHeld ?_
      refine oneQ 2 17 HT_.out (fun K hK => ?_)
      refine goesQ Try.func24 #[.agg #[.int .i64 a0_0, .int .i64 a0_1], .agg #[.int .i64 t394, .int .i64 t395]] ?_
      with_reducible refine (itv_Leq.calls a0_0 a0_1 t394 t395 true _ A30.out).mono ?_
      rintro e w64 ⟨rfl, hb⟩
      refine ⟨_, rfl, ?_⟩
      have n0_ := bst HB hb
      replace BK391 := bbw BK391 hb
      replace BK392 := bbw BK392 hb
      replace BK393 := bbw BK393 hb
      replace BK396 := bbw BK396 hb
      replace BK399 := bbw BK399 hb
      clear HB
      have HB := n0_
      clear n0_
      (try clear hb)
      (try clear hb2)
      (try clear hk)
      (try clear hi)
      refine hK.out _ _ ⟨hcz BK391 0, hcz BK391 1, hcz BK396 0, hcz BK396 1, hcz BK392 0, hcz BK392 1, hcz BK399 0, hcz BK399 1⟩ (fun hHeld => ?_)
      clear hK K
      refine normQ (N := 17) ?_
      refine pureQ 3 18 HT_.out ?_
      refine pureQ 4 19 HT_.out ?_
      refine takeQ 5 20 HT_.out HW_.out hHeld ?_
      refine takeQ 6 21 HT_.out HW_.out hHeld ?_
      refine oneQ 7 22 HT_.out (fun K hK => ?_)
      refine goesQ Try.func24 #[.agg #[.int .i64 a1_0, .int .i64 a1_1], .agg #[.int .i64 t394, .int .i64 t395]] ?_
      with_reducible refine (itv_Leq.calls a1_0 a1_1 t394 t395 true _ A32.out).mono ?_
      rintro e w65 ⟨rfl, hb⟩
      refine ⟨_, rfl, ?_⟩
      have n0_ := bst HB hb
      replace BK391 := bbw BK391 hb
      replace BK392 := bbw BK392 hb
      replace BK393 := bbw BK393 hb
      replace BK396 := bbw BK396 hb
      replace BK399 := bbw BK399 hb
      clear HB
      have HB := n0_
      clear n0_
      (try clear hb)
      (try clear hb2)
      (try clear hk)
      (try clear hi)
      refine hK.out _ _ ⟨hcz BK391 0, hcz BK391 1, hcz BK396 0, hcz BK396 1, hcz BK392 0, hcz BK392 1, hcz BK399 0, hcz BK399 1⟩ (fun hHeld => ?_)
      clear hK K
      refine normQ (N := 22) ?_
      refine pureQ 8 23 HT_.out ?_
      refine pureQ 9 24 HT_.out ?_
      refine pureQ 10 25 HT_.out ?_
      refine takeQ 11 26 HT_.out HW_.out hHeld ?_
      refine takeQ 12 27 HT_.out HW_.out hHeld ?_
      refine oneQ 13 28 HT_.out (fun K hK => ?_)
      refine goesQ Try.func24 #[.agg #[.int .i64 t397, .int .i64 t398], .agg #[.int .i64 a0_0, .int .i64 a0_1]] ?_
      with_reducible refine (itv_Leq.calls t397 t398 a0_0 a0_1 false _ A34.out).mono ?_
      rintro e w66 ⟨rfl, hb⟩
      refine ⟨_, rfl, ?_⟩
      have n0_ := bst HB hb
      replace BK391 := bbw BK391 hb
      replace BK392 := bbw BK392 hb
      replace BK393 := bbw BK393 hb
      replace BK396 := bbw BK396 hb
      replace BK399 := bbw BK399 hb
      clear HB
      have HB := n0_
      clear n0_
      (try clear hb)
      (try clear hb2)
      (try clear hk)
      (try clear hi)
      refine hK.out _ _ ⟨hcz BK391 0, hcz BK391 1, hcz BK396 0, hcz BK396 1, hcz BK392 0, hcz BK392 1, hcz BK399 0, hcz BK399 1⟩ (fun hHeld => ?_)
      clear hK K
      refine normQ (N := 28) ?_
      refine pureQ 14 29 HT_.out ?_
      refine pureQ 15 30 HT_.out ?_
      refine pureQ 16 31 HT_.out ?_
      refine pureU 17 32 HT_.out ?_
      refine pureU 18 33 HT_.out ?_
      refine pureU 19 34 HT_.out ?_
      refine pureU 20 35 HT_.out ?_
      refine pureQ 21 36 HT_.out ?_
      refine pureQ 22 37 HT_.out ?_
      refine pureU 23 38 HT_.out ?_
      refine pureU 24 39 HT_.out ?_
      refine pureU 25 40 HT_.out ?_
      refine pureU 26 41 HT_.out ?_
      refine pureU 27 42 HT_.out ?_
      refine pureQ 28 43 HT_.out ?_
      refine pureQ 29 44 HT_.out ?_
      refine pureU 30 45 HT_.out ?_
      refine pureU 31 46 HT_.out ?_
      refine pureU 32 47 HT_.out ?_
      refine pureU 33 48 HT_.out ?_
      refine pureU 34 49 HT_.out ?_
      refine pureQ 35 50 HT_.out ?_
      refine done_ (done_of HT_.out (by kernel_rfl)) ?_
      try go_wp2
      go_meet
      case rel => exact ⟨_, (true), (by first | rfl | (simp; done) | (simp [*]; done)), H', ⟨by first | omega | exact Nat.le_refl _⟩, pkA BK391, pkA BK392, pkA BK393, pkA BK396, pkA BK399, bpk HB⟩
    ·
     replace c33 := Bool.eq_false_iff.mpr c33
     subst c33
     have H1 : (gimballaw02_ItvLattice.j0 k true a0_0 a0_1 a1_0 a1_1 a2_0 a2_1 t394 t395 t397 t398) = some true := by rw [if_neg (show ¬ (false = true) by decide)] at H; exact H
     clear H
     have H := H1
     clear H1
     have H' := Aside0.mk H
     clear H
     try go_wp2
     have n0_ : Aside0 (((w24.setCell ⟨gb399, 0, none⟩ (.int .i64 t397)).setCell ⟨gb399, 1, none⟩ (.int .i64 t398)).heap[gb391]? = some (.cells #[.int .i64 a0_0, .int .i64 a0_1] 23 (0, 0))) := far2 BK391 NB391_399
     have n1_ : Aside0 (((w24.setCell ⟨gb399, 0, none⟩ (.int .i64 t397)).setCell ⟨gb399, 1, none⟩ (.int .i64 t398)).heap[gb392]? = some (.cells #[.int .i64 a1_0, .int .i64 a1_1] 23 (0, 0))) := far2 BK392 NB392_399
     have n2_ : Aside0 (((w24.setCell ⟨gb399, 0, none⟩ (.int .i64 t397)).setCell ⟨gb399, 1, none⟩ (.int .i64 t398)).heap[gb393]? = some (.cells #[.int .i64 a2_0, .int .i64 a2_1] 23 (0, 0))) := far2 BK393 NB393_399
     have n3_ : Aside0 (((w24.setCell ⟨gb399, 0, none⟩ (.int .i64 t397)).setCell ⟨gb399, 1, none⟩ (.int .i64 t398)).heap[gb396]? = some (.cells #[.int .i64 t394, .int .i64 t395] 23 (0, 0))) := far2 BK396 NB396_399
     have n4_ : Aside0 (((w24.setCell ⟨gb399, 0, none⟩ (.int .i64 t397)).setCell ⟨gb399, 1, none⟩ (.int .i64 t398)).heap[gb399]? = some (.cells #[.int .i64 t397, .int .i64 t398] 23 (0, 0))) := ⟨by (with_reducible repeat (first | refine blk_drewN ?_ _ | refine blk_drew ?_ | refine blk_alloc ?_ _)); refine blk_put (cs := #[.int .i64 t397, .int .i64 0]) ?_ 1 _ (by first | rfl | (subst_vars; rfl)); (with_reducible repeat (first | refine blk_drewN ?_ _ | refine blk_drew ?_ | refine blk_alloc ?_ _)); refine blk_put (cs := #[.int .i64 0, .int .i64 0]) ?_ 0 _ (by first | rfl | (subst_vars; rfl)); (with_reducible repeat (first | refine blk_drewN ?_ _ | refine blk_drew ?_ | refine blk_alloc ?_ _)); exact BK399.out⟩
     have n5_ : Aside0 (Below w.heap.size w ((w24.setCell ⟨gb399, 0, none⟩ (.int .i64 t397)).setCell ⟨gb399, 1, none⟩ (.int .i64 t398))) := bpk HB
     (try clear BK391)
     (try clear BK392)
     (try clear BK393)
     (try clear BK396)
     (try clear BK399)
     (try clear HB)
     generalize ((w24.setCell ⟨gb399, 0, none⟩ (.int .i64 t397)).setCell ⟨gb399, 1, none⟩ (.int .i64 t398)) = w67 at n0_ n1_ n2_ n3_ n4_ n5_ ⊢
     have BK391 := n0_
     have BK392 := n1_
     have BK393 := n2_
     have BK396 := n3_
     have BK399 := n4_
     have HB := n5_
     clear n0_ n1_ n2_ n3_ n4_ n5_
     have n0_ := Aside0.mk (blk_drew BK391.out)
     have n1_ := Aside0.mk (blk_drew BK392.out)
     have n2_ := Aside0.mk (blk_drew BK393.out)
     have n3_ := Aside0.mk (blk_drew BK396.out)
     have n4_ := Aside0.mk (blk_drew BK399.out)
     have n5_ := Aside0.mk (below_drew1 HB.out)
     clear BK391
     clear BK392
     clear BK393
     clear BK396
     clear BK399
     clear HB
     have BK391 := n0_
     have BK392 := n1_
     have BK393 := n2_
     have BK396 := n3_
     have BK399 := n4_
     have HB := n5_
     clear n0_ n1_ n2_ n3_ n4_ n5_
     refine start_ (n := 36) (S := fun w' => w'.cell? ⟨gb391, 0, none⟩ = some (.int .i64 a0_0) ∧ w'.cell? ⟨gb391, 1, none⟩ = some (.int .i64 a0_1) ∧ w'.cell? ⟨gb396, 0, none⟩ = some (.int .i64 t394) ∧ w'.cell? ⟨gb396, 1, none⟩ = some (.int .i64 t395) ∧ w'.cell? ⟨gb392, 0, none⟩ = some (.int .i64 a1_0) ∧ w'.cell? ⟨gb392, 1, none⟩ = some (.int .i64 a1_1)) (ds := []) #[false, false, false, false, false, false, false, false, false, false, false, false, false, false, false, false, false, false, false, false, false, false, false, false, false, false, false, false, false, false, false, false, false, false, false, false] (by kernel_rfl) rfl rfl ⟨hcz BK391 0, hcz BK391 1, hcz BK396 0, hcz BK396 1, hcz BK392 0, hcz BK392 1⟩ (fun hHeld => ?_); refine with_tabW gimballaw02_ItvLattice.tab3 gimballaw02_ItvLattice.bits3 (fun HT_ HW_ => ?_)
     generalize w67.drew = w68 at BK391 BK392 BK393 BK396 BK399 HB hHeld ⊢
     refine takeQ 0 15 HT_.out HW_.out hHeld ?_
     refine takeQ 1 16 HT_.out HW_.out hHeld ?_
     refine oneQ 2 17 HT_.out (fun K hK => ?_)
     refine goesQ Try.func24 #[.agg #[.int .i64 a0_0, .int .i64 a0_1], .agg #[.int .i64 t394, .int .i64 t395]] ?_
     with_reducible refine (itv_Leq.calls a0_0 a0_1 t394 t395 true _ A30.out).mono ?_
     rintro e w69 ⟨rfl, hb⟩
     refine ⟨_, rfl, ?_⟩
     have n0_ := bst HB hb
     replace BK391 := bbw BK391 hb
     replace BK392 := bbw BK392 hb
     replace BK393 := bbw BK393 hb
     replace BK396 := bbw BK396 hb
     replace BK399 := bbw BK399 hb
     clear HB
     have HB := n0_
     clear n0_
     (try clear hb)
     (try clear hb2)
     (try clear hk)
     (try clear hi)
     refine hK.out _ _ ⟨hcz BK391 0, hcz BK391 1, hcz BK396 0, hcz BK396 1, hcz BK392 0, hcz BK392 1⟩ (fun hHeld => ?_)
     clear hK K
     refine normQ (N := 17) ?_
     refine pureQ 3 18 HT_.out ?_
     refine pureQ 4 19 HT_.out ?_
     refine takeQ 5 20 HT_.out HW_.out hHeld ?_
     refine takeQ 6 21 HT_.out HW_.out hHeld ?_
     refine oneQ 7 22 HT_.out (fun K hK => ?_)
     refine goesQ Try.func24 #[.agg #[.int .i64 a1_0, .int .i64 a1_1], .agg #[.int .i64 t394, .int .i64 t395]] ?_
     with_reducible refine (itv_Leq.calls a1_0 a1_1 t394 t395 false _ A32.out).mono ?_
     rintro e w70 ⟨rfl, hb⟩
     refine ⟨_, rfl, ?_⟩
     have n0_ := bst HB hb
     replace BK391 := bbw BK391 hb
     replace BK392 := bbw BK392 hb
     replace BK393 := bbw BK393 hb
     replace BK396 := bbw BK396 hb
     replace BK399 := bbw BK399 hb
     clear HB
     have HB := n0_
     clear n0_
     (try clear hb)
     (try clear hb2)
     (try clear hk)
     (try clear hi)
     refine hK.out _ _ ⟨hcz BK391 0, hcz BK391 1, hcz BK396 0, hcz BK396 1, hcz BK392 0, hcz BK392 1⟩ (fun hHeld => ?_)
     clear hK K
     refine normQ (N := 22) ?_
     refine pureQ 8 23 HT_.out ?_
     refine pureQ 9 24 HT_.out ?_
     refine pureQ 10 25 HT_.out ?_
     refine pureU 11 26 HT_.out ?_
     refine pureU 12 27 HT_.out ?_
     refine pureU 13 28 HT_.out ?_
     refine pureU 14 29 HT_.out ?_
     refine pureQ 15 30 HT_.out ?_
     refine pureQ 16 31 HT_.out ?_
     refine pureU 17 32 HT_.out ?_
     refine pureU 18 33 HT_.out ?_
     refine pureU 19 34 HT_.out ?_
     refine pureU 20 35 HT_.out ?_
     refine pureQ 21 36 HT_.out ?_
     refine pureQ 22 37 HT_.out ?_
     refine pureU 23 38 HT_.out ?_
     refine pureU 24 39 HT_.out ?_
     refine pureU 25 40 HT_.out ?_
     refine pureU 26 41 HT_.out ?_
     refine pureU 27 42 HT_.out ?_
     refine pureQ 28 43 HT_.out ?_
     refine pureQ 29 44 HT_.out ?_
     refine pureU 30 45 HT_.out ?_
     refine pureU 31 46 HT_.out ?_
     refine pureU 32 47 HT_.out ?_
     refine pureU 33 48 HT_.out ?_
     refine pureU 34 49 HT_.out ?_
     refine pureQ 35 50 HT_.out ?_
     refine done_ (done_of HT_.out (by kernel_rfl)) ?_
     try go_wp2
     go_meet
     case rel => exact ⟨_, (true), (by first | rfl | (simp; done) | (simp [*]; done)), H', ⟨by first | omega | exact Nat.le_refl _⟩, pkA BK391, pkA BK392, pkA BK393, pkA BK396, pkA BK399, bpk HB⟩
   ·
    replace c31 := Bool.eq_false_iff.mpr c31
    subst c31
    have H1 : (gimballaw02_ItvLattice.j0 k true a0_0 a0_1 a1_0 a1_1 a2_0 a2_1 t394 t395 t397 t398) = some true := by rw [if_neg (show ¬ (false = true) by decide)] at H; exact H
    clear H
    have H := H1
    clear H1
    have H' := Aside0.mk H
    clear H
    try go_wp2
    have n0_ : Aside0 (((w24.setCell ⟨gb399, 0, none⟩ (.int .i64 t397)).setCell ⟨gb399, 1, none⟩ (.int .i64 t398)).heap[gb391]? = some (.cells #[.int .i64 a0_0, .int .i64 a0_1] 23 (0, 0))) := far2 BK391 NB391_399
    have n1_ : Aside0 (((w24.setCell ⟨gb399, 0, none⟩ (.int .i64 t397)).setCell ⟨gb399, 1, none⟩ (.int .i64 t398)).heap[gb392]? = some (.cells #[.int .i64 a1_0, .int .i64 a1_1] 23 (0, 0))) := far2 BK392 NB392_399
    have n2_ : Aside0 (((w24.setCell ⟨gb399, 0, none⟩ (.int .i64 t397)).setCell ⟨gb399, 1, none⟩ (.int .i64 t398)).heap[gb393]? = some (.cells #[.int .i64 a2_0, .int .i64 a2_1] 23 (0, 0))) := far2 BK393 NB393_399
    have n3_ : Aside0 (((w24.setCell ⟨gb399, 0, none⟩ (.int .i64 t397)).setCell ⟨gb399, 1, none⟩ (.int .i64 t398)).heap[gb396]? = some (.cells #[.int .i64 t394, .int .i64 t395] 23 (0, 0))) := far2 BK396 NB396_399
    have n4_ : Aside0 (((w24.setCell ⟨gb399, 0, none⟩ (.int .i64 t397)).setCell ⟨gb399, 1, none⟩ (.int .i64 t398)).heap[gb399]? = some (.cells #[.int .i64 t397, .int .i64 t398] 23 (0, 0))) := ⟨by (with_reducible repeat (first | refine blk_drewN ?_ _ | refine blk_drew ?_ | refine blk_alloc ?_ _)); refine blk_put (cs := #[.int .i64 t397, .int .i64 0]) ?_ 1 _ (by first | rfl | (subst_vars; rfl)); (with_reducible repeat (first | refine blk_drewN ?_ _ | refine blk_drew ?_ | refine blk_alloc ?_ _)); refine blk_put (cs := #[.int .i64 0, .int .i64 0]) ?_ 0 _ (by first | rfl | (subst_vars; rfl)); (with_reducible repeat (first | refine blk_drewN ?_ _ | refine blk_drew ?_ | refine blk_alloc ?_ _)); exact BK399.out⟩
    have n5_ : Aside0 (Below w.heap.size w ((w24.setCell ⟨gb399, 0, none⟩ (.int .i64 t397)).setCell ⟨gb399, 1, none⟩ (.int .i64 t398))) := bpk HB
    (try clear BK391)
    (try clear BK392)
    (try clear BK393)
    (try clear BK396)
    (try clear BK399)
    (try clear HB)
    generalize ((w24.setCell ⟨gb399, 0, none⟩ (.int .i64 t397)).setCell ⟨gb399, 1, none⟩ (.int .i64 t398)) = w71 at n0_ n1_ n2_ n3_ n4_ n5_ ⊢
    have BK391 := n0_
    have BK392 := n1_
    have BK393 := n2_
    have BK396 := n3_
    have BK399 := n4_
    have HB := n5_
    clear n0_ n1_ n2_ n3_ n4_ n5_
    have n0_ := Aside0.mk (blk_drew BK391.out)
    have n1_ := Aside0.mk (blk_drew BK392.out)
    have n2_ := Aside0.mk (blk_drew BK393.out)
    have n3_ := Aside0.mk (blk_drew BK396.out)
    have n4_ := Aside0.mk (blk_drew BK399.out)
    have n5_ := Aside0.mk (below_drew1 HB.out)
    clear BK391
    clear BK392
    clear BK393
    clear BK396
    clear BK399
    clear HB
    have BK391 := n0_
    have BK392 := n1_
    have BK393 := n2_
    have BK396 := n3_
    have BK399 := n4_
    have HB := n5_
    clear n0_ n1_ n2_ n3_ n4_ n5_
    refine start_ (n := 36) (S := fun w' => w'.cell? ⟨gb391, 0, none⟩ = some (.int .i64 a0_0) ∧ w'.cell? ⟨gb391, 1, none⟩ = some (.int .i64 a0_1) ∧ w'.cell? ⟨gb396, 0, none⟩ = some (.int .i64 t394) ∧ w'.cell? ⟨gb396, 1, none⟩ = some (.int .i64 t395)) (ds := []) #[false, false, false, false, false, false, false, false, false, false, false, false, false, false, false, false, false, false, false, false, false, false, false, false, false, false, false, false, false, false, false, false, false, false, false, false] (by kernel_rfl) rfl rfl ⟨hcz BK391 0, hcz BK391 1, hcz BK396 0, hcz BK396 1⟩ (fun hHeld => ?_); refine with_tabW gimballaw02_ItvLattice.tab3 gimballaw02_ItvLattice.bits3 (fun HT_ HW_ => ?_)
    generalize w71.drew = w72 at BK391 BK392 BK393 BK396 BK399 HB hHeld ⊢
    refine takeQ 0 15 HT_.out HW_.out hHeld ?_
    refine takeQ 1 16 HT_.out HW_.out hHeld ?_
    refine oneQ 2 17 HT_.out (fun K hK => ?_)
    refine goesQ Try.func24 #[.agg #[.int .i64 a0_0, .int .i64 a0_1], .agg #[.int .i64 t394, .int .i64 t395]] ?_
    with_reducible refine (itv_Leq.calls a0_0 a0_1 t394 t395 false _ A30.out).mono ?_
    rintro e w73 ⟨rfl, hb⟩
    refine ⟨_, rfl, ?_⟩
    have n0_ := bst HB hb
    replace BK391 := bbw BK391 hb
    replace BK392 := bbw BK392 hb
    replace BK393 := bbw BK393 hb
    replace BK396 := bbw BK396 hb
    replace BK399 := bbw BK399 hb
    clear HB
    have HB := n0_
    clear n0_
    (try clear hb)
    (try clear hb2)
    (try clear hk)
    (try clear hi)
    refine hK.out _ _ ⟨hcz BK391 0, hcz BK391 1, hcz BK396 0, hcz BK396 1⟩ (fun hHeld => ?_)
    clear hK K
    refine normQ (N := 17) ?_
    refine pureQ 3 18 HT_.out ?_
    refine pureQ 4 19 HT_.out ?_
    refine pureU 5 20 HT_.out ?_
    refine pureU 6 21 HT_.out ?_
    refine pureU 7 22 HT_.out ?_
    refine pureU 8 23 HT_.out ?_
    refine pureQ 9 24 HT_.out ?_
    refine pureQ 10 25 HT_.out ?_
    refine pureU 11 26 HT_.out ?_
    refine pureU 12 27 HT_.out ?_
    refine pureU 13 28 HT_.out ?_
    refine pureU 14 29 HT_.out ?_
    refine pureQ 15 30 HT_.out ?_
    refine pureQ 16 31 HT_.out ?_
    refine pureU 17 32 HT_.out ?_
    refine pureU 18 33 HT_.out ?_
    refine pureU 19 34 HT_.out ?_
    refine pureU 20 35 HT_.out ?_
    refine pureQ 21 36 HT_.out ?_
    refine pureQ 22 37 HT_.out ?_
    refine pureU 23 38 HT_.out ?_
    refine pureU 24 39 HT_.out ?_
    refine pureU 25 40 HT_.out ?_
    refine pureU 26 41 HT_.out ?_
    refine pureU 27 42 HT_.out ?_
    refine pureQ 28 43 HT_.out ?_
    refine pureQ 29 44 HT_.out ?_
    refine pureU 30 45 HT_.out ?_
    refine pureU 31 46 HT_.out ?_
    refine pureU 32 47 HT_.out ?_
    refine pureU 33 48 HT_.out ?_
    refine pureU 34 49 HT_.out ?_
    refine pureQ 35 50 HT_.out ?_
    refine done_ (done_of HT_.out (by kernel_rfl)) ?_
    try go_wp2
    go_meet
    case rel => exact ⟨_, (true), (by first | rfl | (simp; done) | (simp [*]; done)), H', ⟨by first | omega | exact Nat.le_refl _⟩, pkA BK391, pkA BK392, pkA BK393, pkA BK396, pkA BK399, bpk HB⟩
  case rest => as_aux_lemma =>
   clear HC6
   try clear c2
   try clear p2
   try clear c3
   try clear c24
   try clear c31
   obtain ⟨kq, x50_5, rfl, HA, HJ5, BK391, BK392, BK393, BK396, BK399, HB⟩ := hcut
   cases kq with
   | zero => exact absurd HA.out (by simp [gimballaw02_ItvLattice.j0])
   | succ kj5 =>
    have H := HA.out
    clear HA
    simp only [gimballaw02_ItvLattice.j0] at H
    by_cases c74 : x50_5 = true
    ·
     subst c74
     have H1 : (some false) = some true := by rw [if_pos rfl] at H; exact H
     clear H
     have H := H1
     clear H1
     exact absurd H (by simp)
    ·
     replace c74 := Bool.eq_false_iff.mpr c74
     subst c74
     have H1 : ((itv_Leq.f a0_0 a0_1 a2_0 a2_1).bind fun t408 => (if t408 = true then ((itv_Leq.f a1_0 a1_1 a2_0 a2_1).bind fun t409 => (if t409 = true then ((itv_Leq.f t394 t395 a2_0 a2_1).bind fun t410 => (if t410 = true then ((itv_Leq.f a2_0 a2_1 a0_0 a0_1).bind fun t411 => (if t411 = true then ((itv_Leq.f a2_0 a2_1 a1_0 a1_1).bind fun t412 => (if t412 = true then ((itv_Leq.f a2_0 a2_1 t397 t398).bind fun t413 => (gimballaw02_ItvLattice.j1 kj5 (!t413) a0_0 a0_1 a1_0 a1_1 a2_0 a2_1 t394 t395 t397 t398)) else (gimballaw02_ItvLattice.j1 kj5 false a0_0 a0_1 a1_0 a1_1 a2_0 a2_1 t394 t395 t397 t398))) else (gimballaw02_ItvLattice.j1 kj5 false a0_0 a0_1 a1_0 a1_1 a2_0 a2_1 t394 t395 t397 t398))) else (gimballaw02_ItvLattice.j1 kj5 true a0_0 a0_1 a1_0 a1_1 a2_0 a2_1 t394 t395 t397 t398))) else ((itv_Leq.f a2_0 a2_1 a0_0 a0_1).bind fun t414 => (if t414 = true then ((itv_Leq.f a2_0 a2_1 a1_0 a1_1).bind fun t415 => (if t415 = true then ((itv_Leq.f a2_0 a2_1 t397 t398).bind fun t416 => (gimballaw02_ItvLattice.j1 kj5 (!t416) a0_0 a0_1 a1_0 a1_1 a2_0 a2_1 t394 t395 t397 t398)) else (gimballaw02_ItvLattice.j1 kj5 false a0_0 a0_1 a1_0 a1_1 a2_0 a2_1 t394 t395 t397 t398))) else (gimballaw02_ItvLattice.j1 kj5 false a0_0 a0_1 a1_0 a1_1 a2_0 a2_1 t394 t395 t397 t398))))) else ((itv_Leq.f a2_0 a2_1 a0_0 a0_1).bind fun t417 => (if t417 = true then ((itv_Leq.f a2_0 a2_1 a1_0 a1_1).bind fun t418 => (if t418 = true then ((itv_Leq.f a2_0 a2_1 t397 t398).bind fun t419 => (gimballaw02_ItvLattice.j1 kj5 (!t419) a0_0 a0_1 a1_0 a1_1 a2_0 a2_1 t394 t395 t397 t398)) else (gimballaw02_ItvLattice.j1 kj5 false a0_0 a0_1 a1_0 a1_1 a2_0 a2_1 t394 t395 t397 t398))) else (gimballaw02_ItvLattice.j1 kj5 false a0_0 a0_1 a1_0 a1_1 a2_0 a2_1 t394 t395 t397 t398))))) = some true := by rw [if_neg (show ¬ (false = true) by decide)] at H; exact H
     clear H
     have H := H1
     clear H1
     have HC75 := Aside0.mk H
     clear H
     go_upto_region 5 with (fail)
     go_cut [80] (fun v80 wc => ∃ (kq : Nat) (x80_74 : Bool), v80 = .bool x80_74 ∧ Aside0 (gimballaw02_ItvLattice.j1 kq x80_74 a0_0 a0_1 a1_0 a1_1 a2_0 a2_1 t394 t395 t397 t398 = some true) ∧ Aside0 (kq ≤ kj5) ∧ Aside0 (wc.heap[gb391]? = some (.cells #[.int .i64 a0_0, .int .i64 a0_1] 23 (0, 0))) ∧ Aside0 (wc.heap[gb392]? = some (.cells #[.int .i64 a1_0, .int .i64 a1_1] 23 (0, 0))) ∧ Aside0 (wc.heap[gb393]? = some (.cells #[.int .i64 a2_0, .int .i64 a2_1] 23 (0, 0))) ∧ Aside0 (wc.heap[gb396]? = some (.cells #[.int .i64 t394, .int .i64 t395] 23 (0, 0))) ∧ Aside0 (wc.heap[gb399]? = some (.cells #[.int .i64 t397, .int .i64 t398] 23 (0, 0))) ∧ Aside0 (Below w.heap.size w wc))
     case first => as_aux_lemma =>
      have H := HC75.out
      clear HC75
      replace H := Option.bind_eq_some_iff.mp H
      obtain ⟨t408, A760, H⟩ := H
      replace H : (if t408 = true then ((itv_Leq.f a1_0 a1_1 a2_0 a2_1).bind fun t409 => (if t409 = true then ((itv_Leq.f t394 t395 a2_0 a2_1).bind fun t410 => (if t410 = true then ((itv_Leq.f a2_0 a2_1 a0_0 a0_1).bind fun t411 => (if t411 = true then ((itv_Leq.f a2_0 a2_1 a1_0 a1_1).bind fun t412 => (if t412 = true then ((itv_Leq.f a2_0 a2_1 t397 t398).bind fun t413 => (gimballaw02_ItvLattice.j1 kj5 (!t413) a0_0 a0_1 a1_0 a1_1 a2_0 a2_1 t394 t395 t397 t398)) else (gimballaw02_ItvLattice.j1 kj5 false a0_0 a0_1 a1_0 a1_1 a2_0 a2_1 t394 t395 t397 t398))) else (gimballaw02_ItvLattice.j1 kj5 false a0_0 a0_1 a1_0 a1_1 a2_0 a2_1 t394 t395 t397 t398))) else (gimballaw02_ItvLattice.j1 kj5 true a0_0 a0_1 a1_0 a1_1 a2_0 a2_1 t394 t395 t397 t398))) else ((itv_Leq.f a2_0 a2_1 a0_0 a0_1).bind fun t414 => (if t414 = true then ((itv_Leq.f a2_0 a2_1 a1_0 a1_1).bind fun t415 => (if t415 = true then ((itv_Leq.f a2_0 a2_1 t397 t398).bind fun t416 => (gimballaw02_ItvLattice.j1 kj5 (!t416) a0_0 a0_1 a1_0 a1_1 a2_0 a2_1 t394 t395 t397 t398)) else (gimballaw02_ItvLattice.j1 kj5 false a0_0 a0_1 a1_0 a1_1 a2_0 a2_1 t394 t395 t397 t398))) else (gimballaw02_ItvLattice.j1 kj5 false a0_0 a0_1 a1_0 a1_1 a2_0 a2_1 t394 t395 t397 t398))))) else ((itv_Leq.f a2_0 a2_1 a0_0 a0_1).bind fun t417 => (if t417 = true then ((itv_Leq.f a2_0 a2_1 a1_0 a1_1).bind fun t418 => (if t418 = true then ((itv_Leq.f a2_0 a2_1 t397 t398).bind fun t419 => (gimballaw02_ItvLattice.j1 kj5 (!t419) a0_0 a0_1 a1_0 a1_1 a2_0 a2_1 t394 t395 t397 t398)) else (gimballaw02_ItvLattice.j1 kj5 false a0_0 a0_1 a1_0 a1_1 a2_0 a2_1 t394 t395 t397 t398))) else (gimballaw02_ItvLattice.j1 kj5 false a0_0 a0_1 a1_0 a1_1 a2_0 a2_1 t394 t395 t397 t398)))) = some true := H
      have A76 := Aside0.mk A760
      clear A760
      by_cases c77 : t408 = true
      ·
       subst c77
       have H1 : ((itv_Leq.f a1_0 a1_1 a2_0 a2_1).bind fun t409 => (if t409 = true then ((itv_Leq.f t394 t395 a2_0 a2_1).bind fun t410 => (if t410 = true then ((itv_Leq.f a2_0 a2_1 a0_0 a0_1).bind fun t411 => (if t411 = true then ((itv_Leq.f a2_0 a2_1 a1_0 a1_1).bind fun t412 => (if t412 = true then ((itv_Leq.f a2_0 a2_1 t397 t398).bind fun t413 => (gimballaw02_ItvLattice.j1 kj5 (!t413) a0_0 a0_1 a1_0 a1_1 a2_0 a2_1 t394 t395 t397 t398)) else (gimballaw02_ItvLattice.j1 kj5 false a0_0 a0_1 a1_0 a1_1 a2_0 a2_1 t394 t395 t397 t398))) else (gimballaw02_ItvLattice.j1 kj5 false a0_0 a0_1 a1_0 a1_1 a2_0 a2_1 t394 t395 t397 t398))) else (gimballaw02_ItvLattice.j1 kj5 true a0_0 a0_1 a1_0 a1_1 a2_0 a2_1 t394 t395 t397 t398))) else ((itv_Leq.f a2_0 a2_1 a0_0 a0_1).bind fun t414 => (if t414 = true then ((itv_Leq.f a2_0 a2_1 a1_0 a1_1).bind fun t415 => (if t415 = true then ((itv_Leq.f a2_0 a2_1 t397 t398).bind fun t416 => (gimballaw02_ItvLattice.j1 kj5 (!t416) a0_0 a0_1 a1_0 a1_1 a2_0 a2_1 t394 t395 t397 t398)) else (gimballaw02_ItvLattice.j1 kj5 false a0_0 a0_1 a1_0 a1_1 a2_0 a2_1 t394 t395 t397 t398))) else (gimballaw02_ItvLattice.j1 kj5 false a0_0 a0_1 a1_0 a1_1 a2_0 a2_1 t394 t395 t397 t398))))) = some true := by rw [if_pos rfl] at H; exact H
       clear H
       have H := H1
       clear H1
       replace H := Option.bind_eq_some_iff.mp H
       obtain ⟨t409, A780, H⟩ := H
       replace H : (if t409 = true then ((itv_Leq.f t394 t395 a2_0 a2_1).bind fun t410 => (if t410 = true then ((itv_Leq.f a2_0 a2_1 a0_0 a0_1).bind fun t411 => (if t411 = true then ((itv_Leq.f a2_0 a2_1 a1_0 a1_1).bind fun t412 => (if t412 = true then ((itv_Leq.f a2_0 a2_1 t397 t398).bind fun t413 => (gimballaw02_ItvLattice.j1 kj5 (!t413) a0_0 a0_1 a1_0 a1_1 a2_0 a2_1 t394 t395 t397 t398)) else (gimballaw02_ItvLattice.j1 kj5 false a0_0 a0_1 a1_0 a1_1 a2_0 a2_1 t394 t395 t397 t398))) else (gimballaw02_ItvLattice.j1 kj5 false a0_0 a0_1 a1_0 a1_1 a2_0 a2_1 t394 t395 t397 t398))) else (gimballaw02_ItvLattice.j1 kj5 true a0_0 a0_1 a1_0 a1_1 a2_0 a2_1 t394 t395 t397 t398))) else ((itv_Leq.f a2_0 a2_1 a0_0 a0_1).bind fun t414 => (if t414 = true then ((itv_Leq.f a2_0 a2_1 a1_0 a1_1).bind fun t415 => (if t415 = true then ((itv_Leq.f a2_0 a2_1 t397 t398).bind fun t416 => (gimballaw02_ItvLattice.j1 kj5 (!t416) a0_0 a0_1 a1_0 a1_1 a2_0 a2_1 t394 t395 t397 t398)) else (gimballaw02_ItvLattice.j1 kj5 false a0_0 a0_1 a1_0 a1_1 a2_0 a2_1 t394 t395 t397 t398))) else (gimballaw02_ItvLattice.j1 kj5 false a0_0 a0_1 a1_0 a1_1 a2_0 a2_1 t394 t395 t397 t398)))) = some true := H
       have A78 := Aside0.mk A780
       clear A780
       by_cases c79 : t409 = true
       ·
        subst c79
        have H1 : ((itv_Leq.f t394 t395 a2_0 a2_1).bind fun t410 => (if t410 = true then ((itv_Leq.f a2_0 a2_1 a0_0 a0_1).bind fun t411 => (if t411 = true then ((itv_Leq.f a2_0 a2_1 a1_0 a1_1).bind fun t412 => (if t412 = true then ((itv_Leq.f a2_0 a2_1 t397 t398).bind fun t413 => (gimballaw02_ItvLattice.j1 kj5 (!t413) a0_0 a0_1 a1_0 a1_1 a2_0 a2_1 t394 t395 t397 t398)) else (gimballaw02_ItvLattice.j1 kj5 false a0_0 a0_1 a1_0 a1_1 a2_0 a2_1 t394 t395 t397 t398))) else (gimballaw02_ItvLattice.j1 kj5 false a0_0 a0_1 a1_0 a1_1 a2_0 a2_1 t394 t395 t397 t398))) else (gimballaw02_ItvLattice.j1 kj5 true a0_0 a0_1 a1_0 a1_1 a2_0 a2_1 t394 t395 t397 t398))) = some true := by rw [if_pos rfl] at H; exact H
        clear H
        have H := H1
        clear H1
        replace H := Option.bind_eq_some_iff.mp H
        obtain ⟨t410, A800, H⟩ := H
        replace H : (if t410 = true then ((itv_Leq.f a2_0 a2_1 a0_0 a0_1).bind fun t411 => (if t411 = true then ((itv_Leq.f a2_0 a2_1 a1_0 a1_1).bind fun t412 => (if t412 = true then ((itv_Leq.f a2_0 a2_1 t397 t398).bind fun t413 => (gimballaw02_ItvLattice.j1 kj5 (!t413) a0_0 a0_1 a1_0 a1_1 a2_0 a2_1 t394 t395 t397 t398)) else (gimballaw02_ItvLattice.j1 kj5 false a0_0 a0_1 a1_0 a1_1 a2_0 a2_1 t394 t395 t397 t398))) else (gimballaw02_ItvLattice.j1 kj5 false a0_0 a0_1 a1_0 a1_1 a2_0 a2_1 t394 t395 t397 t398))) else (gimballaw02_ItvLattice.j1 kj5 true a0_0 a0_1 a1_0 a1_1 a2_0 a2_1 t394 t395 t397 t398)) = some true := H
        have A80 := Aside0.mk A800
        clear A800
        by_cases c81 : t410 = true
        ·
         subst c81
         have H1 : ((itv_Leq.f a2_0 a2_1 a0_0 a0_1).bind fun t411 => (if t411 = true then ((itv_Leq.f a2_0 a2_1 a1_0 a1_1).bind fun t412 => (if t412 = true then ((itv_Leq.f a2_0 a2_1 t397 t398).bind fun t413 => (gimballaw02_ItvLattice.j1 kj5 (!t413) a0_0 a0_1 a1_0 a1_1 a2_0 a2_1 t394 t395 t397 t398)) else (gimballaw02_ItvLattice.j1 kj5 false a0_0 a0_1 a1_0 a1_1 a2_0 a2_1 t394 t395 t397 t398))) else (gimballaw02_ItvLattice.j1 kj5 false a0_0 a0_1 a1_0 a1_1 a2_0 a2_1 t394 t395 t397 t398))) = some true := by rw [if_pos rfl] at H; exact H
         clear H
         have H := H1
         clear H1
         replace H := Option.bind_eq_some_iff.mp H
         obtain ⟨t411, A820, H⟩ := H
         replace H : (if t411 = true then ((itv_Leq.f a2_0 a2_1 a1_0 a1_1).bind fun t412 => (if t412 = true then ((itv_Leq.f a2_0 a2_1 t397 t398).bind fun t413 => (gimballaw02_ItvLattice.j1 kj5 (!t413) a0_0 a0_1 a1_0 a1_1 a2_0 a2_1 t394 t395 t397 t398)) else (gimballaw02_ItvLattice.j1 kj5 false a0_0 a0_1 a1_0 a1_1 a2_0 a2_1 t394 t395 t397 t398))) else (gimballaw02_ItvLattice.j1 kj5 false a0_0 a0_1 a1_0 a1_1 a2_0 a2_1 t394 t395 t397 t398)) = some true := H
         have A82 := Aside0.mk A820
         clear A820
         by_cases c83 : t411 = true
         ·
          subst c83
          have H1 : ((itv_Leq.f a2_0 a2_1 a1_0 a1_1).bind fun t412 => (if t412 = true then ((itv_Leq.f a2_0 a2_1 t397 t398).bind fun t413 => (gimballaw02_ItvLattice.j1 kj5 (!t413) a0_0 a0_1 a1_0 a1_1 a2_0 a2_1 t394 t395 t397 t398)) else (gimballaw02_ItvLattice.j1 kj5 false a0_0 a0_1 a1_0 a1_1 a2_0 a2_1 t394 t395 t397 t398))) = some true := by rw [if_pos rfl] at H; exact H
          clear H
          have H := H1
          clear H1
          replace H := Option.bind_eq_some_iff.mp H
          obtain ⟨t412, A840, H⟩ := H
          replace H : (if t412 = true then ((itv_Leq.f a2_0 a2_1 t397 t398).bind fun t413 => (gimballaw02_ItvLattice.j1 kj5 (!t413) a0_0 a0_1 a1_0 a1_1 a2_0 a2_1 t394 t395 t397 t398)) else (gimballaw02_ItvLattice.j1 kj5 false a0_0 a0_1 a1_0 a1_1 a2_0 a2_1 t394 t395 t397 t398)) = some true := H
          have A84 := Aside0.mk A840
          clear A840
          by_cases c85 : t412 = true
          ·
           subst c85
           have H1 : ((itv_Leq.f a2_0 a2_1 t397 t398).bind fun t413 => (gimballaw02_ItvLattice.j1 kj5 (!t413) a0_0 a0_1 a1_0 a1_1 a2_0 a2_1 t394 t395 t397 t398)) = some true := by rw [if_pos rfl] at H; exact H
           clear H
           have H := H1
           clear H1
           replace H := Option.bind_eq_some_iff.mp H
           obtain ⟨t413, A860, H⟩ := H
           replace H : (gimballaw02_ItvLattice.j1 kj5 (!t413) a0_0 a0_1 a1_0 a1_1 a2_0 a2_1 t394 t395 t397 t398) = some true := H
           have A86 := Aside0.mk A860
           clear A860
           have H' := Aside0.mk H
           clear H
           have hnb87 := NB391_392.out
           have hnc87 := NB392_391.out
           have hnb88 := NB391_393.out
           have hnc88 := NB393_391.out
           have hnb89 := NB391_396.out
           have hnc89 := NB396_391.out
           have hnb90 := NB391_399.out
           have hnc90 := NB399_391.out
           have hcz91_0 := hcz BK391 0
           have hcz91_1 := hcz BK391 1
           have hfz91_0 := blk_frozen BK391.out 0
           have hfz91_1 := blk_frozen BK391.out 1
           have hnb92 := NB393_392.out
           have hnc92 := NB392_393.out
           have hnb93 := NB393_396.out
           have hnc93 := NB396_393.out
           have hnb94 := NB393_399.out
           have hnc94 := NB399_393.out
           have hcz95_0 := hcz BK393 0
           have hcz95_1 := hcz BK393 1
           have hfz95_0 := blk_frozen BK393.out 0
           have hfz95_1 := blk_frozen BK393.out 1
           go_wp2_with (first | ((with_reducible refine gate_callee (f := 24) rfl ?_); refine goesL_ (some 53) rfl rfl Try.func24 (by kernel_rfl) rfl #[.agg #[.int .i64 a0_0, .int .i64 a0_1], .agg #[.int .i64 a2_0, .int .i64 a2_1]] rfl (by (try simp only [List.map_toArray, List.map_cons, List.map_nil]); first | done | rfl | (simp only [List.length_drop, List.length_take]; rfl)) ?_; (with_reducible refine (itv_Leq.calls a0_0 a0_1 a2_0 a2_1 true _ A76.out).mono ?_); rintro e w96 ⟨rfl, hb⟩; refine ⟨_, rfl, ?_⟩; have n0_ := bst HB hb; replace BK391 := bbw BK391 hb; replace BK392 := bbw BK392 hb; replace BK393 := bbw BK393 hb; replace BK396 := bbw BK396 hb; replace BK399 := bbw BK399 hb; clear HB; have HB := n0_; clear n0_; (try clear hb); (try clear hb2); (try clear hk); (try clear hi); have hnb97 := NB392_396.out; have hnc97 := NB396_392.out; have hnb98 := NB392_399.out; have hnc98 := NB399_392.out; have hcz99_0 := hcz BK392 0; have hcz99_1 := hcz BK392 1; have hfz99_0 := blk_frozen BK392.out 0; have hfz99_1 := blk_frozen BK392.out 1; have hcz100_0 := hcz BK393 0; have hcz100_1 := hcz BK393 1; have hfz100_0 := blk_frozen BK393.out 0; have hfz100_1 := blk_frozen BK393.out 1) | (go_at_call 24; (with_reducible refine (itv_Leq.calls a1_0 a1_1 a2_0 a2_1 true _ A78.out).mono ?_); rintro e w101 ⟨rfl, hb⟩; have n0_ := bst HB hb; replace BK391 := bbw BK391 hb; replace BK392 := bbw BK392 hb; replace BK393 := bbw BK393 hb; replace BK396 := bbw BK396 hb; replace BK399 := bbw BK399 hb; clear HB; have HB := n0_; clear n0_; (try clear hb); (try clear hb2); (try clear hk); (try clear hi); have hnb102 := NB396_399.out; have hnc102 := NB399_396.out; have hcz103_0 := hcz BK396 0; have hcz103_1 := hcz BK396 1; have hfz103_0 := blk_frozen BK396.out 0; have hfz103_1 := blk_frozen BK396.out 1; have hcz104_0 := hcz BK393 0; have hcz104_1 := hcz BK393 1; have hfz104_0 := blk_frozen BK393.out 0; have hfz104_1 := blk_frozen BK393.out 1) | (go_at_call 24; (with_reducible refine (itv_Leq.calls t394 t395 a2_0 a2_1 true _ A80.out).mono ?_); rintro e w105 ⟨rfl, hb⟩; have n0_ := bst HB hb; replace BK391 := bbw BK391 hb; replace BK392 := bbw BK392 hb; replace BK393 := bbw BK393 hb; replace BK396 := bbw BK396 hb; replace BK399 := bbw BK399 hb; clear HB; have HB := n0_; clear n0_; (try clear hb); (try clear hb2); (try clear hk); (try clear hi); have hcz106_0 := hcz BK393 0; have hcz106_1 := hcz BK393 1; have hfz106_0 := blk_frozen BK393.out 0; have hfz106_1 := blk_frozen BK393.out 1; have hcz107_0 := hcz BK391 0; have hcz107_1 := hcz BK391 1; have hfz107_0 := blk_frozen BK391.out 0; have hfz107_1 := blk_frozen BK391.out 1) | (go_at_call 24; (with_reducible refine (itv_Leq.calls a2_0 a2_1 a0_0 a0_1 true _ A82.out).mono ?_); rintro e w108 ⟨rfl, hb⟩; have n0_ := bst HB hb; replace BK391 := bbw BK391 hb; replace BK392 := bbw BK392 hb; replace BK393 := bbw BK393 hb; replace BK396 := bbw BK396 hb; replace BK399 := bbw BK399 hb; clear HB; have HB := n0_; clear n0_; (try clear hb); (try clear hb2); (try clear hk); (try clear hi); have hcz109_0 := hcz BK393 0; have hcz109_1 := hcz BK393 1; have hfz109_0 := blk_frozen BK393.out 0; have hfz109_1 := blk_frozen BK393.out 1; have hcz110_0 := hcz BK392 0; have hcz110_1 := hcz BK392 1; have hfz110_0 := blk_frozen BK392.out 0; have hfz110_1 := blk_frozen BK392.out 1) | (go_at_call 24; (with_reducible refine (itv_Leq.calls a2_0 a2_1 a1_0 a1_1 true _ A84.out).mono ?_); rintro e w111 ⟨rfl, hb⟩; have n0_ := bst HB hb; replace BK391 := bbw BK391 hb; replace BK392 := bbw BK392 hb; replace BK393 := bbw BK393 hb; replace BK396 := bbw BK396 hb; replace BK399 := bbw BK399 hb; clear HB; have HB := n0_; clear n0_; (try clear hb); (try clear hb2); (try clear hk); (try clear hi); have hcz112_0 := hcz BK393 0; have hcz112_1 := hcz BK393 1; have hfz112_0 := blk_frozen BK393.out 0; have hfz112_1 := blk_frozen BK393.out 1; have hcz113_0 := hcz BK399 0; have hcz113_1 := hcz BK399 1; have hfz113_0 := blk_frozen BK399.out 0; have hfz113_1 := blk_frozen BK399.out 1) | (go_at_call 24; (with_reducible refine (itv_Leq.calls a2_0 a2_1 t397 t398 t413 _ A86.out).mono ?_); rintro e w114 ⟨rfl, hb⟩; have n0_ := bst HB hb; replace BK391 := bbw BK391 hb; replace BK392 := bbw BK392 hb; replace BK393 := bbw BK393 hb; replace BK396 := bbw BK396 hb; replace BK399 := bbw BK399 hb; clear HB; have HB := n0_; clear n0_; (try clear hb); (try clear hb2); (try clear hk); (try clear hi)))
           go_meet
           case rel => exact ⟨_, (!t413), (by first | rfl | (simp; done) | (simp [*]; done)), H', ⟨by have := HJ5.out; first | omega | exact Nat.le_refl _⟩, pkA BK391, pkA BK392, pkA BK393, pkA BK396, pkA BK399, bpk HB⟩
          ·
           replace c85 := Bool.eq_false_iff.mpr c85
           subst c85
           have H1 : (gimballaw02_ItvLattice.j1 kj5 false a0_0 a0_1 a1_0 a1_1 a2_0 a2_1 t394 t395 t397 t398) = some true := by rw [if_neg (show ¬ (false = true) by decide)] at H; exact H
           clear H
           have H := H1
           clear H1
           have H' := Aside0.mk H
           clear H
           have hnb115 := NB391_392.out
           have hnc115 := NB392_391.out
           have hnb116 := NB391_393.out
           have hnc116 := NB393_391.out
           have hnb117 := NB391_396.out
           have hnc117 := NB396_391.out
           have hnb118 := NB391_399.out
           have hnc118 := NB399_391.out
           have hcz119_0 := hcz BK391 0
           have hcz119_1 := hcz BK391 1
           have hfz119_0 := blk_frozen BK391.out 0
           have hfz119_1 := blk_frozen BK391.out 1
           have hnb120 := NB393_392.out
           have hnc120 := NB392_393.out
           have hnb121 := NB393_396.out
           have hnc121 := NB396_393.out
           have hnb122 := NB393_399.out
           have hnc122 := NB399_393.out
           have hcz123_0 := hcz BK393 0
           have hcz123_1 := hcz BK393 1
           have hfz123_0 := blk_frozen BK393.out 0
           have hfz123_1 := blk_frozen BK393.out 1
           go_wp2_with (first | ((with_reducible refine gate_callee (f := 24) rfl ?_); refine goesL_ (some 53) rfl rfl Try.func24 (by kernel_rfl) rfl #[.agg #[.int .i64 a0_0, .int .i64 a0_1], .agg #[.int .i64 a2_0, .int .i64 a2_1]] rfl (by (try simp only [List.map_toArray, List.map_cons, List.map_nil]); first | done | rfl | (simp only [List.length_drop, List.length_take]; rfl)) ?_; (with_reducible refine (itv_Leq.calls a0_0 a0_1 a2_0 a2_1 true _ A76.out).mono ?_); rintro e w124 ⟨rfl, hb⟩; refine ⟨_, rfl, ?_⟩; have n0_ := bst HB hb; replace BK391 := bbw BK391 hb; replace BK392 := bbw BK392 hb; replace BK393 := bbw BK393 hb; replace BK396 := bbw BK396 hb; replace BK399 := bbw BK399 hb; clear HB; have HB := n0_; clear n0_; (try clear hb); (try clear hb2); (try clear hk); (try clear hi); have hnb125 := NB392_396.out; have hnc125 := NB396_392.out; have hnb126 := NB392_399.out; have hnc126 := NB399_392.out; have hcz127_0 := hcz BK392 0; have hcz127_1 := hcz BK392 1; have hfz127_0 := blk_frozen BK392.out 0; have hfz127_1 := blk_frozen BK392.out 1; have hcz128_0 := hcz BK393 0; have hcz128_1 := hcz BK393 1; have hfz128_0 := blk_frozen BK393.out 0; have hfz128_1 := blk_frozen BK393.out 1) | (go_at_call 24; (with_reducible refine (itv_Leq.calls a1_0 a1_1 a2_0 a2_1 true _ A78.out).mono ?_); rintro e w129 ⟨rfl, hb⟩; have n0_ := bst HB hb; replace BK391 := bbw BK391 hb; replace BK392 := bbw BK392 hb; replace BK393 := bbw BK393 hb; replace BK396 := bbw BK396 hb; replace BK399 := bbw BK399 hb; clear HB; have HB := n0_; clear n0_; (try clear hb); (try clear hb2); (try clear hk); (try clear hi); have hnb130 := NB396_399.out; have hnc130 := NB399_396.out; have hcz131_0 := hcz BK396 0; have hcz131_1 := hcz BK396 1; have hfz131_0 := blk_frozen BK396.out 0; have hfz131_1 := blk_frozen BK396.out 1; have hcz132_0 := hcz BK393 0; have hcz132_1 := hcz BK393 1; have hfz132_0 := blk_frozen BK393.out 0; have hfz132_1 := blk_frozen BK393.out 1) | (go_at_call 24; (with_reducible refine (itv_Leq.calls t394 t395 a2_0 a2_1 true _ A80.out).mono ?_); rintro e w133 ⟨rfl, hb⟩; have n0_ := bst HB hb; replace BK391 := bbw BK391 hb; replace BK392 := bbw BK392 hb; replace BK393 := bbw BK393 hb; replace BK396 := bbw BK396 hb; replace BK399 := bbw BK399 hb; clear HB; have HB := n0_; clear n0_; (try clear hb); (try clear hb2); (try clear hk); (try clear hi); have hcz134_0 := hcz BK393 0; have hcz134_1 := hcz BK393 1; have hfz134_0 := blk_frozen BK393.out 0; have hfz134_1 := blk_frozen BK393.out 1; have hcz135_0 := hcz BK391 0; have hcz135_1 := hcz BK391 1; have hfz135_0 := blk_frozen BK391.out 0; have hfz135_1 := blk_frozen BK391.out 1) | (go_at_call 24; (with_reducible refine (itv_Leq.calls a2_0 a2_1 a0_0 a0_1 true _ A82.out).mono ?_); rintro e w136 ⟨rfl, hb⟩; have n0_ := bst HB hb; replace BK391 := bbw BK391 hb; replace BK392 := bbw BK392 hb; replace BK393 := bbw BK393 hb; replace BK396 := bbw BK396 hb; replace BK399 := bbw BK399 hb; clear HB; have HB := n0_; clear n0_; (try clear hb); (try clear hb2); (try clear hk); (try clear hi); have hcz137_0 := hcz BK393 0; have hcz137_1 := hcz BK393 1; have hfz137_0 := blk_frozen BK393.out 0; have hfz137_1 := blk_frozen BK393.out 1; have hcz138_0 := hcz BK392 0; have hcz138_1 := hcz BK392 1; have hfz138_0 := blk_frozen BK392.out 0; have hfz138_1 := blk_frozen BK392.out 1) | (go_at_call 24; (with_reducible refine (itv_Leq.calls a2_0 a2_1 a1_0 a1_1 false _ A84.out).mono ?_); rintro e w139 ⟨rfl, hb⟩; have n0_ := bst HB hb; replace BK391 := bbw BK391 hb; replace BK392 := bbw BK392 hb; replace BK393 := bbw BK393 hb; replace BK396 := bbw BK396 hb; replace BK399 := bbw BK399 hb; clear HB; have HB := n0_; clear n0_; (try clear hb); (try clear hb2); (try clear hk); (try clear hi)))
           go_meet
           case rel => exact ⟨_, (false), (by first | rfl | (simp; done) | (simp [*]; done)), H', ⟨by have := HJ5.out; first | omega | exact Nat.le_refl _⟩, pkA BK391, pkA BK392, pkA BK393, pkA BK396, pkA BK399, bpk HB⟩
         ·
          replace c83 := Bool.eq_false_iff.mpr c83
          subst c83
          have H1 : (gimballaw02_ItvLattice.j1 kj5 false a0_0 a0_1 a1_0 a1_1 a2_0 a2_1 t394 t395 t397 t398) = some true := by rw [if_neg (show ¬ (false = true) by decide)] at H; exact H
          clear H
          have H := H1
          clear H1
          have H' := Aside0.mk H
          clear H
          have hnb140 := NB391_392.out
          have hnc140 := NB392_391.out
          have hnb141 := NB391_393.out
          have hnc141 := NB393_391.out
          have hnb142 := NB391_396.out
          have hnc142 := NB396_391.out
          have hnb143 := NB391_399.out
          have hnc143 := NB399_391.out
          have hcz144_0 := hcz BK391 0
          have hcz144_1 := hcz BK391 1
          have hfz144_0 := blk_frozen BK391.out 0
          have hfz144_1 := blk_frozen BK391.out 1
          have hnb145 := NB393_392.out
          have hnc145 := NB392_393.out
          have hnb146 := NB393_396.out
          have hnc146 := NB396_393.out
          have hnb147 := NB393_399.out
          have hnc147 := NB399_393.out
          have hcz148_0 := hcz BK393 0
          have hcz148_1 := hcz BK393 1
          have hfz148_0 := blk_frozen BK393.out 0
          have hfz148_1 := blk_frozen BK393.out 1
          go_wp2_with (first | ((with_reducible refine gate_callee (f := 24) rfl ?_); refine goesL_ (some 53) rfl rfl Try.func24 (by kernel_rfl) rfl #[.agg #[.int .i64 a0_0, .int .i64 a0_1], .agg #[.int .i64 a2_0, .int .i64 a2_1]] rfl (by (try simp only [List.map_toArray, List.map_cons, List.map_nil]); first | done | rfl | (simp only [List.length_drop, List.length_take]; rfl)) ?_; (with_reducible refine (itv_Leq.calls a0_0 a0_1 a2_0 a2_1 true _ A76.out).mono ?_); rintro e w149 ⟨rfl, hb⟩; refine ⟨_, rfl, ?_⟩; have n0_ := bst HB hb; replace BK391 := bbw BK391 hb; replace BK392 := bbw BK392 hb; replace BK393 := bbw BK393 hb; replace BK396 := bbw BK396 hb; replace BK399 := bbw BK399 hb; clear HB; have HB := n0_; clear n0_; (try clear hb); (try clear hb2); (try clear hk); (try clear hi); have hnb150 := NB392_396.out; have hnc150 := NB396_392.out; have hnb151 := NB392_399.out; have hnc151 := NB399_392.out; have hcz152_0 := hcz BK392 0; have hcz152_1 := hcz BK392 1; have hfz152_0 := blk_frozen BK392.out 0; have hfz152_1 := blk_frozen BK392.out 1; have hcz153_0 := hcz BK393 0; have hcz153_1 := hcz BK393 1; have hfz153_0 := blk_frozen BK393.out 0; have hfz153_1 := blk_frozen BK393.out 1) | (go_at_call 24; (with_reducible refine (itv_Leq.calls a1_0 a1_1 a2_0 a2_1 true _ A78.out).mono ?_); rintro e w154 ⟨rfl, hb⟩; have n0_ := bst HB hb; replace BK391 := bbw BK391 hb; replace BK392 := bbw BK392 hb; replace BK393 := bbw BK393 hb; replace BK396 := bbw BK396 hb; replace BK399 := bbw BK399 hb; clear HB; have HB := n0_; clear n0_; (try clear hb); (try clear hb2); (try clear hk); (try clear hi); have hnb155 := NB396_399.out; have hnc155 := NB399_396.out; have hcz156_0 := hcz BK396 0; have hcz156_1 := hcz BK396 1; have hfz156_0 := blk_frozen BK396.out 0; have hfz156_1 := blk_frozen BK396.out 1; have hcz157_0 := hcz BK393 0; have hcz157_1 := hcz BK393 1; have hfz157_0 := blk_frozen BK393.out 0; have hfz157_1 := blk_frozen BK393.out 1) | (go_at_call 24; (with_reducible refine (itv_Leq.calls t394 t395 a2_0 a2_1 true _ A80.out).mono ?_); rintro e w158 ⟨rfl, hb⟩; have n0_ := bst HB hb; replace BK391 := bbw BK391 hb; replace BK392 := bbw BK392 hb; replace BK393 := bbw BK393 hb; replace BK396 := bbw BK396 hb; replace BK399 := bbw BK399 hb; clear HB; have HB := n0_; clear n0_; (try clear hb); (try clear hb2); (try clear hk); (try clear hi); have hcz159_0 := hcz BK393 0; have hcz159_1 := hcz BK393 1; have hfz159_0 := blk_frozen BK393.out 0; have hfz159_1 := blk_frozen BK393.out 1; have hcz160_0 := hcz BK391 0; have hcz160_1 := hcz BK391 1; have hfz160_0 := blk_frozen BK391.out 0; have hfz160_1 := blk_frozen BK391.out 1) | (go_at_call 24; (with_reducible refine (itv_Leq.calls a2_0 a2_1 a0_0 a0_1 false _ A82.out).mono ?_); rintro e w161 ⟨rfl, hb⟩; have n0_ := bst HB hb; replace BK391 := bbw BK391 hb; replace BK392 := bbw BK392 hb; replace BK393 := bbw BK393 hb; replace BK396 := bbw BK396 hb; replace BK399 := bbw BK399 hb; clear HB; have HB := n0_; clear n0_; (try clear hb); (try clear hb2); (try clear hk); (try clear hi)))
          go_meet
          case rel => exact ⟨_, (false), (by first | rfl | (simp; done) | (simp [*]; done)), H', ⟨by have := HJ5.out; first | omega | exact Nat.le_refl _⟩, pkA BK391, pkA BK392, pkA BK393, pkA BK396, pkA BK399, bpk HB⟩
        ·
         replace c81 := Bool.eq_false_iff.mpr c81
         subst c81
         have H1 : (gimballaw02_ItvLattice.j1 kj5 true a0_0 a0_1 a1_0 a1_1 a2_0 a2_1 t394 t395 t397 t398) = some true := by rw [if_neg (show ¬ (false = true) by decide)] at H; exact H
         clear H
         have H := H1
         clear H1
         have H' := Aside0.mk H
         clear H
         have hnb162 := NB391_392.out
         have hnc162 := NB392_391.out
         have hnb163 := NB391_393.out
         have hnc163 := NB393_391.out
         have hnb164 := NB391_396.out
         have hnc164 := NB396_391.out
         have hnb165 := NB391_399.out
         have hnc165 := NB399_391.out
         have hcz166_0 := hcz BK391 0
         have hcz166_1 := hcz BK391 1
         have hfz166_0 := blk_frozen BK391.out 0
         have hfz166_1 := blk_frozen BK391.out 1
         have hnb167 := NB393_392.out
         have hnc167 := NB392_393.out
         have hnb168 := NB393_396.out
         have hnc168 := NB396_393.out
         have hnb169 := NB393_399.out
         have hnc169 := NB399_393.out
         have hcz170_0 := hcz BK393 0
         have hcz170_1 := hcz BK393 1
         have hfz170_0 := blk_frozen BK393.out 0
         have hfz170_1 := blk_frozen BK393.out 1
         go_wp2_with (first | ((with_reducible refine gate_callee (f := 24) rfl ?_); refine goesL_ (some 53) rfl rfl Try.func24 (by kernel_rfl) rfl #[.agg #[.int .i64 a0_0, .int .i64 a0_1], .agg #[.int .i64 a2_0, .int .i64 a2_1]] rfl (by (try simp only [List.map_toArray, List.map_cons, List.map_nil]); first | done | rfl | (simp only [List.length_drop, List.length_take]; rfl)) ?_; (with_reducible refine (itv_Leq.calls a0_0 a0_1 a2_0 a2_1 true _ A76.out).mono ?_); rintro e w171 ⟨rfl, hb⟩; refine ⟨_, rfl, ?_⟩; have n0_ := bst HB hb; replace BK391 := bbw BK391 hb; replace BK392 := bbw BK392 hb; replace BK393 := bbw BK393 hb; replace BK396 := bbw BK396 hb; replace BK399 := bbw BK399 hb; clear HB; have HB := n0_; clear n0_; (try clear hb); (try clear hb2); (try clear hk); (try clear hi); have hnb172 := NB392_396.out; have hnc172 := NB396_392.out; have hnb173 := NB392_399.out; have hnc173 := NB399_392.out; have hcz174_0 := hcz BK392 0; have hcz174_1 := hcz BK392 1; have hfz174_0 := blk_frozen BK392.out 0; have hfz174_1 := blk_frozen BK392.out 1; have hcz175_0 := hcz BK393 0; have hcz175_1 := hcz BK393 1; have hfz175_0 := blk_frozen BK393.out 0; have hfz175_1 := blk_frozen BK393.out 1) | (go_at_call 24; (with_reducible refine (itv_Leq.calls a1_0 a1_1 a2_0 a2_1 true _ A78.out).mono ?_); rintro e w176 ⟨rfl, hb⟩; have n0_ := bst HB hb; replace BK391 := bbw BK391 hb; replace BK392 := bbw BK392 hb; replace BK393 := bbw BK393 hb; replace BK396 := bbw BK396 hb; replace BK399 := bbw BK399 hb; clear HB; have HB := n0_; clear n0_; (try clear hb); (try clear hb2); (try clear hk); (try clear hi); have hnb177 := NB396_399.out; have hnc177 := NB399_396.out; have hcz178_0 := hcz BK396 0; have hcz178_1 := hcz BK396 1; have hfz178_0 := blk_frozen BK396.out 0; have hfz178_1 := blk_frozen BK396.out 1; have hcz179_0 := hcz BK393 0; have hcz179_1 := hcz BK393 1; have hfz179_0 := blk_frozen BK393.out 0; have hfz179_1 := blk_frozen BK393.out 1) | (go_at_call 24; (with_reducible refine (itv_Leq.calls t394 t395 a2_0 a2_1 false _ A80.out).mono ?_); rintro e w180 ⟨rfl, hb⟩; have n0_ := bst HB hb; replace BK391 := bbw BK391 hb; replace BK392 := bbw BK392 hb; replace BK393 := bbw BK393 hb; replace BK396 := bbw BK396 hb; replace BK399 := bbw BK399 hb; clear HB; have HB := n0_; clear n0_; (try clear hb); (try clear hb2); (try clear hk); (try clear hi)))
         go_meet
         case rel => exact ⟨_, (true), (by first | rfl | (simp; done) | (simp [*]; done)), H', ⟨by have := HJ5.out; first | omega | exact Nat.le_refl _⟩, pkA BK391, pkA BK392, pkA BK393, pkA BK396, pkA BK399, bpk HB⟩
       ·
        replace c79 := Bool.eq_false_iff.mpr c79
        subst c79
        have H1 : ((itv_Leq.f a2_0 a2_1 a0_0 a0_1).bind fun t414 => (if t414 = true then ((itv_Leq.f a2_0 a2_1 a1_0 a1_1).bind fun t415 => (if t415 = true then ((itv_Leq.f a2_0 a2_1 t397 t398).bind fun t416 => (gimballaw02_ItvLattice.j1 kj5 (!t416) a0_0 a0_1 a1_0 a1_1 a2_0 a2_1 t394 t395 t397 t398)) else (gimballaw02_ItvLattice.j1 kj5 false a0_0 a0_1 a1_0 a1_1 a2_0 a2_1 t394 t395 t397 t398))) else (gimballaw02_ItvLattice.j1 kj5 false a0_0 a0_1 a1_0 a1_1 a2_0 a2_1 t394 t395 t397 t398))) = some true := by rw [if_neg (show ¬ (false = true) by decide)] at H; exact H
        clear H
        have H := H1
        clear H1
        replace H := Option.bind_eq_some_iff.mp H
        obtain ⟨t414, A1810, H⟩ := H
        replace H : (if t414 = true then ((itv_Leq.f a2_0 a2_1 a1_0 a1_1).bind fun t415 => (if t415 = true then ((itv_Leq.f a2_0 a2_1 t397 t398).bind fun t416 => (gimballaw02_ItvLattice.j1 kj5 (!t416) a0_0 a0_1 a1_0 a1_1 a2_0 a2_1 t394 t395 t397 t398)) else (gimballaw02_ItvLattice.j1 kj5 false a0_0 a0_1 a1_0 a1_1 a2_0 a2_1 t394 t395 t397 t398))) else (gimballaw02_ItvLattice.j1 kj5 false a0_0 a0_1 a1_0 a1_1 a2_0 a2_1 t394 t395 t397 t398)) = some true := H
        have A181 := Aside0.mk A1810
        clear A1810
        by_cases c182 : t414 = true
        ·
         subst c182
         have H1 : ((itv_Leq.f a2_0 a2_1 a1_0 a1_1).bind fun t415 => (if t415 = true then ((itv_Leq.f a2_0 a2_1 t397 t398).bind fun t416 => (gimballaw02_ItvLattice.j1 kj5 (!t416) a0_0 a0_1 a1_0 a1_1 a2_0 a2_1 t394 t395 t397 t398)) else (gimballaw02_ItvLattice.j1 kj5 false a0_0 a0_1 a1_0 a1_1 a2_0 a2_1 t394 t395 t397 t398))) = some true := by rw [if_pos rfl] at H; exact H
         clear H
         have H := H1
         clear H1
         replace H := Option.bind_eq_some_iff.mp H
         obtain ⟨t415, A1830, H⟩ := H
         replace H : (if t415 = true then ((itv_Leq.f a2_0 a2_1 t397 t398).bind fun t416 => (gimballaw02_ItvLattice.j1 kj5 (!t416) a0_0 a0_1 a1_0 a1_1 a2_0 a2_1 t394 t395 t397 t398)) else (gimballaw02_ItvLattice.j1 kj5 false a0_0 a0_1 a1_0 a1_1 a2_0 a2_1 t394 t395 t397 t398)) = some true := H
         have A183 := Aside0.mk A1830
         clear A1830
         by_cases c184 : t415 = true
         ·
          subst c184
          have H1 : ((itv_Leq.f a2_0 a2_1 t397 t398).bind fun t416 => (gimballaw02_ItvLattice.j1 kj5 (!t416) a0_0 a0_1 a1_0 a1_1 a2_0 a2_1 t394 t395 t397 t398)) = some true := by rw [if_pos rfl] at H; exact H
          clear H
          have H := H1
          clear H1
          replace H := Option.bind_eq_some_iff.mp H
          obtain ⟨t416, A1850, H⟩ := H
          replace H : (gimballaw02_ItvLattice.j1 kj5 (!t416) a0_0 a0_1 a1_0 a1_1 a2_0 a2_1 t394 t395 t397 t398) = some true := H
          have A185 := Aside0.mk A1850
          clear A1850
          have H' := Aside0.mk H
          clear H
          have hnb186 := NB391_392.out
          have hnc186 := NB392_391.out
          have hnb187 := NB391_393.out
          have hnc187 := NB393_391.out
          have hnb188 := NB391_396.out
          have hnc188 := NB396_391.out
          have hnb189 := NB391_399.out
          have hnc189 := NB399_391.out
          have hcz190_0 := hcz BK391 0
          have hcz190_1 := hcz BK391 1
          have hfz190_0 := blk_frozen BK391.out 0
          have hfz190_1 := blk_frozen BK391.out 1
          have hnb191 := NB393_392.out
          have hnc191 := NB392_393.out
          have hnb192 := NB393_396.out
          have hnc192 := NB396_393.out
          have hnb193 := NB393_399.out
          have hnc193 := NB399_393.out
          have hcz194_0 := hcz BK393 0
          have hcz194_1 := hcz BK393 1
          have hfz194_0 := blk_frozen BK393.out 0
          have hfz194_1 := blk_frozen BK393.out 1
          go_wp2_with (first | ((with_reducible refine gate_callee (f := 24) rfl ?_); refine goesL_ (some 53) rfl rfl Try.func24 (by kernel_rfl) rfl #[.agg #[.int .i64 a0_0, .int .i64 a0_1], .agg #[.int .i64 a2_0, .int .i64 a2_1]] rfl (by (try simp only [List.map_toArray, List.map_cons, List.map_nil]); first | done | rfl | (simp only [List.length_drop, List.length_take]; rfl)) ?_; (with_reducible refine (itv_Leq.calls a0_0 a0_1 a2_0 a2_1 true _ A76.out).mono ?_); rintro e w195 ⟨rfl, hb⟩; refine ⟨_, rfl, ?_⟩; have n0_ := bst HB hb; replace BK391 := bbw BK391 hb; replace BK392 := bbw BK392 hb; replace BK393 := bbw BK393 hb; replace BK396 := bbw BK396 hb; replace BK399 := bbw BK399 hb; clear HB; have HB := n0_; clear n0_; (try clear hb); (try clear hb2); (try clear hk); (try clear hi); have hnb196 := NB392_396.out; have hnc196 := NB396_392.out; have hnb197 := NB392_399.out; have hnc197 := NB399_392.out; have hcz198_0 := hcz BK392 0; have hcz198_1 := hcz BK392 1; have hfz198_0 := blk_frozen BK392.out 0; have hfz198_1 := blk_frozen BK392.out 1; have hcz199_0 := hcz BK393 0; have hcz199_1 := hcz BK393 1; have hfz199_0 := blk_frozen BK393.out 0; have hfz199_1 := blk_frozen BK393.out 1) | (go_at_call 24; (with_reducible refine (itv_Leq.calls a1_0 a1_1 a2_0 a2_1 false _ A78.out).mono ?_); rintro e w200 ⟨rfl, hb⟩; have n0_ := bst HB hb; replace BK391 := bbw BK391 hb; replace BK392 := bbw BK392 hb; replace BK393 := bbw BK393 hb; replace BK396 := bbw BK396 hb; replace BK399 := bbw BK399 hb; clear HB; have HB := n0_; clear n0_; (try clear hb); (try clear hb2); (try clear hk); (try clear hi); have hcz201_0 := hcz BK393 0; have hcz201_1 := hcz BK393 1; have hfz201_0 := blk_frozen BK393.out 0; have hfz201_1 := blk_frozen BK393.out 1; have hcz202_0 := hcz BK391 0; have hcz202_1 := hcz BK391 1; have hfz202_0 := blk_frozen BK391.out 0; have hfz202_1 := blk_frozen BK391.out 1) | (go_at_call 24; (with_reducible refine (itv_Leq.calls a2_0 a2_1 a0_0 a0_1 true _ A181.out).mono ?_); rintro e w203 ⟨rfl, hb⟩; have n0_ := bst HB hb; replace BK391 := bbw BK391 hb; replace BK392 := bbw BK392 hb; replace BK393 := bbw BK393 hb; replace BK396 := bbw BK396 hb; replace BK399 := bbw BK399 hb; clear HB; have HB := n0_; clear n0_; (try clear hb); (try clear hb2); (try clear hk); (try clear hi); have hcz204_0 := hcz BK393 0; have hcz204_1 := hcz BK393 1; have hfz204_0 := blk_frozen BK393.out 0; have hfz204_1 := blk_frozen BK393.out 1; have hcz205_0 := hcz BK392 0; have hcz205_1 := hcz BK392 1; have hfz205_0 := blk_frozen BK392.out 0; have hfz205_1 := blk_frozen BK392.out 1) | (go_at_call 24; (with_reducible refine (itv_Leq.calls a2_0 a2_1 a1_0 a1_1 true _ A183.out).mono ?_); rintro e w206 ⟨rfl, hb⟩; have n0_ := bst HB hb; replace BK391 := bbw BK391 hb; replace BK392 := bbw BK392 hb; replace BK393 := bbw BK393 hb; replace BK396 := bbw BK396 hb; replace BK399 := bbw BK399 hb; clear HB; have HB := n0_; clear n0_; (try clear hb); (try clear hb2); (try clear hk); (try clear hi); have hcz207_0 := hcz BK393 0; have hcz207_1 := hcz BK393 1; have hfz207_0 := blk_frozen BK393.out 0; have hfz207_1 := blk_frozen BK393.out 1; have hnb208 := NB399_396.out; have hnc208 := NB396_399.out; have hcz209_0 := hcz BK399 0; have hcz209_1 := hcz BK399 1; have hfz209_0 := blk_frozen BK399.out 0; have hfz209_1 := blk_frozen BK399.out 1) | (go_at_call 24; (with_reducible refine (itv_Leq.calls a2_0 a2_1 t397 t398 t416 _ A185.out).mono ?_); rintro e w210 ⟨rfl, hb⟩; have n0_ := bst HB hb; replace BK391 := bbw BK391 hb; replace BK392 := bbw BK392 hb; replace BK393 := bbw BK393 hb; replace BK396 := bbw BK396 hb; replace BK399 := bbw BK399 hb; clear HB; have HB := n0_; clear n0_; (try clear hb); (try clear hb2); (try clear hk); (try clear hi)))
          go_meet
          case rel => exact ⟨_, (!t416), (by first | rfl | (simp; done) | (simp [*]; done)), H', ⟨by have := HJ5.out; first | omega | exact Nat.le_refl _⟩, pkA BK391, pkA BK392, pkA BK393, pkA BK396, pkA BK399, bpk HB⟩
         ·
          replace c184 := Bool.eq_false_iff.mpr c184
          subst c184
          have H1 : (gimballaw02_ItvLattice.j1 kj5 false a0_0 a0_1 a1_0 a1_1 a2_0 a2_1 t394 t395 t397 t398) = some true := by rw [if_neg (show ¬ (false = true) by decide)] at H; exact H
          clear H
          have H := H1
          clear H1
          have H' := Aside0.mk H
          clear H
          have hnb211 := NB391_392.out
          have hnc211 := NB392_391.out
          have hnb212 := NB391_393.out
          have hnc212 := NB393_391.out
          have hnb213 := NB391_396.out
          have hnc213 := NB396_391.out
          have hnb214 := NB391_399.out
          have hnc214 := NB399_391.out
          have hcz215_0 := hcz BK391 0
          have hcz215_1 := hcz BK391 1
          have hfz215_0 := blk_frozen BK391.out 0
          have hfz215_1 := blk_frozen BK391.out 1
          have hnb216 := NB393_392.out
          have hnc216 := NB392_393.out
          have hnb217 := NB393_396.out
          have hnc217 := NB396_393.out
          have hnb218 := NB393_399.out
          have hnc218 := NB399_393.out
          have hcz219_0 := hcz BK393 0
          have hcz219_1 := hcz BK393 1
          have hfz219_0 := blk_frozen BK393.out 0
          have hfz219_1 := blk_frozen BK393.out 1
          go_wp2_with (first | ((with_reducible refine gate_callee (f := 24) rfl ?_); refine goesL_ (some 53) rfl rfl Try.func24 (by kernel_rfl) rfl #[.agg #[.int .i64 a0_0, .int .i64 a0_1], .agg #[.int .i64 a2_0, .int .i64 a2_1]] rfl (by (try simp only [List.map_toArray, List.map_cons, List.map_nil]); first | done | rfl | (simp only [List.length_drop, List.length_take]; rfl)) ?_; (with_reducible refine (itv_Leq.calls a0_0 a0_1 a2_0 a2_1 true _ A76.out).mono ?_); rintro e w220 ⟨rfl, hb⟩; refine ⟨_, rfl, ?_⟩; have n0_ := bst HB hb; replace BK391 := bbw BK391 hb; replace BK392 := bbw BK392 hb; replace BK393 := bbw BK393 hb; replace BK396 := bbw BK396 hb; replace BK399 := bbw BK399 hb; clear HB; have HB := n0_; clear n0_; (try clear hb); (try clear hb2); (try clear hk); (try clear hi); have hnb221 := NB392_396.out; have hnc221 := NB396_392.out; have hnb222 := NB392_399.out; have hnc222 := NB399_392.out; have hcz223_0 := hcz BK392 0; have hcz223_1 := hcz BK392 1; have hfz223_0 := blk_frozen BK392.out 0; have hfz223_1 := blk_frozen BK392.out 1; have hcz224_0 := hcz BK393 0; have hcz224_1 := hcz BK393 1; have hfz224_0 := blk_frozen BK393.out 0; have hfz224_1 := blk_frozen BK393.out 1) | (go_at_call 24; (with_reducible refine (itv_Leq.calls a1_0 a1_1 a2_0 a2_1 false _ A78.out).mono ?_); rintro e w225 ⟨rfl, hb⟩; have n0_ := bst HB hb; replace BK391 := bbw BK391 hb; replace BK392 := bbw BK392 hb; replace BK393 := bbw BK393 hb; replace BK396 := bbw BK396 hb; replace BK399 := bbw BK399 hb; clear HB; have HB := n0_; clear n0_; (try clear hb); (try clear hb2); (try clear hk); (try clear hi); have hcz226_0 := hcz BK393 0; have hcz226_1 := hcz BK393 1; have hfz226_0 := blk_frozen BK393.out 0; have hfz226_1 := blk_frozen BK393.out 1; have hcz227_0 := hcz BK391 0; have hcz227_1 := hcz BK391 1; have hfz227_0 := blk_frozen BK391.out 0; have hfz227_1 := blk_frozen BK391.out 1) | (go_at_call 24; (with_reducible refine (itv_Leq.calls a2_0 a2_1 a0_0 a0_1 true _ A181.out).mono ?_); rintro e w228 ⟨rfl, hb⟩; have n0_ := bst HB hb; replace BK391 := bbw BK391 hb; replace BK392 := bbw BK392 hb; replace BK393 := bbw BK393 hb; replace BK396 := bbw BK396 hb; replace BK399 := bbw BK399 hb; clear HB; have HB := n0_; clear n0_; (try clear hb); (try clear hb2); (try clear hk); (try clear hi); have hcz229_0 := hcz BK393 0; have hcz229_1 := hcz BK393 1; have hfz229_0 := blk_frozen BK393.out 0; have hfz229_1 := blk_frozen BK393.out 1; have hcz230_0 := hcz BK392 0; have hcz230_1 := hcz BK392 1; have hfz230_0 := blk_frozen BK392.out 0; have hfz230_1 := blk_frozen BK392.out 1) | (go_at_call 24; (with_reducible refine (itv_Leq.calls a2_0 a2_1 a1_0 a1_1 false _ A183.out).mono ?_); rintro e w231 ⟨rfl, hb⟩; have n0_ := bst HB hb; replace BK391 := bbw BK391 hb; replace BK392 := bbw BK392 hb; replace BK393 := bbw BK393 hb; replace BK396 := bbw BK396 hb; replace BK399 := bbw BK399 hb; clear HB; have HB := n0_; clear n0_; (try clear hb); (try clear hb2); (try clear hk); (try clear hi)))
          go_meet
          case rel => exact ⟨_, (false), (by first | rfl | (simp; done) | (simp [*]; done)), H', ⟨by have := HJ5.out; first | omega | exact Nat.le_refl _⟩, pkA BK391, pkA BK392, pkA BK393, pkA BK396, pkA BK399, bpk HB⟩
        ·
         replace c182 := Bool.eq_false_iff.mpr c182
         subst c182
         have H1 : (gimballaw02_ItvLattice.j1 kj5 false a0_0 a0_1 a1_0 a1_1 a2_0 a2_1 t394 t395 t397 t398) = some true := by rw [if_neg (show ¬ (false = true) by decide)] at H; exact H
         clear H
         have H := H1
         clear H1
         have H' := Aside0.mk H
         clear H
         have hnb232 := NB391_392.out
         have hnc232 := NB392_391.out
         have hnb233 := NB391_393.out
         have hnc233 := NB393_391.out
         have hnb234 := NB391_396.out
         have hnc234 := NB396_391.out
         have hnb235 := NB391_399.out
         have hnc235 := NB399_391.out
         have hcz236_0 := hcz BK391 0
         have hcz236_1 := hcz BK391 1
         have hfz236_0 := blk_frozen BK391.out 0
         have hfz236_1 := blk_frozen BK391.out 1
         have hnb237 := NB393_392.out
         have hnc237 := NB392_393.out
         have hnb238 := NB393_396.out
         have hnc238 := NB396_393.out
         have hnb239 := NB393_399.out
         have hnc239 := NB399_393.out
         have hcz240_0 := hcz BK393 0
         have hcz240_1 := hcz BK393 1
         have hfz240_0 := blk_frozen BK393.out 0
         have hfz240_1 := blk_frozen BK393.out 1
         go_wp2_with (first | ((with_reducible refine gate_callee (f := 24) rfl ?_); refine goesL_ (some 53) rfl rfl Try.func24 (by kernel_rfl) rfl #[.agg #[.int .i64 a0_0, .int .i64 a0_1], .agg #[.int .i64 a2_0, .int .i64 a2_1]] rfl (by (try simp only [List.map_toArray, List.map_cons, List.map_nil]); first | done | rfl | (simp only [List.length_drop, List.length_take]; rfl)) ?_; (with_reducible refine (itv_Leq.calls a0_0 a0_1 a2_0 a2_1 true _ A76.out).mono ?_); rintro e w241 ⟨rfl, hb⟩; refine ⟨_, rfl, ?_⟩; have n0_ := bst HB hb; replace BK391 := bbw BK391 hb; replace BK392 := bbw BK392 hb; replace BK393 := bbw BK393 hb; replace BK396 := bbw BK396 hb; replace BK399 := bbw BK399 hb; clear HB; have HB := n0_; clear n0_; (try clear hb); (try clear hb2); (try clear hk); (try clear hi); have hnb242 := NB392_396.out; have hnc242 := NB396_392.out; have hnb243 := NB392_399.out; have hnc243 := NB399_392.out; have hcz244_0 := hcz BK392 0; have hcz244_1 := hcz BK392 1; have hfz244_0 := blk_frozen BK392.out 0; have hfz244_1 := blk_frozen BK392.out 1; have hcz245_0 := hcz BK393 0; have hcz245_1 := hcz BK393 1; have hfz245_0 := blk_frozen BK393.out 0; have hfz245_1 := blk_frozen BK393.out 1) | (go_at_call 24; (with_reducible refine (itv_Leq.calls a1_0 a1_1 a2_0 a2_1 false _ A78.out).mono ?_); rintro e w246 ⟨rfl, hb⟩; have n0_ := bst HB hb; replace BK391 := bbw BK391 hb; replace BK392 := bbw BK392 hb; replace BK393 := bbw BK393 hb; replace BK396 := bbw BK396 hb; replace BK399 := bbw BK399 hb; clear HB; have HB := n0_; clear n0_; (try clear hb); (try clear hb2); (try clear hk); (try clear hi); have hcz247_0 := hcz BK393 0; have hcz247_1 := hcz BK393 1; have hfz247_0 := blk_frozen BK393.out 0; have hfz247_1 := blk_frozen BK393.out 1; have hcz248_0 := hcz BK391 0; have hcz248_1 := hcz BK391 1; have hfz248_0 := blk_frozen BK391.out 0; have hfz248_1 := blk_frozen BK391.out 1) | (go_at_call 24; (with_reducible refine (itv_Leq.calls a2_0 a2_1 a0_0 a0_1 false _ A181.out).mono ?_); rintro e w249 ⟨rfl, hb⟩; have n0_ := bst HB hb; replace BK391 := bbw BK391 hb; replace BK392 := bbw BK392 hb; replace BK393 := bbw BK393 hb; replace BK396 := bbw BK396 hb; replace BK399 := bbw BK399 hb; clear HB; have HB := n0_; clear n0_; (try clear hb); (try clear hb2); (try clear hk); (try clear hi)))
         go_meet
         case rel => exact ⟨_, (false), (by first | rfl | (simp; done) | (simp [*]; done)), H', ⟨by have := HJ5.out; first | omega | exact Nat.le_refl _⟩, pkA BK391, pkA BK392, pkA BK393, pkA BK396, pkA BK399, bpk HB⟩
      ·
       replace c77 := Bool.eq_false_iff.mpr c77
       subst c77
       have H1 : ((itv_Leq.f a2_0 a2_1 a0_0 a0_1).bind fun t417 => (if t417 = true then ((itv_Leq.f a2_0 a2_1 a1_0 a1_1).bind fun t418 => (if t418 = true then ((itv_Leq.f a2_0 a2_1 t397 t398).bind fun t419 => (gimballaw02_ItvLattice.j1 kj5 (!t419) a0_0 a0_1 a1_0 a1_1 a2_0 a2_1 t394 t395 t397 t398)) else (gimballaw02_ItvLattice.j1 kj5 false a0_0 a0_1 a1_0 a1_1 a2_0 a2_1 t394 t395 t397 t398))) else (gimballaw02_ItvLattice.j1 kj5 false a0_0 a0_1 a1_0 a1_1 a2_0 a2_1 t394 t395 t397 t398))) = some true := by rw [if_neg (show ¬ (false = true) by decide)] at H; exact H
       clear H
       have H := H1
       clear H1
       replace H := Option.bind_eq_some_iff.mp H
       obtain ⟨t417, A2500, H⟩ := H
       replace H : (if t417 = true then ((itv_Leq.f a2_0 a2_1 a1_0 a1_1).bind fun t418 => (if t418 = true then ((itv_Leq.f a2_0 a2_1 t397 t398).bind fun t419 => (gimballaw02_ItvLattice.j1 kj5 (!t419) a0_0 a0_1 a1_0 a1_1 a2_0 a2_1 t394 t395 t397 t398)) else (gimballaw02_ItvLattice.j1 kj5 false a0_0 a0_1 a1_0 a1_1 a2_0 a2_1 t394 t395 t397 t398))) else (gimballaw02_ItvLattice.j1 kj5 false a0_0 a0_1 a1_0 a1_1 a2_0 a2_1 t394 t395 t397 t398)) = some true := H
       have A250 := Aside0.mk A2500
       clear A2500
       by_cases c251 : t417 = true
       ·
        subst c251
        have H1 : ((itv_Leq.f a2_0 a2_1 a1_0 a1_1).bind fun t418 => (if t418 = true then ((itv_Leq.f a2_0 a2_1 t397 t398).bind fun t419 => (gimballaw02_ItvLattice.j1 kj5 (!t419) a0_0 a0_1 a1_0 a1_1 a2_0 a2_1 t394 t395 t397 t398)) else (gimballaw02_ItvLattice.j1 kj5 false a0_0 a0_1 a1_0 a1_1 a2_0 a2_1 t394 t395 t397 t398))) = some true := by rw [if_pos rfl] at H; exact H
        clear H
        have H := H1
        clear H1
        replace H := Option.bind_eq_some_iff.mp H
        obtain ⟨t418, A2520, H⟩ := H
        replace H : (if t418 = true then ((itv_Leq.f a2_0 a2_1 t397 t398).bind fun t419 => (gimballaw02_ItvLattice.j1 kj5 (!t419) a0_0 a0_1 a1_0 a1_1 a2_0 a2_1 t394 t395 t397 t398)) else (gimballaw02_ItvLattice.j1 kj5 false a0_0 a0_1 a1_0 a1_1 a2_0 a2_1 t394 t395 t397 t398)) = some true := H
        have A252 := Aside0.mk A2520
        clear A2520
        by_cases c253 : t418 = true
        ·
         subst c253
         have H1 : ((itv_Leq.f a2_0 a2_1 t397 t398).bind fun t419 => (gimballaw02_ItvLattice.j1 kj5 (!t419) a0_0 a0_1 a1_0 a1_1 a2_0 a2_1 t394 t395 t397 t398)) = some true := by rw [if_pos rfl] at H; exact H
         clear H
         have H := H1
         clear H1
         replace H := Option.bind_eq_some_iff.mp H
         obtain ⟨t419, A2540, H⟩ := H
         replace H : (gimballaw02_ItvLattice.j1 kj5 (!t419) a0_0 a0_1 a1_0 a1_1 a2_0 a2_1 t394 t395 t397 t398) = some true := H
         have A254 := Aside0.mk A2540
         clear A2540
         have H' := Aside0.mk H
         clear H
         have hnb255 := NB391_392.out
         have hnc255 := NB392_391.out
         have hnb256 := NB391_393.out
         have hnc256 := NB393_391.out
         have hnb257 := NB391_396.out
         have hnc257 := NB396_391.out
         have hnb258 := NB391_399.out
         have hnc258 := NB399_391.out
         have hcz259_0 := hcz BK391 0
         have hcz259_1 := hcz BK391 1
         have hfz259_0 := blk_frozen BK391.out 0
         have hfz259_1 := blk_frozen BK391.out 1
         have hnb260 := NB393_392.out
         have hnc260 := NB392_393.out
         have hnb261 := NB393_396.out
         have hnc261 := NB396_393.out
         have hnb262 := NB393_399.out
         have hnc262 := NB399_393.out
         have hcz263_0 := hcz BK393 0
         have hcz263_1 := hcz BK393 1
         have hfz263_0 := blk_frozen BK393.out 0
         have hfz263_1 := blk_frozen BK393.out 1
         go_wp2_with (first | ((with_reducible refine gate_callee (f := 24) rfl ?_); refine goesL_ (some 53) rfl rfl Try.func24 (by kernel_rfl) rfl #[.agg #[.int .i64 a0_0, .int .i64 a0_1], .agg #[.int .i64 a2_0, .int .i64 a2_1]] rfl (by (try simp only [List.map_toArray, List.map_cons, List.map_nil]); first | done | rfl | (simp only [List.length_drop, List.length_take]; rfl)) ?_; (with_reducible refine (itv_Leq.calls a0_0 a0_1 a2_0 a2_1 false _ A76.out).mono ?_); rintro e w264 ⟨rfl, hb⟩; refine ⟨_, rfl, ?_⟩; have n0_ := bst HB hb; replace BK391 := bbw BK391 hb; replace BK392 := bbw BK392 hb; replace BK393 := bbw BK393 hb; replace BK396 := bbw BK396 hb; replace BK399 := bbw BK399 hb; clear HB; have HB := n0_; clear n0_; (try clear hb); (try clear hb2); (try clear hk); (try clear hi); have hcz265_0 := hcz BK393 0; have hcz265_1 := hcz BK393 1; have hfz265_0 := blk_frozen BK393.out 0; have hfz265_1 := blk_frozen BK393.out 1; have hcz266_0 := hcz BK391 0; have hcz266_1 := hcz BK391 1; have hfz266_0 := blk_frozen BK391.out 0; have hfz266_1 := blk_frozen BK391.out 1) | (go_at_call 24; (with_reducible refine (itv_Leq.calls a2_0 a2_1 a0_0 a0_1 true _ A250.out).mono ?_); rintro e w267 ⟨rfl, hb⟩; have n0_ := bst HB hb; replace BK391 := bbw BK391 hb; replace BK392 := bbw BK392 hb; replace BK393 := bbw BK393 hb; replace BK396 := bbw BK396 hb; replace BK399 := bbw BK399 hb; clear HB; have HB := n0_; clear n0_; (try clear hb); (try clear hb2); (try clear hk); (try clear hi); have hcz268_0 := hcz BK393 0; have hcz268_1 := hcz BK393 1; have hfz268_0 := blk_frozen BK393.out 0; have hfz268_1 := blk_frozen BK393.out 1; have hnb269 := NB392_396.out; have hnc269 := NB396_392.out; have hnb270 := NB392_399.out; have hnc270 := NB399_392.out; have hcz271_0 := hcz BK392 0; have hcz271_1 := hcz BK392 1; have hfz271_0 := blk_frozen BK392.out 0; have hfz271_1 := blk_frozen BK392.out 1) | (go_at_call 24; (with_reducible refine (itv_Leq.calls a2_0 a2_1 a1_0 a1_1 true _ A252.out).mono ?_); rintro e w272 ⟨rfl, hb⟩; have n0_ := bst HB hb; replace BK391 := bbw BK391 hb; replace BK392 := bbw BK392 hb; replace BK393 := bbw BK393 hb; replace BK396 := bbw BK396 hb; replace BK399 := bbw BK399 hb; clear HB; have HB := n0_; clear n0_; (try clear hb); (try clear hb2); (try clear hk); (try clear hi); have hcz273_0 := hcz BK393 0; have hcz273_1 := hcz BK393 1; have hfz273_0 := blk_frozen BK393.out 0; have hfz273_1 := blk_frozen BK393.out 1; have hnb274 := NB399_396.out; have hnc274 := NB396_399.out; have hcz275_0 := hcz BK399 0; have hcz275_1 := hcz BK399 1; have hfz275_0 := blk_frozen BK399.out 0; have hfz275_1 := blk_frozen BK399.out 1) | (go_at_call 24; (with_reducible refine (itv_Leq.calls a2_0 a2_1 t397 t398 t419 _ A254.out).mono ?_); rintro e w276 ⟨rfl, hb⟩; have n0_ := bst HB hb; replace BK391 := bbw BK391 hb; replace BK392 := bbw BK392 hb; replace BK393 := bbw BK393 hb; replace BK396 := bbw BK396 hb; replace BK399 := bbw BK399 hb; clear HB; have HB := n0_; clear n0_; (try clear hb); (try clear hb2); (try clear hk); (try clear hi)))
         go_meet
         case rel => exact ⟨_, (!t419), (by first | rfl | (simp; done) | (simp [*]; done)), H', ⟨by have := HJ5.out; first | omega | exact Nat.le_refl _⟩, pkA BK391, pkA BK392, pkA BK393, pkA BK396, pkA BK399, bpk HB⟩
        ·
         replace c253 := Bool.eq_false_iff.mpr c253
         subst c253
         have H1 : (gimballaw02_ItvLattice.j1 kj5 false a0_0 a0_1 a1_0 a1_1 a2_0 a2_1 t394 t395 t397 t398) = some true := by rw [if_neg (show ¬ (false = true) by decide)] at H; exact H
         clear H
         have H := H1
         clear H1
         have H' := Aside0.mk H
         clear H
         have hnb277 := NB391_392.out
         have hnc277 := NB392_391.out
         have hnb278 := NB391_393.out
         have hnc278 := NB393_391.out
         have hnb279 := NB391_396.out
         have hnc279 := NB396_391.out
         have hnb280 := NB391_399.out
         have hnc280 := NB399_391.out
         have hcz281_0 := hcz BK391 0
         have hcz281_1 := hcz BK391 1
         have hfz281_0 := blk_frozen BK391.out 0
         have hfz281_1 := blk_frozen BK391.out 1
         have hnb282 := NB393_392.out
         have hnc282 := NB392_393.out
         have hnb283 := NB393_396.out
         have hnc283 := NB396_393.out
         have hnb284 := NB393_399.out
         have hnc284 := NB399_393.out
         have hcz285_0 := hcz BK393 0
         have hcz285_1 := hcz BK393 1
         have hfz285_0 := blk_frozen BK393.out 0
         have hfz285_1 := blk_frozen BK393.out 1
         go_wp2_with (first | ((with_reducible refine gate_callee (f := 24) rfl ?_); refine goesL_ (some 53) rfl rfl Try.func24 (by kernel_rfl) rfl #[.agg #[.int .i64 a0_0, .int .i64 a0_1], .agg #[.int .i64 a2_0, .int .i64 a2_1]] rfl (by (try simp only [List.map_toArray, List.map_cons, List.map_nil]); first | done | rfl | (simp only [List.length_drop, List.length_take]; rfl)) ?_; (with_reducible refine (itv_Leq.calls a0_0 a0_1 a2_0 a2_1 false _ A76.out).mono ?_); rintro e w286 ⟨rfl, hb⟩; refine ⟨_, rfl, ?_⟩; have n0_ := bst HB hb; replace BK391 := bbw BK391 hb; replace BK392 := bbw BK392 hb; replace BK393 := bbw BK393 hb; replace BK396 := bbw BK396 hb; replace BK399 := bbw BK399 hb; clear HB; have HB := n0_; clear n0_; (try clear hb); (try clear hb2); (try clear hk); (try clear hi); have hcz287_0 := hcz BK393 0; have hcz287_1 := hcz BK393 1; have hfz287_0 := blk_frozen BK393.out 0; have hfz287_1 := blk_frozen BK393.out 1; have hcz288_0 := hcz BK391 0; have hcz288_1 := hcz BK391 1; have hfz288_0 := blk_frozen BK391.out 0; have hfz288_1 := blk_frozen BK391.out 1) | (go_at_call 24; (with_reducible refine (itv_Leq.calls a2_0 a2_1 a0_0 a0_1 true _ A250.out).mono ?_); rintro e w289 ⟨rfl, hb⟩; have n0_ := bst HB hb; replace BK391 := bbw BK391 hb; replace BK392 := bbw BK392 hb; replace BK393 := bbw BK393 hb; replace BK396 := bbw BK396 hb; replace BK399 := bbw BK399 hb; clear HB; have HB := n0_; clear n0_; (try clear hb); (try clear hb2); (try clear hk); (try clear hi); have hcz290_0 := hcz BK393 0; have hcz290_1 := hcz BK393 1; have hfz290_0 := blk_frozen BK393.out 0; have hfz290_1 := blk_frozen BK393.out 1; have hnb291 := NB392_396.out; have hnc291 := NB396_392.out; have hnb292 := NB392_399.out; have hnc292 := NB399_392.out; have hcz293_0 := hcz BK392 0; have hcz293_1 := hcz BK392 1; have hfz293_0 := blk_frozen BK392.out 0; have hfz293_1 := blk_frozen BK392.out 1) | (go_at_call 24; (with_reducible refine (itv_Leq.calls a2_0 a2_1 a1_0 a1_1 false _ A252.out).mono ?_); rintro e w294 ⟨rfl, hb⟩; have n0_ := bst HB hb; replace BK391 := bbw BK391 hb; replace BK392 := bbw BK392 hb; replace BK393 := bbw BK393 hb; replace BK396 := bbw BK396 hb; replace BK399 := bbw BK399 hb; clear HB; have HB := n0_; clear n0_; (try clear hb); (try clear hb2); (try clear hk); (try clear hi)))
         go_meet
         case rel => exact ⟨_, (false), (by first | rfl | (simp; done) | (simp [*]; done)), H', ⟨by have := HJ5.out; first | omega | exact Nat.le_refl _⟩, pkA BK391, pkA BK392, pkA BK393, pkA BK396, pkA BK399, bpk HB⟩
       ·
        replace c251 := Bool.eq_false_iff.mpr c251
        subst c251
        have H1 : (gimballaw02_ItvLattice.j1 kj5 false a0_0 a0_1 a1_0 a1_1 a2_0 a2_1 t394 t395 t397 t398) = some true := by rw [if_neg (show ¬ (false = true) by decide)] at H; exact H
        clear H
        have H := H1
        clear H1
        have H' := Aside0.mk H
        clear H
        have hnb295 := NB391_392.out
        have hnc295 := NB392_391.out
        have hnb296 := NB391_393.out
        have hnc296 := NB393_391.out
        have hnb297 := NB391_396.out
        have hnc297 := NB396_391.out
        have hnb298 := NB391_399.out
        have hnc298 := NB399_391.out
        have hcz299_0 := hcz BK391 0
        have hcz299_1 := hcz BK391 1
        have hfz299_0 := blk_frozen BK391.out 0
        have hfz299_1 := blk_frozen BK391.out 1
        have hnb300 := NB393_392.out
        have hnc300 := NB392_393.out
        have hnb301 := NB393_396.out
        have hnc301 := NB396_393.out
        have hnb302 := NB393_399.out
        have hnc302 := NB399_393.out
        have hcz303_0 := hcz BK393 0
        have hcz303_1 := hcz BK393 1
        have hfz303_0 := blk_frozen BK393.out 0
        have hfz303_1 := blk_frozen BK393.out 1
        go_wp2_with (first | ((with_reducible refine gate_callee (f := 24) rfl ?_); refine goesL_ (some 53) rfl rfl Try.func24 (by kernel_rfl) rfl #[.agg #[.int .i64 a0_0, .int .i64 a0_1], .agg #[.int .i64 a2_0, .int .i64 a2_1]] rfl (by (try simp only [List.map_toArray, List.map_cons, List.map_nil]); first | done | rfl | (simp only [List.length_drop, List.length_take]; rfl)) ?_; (with_reducible refine (itv_Leq.calls a0_0 a0_1 a2_0 a2_1 false _ A76.out).mono ?_); rintro e w304 ⟨rfl, hb⟩; refine ⟨_, rfl, ?_⟩; have n0_ := bst HB hb; replace BK391 := bbw BK391 hb; replace BK392 := bbw BK392 hb; replace BK393 := bbw BK393 hb; replace BK396 := bbw BK396 hb; replace BK399 := bbw BK399 hb; clear HB; have HB := n0_; clear n0_; (try clear hb); (try clear hb2); (try clear hk); (try clear hi); have hcz305_0 := hcz BK393 0; have hcz305_1 := hcz BK393 1; have hfz305_0 := blk_frozen BK393.out 0; have hfz305_1 := blk_frozen BK393.out 1; have hcz306_0 := hcz BK391 0; have hcz306_1 := hcz BK391 1; have hfz306_0 := blk_frozen BK391.out 0; have hfz306_1 := blk_frozen BK391.out 1) | (go_at_call 24; (with_reducible refine (itv_Leq.calls a2_0 a2_1 a0_0 a0_1 false _ A250.out).mono ?_); rintro e w307 ⟨rfl, hb⟩; have n0_ := bst HB hb; replace BK391 := bbw BK391 hb; replace BK392 := bbw BK392 hb; replace BK393 := bbw BK393 hb; replace BK396 := bbw BK396 hb; replace BK399 := bbw BK399 hb; clear HB; have HB := n0_; clear n0_; (try clear hb); (try clear hb2); (try clear hk); (try clear hi)))
        go_meet
        case rel => exact ⟨_, (false), (by first | rfl | (simp; done) | (simp [*]; done)), H', ⟨by have := HJ5.out; first | omega | exact Nat.le_refl _⟩, pkA BK391, pkA BK392, pkA BK393, pkA BK396, pkA BK399, bpk HB⟩
     case rest => as_aux_lemma =>
      clear HC75
      try clear c1
      try clear c2
      try clear p2
      try clear c3
      try clear c7
      try clear c8
      try clear c9
      try clear c10
      try clear c11
      try clear c12
      try clear c13
      try clear c14
      try clear c15
      try clear c16
      try clear c17
      try clear c18
      try clear c19
      try clear c20
      try clear c21
      try clear c22
      try clear c23
      try clear c24
      try clear c25
      try clear c26
      try clear c27
      try clear c28
      try clear c29
      try clear c30
      try clear c31
      try clear c74
      try clear c77
      try clear c79
      try clear c81
      try clear c83
      try clear c85
      try clear c87
      try clear c88
      try clear c89
      try clear c90
      try clear c92
      try clear c93
      try clear c94
      try clear c97
      try clear c98
      try clear c102
      try clear c115
      try clear c116
      try clear c117
      try clear c118
      try clear c120
      try clear c121
      try clear c122
      try clear c125
      try clear c126
      try clear c130
      try clear c140
      try clear c141
      try clear c142
      try clear c143
      try clear c145
      try clear c146
      try clear c147
      try clear c150
      try clear c151
      try clear c155
      try clear c162
      try clear c163
      try clear c164
      try clear c165
      try clear c167
      try clear c168
      try clear c169
      try clear c172
      try clear c173
      try clear c177
      try clear c182
      try clear c184
      try clear c186
      try clear c187
      try clear c188
      try clear c189
      try clear c191
      try clear c192
      try clear c193
      try clear c196
      try clear c197
      try clear c208
      try clear c211
      try clear c212
      try clear c213
      try clear c214
      try clear c216
      try clear c217
      try clear c218
      try clear c221
      try clear c222
      try clear c232
      try clear c233
      try clear c234
      try clear c235
      try clear c237
      try clear c238
      try clear c239
      try clear c242
      try clear c243
      try clear c251
      try clear c253
      try clear c255
      try clear c256
      try clear c257
      try clear c258
      try clear c260
      try clear c261
      try clear c262
      try clear c269
      try clear c270
      try clear c274
      try clear c277
      try clear c278
      try clear c279
      try clear c280
      try clear c282
      try clear c283
      try clear c284
      try clear c291
      try clear c292
      try clear c295
      try clear c296
      try clear c297
      try clear c298
      try clear c300
      try clear c301
      try clear c302
      try clear hcz100_0
      try clear hcz100_1
      try clear hcz103_0
      try clear hcz103_1
      try clear hcz104_0
      try clear hcz104_1
      try clear hcz106_0
      try clear hcz106_1
      try clear hcz107_0
      try clear hcz107_1
      try clear hcz109_0
      try clear hcz109_1
      try clear hcz110_0
      try clear hcz110_1
      try clear hcz112_0
      try clear hcz112_1
      try clear hcz113_0
      try clear hcz113_1
      try clear hcz119_0
      try clear hcz119_1
      try clear hcz123_0
      try clear hcz123_1
      try clear hcz127_0
      try clear hcz127_1
      try clear hcz128_0
      try clear hcz128_1
      try clear hcz131_0
      try clear hcz131_1
      try clear hcz132_0
      try clear hcz132_1
      try clear hcz134_0
      try clear hcz134_1
      try clear hcz135_0
      try clear hcz135_1
      try clear hcz137_0
      try clear hcz137_1
      try clear hcz138_0
      try clear hcz138_1
      try clear hcz144_0
      try clear hcz144_1
      try clear hcz148_0
      try clear hcz148_1
      try clear hcz152_0
      try clear hcz152_1
      try clear hcz153_0
      try clear hcz153_1
      try clear hcz156_0
      try clear hcz156_1
      try clear hcz157_0
      try clear hcz157_1
      try clear hcz159_0
      try clear hcz159_1
      try clear hcz160_0
      try clear hcz160_1
      try clear hcz166_0
      try clear hcz166_1
      try clear hcz170_0
      try clear hcz170_1
      try clear hcz174_0
      try clear hcz174_1
      try clear hcz175_0
      try clear hcz175_1
      try clear hcz178_0
      try clear hcz178_1
      try clear hcz179_0
      try clear hcz179_1
      try clear hcz190_0
      try clear hcz190_1
      try clear hcz194_0
      try clear hcz194_1
      try clear hcz198_0
      try clear hcz198_1
      try clear hcz199_0
      try clear hcz199_1
      try clear hcz201_0
      try clear hcz201_1
      try clear hcz202_0
      try clear hcz202_1
      try clear hcz204_0
      try clear hcz204_1
      try clear hcz205_0
      try clear hcz205_1
      try clear hcz207_0
      try clear hcz207_1
      try clear hcz209_0
      try clear hcz209_1
      try clear hcz215_0
      try clear hcz215_1
      try clear hcz219_0
      try clear hcz219_1
      try clear hcz223_0
      try clear hcz223_1
      try clear hcz224_0
      try clear hcz224_1
      try clear hcz226_0
      try clear hcz226_1
      try clear hcz227_0
      try clear hcz227_1
      try clear hcz229_0
      try clear hcz229_1
      try clear hcz230_0
      try clear hcz230_1
      try clear hcz236_0
      try clear hcz236_1
      try clear hcz240_0
      try clear hcz240_1
      try clear hcz244_0
      try clear hcz244_1
      try clear hcz245_0
      try clear hcz245_1
      try clear hcz247_0
      try clear hcz247_1
      try clear hcz248_0
      try clear hcz248_1
      try clear hcz259_0
      try clear hcz259_1
      try clear hcz263_0
      try clear hcz263_1
      try clear hcz265_0
      try clear hcz265_1
      try clear hcz266_0
      try clear hcz266_1
      try clear hcz268_0
      try clear hcz268_1
      try clear hcz271_0
      try clear hcz271_1
      try clear hcz273_0
      try clear hcz273_1
      try clear hcz275_0
      try clear hcz275_1
      try clear hcz281_0
      try clear hcz281_1
      try clear hcz285_0
      try clear hcz285_1
      try clear hcz287_0
      try clear hcz287_1
      try clear hcz288_0
      try clear hcz288_1
      try clear hcz290_0
      try clear hcz290_1
      try clear hcz293_0
      try clear hcz293_1
      try clear hcz299_0
      try clear hcz299_1
      try clear hcz303_0
      try clear hcz303_1
      try clear hcz305_0
      try clear hcz305_1
      try clear hcz306_0
      try clear hcz306_1
      try clear hcz91_0
      try clear hcz91_1
      try clear hcz95_0
      try clear hcz95_1
      try clear hcz99_0
      try clear hcz99_1
      try clear hfz100_0
      try clear hfz100_1
      try clear hfz103_0
      try clear hfz103_1
      try clear hfz104_0
      try clear hfz104_1
      try clear hfz106_0
      try clear hfz106_1
      try clear hfz107_0
      try clear hfz107_1
      try clear hfz109_0
      try clear hfz109_1
      try clear hfz110_0
      try clear hfz110_1
      try clear hfz112_0
      try clear hfz112_1
      try clear hfz113_0
      try clear hfz113_1
      try clear hfz119_0
      try clear hfz119_1
      try clear hfz123_0
      try clear hfz123_1
      try clear hfz127_0
      try clear hfz127_1
      try clear hfz128_0
      try clear hfz128_1
      try clear hfz131_0
      try clear hfz131_1
      try clear hfz132_0
      try clear hfz132_1
      try clear hfz134_0
      try clear hfz134_1
      try clear hfz135_0
      try clear hfz135_1
      try clear hfz137_0
      try clear hfz137_1
      try clear hfz138_0
      try clear hfz138_1
      try clear hfz144_0
      try clear hfz144_1
      try clear hfz148_0
      try clear hfz148_1
      try clear hfz152_0
      try clear hfz152_1
      try clear hfz153_0
      try clear hfz153_1
      try clear hfz156_0
      try clear hfz156_1
      try clear hfz157_0
      try clear hfz157_1
      try clear hfz159_0
      try clear hfz159_1
      try clear hfz160_0
      try clear hfz160_1
      try clear hfz166_0
      try clear hfz166_1
      try clear hfz170_0
      try clear hfz170_1
      try clear hfz174_0
      try clear hfz174_1
      try clear hfz175_0
      try clear hfz175_1
      try clear hfz178_0
      try clear hfz178_1
      try clear hfz179_0
      try clear hfz179_1
      try clear hfz190_0
      try clear hfz190_1
      try clear hfz194_0
      try clear hfz194_1
      try clear hfz198_0
      try clear hfz198_1
      try clear hfz199_0
      try clear hfz199_1
      try clear hfz201_0
      try clear hfz201_1
      try clear hfz202_0
      try clear hfz202_1
      try clear hfz204_0
      try clear hfz204_1
      try clear hfz205_0
      try clear hfz205_1
      try clear hfz207_0
      try clear hfz207_1
      try clear hfz209_0
      try clear hfz209_1
      try clear hfz215_0
      try clear hfz215_1
      try clear hfz219_0
      try clear hfz219_1
      try clear hfz223_0
      try clear hfz223_1
      try clear hfz224_0
      try clear hfz224_1
      try clear hfz226_0
      try clear hfz226_1
      try clear hfz227_0
      try clear hfz227_1
      try clear hfz229_0
      try clear hfz229_1
      try clear hfz230_0
      try clear hfz230_1
      try clear hfz236_0
      try clear hfz236_1
      try clear hfz240_0
      try clear hfz240_1
      try clear hfz244_0
      try clear hfz244_1
      try clear hfz245_0
      try clear hfz245_1
      try clear hfz247_0
      try clear hfz247_1
      try clear hfz248_0
      try clear hfz248_1
      try clear hfz259_0
      try clear hfz259_1
      try clear hfz263_0
      try clear hfz263_1
      try clear hfz265_0
      try clear hfz265_1
      try clear hfz266_0
      try clear hfz266_1
      try clear hfz268_0
      try clear hfz268_1
      try clear hfz271_0
      try clear hfz271_1
      try clear hfz273_0
      try clear hfz273_1
      try clear hfz275_0
      try clear hfz275_1
      try clear hfz281_0
      try clear hfz281_1
      try clear hfz285_0
      try clear hfz285_1
      try clear hfz287_0
      try clear hfz287_1
      try clear hfz288_0
      try clear hfz288_1
      try clear hfz290_0
      try clear hfz290_1
      try clear hfz293_0
      try clear hfz293_1
      try clear hfz299_0
      try clear hfz299_1
      try clear hfz303_0
      try clear hfz303_1
      try clear hfz305_0
      try clear hfz305_1
      try clear hfz306_0
      try clear hfz306_1
      try clear hfz91_0
      try clear hfz91_1
      try clear hfz95_0
      try clear hfz95_1
      try clear hfz99_0
      try clear hfz99_1
      try clear p2
      obtain ⟨kq, x80_74, rfl, HA, HJ74, BK391, BK392, BK393, BK396, BK399, HB⟩ := hcut
      cases kq with
      | zero => exact absurd HA.out (by simp [gimballaw02_ItvLattice.j1])
      | succ kj74 =>
       have H := HA.out
       clear HA
       simp only [gimballaw02_ItvLattice.j1] at H
       by_cases c308 : x80_74 = true
       ·
        subst c308
        have H1 : (some false) = some true := by rw [if_pos rfl] at H; exact H
        clear H
        have H := H1
        clear H1
        exact absurd H (by simp)
       ·
        replace c308 := Bool.eq_false_iff.mpr c308
        subst c308
        have H1 : ((itv_Leq.f a0_0 a0_1 a1_0 a1_1).bind fun t420 => (if t420 = true then ((itv_Leq.f a1_0 a1_1 a2_0 a2_1).bind fun t421 => (if t421 = true then ((itv_Leq.f a0_0 a0_1 a2_0 a2_1).bind fun t422 => (if t422 = true then ((itv_Leq.f a0_0 a0_1 a1_0 a1_1).bind fun t423 => (if t423 = true then ((itv_Leq.f a1_0 a1_1 a0_0 a0_1).bind fun t424 => (if t424 = true then ((itv_Of.f a0_0 a0_1).bind fun bt425 => ((itv_Of.f a1_0 a1_1).bind fun bt427 => (gimballaw02_ItvLattice.j2 kj74 (!(bt425.1 == bt427.1) || (!(bt425.2 == bt427.2))) a0_0 a0_1 a1_0 a1_1 a2_0 a2_1 t394 t395 t397 t398))) else (gimballaw02_ItvLattice.j2 kj74 false a0_0 a0_1 a1_0 a1_1 a2_0 a2_1 t394 t395 t397 t398))) else (gimballaw02_ItvLattice.j2 kj74 false a0_0 a0_1 a1_0 a1_1 a2_0 a2_1 t394 t395 t397 t398))) else (gimballaw02_ItvLattice.j2 kj74 true a0_0 a0_1 a1_0 a1_1 a2_0 a2_1 t394 t395 t397 t398))) else ((itv_Leq.f a0_0 a0_1 a1_0 a1_1).bind fun t429 => (if t429 = true then ((itv_Leq.f a1_0 a1_1 a0_0 a0_1).bind fun t430 => (if t430 = true then ((itv_Of.f a0_0 a0_1).bind fun bt431 => ((itv_Of.f a1_0 a1_1).bind fun bt433 => (gimballaw02_ItvLattice.j2 kj74 (!(bt431.1 == bt433.1) || (!(bt431.2 == bt433.2))) a0_0 a0_1 a1_0 a1_1 a2_0 a2_1 t394 t395 t397 t398))) else (gimballaw02_ItvLattice.j2 kj74 false a0_0 a0_1 a1_0 a1_1 a2_0 a2_1 t394 t395 t397 t398))) else (gimballaw02_ItvLattice.j2 kj74 false a0_0 a0_1 a1_0 a1_1 a2_0 a2_1 t394 t395 t397 t398))))) else ((itv_Leq.f a0_0 a0_1 a1_0 a1_1).bind fun t435 => (if t435 = true then ((itv_Leq.f a1_0 a1_1 a0_0 a0_1).bind fun t436 => (if t436 = true then ((itv_Of.f a0_0 a0_1).bind fun bt437 => ((itv_Of.f a1_0 a1_1).bind fun bt439 => (gimballaw02_ItvLattice.j2 kj74 (!(bt437.1 == bt439.1) || (!(bt437.2 == bt439.2))) a0_0 a0_1 a1_0 a1_1 a2_0 a2_1 t394 t395 t397 t398))) else (gimballaw02_ItvLattice.j2 kj74 false a0_0 a0_1 a1_0 a1_1 a2_0 a2_1 t394 t395 t397 t398))) else (gimballaw02_ItvLattice.j2 kj74 false a0_0 a0_1 a1_0 a1_1 a2_0 a2_1 t394 t395 t397 t398))))) = some true := by rw [if_neg (show ¬ (false = true) by decide)] at H; exact H
        clear H
        have H := H1
        clear H1
        have HC309 := Aside0.mk H
        clear H
        go_upto_region 7 with (fail)
        go_cut [117] (fun v117 wc => ∃ (kq : Nat) (x117_308 : Bool), v117 = .bool x117_308 ∧ Aside0 (gimballaw02_ItvLattice.j2 kq x117_308 a0_0 a0_1 a1_0 a1_1 a2_0 a2_1 t394 t395 t397 t398 = some true) ∧ Aside0 (kq ≤ kj74) ∧ Aside0 (wc.heap[gb391]? = some (.cells #[.int .i64 a0_0, .int .i64 a0_1] 23 (0, 0))) ∧ Aside0 (wc.heap[gb392]? = some (.cells #[.int .i64 a1_0, .int .i64 a1_1] 23 (0, 0))) ∧ Aside0 (wc.heap[gb393]? = some (.cells #[.int .i64 a2_0, .int .i64 a2_1] 23 (0, 0))) ∧ Aside0 (wc.heap[gb396]? = some (.cells #[.int .i64 t394, .int .i64 t395] 23 (0, 0))) ∧ Aside0 (wc.heap[gb399]? = some (.cells #[.int .i64 t397, .int .i64 t398] 23 (0, 0))) ∧ Aside0 (Below w.heap.size w wc))
        case first => as_aux_lemma =>
         have H := HC309.out
         clear HC309
         replace H := Option.bind_eq_some_iff.mp H
         obtain ⟨t420, A3100, H⟩ := H
         replace H : (if t420 = true then ((itv_Leq.f a1_0 a1_1 a2_0 a2_1).bind fun t421 => (if t421 = true then ((itv_Leq.f a0_0 a0_1 a2_0 a2_1).bind fun t422 => (if t422 = true then ((itv_Leq.f a0_0 a0_1 a1_0 a1_1).bind fun t423 => (if t423 = true then ((itv_Leq.f a1_0 a1_1 a0_0 a0_1).bind fun t424 => (if t424 = true then ((itv_Of.f a0_0 a0_1).bind fun bt425 => ((itv_Of.f a1_0 a1_1).bind fun bt427 => (gimballaw02_ItvLattice.j2 kj74 (!(bt425.1 == bt427.1) || (!(bt425.2 == bt427.2))) a0_0 a0_1 a1_0 a1_1 a2_0 a2_1 t394 t395 t397 t398))) else (gimballaw02_ItvLattice.j2 kj74 false a0_0 a0_1 a1_0 a1_1 a2_0 a2_1 t394 t395 t397 t398))) else (gimballaw02_ItvLattice.j2 kj74 false a0_0 a0_1 a1_0 a1_1 a2_0 a2_1 t394 t395 t397 t398))) else (gimballaw02_ItvLattice.j2 kj74 true a0_0 a0_1 a1_0 a1_1 a2_0 a2_1 t394 t395 t397 t398))) else ((itv_Leq.f a0_0 a0_1 a1_0 a1_1).bind fun t429 => (if t429 = true then ((itv_Leq.f a1_0 a1_1 a0_0 a0_1).bind fun t430 => (if t430 = true then ((itv_Of.f a0_0 a0_1).bind fun bt431 => ((itv_Of.f a1_0 a1_1).bind fun bt433 => (gimballaw02_ItvLattice.j2 kj74 (!(bt431.1 == bt433.1) || (!(bt431.2 == bt433.2))) a0_0 a0_1 a1_0 a1_1 a2_0 a2_1 t394 t395 t397 t398))) else (gimballaw02_ItvLattice.j2 kj74 false a0_0 a0_1 a1_0 a1_1 a2_0 a2_1 t394 t395 t397 t398))) else (gimballaw02_ItvLattice.j2 kj74 false a0_0 a0_1 a1_0 a1_1 a2_0 a2_1 t394 t395 t397 t398))))) else ((itv_Leq.f a0_0 a0_1 a1_0 a1_1).bind fun t435 => (if t435 = true then ((itv_Leq.f a1_0 a1_1 a0_0 a0_1).bind fun t436 => (if t436 = true then ((itv_Of.f a0_0 a0_1).bind fun bt437 => ((itv_Of.f a1_0 a1_1).bind fun bt439 => (gimballaw02_ItvLattice.j2 kj74 (!(bt437.1 == bt439.1) || (!(bt437.2 == bt439.2))) a0_0 a0_1 a1_0 a1_1 a2_0 a2_1 t394 t395 t397 t398))) else (gimballaw02_ItvLattice.j2 kj74 false a0_0 a0_1 a1_0 a1_1 a2_0 a2_1 t394 t395 t397 t398))) else (gimballaw02_ItvLattice.j2 kj74 false a0_0 a0_1 a1_0 a1_1 a2_0 a2_1 t394 t395 t397 t398)))) = some true := H
         have A310 := Aside0.mk A3100
         clear A3100
         by_cases c311 : t420 = true
         ·
          subst c311
          have H1 : ((itv_Leq.f a1_0 a1_1 a2_0 a2_1).bind fun t421 => (if t421 = true then ((itv_Leq.f a0_0 a0_1 a2_0 a2_1).bind fun t422 => (if t422 = true then ((itv_Leq.f a0_0 a0_1 a1_0 a1_1).bind fun t423 => (if t423 = true then ((itv_Leq.f a1_0 a1_1 a0_0 a0_1).bind fun t424 => (if t424 = true then ((itv_Of.f a0_0 a0_1).bind fun bt425 => ((itv_Of.f a1_0 a1_1).bind fun bt427 => (gimballaw02_ItvLattice.j2 kj74 (!(bt425.1 == bt427.1) || (!(bt425.2 == bt427.2))) a0_0 a0_1 a1_0 a1_1 a2_0 a2_1 t394 t395 t397 t398))) else (gimballaw02_ItvLattice.j2 kj74 false a0_0 a0_1 a1_0 a1_1 a2_0 a2_1 t394 t395 t397 t398))) else (gimballaw02_ItvLattice.j2 kj74 false a0_0 a0_1 a1_0 a1_1 a2_0 a2_1 t394 t395 t397 t398))) else (gimballaw02_ItvLattice.j2 kj74 true a0_0 a0_1 a1_0 a1_1 a2_0 a2_1 t394 t395 t397 t398))) else ((itv_Leq.f a0_0 a0_1 a1_0 a1_1).bind fun t429 => (if t429 = true then ((itv_Leq.f a1_0 a1_1 a0_0 a0_1).bind fun t430 => (if t430 = true then ((itv_Of.f a0_0 a0_1).bind fun bt431 => ((itv_Of.f a1_0 a1_1).bind fun bt433 => (gimballaw02_ItvLattice.j2 kj74 (!(bt431.1 == bt433.1) || (!(bt431.2 == bt433.2))) a0_0 a0_1 a1_0 a1_1 a2_0 a2_1 t394 t395 t397 t398))) else (gimballaw02_ItvLattice.j2 kj74 false a0_0 a0_1 a1_0 a1_1 a2_0 a2_1 t394 t395 t397 t398))) else (gimballaw02_ItvLattice.j2 kj74 false a0_0 a0_1 a1_0 a1_1 a2_0 a2_1 t394 t395 t397 t398))))) = some true := by rw [if_pos rfl] at H; exact H
          clear H
          have H := H1
          clear H1
          replace H := Option.bind_eq_some_iff.mp H
          obtain ⟨t421, A3120, H⟩ := H
          replace H : (if t421 = true then ((itv_Leq.f a0_0 a0_1 a2_0 a2_1).bind fun t422 => (if t422 = true then ((itv_Leq.f a0_0 a0_1 a1_0 a1_1).bind fun t423 => (if t423 = true then ((itv_Leq.f a1_0 a1_1 a0_0 a0_1).bind fun t424 => (if t424 = true then ((itv_Of.f a0_0 a0_1).bind fun bt425 => ((itv_Of.f a1_0 a1_1).bind fun bt427 => (gimballaw02_ItvLattice.j2 kj74 (!(bt425.1 == bt427.1) || (!(bt425.2 == bt427.2))) a0_0 a0_1 a1_0 a1_1 a2_0 a2_1 t394 t395 t397 t398))) else (gimballaw02_ItvLattice.j2 kj74 false a0_0 a0_1 a1_0 a1_1 a2_0 a2_1 t394 t395 t397 t398))) else (gimballaw02_ItvLattice.j2 kj74 false a0_0 a0_1 a1_0 a1_1 a2_0 a2_1 t394 t395 t397 t398))) else (gimballaw02_ItvLattice.j2 kj74 true a0_0 a0_1 a1_0 a1_1 a2_0 a2_1 t394 t395 t397 t398))) else ((itv_Leq.f a0_0 a0_1 a1_0 a1_1).bind fun t429 => (if t429 = true then ((itv_Leq.f a1_0 a1_1 a0_0 a0_1).bind fun t430 => (if t430 = true then ((itv_Of.f a0_0 a0_1).bind fun bt431 => ((itv_Of.f a1_0 a1_1).bind fun bt433 => (gimballaw02_ItvLattice.j2 kj74 (!(bt431.1 == bt433.1) || (!(bt431.2 == bt433.2))) a0_0 a0_1 a1_0 a1_1 a2_0 a2_1 t394 t395 t397 t398))) else (gimballaw02_ItvLattice.j2 kj74 false a0_0 a0_1 a1_0 a1_1 a2_0 a2_1 t394 t395 t397 t398))) else (gimballaw02_ItvLattice.j2 kj74 false a0_0 a0_1 a1_0 a1_1 a2_0 a2_1 t394 t395 t397 t398)))) = some true := H
          have A312 := Aside0.mk A3120
          clear A3120
          by_cases c313 : t421 = true
          ·
           subst c313
           have H1 : ((itv_Leq.f a0_0 a0_1 a2_0 a2_1).bind fun t422 => (if t422 = true then ((itv_Leq.f a0_0 a0_1 a1_0 a1_1).bind fun t423 => (if t423 = true then ((itv_Leq.f a1_0 a1_1 a0_0 a0_1).bind fun t424 => (if t424 = true then ((itv_Of.f a0_0 a0_1).bind fun bt425 => ((itv_Of.f a1_0 a1_1).bind fun bt427 => (gimballaw02_ItvLattice.j2 kj74 (!(bt425.1 == bt427.1) || (!(bt425.2 == bt427.2))) a0_0 a0_1 a1_0 a1_1 a2_0 a2_1 t394 t395 t397 t398))) else (gimballaw02_ItvLattice.j2 kj74 false a0_0 a0_1 a1_0 a1_1 a2_0 a2_1 t394 t395 t397 t398))) else (gimballaw02_ItvLattice.j2 kj74 false a0_0 a0_1 a1_0 a1_1 a2_0 a2_1 t394 t395 t397 t398))) else (gimballaw02_ItvLattice.j2 kj74 true a0_0 a0_1 a1_0 a1_1 a2_0 a2_1 t394 t395 t397 t398))) = some true := by rw [if_pos rfl] at H; exact H
           clear H
           have H := H1
           clear H1
           replace H := Option.bind_eq_some_iff.mp H
           obtain ⟨t422, A3140, H⟩ := H
           replace H : (if t422 = true then ((itv_Leq.f a0_0 a0_1 a1_0 a1_1).bind fun t423 => (if t423 = true then ((itv_Leq.f a1_0 a1_1 a0_0 a0_1).bind fun t424 => (if t424 = true then ((itv_Of.f a0_0 a0_1).bind fun bt425 => ((itv_Of.f a1_0 a1_1).bind fun bt427 => (gimballaw02_ItvLattice.j2 kj74 (!(bt425.1 == bt427.1) || (!(bt425.2 == bt427.2))) a0_0 a0_1 a1_0 a1_1 a2_0 a2_1 t394 t395 t397 t398))) else (gimballaw02_ItvLattice.j2 kj74 false a0_0 a0_1 a1_0 a1_1 a2_0 a2_1 t394 t395 t397 t398))) else (gimballaw02_ItvLattice.j2 kj74 false a0_0 a0_1 a1_0 a1_1 a2_0 a2_1 t394 t395 t397 t398))) else (gimballaw02_ItvLattice.j2 kj74 true a0_0 a0_1 a1_0 a1_1 a2_0 a2_1 t394 t395 t397 t398)) = some true := H
           have A314 := Aside0.mk A3140
           clear A3140
           by_cases c315 : t422 = true
           ·
            subst c315
            have H1 : ((itv_Leq.f a0_0 a0_1 a1_0 a1_1).bind fun t423 => (if t423 = true then ((itv_Leq.f a1_0 a1_1 a0_0 a0_1).bind fun t424 => (if t424 = true then ((itv_Of.f a0_0 a0_1).bind fun bt425 => ((itv_Of.f a1_0 a1_1).bind fun bt427 => (gimballaw02_ItvLattice.j2 kj74 (!(bt425.1 == bt427.1) || (!(bt425.2 == bt427.2))) a0_0 a0_1 a1_0 a1_1 a2_0 a2_1 t394 t395 t397 t398))) else (gimballaw02_ItvLattice.j2 kj74 false a0_0 a0_1 a1_0 a1_1 a2_0 a2_1 t394 t395 t397 t398))) else (gimballaw02_ItvLattice.j2 kj74 false a0_0 a0_1 a1_0 a1_1 a2_0 a2_1 t394 t395 t397 t398))) = some true := by rw [if_pos rfl] at H; exact H
            clear H
            have H := H1
            clear H1
            replace H := Option.bind_eq_some_iff.mp H
            obtain ⟨t423, A3160, H⟩ := H
            replace H : (if t423 = true then ((itv_Leq.f a1_0 a1_1 a0_0 a0_1).bind fun t424 => (if t424 = true then ((itv_Of.f a0_0 a0_1).bind fun bt425 => ((itv_Of.f a1_0 a1_1).bind fun bt427 => (gimballaw02_ItvLattice.j2 kj74 (!(bt425.1 == bt427.1) || (!(bt425.2 == bt427.2))) a0_0 a0_1 a1_0 a1_1 a2_0 a2_1 t394 t395 t397 t398))) else (gimballaw02_ItvLattice.j2 kj74 false a0_0 a0_1 a1_0 a1_1 a2_0 a2_1 t394 t395 t397 t398))) else (gimballaw02_ItvLattice.j2 kj74 false a0_0 a0_1 a1_0 a1_1 a2_0 a2_1 t394 t395 t397 t398)) = some true := H
            have A316 := Aside0.mk A3160
            clear A3160
            by_cases c317 : t423 = true
            ·
             subst c317
             have H1 : ((itv_Leq.f a1_0 a1_1 a0_0 a0_1).bind fun t424 => (if t424 = true then ((itv_Of.f a0_0 a0_1).bind fun bt425 => ((itv_Of.f a1_0 a1_1).bind fun bt427 => (gimballaw02_ItvLattice.j2 kj74 (!(bt425.1 == bt427.1) || (!(bt425.2 == bt427.2))) a0_0 a0_1 a1_0 a1_1 a2_0 a2_1 t394 t395 t397 t398))) else (gimballaw02_ItvLattice.j2 kj74 false a0_0 a0_1 a1_0 a1_1 a2_0 a2_1 t394 t395 t397 t398))) = some true := by rw [if_pos rfl] at H; exact H
             clear H
             have H := H1
             clear H1
             replace H := Option.bind_eq_some_iff.mp H
             obtain ⟨t424, A3180, H⟩ := H
             replace H : (if t424 = true then ((itv_Of.f a0_0 a0_1).bind fun bt425 => ((itv_Of.f a1_0 a1_1).bind fun bt427 => (gimballaw02_ItvLattice.j2 kj74 (!(bt425.1 == bt427.1) || (!(bt425.2 == bt427.2))) a0_0 a0_1 a1_0 a1_1 a2_0 a2_1 t394 t395 t397 t398))) else (gimballaw02_ItvLattice.j2 kj74 false a0_0 a0_1 a1_0 a1_1 a2_0 a2_1 t394 t395 t397 t398)) = some true := H
             have A318 := Aside0.mk A3180
             clear A3180
             by_cases c319 : t424 = true
             ·
              subst c319
              have H1 : ((itv_Of.f a0_0 a0_1).bind fun bt425 => ((itv_Of.f a1_0 a1_1).bind fun bt427 => (gimballaw02_ItvLattice.j2 kj74 (!(bt425.1 == bt427.1) || (!(bt425.2 == bt427.2))) a0_0 a0_1 a1_0 a1_1 a2_0 a2_1 t394 t395 t397 t398))) = some true := by rw [if_pos rfl] at H; exact H
              clear H
              have H := H1
              clear H1
              replace H := Option.bind_eq_some_iff.mp H
              obtain ⟨⟨t425, t426⟩, A3200, H⟩ := H
              replace H : ((itv_Of.f a1_0 a1_1).bind fun bt427 => (gimballaw02_ItvLattice.j2 kj74 (!(t425 == bt427.1) || (!(t426 == bt427.2))) a0_0 a0_1 a1_0 a1_1 a2_0 a2_1 t394 t395 t397 t398)) = some true := H
              have A320 := Aside0.mk A3200
              clear A3200
              replace H := Option.bind_eq_some_iff.mp H
              obtain ⟨⟨t427, t428⟩, A3210, H⟩ := H
              replace H : (gimballaw02_ItvLattice.j2 kj74 (!(t425 == t427) || (!(t426 == t428))) a0_0 a0_1 a1_0 a1_1 a2_0 a2_1 t394 t395 t397 t398) = some true := H
              have A321 := Aside0.mk A3210
              clear A3210
              have H' := Aside0.mk H
              clear H
              try go_wp2
              have n0_ := Aside0.mk (blk_drew BK391.out)
              have n1_ := Aside0.mk (blk_drew BK392.out)
              have n2_ := Aside0.mk (blk_drew BK393.out)
              have n3_ := Aside0.mk (blk_drew BK396.out)
              have n4_ := Aside0.mk (blk_drew BK399.out)
              have n5_ := Aside0.mk (below_drew1 HB.out)
              clear BK391
              clear BK392
              clear BK393
              clear BK396
              clear BK399
              clear HB
              have BK391 := n0_
              have BK392 := n1_
              have BK393 := n2_
              have BK396 := n3_
              have BK399 := n4_
              have HB := n5_
              clear n0_ n1_ n2_ n3_ n4_ n5_
              refine start_ (n := 37) (S := fun w' => w'.cell? ⟨gb391, 0, none⟩ = some (.int .i64 a0_0) ∧ w'.cell? ⟨gb391, 1, none⟩ = some (.int .i64 a0_1) ∧ w'.cell? ⟨gb392, 0, none⟩ = some (.int .i64 a1_0) ∧ w'.cell? ⟨gb392, 1, none⟩ = some (.int .i64 a1_1) ∧ w'.cell? ⟨gb393, 0, none⟩ = some (.int .i64 a2_0) ∧ w'.cell? ⟨gb393, 1, none⟩ = some (.int .i64 a2_1)) (ds := []) #[false, false, false, false, false, false, false, false, false, false, false, false, false, false, false, false, false, false, false, false, false, false, false, false, false, false, false, false, false, false, false, false, false, false, false, false, false] (by kernel_rfl) rfl rfl ⟨hcz BK391 0, hcz BK391 1, hcz BK392 0, hcz BK392 1, hcz BK393 0, hcz BK393 1⟩ (fun hHeld => ?_); refine with_tabW gimballaw02_ItvLattice.tab7 gimballaw02_ItvLattice.bits7 (fun HT_ HW_ => ?_)
              generalize wc.drew = w322 at BK391 BK392 BK393 BK396 BK399 HB hHeld ⊢
              refine takeQ 0 81 HT_.out HW_.out hHeld ?_
              refine takeQ 1 82 HT_.out HW_.out hHeld ?_
              refine oneQ 2 83 HT_.out (fun K hK => ?_)
              refine goesQ Try.func24 #[.agg #[.int .i64 a0_0, .int .i64 a0_1], .agg #[.int .i64 a1_0, .int .i64 a1_1]] ?_
              with_reducible refine (itv_Leq.calls a0_0 a0_1 a1_0 a1_1 true _ A310.out).mono ?_
              rintro e w323 ⟨rfl, hb⟩
              refine ⟨_, rfl, ?_⟩
              have n0_ := bst HB hb
              replace BK391 := bbw BK391 hb
              replace BK392 := bbw BK392 hb
              replace BK393 := bbw BK393 hb
              replace BK396 := bbw BK396 hb
              replace BK399 := bbw BK399 hb
              clear HB
              have HB := n0_
              clear n0_
              (try clear hb)
              (try clear hb2)
              (try clear hk)
              (try clear hi)
              refine hK.out _ _ ⟨hcz BK391 0, hcz BK391 1, hcz BK392 0, hcz BK392 1, hcz BK393 0, hcz BK393 1⟩ (fun hHeld => ?_)
              clear hK K
              refine normQ (N := 83) ?_
              refine pureQ 3 84 HT_.out ?_
              refine takeQ 4 85 HT_.out HW_.out hHeld ?_
              refine takeQ 5 86 HT_.out HW_.out hHeld ?_
              refine oneQ 6 87 HT_.out (fun K hK => ?_)
              refine goesQ Try.func24 #[.agg #[.int .i64 a1_0, .int .i64 a1_1], .agg #[.int .i64 a2_0, .int .i64 a2_1]] ?_
              with_reducible refine (itv_Leq.calls a1_0 a1_1 a2_0 a2_1 true _ A312.out).mono ?_
              rintro e w324 ⟨rfl, hb⟩
              refine ⟨_, rfl, ?_⟩
              have n0_ := bst HB hb
              replace BK391 := bbw BK391 hb
              replace BK392 := bbw BK392 hb
              replace BK393 := bbw BK393 hb
              replace BK396 := bbw BK396 hb
              replace BK399 := bbw BK399 hb
              clear HB
              have HB := n0_
              clear n0_
              (try clear hb)
              (try clear hb2)
              (try clear hk)
              (try clear hi)
              refine hK.out _ _ ⟨hcz BK391 0, hcz BK391 1, hcz BK392 0, hcz BK392 1, hcz BK393 0, hcz BK393 1⟩ (fun hHeld => ?_)
              clear hK K
              refine normQ (N := 87) ?_
              refine pureQ 7 88 HT_.out ?_
              refine pureQ 8 89 HT_.out ?_
              refine takeQ 9 90 HT_.out HW_.out hHeld ?_
              refine takeQ 10 91 HT_.out HW_.out hHeld ?_
              refine oneQ 11 92 HT_.out (fun K hK => ?_)
              refine goesQ Try.func24 #[.agg #[.int .i64 a0_0, .int .i64 a0_1], .agg #[.int .i64 a2_0, .int .i64 a2_1]] ?_
              with_reducible refine (itv_Leq.calls a0_0 a0_1 a2_0 a2_1 true _ A314.out).mono ?_
              rintro e w325 ⟨rfl, hb⟩
              refine ⟨_, rfl, ?_⟩
              have n0_ := bst HB hb
              replace BK391 := bbw BK391 hb
              replace BK392 := bbw BK392 hb
              replace BK393 := bbw BK393 hb
              replace BK396 := bbw BK396 hb
              replace BK399 := bbw BK399 hb
              clear HB
              have HB := n0_
              clear n0_
              (try clear hb)
              (try clear hb2)
              (try clear hk)
              (try clear hi)
              refine hK.out _ _ ⟨hcz BK391 0, hcz BK391 1, hcz BK392 0, hcz BK392 1, hcz BK393 0, hcz BK393 1⟩ (fun hHeld => ?_)
              clear hK K
              refine normQ (N := 92) ?_
              refine pureQ 12 93 HT_.out ?_
              refine pureQ 13 94 HT_.out ?_
              refine pureQ 14 95 HT_.out ?_
              refine takeQ 15 96 HT_.out HW_.out hHeld ?_
              refine takeQ 16 97 HT_.out HW_.out hHeld ?_
              refine oneQ 17 98 HT_.out (fun K hK => ?_)
              refine goesQ Try.func24 #[.agg #[.int .i64 a0_0, .int .i64 a0_1], .agg #[.int .i64 a1_0, .int .i64 a1_1]] ?_
              with_reducible refine (itv_Leq.calls a0_0 a0_1 a1_0 a1_1 true _ A316.out).mono ?_
              rintro e w326 ⟨rfl, hb⟩
              refine ⟨_, rfl, ?_⟩
              have n0_ := bst HB hb
              replace BK391 := bbw BK391 hb
              replace BK392 := bbw BK392 hb
              replace BK393 := bbw BK393 hb
              replace BK396 := bbw BK396 hb
              replace BK399 := bbw BK399 hb
              clear HB
              have HB := n0_
              clear n0_
              (try clear hb)
              (try clear hb2)
              (try clear hk)
              (try clear hi)
              refine hK.out _ _ ⟨hcz BK391 0, hcz BK391 1, hcz BK392 0, hcz BK392 1, hcz BK393 0, hcz BK393 1⟩ (fun hHeld => ?_)
              clear hK K
              refine normQ (N := 98) ?_
              refine pureQ 18 99 HT_.out ?_
              refine takeQ 19 100 HT_.out HW_.out hHeld ?_
              refine takeQ 20 101 HT_.out HW_.out hHeld ?_
              refine oneQ 21 102 HT_.out (fun K hK => ?_)
              refine goesQ Try.func24 #[.agg #[.int .i64 a1_0, .int .i64 a1_1], .agg #[.int .i64 a0_0, .int .i64 a0_1]] ?_
              with_reducible refine (itv_Leq.calls a1_0 a1_1 a0_0 a0_1 true _ A318.out).mono ?_
              rintro e w327 ⟨rfl, hb⟩
              refine ⟨_, rfl, ?_⟩
              have n0_ := bst HB hb
              replace BK391 := bbw BK391 hb
              replace BK392 := bbw BK392 hb
              replace BK393 := bbw BK393 hb
              replace BK396 := bbw BK396 hb
              replace BK399 := bbw BK399 hb
              clear HB
              have HB := n0_
              clear n0_
              (try clear hb)
              (try clear hb2)
              (try clear hk)
              (try clear hi)
              refine hK.out _ _ ⟨hcz BK391 0, hcz BK391 1, hcz BK392 0, hcz BK392 1, hcz BK393 0, hcz BK393 1⟩ (fun hHeld => ?_)
              clear hK K
              refine normQ (N := 102) ?_
              refine pureQ 22 103 HT_.out ?_
              refine pureQ 23 104 HT_.out ?_
              refine pureQ 24 105 HT_.out ?_
              refine pureQ 26 107 HT_.out ?_
              refine pureQ 29 110 HT_.out ?_
              refine pureQ 31 112 HT_.out ?_
              refine takeQ 25 106 HT_.out HW_.out hHeld ?_
              refine takeQ 27 108 HT_.out HW_.out hHeld ?_
              refine takeQ 30 111 HT_.out HW_.out hHeld ?_
              refine takeQ 32 113 HT_.out HW_.out hHeld ?_
              refine oneQ 28 109 HT_.out (fun K hK => ?_)
              refine goesQ Try.func13 #[.int .i64 a0_0, .int .i64 a0_1] ?_
              with_reducible refine (itv_Of.calls a0_0 a0_1 t425 t426 _ A320.out).mono ?_
              rintro e w328 ⟨rfl, hb⟩
              refine ⟨_, rfl, ?_⟩
              have n0_ := bst HB hb
              replace BK391 := bbw BK391 hb
              replace BK392 := bbw BK392 hb
              replace BK393 := bbw BK393 hb
              replace BK396 := bbw BK396 hb
              replace BK399 := bbw BK399 hb
              clear HB
              have HB := n0_
              clear n0_
              (try clear hb)
              (try clear hb2)
              (try clear hk)
              (try clear hi)
              refine hK.out _ _ ⟨hcz BK391 0, hcz BK391 1, hcz BK392 0, hcz BK392 1, hcz BK393 0, hcz BK393 1⟩ (fun hHeld => ?_)
              clear hK K
              refine normQ (N := 109) ?_
              refine oneQ 33 114 HT_.out (fun K hK => ?_)
              refine goesQ Try.func13 #[.int .i64 a1_0, .int .i64 a1_1] ?_
              with_reducible refine (itv_Of.calls a1_0 a1_1 t427 t428 _ A321.out).mono ?_
              rintro e w329 ⟨rfl, hb⟩
              refine ⟨_, rfl, ?_⟩
              have n0_ := bst HB hb
              replace BK391 := bbw BK391 hb
              replace BK392 := bbw BK392 hb
              replace BK393 := bbw BK393 hb
              replace BK396 := bbw BK396 hb
              replace BK399 := bbw BK399 hb
              clear HB
              have HB := n0_
              clear n0_
              (try clear hb)
              (try clear hb2)
              (try clear hk)
              (try clear hi)
              refine hK.out _ _ ⟨hcz BK391 0, hcz BK391 1, hcz BK392 0, hcz BK392 1, hcz BK393 0, hcz BK393 1⟩ (fun hHeld => ?_)
              clear hK K
              refine normQ (N := 114) ?_
              refine pureQ 34 115 HT_.out ?_
              refine pureQ 35 116 HT_.out ?_
              refine pureQ 36 117 HT_.out ?_
              refine done_ (done_of HT_.out (by kernel_rfl)) ?_
              try go_wp2
              go_meet
              case rel => exact ⟨_, ((!(t425 == t427) || (!(t426 == t428)))), (by first | rfl | (simp; done) | (simp [*]; done)), H', ⟨by have := HJ5.out; have := HJ74.out; first | omega | exact Nat.le_refl _⟩, pkA BK391, pkA BK392, pkA BK393, pkA BK396, pkA BK399, bpk HB⟩
             ·
              replace c319 := Bool.eq_false_iff.mpr c319
              subst c319
              have H1 : (gimballaw02_ItvLattice.j2 kj74 false a0_0 a0_1 a1_0 a1_1 a2_0 a2_1 t394 t395 t397 t398) = some true := by rw [if_neg (show ¬ (false = true) by decide)] at H; exact H
              clear H
              have H := H1
              clear H1
              have H' := Aside0.mk H
              clear H
              try go_wp2
              have n0_ := Aside0.mk (blk_drew BK391.out)
              have n1_ := Aside0.mk (blk_drew BK392.out)
              have n2_ := Aside0.mk (blk_drew BK393.out)
              have n3_ := Aside0.mk (blk_drew BK396.out)
              have n4_ := Aside0.mk (blk_drew BK399.out)
              have n5_ := Aside0.mk (below_drew1 HB.out)
              clear BK391
              clear BK392
              clear BK393
              clear BK396
              clear BK399
              clear HB
              have BK391 := n0_
              have BK392 := n1_
              have BK393 := n2_
              have BK396 := n3_
              have BK399 := n4_
              have HB := n5_
              clear n0_ n1_ n2_ n3_ n4_ n5_
              refine start_ (n := 37) (S := fun w' => w'.cell? ⟨gb391, 0, none⟩ = some (.int .i64 a0_0) ∧ w'.cell? ⟨gb391, 1, none⟩ = some (.int .i64 a0_1) ∧ w'.cell? ⟨gb392, 0, none⟩ = some (.int .i64 a1_0) ∧ w'.cell? ⟨gb392, 1, none⟩ = some (.int .i64 a1_1) ∧ w'.cell? ⟨gb393, 0, none⟩ = some (.int .i64 a2_0) ∧ w'.cell? ⟨gb393, 1, none⟩ = some (.int .i64 a2_1)) (ds := []) #[false, false, false, false, false, false, false, false, false, false, false, false, false, false, false, false, false, false, false, false, false, false, false, false, false, false, false, false, false, false, false, false, false, false, false, false, false] (by kernel_rfl) rfl rfl ⟨hcz BK391 0, hcz BK391 1, hcz BK392 0, hcz BK392 1, hcz BK393 0, hcz BK393 1⟩ (fun hHeld => ?_); refine with_tabW gimballaw02_ItvLattice.tab7 gimballaw02_ItvLattice.bits7 (fun HT_ HW_ => ?_)
              generalize wc.drew = w330 at BK391 BK392 BK393 BK396 BK399 HB hHeld ⊢
              refine takeQ 0 81 HT_.out HW_.out hHeld ?_
              refine takeQ 1 82 HT_.out HW_.out hHeld ?_
              refine oneQ 2 83 HT_.out (fun K hK => ?_)
              refine goesQ Try.func24 #[.agg #[.int .i64 a0_0, .int .i64 a0_1], .agg #[.int .i64 a1_0, .int .i64 a1_1]] ?_
              with_reducible refine (itv_Leq.calls a0_0 a0_1 a1_0 a1_1 true _ A310.out).mono ?_
              rintro e w331 ⟨rfl, hb⟩
              refine ⟨_, rfl, ?_⟩
              have n0_ := bst HB hb
              replace BK391 := bbw BK391 hb
              replace BK392 := bbw BK392 hb
              replace BK393 := bbw BK393 hb
              replace BK396 := bbw BK396 hb
              replace BK399 := bbw BK399 hb
              clear HB
              have HB := n0_
              clear n0_
              (try clear hb)
              (try clear hb2)
              (try clear hk)
              (try clear hi)
              refine hK.out _ _ ⟨hcz BK391 0, hcz BK391 1, hcz BK392 0, hcz BK392 1, hcz BK393 0, hcz BK393 1⟩ (fun hHeld => ?_)
              clear hK K
              refine normQ (N := 83) ?_
              refine pureQ 3 84 HT_.out ?_
              refine takeQ 4 85 HT_.out HW_.out hHeld ?_
              refine takeQ 5 86 HT_.out HW_.out hHeld ?_
              refine oneQ 6 87 HT_.out (fun K hK => ?_)
              refine goesQ Try.func24 #[.agg #[.int .i64 a1_0, .int .i64 a1_1], .agg #[.int .i64 a2_0, .int .i64 a2_1]] ?_
              with_reducible refine (itv_Leq.calls a1_0 a1_1 a2_0 a2_1 true _ A312.out).mono ?_
              rintro e w332 ⟨rfl, hb⟩
              refine ⟨_, rfl, ?_⟩
              have n0_ := bst HB hb
              replace BK391 := bbw BK391 hb
              replace BK392 := bbw BK392 hb
              replace BK393 := bbw BK393 hb
              replace BK396 := bbw BK396 hb
              replace BK399 := bbw BK399 hb
              clear HB
              have HB := n0_
              clear n0_
              (try clear hb)
              (try clear hb2)
              (try clear hk)
              (try clear hi)
              refine hK.out _ _ ⟨hcz BK391 0, hcz BK391 1, hcz BK392 0, hcz BK392 1, hcz BK393 0, hcz BK393 1⟩ (fun hHeld => ?_)
              clear hK K
              refine normQ (N := 87) ?_
              refine pureQ 7 88 HT_.out ?_
              refine pureQ 8 89 HT_.out ?_
              refine takeQ 9 90 HT_.out HW_.out hHeld ?_
              refine takeQ 10 91 HT_.out HW_.out hHeld ?_
              refine oneQ 11 92 HT_.out (fun K hK => ?_)
              refine goesQ Try.func24 #[.agg #[.int .i64 a0_0, .int .i64 a0_1], .agg #[.int .i64 a2_0, .int .i64 a2_1]] ?_
              with_reducible refine (itv_Leq.calls a0_0 a0_1 a2_0 a2_1 true _ A314.out).mono ?_
              rintro e w333 ⟨rfl, hb⟩
              refine ⟨_, rfl, ?_⟩
              have n0_ := bst HB hb
              replace BK391 := bbw BK391 hb
              replace BK392 := bbw BK392 hb
              replace BK393 := bbw BK393 hb
              replace BK396 := bbw BK396 hb
              replace BK399 := bbw BK399 hb
              clear HB
              have HB := n0_
              clear n0_
              (try clear hb)
              (try clear hb2)
              (try clear hk)
              (try clear hi)
              refine hK.out _ _ ⟨hcz BK391 0, hcz BK391 1, hcz BK392 0, hcz BK392 1, hcz BK393 0, hcz BK393 1⟩ (fun hHeld => ?_)
              clear hK K
              refine normQ (N := 92) ?_
              refine pureQ 12 93 HT_.out ?_
              refine pureQ 13 94 HT_.out ?_
              refine pureQ 14 95 HT_.out ?_
              refine takeQ 15 96 HT_.out HW_.out hHeld ?_
              refine takeQ 16 97 HT_.out HW_.out hHeld ?_
              refine oneQ 17 98 HT_.out (fun K hK => ?_)
              refine goesQ Try.func24 #[.agg #[.int .i64 a0_0, .int .i64 a0_1], .agg #[.int .i64 a1_0, .int .i64 a1_1]] ?_
              with_reducible refine (itv_Leq.calls a0_0 a0_1 a1_0 a1_1 true _ A316.out).mono ?_
              rintro e w334 ⟨rfl, hb⟩
              refine ⟨_, rfl, ?_⟩
              have n0_ := bst HB hb
              replace BK391 := bbw BK391 hb
              replace BK392 := bbw BK392 hb
              replace BK393 := bbw BK393 hb
              replace BK396 := bbw BK396 hb
              replace BK399 := bbw BK399 hb
              clear HB
              have HB := n0_
              clear n0_
              (try clear hb)
              (try clear hb2)
              (try clear hk)
              (try clear hi)
              refine hK.out _ _ ⟨hcz BK391 0, hcz BK391 1, hcz BK392 0, hcz BK392 1, hcz BK393 0, hcz BK393 1⟩ (fun hHeld => ?_)
              clear hK K
              refine normQ (N := 98) ?_
              refine pureQ 18 99 HT_.out ?_
              refine takeQ 19 100 HT_.out HW_.out hHeld ?_
              refine takeQ 20 101 HT_.out HW_.out hHeld ?_
              refine oneQ 21 102 HT_.out (fun K hK => ?_)
              refine goesQ Try.func24 #[.agg #[.int .i64 a1_0, .int .i64 a1_1], .agg #[.int .i64 a0_0, .int .i64 a0_1]] ?_
              with_reducible refine (itv_Leq.calls a1_0 a1_1 a0_0 a0_1 false _ A318.out).mono ?_
              rintro e w335 ⟨rfl, hb⟩
              refine ⟨_, rfl, ?_⟩
              have n0_ := bst HB hb
              replace BK391 := bbw BK391 hb
              replace BK392 := bbw BK392 hb
              replace BK393 := bbw BK393 hb
              replace BK396 := bbw BK396 hb
              replace BK399 := bbw BK399 hb
              clear HB
              have HB := n0_
              clear n0_
              (try clear hb)
              (try clear hb2)
              (try clear hk)
              (try clear hi)
              refine hK.out _ _ ⟨hcz BK391 0, hcz BK391 1, hcz BK392 0, hcz BK392 1, hcz BK393 0, hcz BK393 1⟩ (fun hHeld => ?_)
              clear hK K
              refine normQ (N := 102) ?_
              refine pureQ 22 103 HT_.out ?_
              refine pureQ 23 104 HT_.out ?_
              refine pureU 24 105 HT_.out ?_
              refine pureU 25 106 HT_.out ?_
              refine pureU 26 107 HT_.out ?_
              refine pureU 27 108 HT_.out ?_
              refine pureU 28 109 HT_.out ?_
              refine pureU 29 110 HT_.out ?_
              refine pureU 30 111 HT_.out ?_
              refine pureU 31 112 HT_.out ?_
              refine pureU 32 113 HT_.out ?_
              refine pureU 33 114 HT_.out ?_
              refine pureU 34 115 HT_.out ?_
              refine pureQ 35 116 HT_.out ?_
              refine pureQ 36 117 HT_.out ?_
              refine done_ (done_of HT_.out (by kernel_rfl)) ?_
              try go_wp2
              go_meet
              case rel => exact ⟨_, (false), (by first | rfl | (simp; done) | (simp [*]; done)), H', ⟨by have := HJ5.out; have := HJ74.out; first | omega | exact Nat.le_refl _⟩, pkA BK391, pkA BK392, pkA BK393, pkA BK396, pkA BK399, bpk HB⟩
            ·
             replace c317 := Bool.eq_false_iff.mpr c317
             subst c317
             have H1 : (gimballaw02_ItvLattice.j2 kj74 false a0_0 a0_1 a1_0 a1_1 a2_0 a2_1 t394 t395 t397 t398) = some true := by rw [if_neg (show ¬ (false = true) by decide)] at H; exact H
             clear H
             have H := H1
             clear H1
             have H' := Aside0.mk H
             clear H
             try go_wp2
             have n0_ := Aside0.mk (blk_drew BK391.out)
             have n1_ := Aside0.mk (blk_drew BK392.out)
             have n2_ := Aside0.mk (blk_drew BK393.out)
             have n3_ := Aside0.mk (blk_drew BK396.out)
             have n4_ := Aside0.mk (blk_drew BK399.out)
             have n5_ := Aside0.mk (below_drew1 HB.out)
             clear BK391
             clear BK392
             clear BK393
             clear BK396
             clear BK399
             clear HB
             have BK391 := n0_
             have BK392 := n1_
             have BK393 := n2_
             have BK396 := n3_
             have BK399 := n4_
             have HB := n5_
             clear n0_ n1_ n2_ n3_ n4_ n5_
             refine start_ (n := 37) (S := fun w' => w'.cell? ⟨gb391, 0, none⟩ = some (.int .i64 a0_0) ∧ w'.cell? ⟨gb391, 1, none⟩ = some (.int .i64 a0_1) ∧ w'.cell? ⟨gb392, 0, none⟩ = some (.int .i64 a1_0) ∧ w'.cell? ⟨gb392, 1, none⟩ = some (.int .i64 a1_1) ∧ w'.cell? ⟨gb393, 0, none⟩ = some (.int .i64 a2_0) ∧ w'.cell? ⟨gb393, 1, none⟩ = some (.int .i64 a2_1)) (ds := []) #[false, false, false, false, false, false, false, false, false, false, false, false, false, false, false, false, false, false, false, false, false, false, false, false, false, false, false, false, false, false, false, false, false, false, false, false, false] (by kernel_rfl) rfl rfl ⟨hcz BK391 0, hcz BK391 1, hcz BK392 0, hcz BK392 1, hcz BK393 0, hcz BK393 1⟩ (fun hHeld => ?_); refine with_tabW gimballaw02_ItvLattice.tab7 gimballaw02_ItvLattice.bits7 (fun HT_ HW_ => ?_)
             generalize wc.drew = w336 at BK391 BK392 BK393 BK396 BK399 HB hHeld ⊢
             refine takeQ 0 81 HT_.out HW_.out hHeld ?_
             refine takeQ 1 82 HT_.out HW_.out hHeld ?_
             refine oneQ 2 83 HT_.out (fun K hK => ?_)
             refine goesQ Try.func24 #[.agg #[.int .i64 a0_0, .int .i64 a0_1], .agg #[.int .i64 a1_0, .int .i64 a1_1]] ?_
             with_reducible refine (itv_Leq.calls a0_0 a0_1 a1_0 a1_1 true _ A310.out).mono ?_
             rintro e w337 ⟨rfl, hb⟩
             refine ⟨_, rfl, ?_⟩
             have n0_ := bst HB hb
             replace BK391 := bbw BK391 hb
             replace BK392 := bbw BK392 hb
             replace BK393 := bbw BK393 hb
             replace BK396 := bbw BK396 hb
             replace BK399 := bbw BK399 hb
             clear HB
             have HB := n0_
             clear n0_
             (try clear hb)
             (try clear hb2)
             (try clear hk)
             (try clear hi)
             refine hK.out _ _ ⟨hcz BK391 0, hcz BK391 1, hcz BK392 0, hcz BK392 1, hcz BK393 0, hcz BK393 1⟩ (fun hHeld => ?_)
             clear hK K
             refine normQ (N := 83) ?_
             refine pureQ 3 84 HT_.out ?_
             refine takeQ 4 85 HT_.out HW_.out hHeld ?_
             refine takeQ 5 86 HT_.out HW_.out hHeld ?_
             refine oneQ 6 87 HT_.out (fun K hK => ?_)
             refine goesQ Try.func24 #[.agg #[.int .i64 a1_0, .int .i64 a1_1], .agg #[.int .i64 a2_0, .int .i64 a2_1]] ?_
             with_reducible refine (itv_Leq.calls a1_0 a1_1 a2_0 a2_1 true _ A312.out).mono ?_
             rintro e w338 ⟨rfl, hb⟩
             refine ⟨_, rfl, ?_⟩
             have n0_ := bst HB hb
             replace BK391 := bbw BK391 hb
             replace BK392 := bbw BK392 hb
             replace BK393 := bbw BK393 hb
             replace BK396 := bbw BK396 hb
             replace BK399 := bbw BK399 hb
             clear HB
             have HB := n0_
             clear n0_
             (try clear hb)
             (try clear hb2)
             (try clear hk)
             (try clear hi)
             refine hK.out _ _ ⟨hcz BK391 0, hcz BK391 1, hcz BK392 0, hcz BK392 1, hcz BK393 0, hcz BK393 1⟩ (fun hHeld => ?_)
             clear hK K
             refine normQ (N := 87) ?_
             refine pureQ 7 88 HT_.out ?_
             refine pureQ 8 89 HT_.out ?_
             refine takeQ 9 90 HT_.out HW_.out hHeld ?_
             refine takeQ 10 91 HT_.out HW_.out hHeld ?_
             refine oneQ 11 92 HT_.out (fun K hK => ?_)
             refine goesQ Try.func24 #[.agg #[.int .i64 a0_0, .int .i64 a0_1], .agg #[.int .i64 a2_0, .int .i64 a2_1]] ?_
             with_reducible refine (itv_Leq.calls a0_0 a0_1 a2_0 a2_1 true _ A314.out).mono ?_
             rintro e w339 ⟨rfl, hb⟩
             refine ⟨_, rfl, ?_⟩
             have n0_ := bst HB hb
             replace BK391 := bbw BK391 hb
             replace BK392 := bbw BK392 hb
             replace BK393 := bbw BK393 hb
             replace BK396 := bbw BK396 hb
             replace BK399 := bbw BK399 hb
             clear HB
             have HB := n0_
             clear n0_
             (try clear hb)
             (try clear hb2)
             (try clear hk)
             (try clear hi)
             refine hK.out _ _ ⟨hcz BK391 0, hcz BK391 1, hcz BK392 0, hcz BK392 1, hcz BK393 0, hcz BK393 1⟩ (fun hHeld => ?_)
             clear hK K
             refine normQ (N := 92) ?_
             refine pureQ 12 93 HT_.out ?_
             refine pureQ 13 94 HT_.out ?_
             refine pureQ 14 95 HT_.out ?_
             refine takeQ 15 96 HT_.out HW_.out hHeld ?_
             refine takeQ 16 97 HT_.out HW_.out hHeld ?_
             refine oneQ 17 98 HT_.out (fun K hK => ?_)
             refine goesQ Try.func24 #[.agg #[.int .i64 a0_0, .int .i64 a0_1], .agg #[.int .i64 a1_0, .int .i64 a1_1]] ?_
             with_reducible refine (itv_Leq.calls a0_0 a0_1 a1_0 a1_1 false _ A316.out).mono ?_
             rintro e w340 ⟨rfl, hb⟩
             refine ⟨_, rfl, ?_⟩
             have n0_ := bst HB hb
             replace BK391 := bbw BK391 hb
             replace BK392 := bbw BK392 hb
             replace BK393 := bbw BK393 hb
             replace BK396 := bbw BK396 hb
             replace BK399 := bbw BK399 hb
             clear HB
             have HB := n0_
             clear n0_
             (try clear hb)
             (try clear hb2)
             (try clear hk)
             (try clear hi)
             refine hK.out _ _ ⟨hcz BK391 0, hcz BK391 1, hcz BK392 0, hcz BK392 1, hcz BK393 0, hcz BK393 1⟩ (fun hHeld => ?_)
             clear hK K
             refine normQ (N := 98) ?_
             refine pureQ 18 99 HT_.out ?_
             refine pureU 19 100 HT_.out ?_
             refine pureU 20 101 HT_.out ?_
             refine pureU 21 102 HT_.out ?_
             refine pureQ 22 103 HT_.out ?_
             refine pureQ 23 104 HT_.out ?_
             refine pureU 24 105 HT_.out ?_
             refine pureU 25 106 HT_.out ?_
             refine pureU 26 107 HT_.out ?_
             refine pureU 27 108 HT_.out ?_
             refine pureU 28 109 HT_.out ?_
             refine pureU 29 110 HT_.out ?_
             refine pureU 30 111 HT_.out ?_
             refine pureU 31 112 HT_.out ?_
             refine pureU 32 113 HT_.out ?_
             refine pureU 33 114 HT_.out ?_
             refine pureU 34 115 HT_.out ?_
             refine pureQ 35 116 HT_.out ?_
             refine pureQ 36 117 HT_.out ?_
             refine done_ (done_of HT_.out (by kernel_rfl)) ?_
             try go_wp2
             go_meet
             case rel => exact ⟨_, (false), (by first | rfl | (simp; done) | (simp [*]; done)), H', ⟨by have := HJ5.out; have := HJ74.out; first | omega | exact Nat.le_refl _⟩, pkA BK391, pkA BK392, pkA BK393, pkA BK396, pkA BK399, bpk HB⟩
           ·
            replace c315 := Bool.eq_false_iff.mpr c315
            subst c315
            have H1 : (gimballaw02_ItvLattice.j2 kj74 true a0_0 a0_1 a1_0 a1_1 a2_0 a2_1 t394 t395 t397 t398) = some true := by rw [if_neg (show ¬ (false = true) by decide)] at H; exact H
            clear H
            have H := H1
            clear H1
            have H' := Aside0.mk H
            clear H
            try go_wp2
            have n0_ := Aside0.mk (blk_drew BK391.out)
            have n1_ := Aside0.mk (blk_drew BK392.out)
            have n2_ := Aside0.mk (blk_drew BK393.out)
            have n3_ := Aside0.mk (blk_drew BK396.out)
            have n4_ := Aside0.mk (blk_drew BK399.out)
            have n5_ := Aside0.mk (below_drew1 HB.out)
            clear BK391
            clear BK392
            clear BK393
            clear BK396
            clear BK399
            clear HB
            have BK391 := n0_
            have BK392 := n1_
            have BK393 := n2_
            have BK396 := n3_
            have BK399 := n4_
            have HB := n5_
            clear n0_ n1_ n2_ n3_ n4_ n5_
            refine start_ (n := 37) (S := fun w' => w'.cell? ⟨gb391, 0, none⟩ = some (.int .i64 a0_0) ∧ w'.cell? ⟨gb391, 1, none⟩ = some (.int .i64 a0_1) ∧ w'.cell? ⟨gb392, 0, none⟩ = some (.int .i64 a1_0) ∧ w'.cell? ⟨gb392, 1, none⟩ = some (.int .i64 a1_1) ∧ w'.cell? ⟨gb393, 0, none⟩ = some (.int .i64 a2_0) ∧ w'.cell? ⟨gb393, 1, none⟩ = some (.int .i64 a2_1)) (ds := []) #[false, false, false, false, false, false, false, false, false, false, false, false, false, false, false, false, false, false, false, false, false, false, false, false, false, false, false, false, false, false, false, false, false, false, false, false, false] (by kernel_rfl) rfl rfl ⟨hcz BK391 0, hcz BK391 1, hcz BK392 0, hcz BK392 1, hcz BK393 0, hcz BK393 1⟩ (fun hHeld => ?_); refine with_tabW gimballaw02_ItvLattice.tab7 gimballaw02_ItvLattice.bits7 (fun HT_ HW_ => ?_)
            generalize wc.drew = w341 at BK391 BK392 BK393 BK396 BK399 HB hHeld ⊢
            refine takeQ 0 81 HT_.out HW_.out hHeld ?_
            refine takeQ 1 82 HT_.out HW_.out hHeld ?_
            refine oneQ 2 83 HT_.out (fun K hK => ?_)
            refine goesQ Try.func24 #[.agg #[.int .i64 a0_0, .int .i64 a0_1], .agg #[.int .i64 a1_0, .int .i64 a1_1]] ?_
            with_reducible refine (itv_Leq.calls a0_0 a0_1 a1_0 a1_1 true _ A310.out).mono ?_
            rintro e w342 ⟨rfl, hb⟩
            refine ⟨_, rfl, ?_⟩
            have n0_ := bst HB hb
            replace BK391 := bbw BK391 hb
            replace BK392 := bbw BK392 hb
            replace BK393 := bbw BK393 hb
            replace BK396 := bbw BK396 hb
            replace BK399 := bbw BK399 hb
            clear HB
            have HB := n0_
            clear n0_
            (try clear hb)
            (try clear hb2)
            (try clear hk)
            (try clear hi)
            refine hK.out _ _ ⟨hcz BK391 0, hcz BK391 1, hcz BK392 0, hcz BK392 1, hcz BK393 0, hcz BK393 1⟩ (fun hHeld => ?_)
            clear hK K
            refine normQ (N := 83) ?_
            refine pureQ 3 84 HT_.out ?_
            refine takeQ 4 85 HT_.out HW_.out hHeld ?_
            refine takeQ 5 86 HT_.out HW_.out hHeld ?_
            refine oneQ 6 87 HT_.out (fun K hK => ?_)
            refine goesQ Try.func24 #[.agg #[.int .i64 a1_0, .int .i64 a1_1], .agg #[.int .i64 a2_0, .int .i64 a2_1]] ?_
            with_reducible refine (itv_Leq.calls a1_0 a1_1 a2_0 a2_1 true _ A312.out).mono ?_
            rintro e w343 ⟨rfl, hb⟩
            refine ⟨_, rfl, ?_⟩
            have n0_ := bst HB hb
            replace BK391 := bbw BK391 hb
            replace BK392 := bbw BK392 hb
            replace BK393 := bbw BK393 hb
            replace BK396 := bbw BK396 hb
            replace BK399 := bbw BK399 hb
            clear HB
            have HB := n0_
            clear n0_
            (try clear hb)
            (try clear hb2)
            (try clear hk)
            (try clear hi)
            refine hK.out _ _ ⟨hcz BK391 0, hcz BK391 1, hcz BK392 0, hcz BK392 1, hcz BK393 0, hcz BK393 1⟩ (fun hHeld => ?_)
            clear hK K
            refine normQ (N := 87) ?_
            refine pureQ 7 88 HT_.out ?_
            refine pureQ 8 89 HT_.out ?_
            refine takeQ 9 90 HT_.out HW_.out hHeld ?_
            refine takeQ 10 91 HT_.out HW_.out hHeld ?_
            refine oneQ 11 92 HT_.out (fun K hK => ?_)
            refine goesQ Try.func24 #[.agg #[.int .i64 a0_0, .int .i64 a0_1], .agg #[.int .i64 a2_0, .int .i64 a2_1]] ?_
            with_reducible refine (itv_Leq.calls a0_0 a0_1 a2_0 a2_1 false _ A314.out).mono ?_
            rintro e w344 ⟨rfl, hb⟩
            refine ⟨_, rfl, ?_⟩
            have n0_ := bst HB hb
            replace BK391 := bbw BK391 hb
            replace BK392 := bbw BK392 hb
            replace BK393 := bbw BK393 hb
            replace BK396 := bbw BK396 hb
            replace BK399 := bbw BK399 hb
            clear HB
            have HB := n0_
            clear n0_
            (try clear hb)
            (try clear hb2)
            (try clear hk)
            (try clear hi)
            refine hK.out _ _ ⟨hcz BK391 0, hcz BK391 1, hcz BK392 0, hcz BK392 1, hcz BK393 0, hcz BK393 1⟩ (fun hHeld => ?_)
            clear hK K
            refine normQ (N := 92) ?_
            refine pureQ 12 93 HT_.out ?_
            refine pureQ 13 94 HT_.out ?_
            refine pureQ 14 95 HT_.out ?_
            refine pureU 15 96 HT_.out ?_
            refine pureU 16 97 HT_.out ?_
            refine pureU 17 98 HT_.out ?_
            refine pureU 18 99 HT_.out ?_
            refine pureU 19 100 HT_.out ?_
            refine pureU 20 101 HT_.out ?_
            refine pureU 21 102 HT_.out ?_
            refine pureU 22 103 HT_.out ?_
            refine pureU 23 104 HT_.out ?_
            refine pureU 24 105 HT_.out ?_
            refine pureU 25 106 HT_.out ?_
            refine pureU 26 107 HT_.out ?_
            refine pureU 27 108 HT_.out ?_
            refine pureU 28 109 HT_.out ?_
            refine pureU 29 110 HT_.out ?_
            refine pureU 30 111 HT_.out ?_
            refine pureU 31 112 HT_.out ?_
            refine pureU 32 113 HT_.out ?_
            refine pureU 33 114 HT_.out ?_
            refine pureU 34 115 HT_.out ?_
            refine pureU 35 116 HT_.out ?_
            refine pureQ 36 117 HT_.out ?_
            refine done_ (done_of HT_.out (by kernel_rfl)) ?_
            try go_wp2
            go_meet
            case rel => exact ⟨_, (true), (by first | rfl | (simp; done) | (simp [*]; done)), H', ⟨by have := HJ5.out; have := HJ74.out; first | omega | exact Nat.le_refl _⟩, pkA BK391, pkA BK392, pkA BK393, pkA BK396, pkA BK399, bpk HB⟩
          ·
           replace c313 := Bool.eq_false_iff.mpr c313
           subst c313
           have H1 : ((itv_Leq.f a0_0 a0_1 a1_0 a1_1).bind fun t429 => (if t429 = true then ((itv_Leq.f a1_0 a1_1 a0_0 a0_1).bind fun t430 => (if t430 = true then ((itv_Of.f a0_0 a0_1).bind fun bt431 => ((itv_Of.f a1_0 a1_1).bind fun bt433 => (gimballaw02_ItvLattice.j2 kj74 (!(bt431.1 == bt433.1) || (!(bt431.2 == bt433.2))) a0_0 a0_1 a1_0 a1_1 a2_0 a2_1 t394 t395 t397 t398))) else (gimballaw02_ItvLattice.j2 kj74 false a0_0 a0_1 a1_0 a1_1 a2_0 a2_1 t394 t395 t397 t398))) else (gimballaw02_ItvLattice.j2 kj74 false a0_0 a0_1 a1_0 a1_1 a2_0 a2_1 t394 t395 t397 t398))) = some true := by rw [if_neg (show ¬ (false = true) by decide)] at H; exact H
           clear H
           have H := H1
           clear H1
           replace H := Option.bind_eq_some_iff.mp H
           obtain ⟨t429, A3450, H⟩ := H
           replace H : (if t429 = true then ((itv_Leq.f a1_0 a1_1 a0_0 a0_1).bind fun t430 => (if t430 = true then ((itv_Of.f a0_0 a0_1).bind fun bt431 => ((itv_Of.f a1_0 a1_1).bind fun bt433 => (gimballaw02_ItvLattice.j2 kj74 (!(bt431.1 == bt433.1) || (!(bt431.2 == bt433.2))) a0_0 a0_1 a1_0 a1_1 a2_0 a2_1 t394 t395 t397 t398))) else (gimballaw02_ItvLattice.j2 kj74 false a0_0 a0_1 a1_0 a1_1 a2_0 a2_1 t394 t395 t397 t398))) else (gimballaw02_ItvLattice.j2 kj74 false a0_0 a0_1 a1_0 a1_1 a2_0 a2_1 t394 t395 t397 t398)) = some true := H
           have A345 := Aside0.mk A3450
           clear A3450
           by_cases c346 : t429 = true
           ·
            subst c346
            have H1 : ((itv_Leq.f a1_0 a1_1 a0_0 a0_1).bind fun t430 => (if t430 = true then ((itv_Of.f a0_0 a0_1).bind fun bt431 => ((itv_Of.f a1_0 a1_1).bind fun bt433 => (gimballaw02_ItvLattice.j2 kj74 (!(bt431.1 == bt433.1) || (!(bt431.2 == bt433.2))) a0_0 a0_1 a1_0 a1_1 a2_0 a2_1 t394 t395 t397 t398))) else (gimballaw02_ItvLattice.j2 kj74 false a0_0 a0_1 a1_0 a1_1 a2_0 a2_1 t394 t395 t397 t398))) = some true := by rw [if_pos rfl] at H; exact H
            clear H
            have H := H1
            clear H1
            replace H := Option.bind_eq_some_iff.mp H
            obtain ⟨t430, A3470, H⟩ := H
            replace H : (if t430 = true then ((itv_Of.f a0_0 a0_1).bind fun bt431 => ((itv_Of.f a1_0 a1_1).bind fun bt433 => (gimballaw02_ItvLattice.j2 kj74 (!(bt431.1 == bt433.1) || (!(bt431.2 == bt433.2))) a0_0 a0_1 a1_0 a1_1 a2_0 a2_1 t394 t395 t397 t398))) else (gimballaw02_ItvLattice.j2 kj74 false a0_0 a0_1 a1_0 a1_1 a2_0 a2_1 t394 t395 t397 t398)) = some true := H
            have A347 := Aside0.mk A3470
            clear A3470
            by_cases c348 : t430 = true
            ·
             subst c348
             have H1 : ((itv_Of.f a0_0 a0_1).bind fun bt431 => ((itv_Of.f a1_0 a1_1).bind fun bt433 => (gimballaw02_ItvLattice.j2 kj74 (!(bt431.1 == bt433.1) || (!(bt431.2 == bt433.2))) a0_0 a0_1 a1_0 a1_1 a2_0 a2_1 t394 t395 t397 t398))) = some true := by rw [if_pos rfl] at H; exact H
             clear H
             have H := H1
             clear H1
             replace H := Option.bind_eq_some_iff.mp H
             obtain ⟨⟨t431, t432⟩, A3490, H⟩ := H
             replace H : ((itv_Of.f a1_0 a1_1).bind fun bt433 => (gimballaw02_ItvLattice.j2 kj74 (!(t431 == bt433.1) || (!(t432 == bt433.2))) a0_0 a0_1 a1_0 a1_1 a2_0 a2_1 t394 t395 t397 t398)) = some true := H
             have A349 := Aside0.mk A3490
             clear A3490
             replace H := Option.bind_eq_some_iff.mp H
             obtain ⟨⟨t433, t434⟩, A3500, H⟩ := H
             replace H : (gimballaw02_ItvLattice.j2 kj74 (!(t431 == t433) || (!(t432 == t434))) a0_0 a0_1 a1_0 a1_1 a2_0 a2_1 t394 t395 t397 t398) = some true := H
             have A350 := Aside0.mk A3500
             clear A3500
             have H' := Aside0.mk H
             clear H
             try go_wp2
             have n0_ := Aside0.mk (blk_drew BK391.out)
             have n1_ := Aside0.mk (blk_drew BK392.out)
             have n2_ := Aside0.mk (blk_drew BK393.out)
             have n3_ := Aside0.mk (blk_drew BK396.out)
             have n4_ := Aside0.mk (blk_drew BK399.out)
             have n5_ := Aside0.mk (below_drew1 HB.out)
             clear BK391
             clear BK392
             clear BK393
             clear BK396
             clear BK399
             clear HB
             have BK391 := n0_
             have BK392 := n1_
             have BK393 := n2_
             have BK396 := n3_
             have BK399 := n4_
             have HB := n5_
             clear n0_ n1_ n2_ n3_ n4_ n5_
             refine start_ (n := 37) (S := fun w' => w'.cell? ⟨gb391, 0, none⟩ = some (.int .i64 a0_0) ∧ w'.cell? ⟨gb391, 1, none⟩ = some (.int .i64 a0_1) ∧ w'.cell? ⟨gb392, 0, none⟩ = some (.int .i64 a1_0) ∧ w'.cell? ⟨gb392, 1, none⟩ = some (.int .i64 a1_1) ∧ w'.cell? ⟨gb393, 0, none⟩ = some (.int .i64 a2_0) ∧ w'.cell? ⟨gb393, 1, none⟩ = some (.int .i64 a2_1)) (ds := []) #[false, false, false, false, false, false, false, false, false, false, false, false, false, false, false, false, false, false, false, false, false, false, false, false, false, false, false, false, false, false, false, false, false, false, false, false, false] (by kernel_rfl) rfl rfl ⟨hcz BK391 0, hcz BK391 1, hcz BK392 0, hcz BK392 1, hcz BK393 0, hcz BK393 1⟩ (fun hHeld => ?_); refine with_tabW gimballaw02_ItvLattice.tab7 gimballaw02_ItvLattice.bits7 (fun HT_ HW_ => ?_)
             generalize wc.drew = w351 at BK391 BK392 BK393 BK396 BK399 HB hHeld ⊢
             refine takeQ 0 81 HT_.out HW_.out hHeld ?_
             refine takeQ 1 82 HT_.out HW_.out hHeld ?_
             refine oneQ 2 83 HT_.out (fun K hK => ?_)
             refine goesQ Try.func24 #[.agg #[.int .i64 a0_0, .int .i64 a0_1], .agg #[.int .i64 a1_0, .int .i64 a1_1]] ?_
             with_reducible refine (itv_Leq.calls a0_0 a0_1 a1_0 a1_1 true _ A310.out).mono ?_
             rintro e w352 ⟨rfl, hb⟩
             refine ⟨_, rfl, ?_⟩
             have n0_ := bst HB hb
             replace BK391 := bbw BK391 hb
             replace BK392 := bbw BK392 hb
             replace BK393 := bbw BK393 hb
             replace BK396 := bbw BK396 hb
             replace BK399 := bbw BK399 hb
             clear HB
             have HB := n0_
             clear n0_
             (try clear hb)
             (try clear hb2)
             (try clear hk)
             (try clear hi)
             refine hK.out _ _ ⟨hcz BK391 0, hcz BK391 1, hcz BK392 0, hcz BK392 1, hcz BK393 0, hcz BK393 1⟩ (fun hHeld => ?_)
             clear hK K
             refine normQ (N := 83) ?_
             refine pureQ 3 84 HT_.out ?_
             refine takeQ 4 85 HT_.out HW_.out hHeld ?_
             refine takeQ 5 86 HT_.out HW_.out hHeld ?_
             refine oneQ 6 87 HT_.out (fun K hK => ?_)
             refine goesQ Try.func24 #[.agg #[.int .i64 a1_0, .int .i64 a1_1], .agg #[.int .i64 a2_0, .int .i64 a2_1]] ?_
             with_reducible refine (itv_Leq.calls a1_0 a1_1 a2_0 a2_1 false _ A312.out).mono ?_
             rintro e w353 ⟨rfl, hb⟩
             refine ⟨_, rfl, ?_⟩
             have n0_ := bst HB hb
             replace BK391 := bbw BK391 hb
             replace BK392 := bbw BK392 hb
             replace BK393 := bbw BK393 hb
             replace BK396 := bbw BK396 hb
             replace BK399 := bbw BK399 hb
             clear HB
             have HB := n0_
             clear n0_
             (try clear hb)
             (try clear hb2)
             (try clear hk)
             (try clear hi)
             refine hK.out _ _ ⟨hcz BK391 0, hcz BK391 1, hcz BK392 0, hcz BK392 1, hcz BK393 0, hcz BK393 1⟩ (fun hHeld => ?_)
             clear hK K
             refine normQ (N := 87) ?_
             refine pureQ 7 88 HT_.out ?_
             refine pureQ 8 89 HT_.out ?_
             refine pureU 9 90 HT_.out ?_
             refine pureU 10 91 HT_.out ?_
             refine pureU 11 92 HT_.out ?_
             refine pureU 12 93 HT_.out ?_
             refine pureQ 13 94 HT_.out ?_
             refine pureQ 14 95 HT_.out ?_
             refine takeQ 15 96 HT_.out HW_.out hHeld ?_
             refine takeQ 16 97 HT_.out HW_.out hHeld ?_
             refine oneQ 17 98 HT_.out (fun K hK => ?_)
             refine goesQ Try.func24 #[.agg #[.int .i64 a0_0, .int .i64 a0_1], .agg #[.int .i64 a1_0, .int .i64 a1_1]] ?_
             with_reducible refine (itv_Leq.calls a0_0 a0_1 a1_0 a1_1 true _ A345.out).mono ?_
             rintro e w354 ⟨rfl, hb⟩
             refine ⟨_, rfl, ?_⟩
             have n0_ := bst HB hb
             replace BK391 := bbw BK391 hb
             replace BK392 := bbw BK392 hb
             replace BK393 := bbw BK393 hb
             replace BK396 := bbw BK396 hb
             replace BK399 := bbw BK399 hb
             clear HB
             have HB := n0_
             clear n0_
             (try clear hb)
             (try clear hb2)
             (try clear hk)
             (try clear hi)
             refine hK.out _ _ ⟨hcz BK391 0, hcz BK391 1, hcz BK392 0, hcz BK392 1, hcz BK393 0, hcz BK393 1⟩ (fun hHeld => ?_)
             clear hK K
             refine normQ (N := 98) ?_
             refine pureQ 18 99 HT_.out ?_
             refine takeQ 19 100 HT_.out HW_.out hHeld ?_
             refine takeQ 20 101 HT_.out HW_.out hHeld ?_
             refine oneQ 21 102 HT_.out (fun K hK => ?_)
             refine goesQ Try.func24 #[.agg #[.int .i64 a1_0, .int .i64 a1_1], .agg #[.int .i64 a0_0, .int .i64 a0_1]] ?_
             with_reducible refine (itv_Leq.calls a1_0 a1_1 a0_0 a0_1 true _ A347.out).mono ?_
             rintro e w355 ⟨rfl, hb⟩
             refine ⟨_, rfl, ?_⟩
             have n0_ := bst HB hb
             replace BK391 := bbw BK391 hb
             replace BK392 := bbw BK392 hb
             replace BK393 := bbw BK393 hb
             replace BK396 := bbw BK396 hb
             replace BK399 := bbw BK399 hb
             clear HB
             have HB := n0_
             clear n0_
             (try clear hb)
             (try clear hb2)
             (try clear hk)
             (try clear hi)
             refine hK.out _ _ ⟨hcz BK391 0, hcz BK391 1, hcz BK392 0, hcz BK392 1, hcz BK393 0, hcz BK393 1⟩ (fun hHeld => ?_)
             clear hK K
             refine normQ (N := 102) ?_
             refine pureQ 22 103 HT_.out ?_
             refine pureQ 23 104 HT_.out ?_
             refine pureQ 24 105 HT_.out ?_
             refine pureQ 26 107 HT_.out ?_
             refine pureQ 29 110 HT_.out ?_
             refine pureQ 31 112 HT_.out ?_
             refine takeQ 25 106 HT_.out HW_.out hHeld ?_
             refine takeQ 27 108 HT_.out HW_.out hHeld ?_
             refine takeQ 30 111 HT_.out HW_.out hHeld ?_
             refine takeQ 32 113 HT_.out HW_.out hHeld ?_
             refine oneQ 28 109 HT_.out (fun K hK => ?_)
             refine goesQ Try.func13 #[.int .i64 a0_0, .int .i64 a0_1] ?_
             with_reducible refine (itv_Of.calls a0_0 a0_1 t431 t432 _ A349.out).mono ?_
             rintro e w356 ⟨rfl, hb⟩
             refine ⟨_, rfl, ?_⟩
             have n0_ := bst HB hb
             replace BK391 := bbw BK391 hb
             replace BK392 := bbw BK392 hb
             replace BK393 := bbw BK393 hb
             replace BK396 := bbw BK396 hb
             replace BK399 := bbw BK399 hb
             clear HB
             have HB := n0_
             clear n0_
             (try clear hb)
             (try clear hb2)
             (try clear hk)
             (try clear hi)
             refine hK.out _ _ ⟨hcz BK391 0, hcz BK391 1, hcz BK392 0, hcz BK392 1, hcz BK393 0, hcz BK393 1⟩ (fun hHeld => ?_)
             clear hK K
             refine normQ (N := 109) ?_
             refine oneQ 33 114 HT_.out (fun K hK => ?_)
             refine goesQ Try.func13 #[.int .i64 a1_0, .int .i64 a1_1] ?_
             with_reducible refine (itv_Of.calls a1_0 a1_1 t433 t434 _ A350.out).mono ?_
             rintro e w357 ⟨rfl, hb⟩
             refine ⟨_, rfl, ?_⟩
             have n0_ := bst HB hb
             replace BK391 := bbw BK391 hb
             replace BK392 := bbw BK392 hb
             replace BK393 := bbw BK393 hb
             replace BK396 := bbw BK396 hb
             replace BK399 := bbw BK399 hb
             clear HB
             have HB := n0_
             clear n0_
             (try clear hb)
             (try clear hb2)
             (try clear hk)
             (try clear hi)
             refine hK.out _ _ ⟨hcz BK391 0, hcz BK391 1, hcz BK392 0, hcz BK392 1, hcz BK393 0, hcz BK393 1⟩ (fun hHeld => ?_)
             clear hK K
             refine normQ (N := 114) ?_
             refine pureQ 34 115 HT_.out ?_
             refine pureQ 35 116 HT_.out ?_
             refine pureQ 36 117 HT_.out ?_
             refine done_ (done_of HT_.out (by kernel_rfl)) ?_
             try go_wp2
             go_meet
             case rel => exact ⟨_, ((!(t431 == t433) || (!(t432 == t434)))), (by first | rfl | (simp; done) | (simp [*]; done)), H', ⟨by have := HJ5.out; have := HJ74.out; first | omega | exact Nat.le_refl _⟩, pkA BK391, pkA BK392, pkA BK393, pkA BK396, pkA BK399, bpk HB⟩
            ·
             replace c348 := Bool.eq_false_iff.mpr c348
             subst c348
             have H1 : (gimballaw02_ItvLattice.j2 kj74 false a0_0 a0_1 a1_0 a1_1 a2_0 a2_1 t394 t395 t397 t398) = some true := by rw [if_neg (show ¬ (false = true) by decide)] at H; exact H
             clear H
             have H := H1
             clear H1
             have H' := Aside0.mk H
             clear H
             try go_wp2
             have n0_ := Aside0.mk (blk_drew BK391.out)
             have n1_ := Aside0.mk (blk_drew BK392.out)
             have n2_ := Aside0.mk (blk_drew BK393.out)
             have n3_ := Aside0.mk (blk_drew BK396.out)
             have n4_ := Aside0.mk (blk_drew BK399.out)
             have n5_ := Aside0.mk (below_drew1 HB.out)
             clear BK391
             clear BK392
             clear BK393
             clear BK396
             clear BK399
             clear HB
             have BK391 := n0_
             have BK392 := n1_
             have BK393 := n2_
             have BK396 := n3_
             have BK399 := n4_
             have HB := n5_
             clear n0_ n1_ n2_ n3_ n4_ n5_
             refine start_ (n := 37) (S := fun w' => w'.cell? ⟨gb391, 0, none⟩ = some (.int .i64 a0_0) ∧ w'.cell? ⟨gb391, 1, none⟩ = some (.int .i64 a0_1) ∧ w'.cell? ⟨gb392, 0, none⟩ = some (.int .i64 a1_0) ∧ w'.cell? ⟨gb392, 1, none⟩ = some (.int .i64 a1_1) ∧ w'.cell? ⟨gb393, 0, none⟩ = some (.int .i64 a2_0) ∧ w'.cell? ⟨gb393, 1, none⟩ = some (.int .i64 a2_1)) (ds := []) #[false, false, false, false, false, false, false, false, false, false, false, false, false, false, false, false, false, false, false, false, false, false, false, false, false, false, false, false, false, false, false, false, false, false, false, false, false] (by kernel_rfl) rfl rfl ⟨hcz BK391 0, hcz BK391 1, hcz BK392 0, hcz BK392 1, hcz BK393 0, hcz BK393 1⟩ (fun hHeld => ?_); refine with_tabW gimballaw02_ItvLattice.tab7 gimballaw02_ItvLattice.bits7 (fun HT_ HW_ => ?_)
             generalize wc.drew = w358 at BK391 BK392 BK393 BK396 BK399 HB hHeld ⊢
             refine takeQ 0 81 HT_.out HW_.out hHeld ?_
             refine takeQ 1 82 HT_.out HW_.out hHeld ?_
             refine oneQ 2 83 HT_.out (fun K hK => ?_)
             refine goesQ Try.func24 #[.agg #[.int .i64 a0_0, .int .i64 a0_1], .agg #[.int .i64 a1_0, .int .i64 a1_1]] ?_
             with_reducible refine (itv_Leq.calls a0_0 a0_1 a1_0 a1_1 true _ A310.out).mono ?_
             rintro e w359 ⟨rfl, hb⟩
             refine ⟨_, rfl, ?_⟩
             have n0_ := bst HB hb
             replace BK391 := bbw BK391 hb
             replace BK392 := bbw BK392 hb
             replace BK393 := bbw BK393 hb
             replace BK396 := bbw BK396 hb
             replace BK399 := bbw BK399 hb
             clear HB
             have HB := n0_
             clear n0_
             (try clear hb)
             (try clear hb2)
             (try clear hk)
             (try clear hi)
             refine hK.out _ _ ⟨hcz BK391 0, hcz BK391 1, hcz BK392 0, hcz BK392 1, hcz BK393 0, hcz BK393 1⟩ (fun hHeld => ?_)
             clear hK K
             refine normQ (N := 83) ?_
             refine pureQ 3 84 HT_.out ?_
             refine takeQ 4 85 HT_.out HW_.out hHeld ?_
             refine takeQ 5 86 HT_.out HW_.out hHeld ?_
             refine oneQ 6 87 HT_.out (fun K hK => ?_)
             refine goesQ Try.func24 #[.agg #[.int .i64 a1_0, .int .i64 a1_1], .agg #[.int .i64 a2_0, .int .i64 a2_1]] ?_
             with_reducible refine (itv_Leq.calls a1_0 a1_1 a2_0 a2_1 false _ A312.out).mono ?_
             rintro e w360 ⟨rfl, hb⟩
             refine ⟨_, rfl, ?_⟩
             have n0_ := bst HB hb
             replace BK391 := bbw BK391 hb
             replace BK392 := bbw BK392 hb
             replace BK393 := bbw BK393 hb
             replace BK396 := bbw BK396 hb
             replace BK399 := bbw BK399 hb
             clear HB
             have HB := n0_
             clear n0_
             (try clear hb)
             (try clear hb2)
             (try clear hk)
             (try clear hi)
             refine hK.out _ _ ⟨hcz BK391 0, hcz BK391 1, hcz BK392 0, hcz BK392 1, hcz BK393 0, hcz BK393 1⟩ (fun hHeld => ?_)
             clear hK K
             refine normQ (N := 87) ?_
             refine pureQ 7 88 HT_.out ?_
             refine pureQ 8 89 HT_.out ?_
             refine pureU 9 90 HT_.out ?_
             refine pureU 10 91 HT_.out ?_
             refine pureU 11 92 HT_.out ?_
             refine pureU 12 93 HT_.out ?_
             refine pureQ 13 94 HT_.out ?_
             refine pureQ 14 95 HT_.out ?_
             refine takeQ 15 96 HT_.out HW_.out hHeld ?_
             refine takeQ 16 97 HT_.out HW_.out hHeld ?_
             refine oneQ 17 98 HT_.out (fun K hK => ?_)
             refine goesQ Try.func24 #[.agg #[.int .i64 a0_0, .int .i64 a0_1], .agg #[.int .i64 a1_0, .int .i64 a1_1]] ?_
             with_reducible refine (itv_Leq.calls a0_0 a0_1 a1_0 a1_1 true _ A345.out).mono ?_
             rintro e w361 ⟨rfl, hb⟩
             refine ⟨_, rfl, ?_⟩
             have n0_ := bst HB hb
             replace BK391 := bbw BK391 hb
             replace BK392 := bbw BK392 hb
             replace BK393 := bbw BK393 hb
             replace BK396 := bbw BK396 hb
             replace BK399 := bbw BK399 hb
             clear HB
             have HB := n0_
             clear n0_
             (try clear hb)
             (try clear hb2)
             (try clear hk)
             (try clear hi)
             refine hK.out _ _ ⟨hcz BK391 0, hcz BK391 1, hcz BK392 0, hcz BK392 1, hcz BK393 0, hcz BK393 1⟩ (fun hHeld => ?_)
             clear hK K
             refine normQ (N := 98) ?_
             refine pureQ 18 99 HT_.out ?_
             refine takeQ 19 100 HT_.out HW_.out hHeld ?_
             refine takeQ 20 101 HT_.out HW_.out hHeld ?_
             refine oneQ 21 102 HT_.out (fun K hK => ?_)
             refine goesQ Try.func24 #[.agg #[.int .i64 a1_0, .int .i64 a1_1], .agg #[.int .i64 a0_0, .int .i64 a0_1]] ?_
             with_reducible refine (itv_Leq.calls a1_0 a1_1 a0_0 a0_1 false _ A347.out).mono ?_
             rintro e w362 ⟨rfl, hb⟩
             refine ⟨_, rfl, ?_⟩
             have n0_ := bst HB hb
             replace BK391 := bbw BK391 hb
             replace BK392 := bbw BK392 hb
             replace BK393 := bbw BK393 hb
             replace BK396 := bbw BK396 hb
             replace BK399 := bbw BK399 hb
             clear HB
             have HB := n0_
             clear n0_
             (try clear hb)
             (try clear hb2)
             (try clear hk)
             (try clear hi)
             refine hK.out _ _ ⟨hcz BK391 0, hcz BK391 1, hcz BK392 0, hcz BK392 1, hcz BK393 0, hcz BK393 1⟩ (fun hHeld => ?_)
             clear hK K
             refine normQ (N := 102) ?_
             refine pureQ 22 103 HT_.out ?_
             refine pureQ 23 104 HT_.out ?_
             refine pureU 24 105 HT_.out ?_
             refine pureU 25 106 HT_.out ?_
             refine pureU 26 107 HT_.out ?_
             refine pureU 27 108 HT_.out ?_
             refine pureU 28 109 HT_.out ?_
             refine pureU 29 110 HT_.out ?_
             refine pureU 30 111 HT_.out ?_
             refine pureU 31 112 HT_.out ?_
             refine pureU 32 113 HT_.out ?_
             refine pureU 33 114 HT_.out ?_
             refine pureU 34 115 HT_.out ?_
             refine pureQ 35 116 HT_.out ?_
             refine pureQ 36 117 HT_.out ?_
             refine done_ (done_of HT_.out (by kernel_rfl)) ?_
             try go_wp2
             go_meet
             case rel => exact ⟨_, (false), (by first | rfl | (simp; done) | (simp [*]; done)), H', ⟨by have := HJ5.out; have := HJ74.out; first | omega | exact Nat.le_refl _⟩, pkA BK391, pkA BK392, pkA BK393, pkA BK396, pkA BK399, bpk HB⟩
           ·
            replace c346 := Bool.eq_false_iff.mpr c346
            subst c346
            have H1 : (gimballaw02_ItvLattice.j2 kj74 false a0_0 a0_1 a1_0 a1_1 a2_0 a2_1 t394 t395 t397 t398) = some true := by rw [if_neg (show ¬ (false = true) by decide)] at H; exact H
            clear H
            have H := H1
            clear H1
            have H' := Aside0.mk H
            clear H
            try go_wp2
            have n0_ := Aside0.mk (blk_drew BK391.out)
            have n1_ := Aside0.mk (blk_drew BK392.out)
            have n2_ := Aside0.mk (blk_drew BK393.out)
            have n3_ := Aside0.mk (blk_drew BK396.out)
            have n4_ := Aside0.mk (blk_drew BK399.out)
            have n5_ := Aside0.mk (below_drew1 HB.out)
            clear BK391
            clear BK392
            clear BK393
            clear BK396
            clear BK399
            clear HB
            have BK391 := n0_
            have BK392 := n1_
            have BK393 := n2_
            have BK396 := n3_
            have BK399 := n4_
            have HB := n5_
            clear n0_ n1_ n2_ n3_ n4_ n5_
            refine start_ (n := 37) (S := fun w' => w'.cell? ⟨gb391, 0, none⟩ = some (.int .i64 a0_0) ∧ w'.cell? ⟨gb391, 1, none⟩ = some (.int .i64 a0_1) ∧ w'.cell? ⟨gb392, 0, none⟩ = some (.int .i64 a1_0) ∧ w'.cell? ⟨gb392, 1, none⟩ = some (.int .i64 a1_1) ∧ w'.cell? ⟨gb393, 0, none⟩ = some (.int .i64 a2_0) ∧ w'.cell? ⟨gb393, 1, none⟩ = some (.int .i64 a2_1)) (ds := []) #[false, false, false, false, false, false, false, false, false, false, false, false, false, false, false, false, false, false, false, false, false, false, false, false, false, false, false, false, false, false, false, false, false, false, false, false, false] (by kernel_rfl) rfl rfl ⟨hcz BK391 0, hcz BK391 1, hcz BK392 0, hcz BK392 1, hcz BK393 0, hcz BK393 1⟩ (fun hHeld => ?_); refine with_tabW gimballaw02_ItvLattice.tab7 gimballaw02_ItvLattice.bits7 (fun HT_ HW_ => ?_)
            generalize wc.drew = w363 at BK391 BK392 BK393 BK396 BK399 HB hHeld ⊢
            refine takeQ 0 81 HT_.out HW_.out hHeld ?_
            refine takeQ 1 82 HT_.out HW_.out hHeld ?_
            refine oneQ 2 83 HT_.out (fun K hK => ?_)
            refine goesQ Try.func24 #[.agg #[.int .i64 a0_0, .int .i64 a0_1], .agg #[.int .i64 a1_0, .int .i64 a1_1]] ?_
            with_reducible refine (itv_Leq.calls a0_0 a0_1 a1_0 a1_1 true _ A310.out).mono ?_
            rintro e w364 ⟨rfl, hb⟩
            refine ⟨_, rfl, ?_⟩
            have n0_ := bst HB hb
            replace BK391 := bbw BK391 hb
            replace BK392 := bbw BK392 hb
            replace BK393 := bbw BK393 hb
            replace BK396 := bbw BK396 hb
            replace BK399 := bbw BK399 hb
            clear HB
            have HB := n0_
            clear n0_
            (try clear hb)
            (try clear hb2)
            (try clear hk)
            (try clear hi)
            refine hK.out _ _ ⟨hcz BK391 0, hcz BK391 1, hcz BK392 0, hcz BK392 1, hcz BK393 0, hcz BK393 1⟩ (fun hHeld => ?_)
            clear hK K
            refine normQ (N := 83) ?_
            refine pureQ 3 84 HT_.out ?_
            refine takeQ 4 85 HT_.out HW_.out hHeld ?_
            refine takeQ 5 86 HT_.out HW_.out hHeld ?_
            refine oneQ 6 87 HT_.out (fun K hK => ?_)
            refine goesQ Try.func24 #[.agg #[.int .i64 a1_0, .int .i64 a1_1], .agg #[.int .i64 a2_0, .int .i64 a2_1]] ?_
            with_reducible refine (itv_Leq.calls a1_0 a1_1 a2_0 a2_1 false _ A312.out).mono ?_
            rintro e w365 ⟨rfl, hb⟩
            refine ⟨_, rfl, ?_⟩
            have n0_ := bst HB hb
            replace BK391 := bbw BK391 hb
            replace BK392 := bbw BK392 hb
            replace BK393 := bbw BK393 hb
            replace BK396 := bbw BK396 hb
            replace BK399 := bbw BK399 hb
            clear HB
            have HB := n0_
            clear n0_
            (try clear hb)
            (try clear hb2)
            (try clear hk)
            (try clear hi)
            refine hK.out _ _ ⟨hcz BK391 0, hcz BK391 1, hcz BK392 0, hcz BK392 1, hcz BK393 0, hcz BK393 1⟩ (fun hHeld => ?_)
            clear hK K
            refine normQ (N := 87) ?_
            refine pureQ 7 88 HT_.out ?_
            refine pureQ 8 89 HT_.out ?_
            refine pureU 9 90 HT_.out ?_
            refine pureU 10 91 HT_.out ?_
            refine pureU 11 92 HT_.out ?_
            refine pureU 12 93 HT_.out ?_
            refine pureQ 13 94 HT_.out ?_
            refine pureQ 14 95 HT_.out ?_
            refine takeQ 15 96 HT_.out HW_.out hHeld ?_
            refine takeQ 16 97 HT_.out HW_.out hHeld ?_
            refine oneQ 17 98 HT_.out (fun K hK => ?_)
            refine goesQ Try.func24 #[.agg #[.int .i64 a0_0, .int .i64 a0_1], .agg #[.int .i64 a1_0, .int .i64 a1_1]] ?_
            with_reducible refine (itv_Leq.calls a0_0 a0_1 a1_0 a1_1 false _ A345.out).mono ?_
            rintro e w366 ⟨rfl, hb⟩
            refine ⟨_, rfl, ?_⟩
            have n0_ := bst HB hb
            replace BK391 := bbw BK391 hb
            replace BK392 := bbw BK392 hb
            replace BK393 := bbw BK393 hb
            replace BK396 := bbw BK396 hb
            replace BK399 := bbw BK399 hb
            clear HB
            have HB := n0_
            clear n0_
            (try clear hb)
            (try clear hb2)
            (try clear hk)
            (try clear hi)
            refine hK.out _ _ ⟨hcz BK391 0, hcz BK391 1, hcz BK392 0, hcz BK392 1, hcz BK393 0, hcz BK393 1⟩ (fun hHeld => ?_)
            clear hK K
            refine normQ (N := 98) ?_
            refine pureQ 18 99 HT_.out ?_
            refine pureU 19 100 HT_.out ?_
            refine pureU 20 101 HT_.out ?_
            refine pureU 21 102 HT_.out ?_
            refine pureQ 22 103 HT_.out ?_
            refine pureQ 23 104 HT_.out ?_
            refine pureU 24 105 HT_.out ?_
            refine pureU 25 106 HT_.out ?_
            refine pureU 26 107 HT_.out ?_
            refine pureU 27 108 HT_.out ?_
            refine pureU 28 109 HT_.out ?_
            refine pureU 29 110 HT_.out ?_
            refine pureU 30 111 HT_.out ?_
            refine pureU 31 112 HT_.out ?_
            refine pureU 32 113 HT_.out ?_
            refine pureU 33 114 HT_.out ?_
            refine pureU 34 115 HT_.out ?_
            refine pureQ 35 116 HT_.out ?_
            refine pureQ 36 117 HT_.out ?_
            refine done_ (done_of HT_.out (by kernel_rfl)) ?_
            try go_wp2
            go_meet
            case rel => exact ⟨_, (false), (by first | rfl | (simp; done) | (simp [*]; done)), H', ⟨by have := HJ5.out; have := HJ74.out; first | omega | exact Nat.le_refl _⟩, pkA BK391, pkA BK392, pkA BK393, pkA BK396, pkA BK399, bpk HB⟩
         ·
          replace c311 := Bool.eq_false_iff.mpr c311
          subst c311
          have H1 : ((itv_Leq.f a0_0 a0_1 a1_0 a1_1).bind fun t435 => (if t435 = true then ((itv_Leq.f a1_0 a1_1 a0_0 a0_1).bind fun t436 => (if t436 = true then ((itv_Of.f a0_0 a0_1).bind fun bt437 => ((itv_Of.f a1_0 a1_1).bind fun bt439 => (gimballaw02_ItvLattice.j2 kj74 (!(bt437.1 == bt439.1) || (!(bt437.2 == bt439.2))) a0_0 a0_1 a1_0 a1_1 a2_0 a2_1 t394 t395 t397 t398))) else (gimballaw02_ItvLattice.j2 kj74 false a0_0 a0_1 a1_0 a1_1 a2_0 a2_1 t394 t395 t397 t398))) else (gimballaw02_ItvLattice.j2 kj74 false a0_0 a0_1 a1_0 a1_1 a2_0 a2_1 t394 t395 t397 t398))) = some true := by rw [if_neg (show ¬ (false = true) by decide)] at H; exact H
          clear H
          have H := H1
          clear H1
          replace H := Option.bind_eq_some_iff.mp H
          obtain ⟨t435, A3670, H⟩ := H
          replace H : (if t435 = true then ((itv_Leq.f a1_0 a1_1 a0_0 a0_1).bind fun t436 => (if t436 = true then ((itv_Of.f a0_0 a0_1).bind fun bt437 => ((itv_Of.f a1_0 a1_1).bind fun bt439 => (gimballaw02_ItvLattice.j2 kj74 (!(bt437.1 == bt439.1) || (!(bt437.2 == bt439.2))) a0_0 a0_1 a1_0 a1_1 a2_0 a2_1 t394 t395 t397 t398))) else (gimballaw02_ItvLattice.j2 kj74 false a0_0 a0_1 a1_0 a1_1 a2_0 a2_1 t394 t395 t397 t398))) else (gimballaw02_ItvLattice.j2 kj74 false a0_0 a0_1 a1_0 a1_1 a2_0 a2_1 t394 t395 t397 t398)) = some true := H
          have A367 := Aside0.mk A3670
          clear A3670
          by_cases c368 : t435 = true
          ·
           subst c368
           have H1 : ((itv_Leq.f a1_0 a1_1 a0_0 a0_1).bind fun t436 => (if t436 = true then ((itv_Of.f a0_0 a0_1).bind fun bt437 => ((itv_Of.f a1_0 a1_1).bind fun bt439 => (gimballaw02_ItvLattice.j2 kj74 (!(bt437.1 == bt439.1) || (!(bt437.2 == bt439.2))) a0_0 a0_1 a1_0 a1_1 a2_0 a2_1 t394 t395 t397 t398))) else (gimballaw02_ItvLattice.j2 kj74 false a0_0 a0_1 a1_0 a1_1 a2_0 a2_1 t394 t395 t397 t398))) = some true := by rw [if_pos rfl] at H; exact H
           clear H
           have H := H1
           clear H1
           replace H := Option.bind_eq_some_iff.mp H
           obtain ⟨t436, A3690, H⟩ := H
           replace H : (if t436 = true then ((itv_Of.f a0_0 a0_1).bind fun bt437 => ((itv_Of.f a1_0 a1_1).bind fun bt439 => (gimballaw02_ItvLattice.j2 kj74 (!(bt437.1 == bt439.1) || (!(bt437.2 == bt439.2))) a0_0 a0_1 a1_0 a1_1 a2_0 a2_1 t394 t395 t397 t398))) else (gimballaw02_ItvLattice.j2 kj74 false a0_0 a0_1 a1_0 a1_1 a2_0 a2_1 t394 t395 t397 t398)) = some true := H
           have A369 := Aside0.mk A3690
           clear A3690
           by_cases c370 : t436 = true
           ·
            subst c370
            have H1 : ((itv_Of.f a0_0 a0_1).bind fun bt437 => ((itv_Of.f a1_0 a1_1).bind fun bt439 => (gimballaw02_ItvLattice.j2 kj74 (!(bt437.1 == bt439.1) || (!(bt437.2 == bt439.2))) a0_0 a0_1 a1_0 a1_1 a2_0 a2_1 t394 t395 t397 t398))) = some true := by rw [if_pos rfl] at H; exact H
            clear H
            have H := H1
            clear H1
            replace H := Option.bind_eq_some_iff.mp H
            obtain ⟨⟨t437, t438⟩, A3710, H⟩ := H
            replace H : ((itv_Of.f a1_0 a1_1).bind fun bt439 => (gimballaw02_ItvLattice.j2 kj74 (!(t437 == bt439.1) || (!(t438 == bt439.2))) a0_0 a0_1 a1_0 a1_1 a2_0 a2_1 t394 t395 t397 t398)) = some true := H
            have A371 := Aside0.mk A3710
            clear A3710
            replace H := Option.bind_eq_some_iff.mp H
            obtain ⟨⟨t439, t440⟩, A3720, H⟩ := H
            replace H : (gimballaw02_ItvLattice.j2 kj74 (!(t437 == t439) || (!(t438 == t440))) a0_0 a0_1 a1_0 a1_1 a2_0 a2_1 t394 t395 t397 t398) = some true := H
            have A372 := Aside0.mk A3720
            clear A3720
            have H' := Aside0.mk H
            clear H
            try go_wp2
            have n0_ := Aside0.mk (blk_drew BK391.out)
            have n1_ := Aside0.mk (blk_drew BK392.out)
            have n2_ := Aside0.mk (blk_drew BK393.out)
            have n3_ := Aside0.mk (blk_drew BK396.out)
            have n4_ := Aside0.mk (blk_drew BK399.out)
            have n5_ := Aside0.mk (below_drew1 HB.out)
            clear BK391
            clear BK392
            clear BK393
            clear BK396
            clear BK399
            clear HB
            have BK391 := n0_
            have BK392 := n1_
            have BK393 := n2_
            have BK396 := n3_
            have BK399 := n4_
            have HB := n5_
            clear n0_ n1_ n2_ n3_ n4_ n5_
            refine start_ (n := 37) (S := fun w' => w'.cell? ⟨gb391, 0, none⟩ = some (.int .i64 a0_0) ∧ w'.cell? ⟨gb391, 1, none⟩ = some (.int .i64 a0_1) ∧ w'.cell? ⟨gb392, 0, none⟩ = some (.int .i64 a1_0) ∧ w'.cell? ⟨gb392, 1, none⟩ = some (.int .i64 a1_1)) (ds := []) #[false, false, false, false, false, false, false, false, false, false, false, false, false, false, false, false, false, false, false, false, false, false, false, false, false, false, false, false, false, false, false, false, false, false, false, false, false] (by kernel_rfl) rfl rfl ⟨hcz BK391 0, hcz BK391 1, hcz BK392 0, hcz BK392 1⟩ (fun hHeld => ?_); refine with_tabW gimballaw02_ItvLattice.tab7 gimballaw02_ItvLattice.bits7 (fun HT_ HW_ => ?_)
            generalize wc.drew = w373 at BK391 BK392 BK393 BK396 BK399 HB hHeld ⊢
            refine takeQ 0 81 HT_.out HW_.out hHeld ?_
            refine takeQ 1 82 HT_.out HW_.out hHeld ?_
            refine oneQ 2 83 HT_.out (fun K hK => ?_)
            refine goesQ Try.func24 #[.agg #[.int .i64 a0_0, .int .i64 a0_1], .agg #[.int .i64 a1_0, .int .i64 a1_1]] ?_
            with_reducible refine (itv_Leq.calls a0_0 a0_1 a1_0 a1_1 false _ A310.out).mono ?_
            rintro e w374 ⟨rfl, hb⟩
            refine ⟨_, rfl, ?_⟩
            have n0_ := bst HB hb
            replace BK391 := bbw BK391 hb
            replace BK392 := bbw BK392 hb
            replace BK393 := bbw BK393 hb
            replace BK396 := bbw BK396 hb
            replace BK399 := bbw BK399 hb
            clear HB
            have HB := n0_
            clear n0_
            (try clear hb)
            (try clear hb2)
            (try clear hk)
            (try clear hi)
            refine hK.out _ _ ⟨hcz BK391 0, hcz BK391 1, hcz BK392 0, hcz BK392 1⟩ (fun hHeld => ?_)
            clear hK K
            refine normQ (N := 83) ?_
            refine pureQ 3 84 HT_.out ?_
            refine pureU 4 85 HT_.out ?_
            refine pureU 5 86 HT_.out ?_
            refine pureU 6 87 HT_.out ?_
            refine pureQ 7 88 HT_.out ?_
            refine pureQ 8 89 HT_.out ?_
            refine pureU 9 90 HT_.out ?_
            refine pureU 10 91 HT_.out ?_
            refine pureU 11 92 HT_.out ?_
            refine pureU 12 93 HT_.out ?_
            refine pureQ 13 94 HT_.out ?_
            refine pureQ 14 95 HT_.out ?_
            refine takeQ 15 96 HT_.out HW_.out hHeld ?_
            refine takeQ 16 97 HT_.out HW_.out hHeld ?_
            refine oneQ 17 98 HT_.out (fun K hK => ?_)
            refine goesQ Try.func24 #[.agg #[.int .i64 a0_0, .int .i64 a0_1], .agg #[.int .i64 a1_0, .int .i64 a1_1]] ?_
            with_reducible refine (itv_Leq.calls a0_0 a0_1 a1_0 a1_1 true _ A367.out).mono ?_
            rintro e w375 ⟨rfl, hb⟩
            refine ⟨_, rfl, ?_⟩
            have n0_ := bst HB hb
            replace BK391 := bbw BK391 hb
            replace BK392 := bbw BK392 hb
            replace BK393 := bbw BK393 hb
            replace BK396 := bbw BK396 hb
            replace BK399 := bbw BK399 hb
            clear HB
            have HB := n0_
            clear n0_
            (try clear hb)
            (try clear hb2)
            (try clear hk)
            (try clear hi)
            refine hK.out _ _ ⟨hcz BK391 0, hcz BK391 1, hcz BK392 0, hcz BK392 1⟩ (fun hHeld => ?_)
            clear hK K
            refine normQ (N := 98) ?_
            refine pureQ 18 99 HT_.out ?_
            refine takeQ 19 100 HT_.out HW_.out hHeld ?_
            refine takeQ 20 101 HT_.out HW_.out hHeld ?_
            refine oneQ 21 102 HT_.out (fun K hK => ?_)
            refine goesQ Try.func24 #[.agg #[.int .i64 a1_0, .int .i64 a1_1], .agg #[.int .i64 a0_0, .int .i64 a0_1]] ?_
            with_reducible refine (itv_Leq.calls a1_0 a1_1 a0_0 a0_1 true _ A369.out).mono ?_
            rintro e w376 ⟨rfl, hb⟩
            refine ⟨_, rfl, ?_⟩
            have n0_ := bst HB hb
            replace BK391 := bbw BK391 hb
            replace BK392 := bbw BK392 hb
            replace BK393 := bbw BK393 hb
            replace BK396 := bbw BK396 hb
            replace BK399 := bbw BK399 hb
            clear HB
            have HB := n0_
            clear n0_
            (try clear hb)
            (try clear hb2)
            (try clear hk)
            (try clear hi)
            refine hK.out _ _ ⟨hcz BK391 0, hcz BK391 1, hcz BK392 0, hcz BK392 1⟩ (fun hHeld => ?_)
            clear hK K
            refine normQ (N := 102) ?_
            refine pureQ 22 103 HT_.out ?_
            refine pureQ 23 104 HT_.out ?_
            refine pureQ 24 105 HT_.out ?_
            refine pureQ 26 107 HT_.out ?_
            refine pureQ 29 110 HT_.out ?_
            refine pureQ 31 112 HT_.out ?_
            refine takeQ 25 106 HT_.out HW_.out hHeld ?_
            refine takeQ 27 108 HT_.out HW_.out hHeld ?_
            refine takeQ 30 111 HT_.out HW_.out hHeld ?_
            refine takeQ 32 113 HT_.out HW_.out hHeld ?_
            refine oneQ 28 109 HT_.out (fun K hK => ?_)
            refine goesQ Try.func13 #[.int .i64 a0_0, .int .i64 a0_1] ?_
            with_reducible refine (itv_Of.calls a0_0 a0_1 t437 t438 _ A371.out).mono ?_
            rintro e w377 ⟨rfl, hb⟩
            refine ⟨_, rfl, ?_⟩
            have n0_ := bst HB hb
            replace BK391 := bbw BK391 hb
            replace BK392 := bbw BK392 hb
            replace BK393 := bbw BK393 hb
            replace BK396 := bbw BK396 hb
            replace BK399 := bbw BK399 hb
            clear HB
            have HB := n0_
            clear n0_
            (try clear hb)
            (try clear hb2)
            (try clear hk)
            (try clear hi)
            refine hK.out _ _ ⟨hcz BK391 0, hcz BK391 1, hcz BK392 0, hcz BK392 1⟩ (fun hHeld => ?_)
            clear hK K
            refine normQ (N := 109) ?_
            refine oneQ 33 114 HT_.out (fun K hK => ?_)
            refine goesQ Try.func13 #[.int .i64 a1_0, .int .i64 a1_1] ?_
            with_reducible refine (itv_Of.calls a1_0 a1_1 t439 t440 _ A372.out).mono ?_
            rintro e w378 ⟨rfl, hb⟩
            refine ⟨_, rfl, ?_⟩
            have n0_ := bst HB hb
            replace BK391 := bbw BK391 hb
            replace BK392 := bbw BK392 hb
            replace BK393 := bbw BK393 hb
            replace BK396 := bbw BK396 hb
            replace BK399 := bbw BK399 hb
            clear HB
            have HB := n0_
            clear n0_
            (try clear hb)
            (try clear hb2)
            (try clear hk)
            (try clear hi)
            refine hK.out _ _ ⟨hcz BK391 0, hcz BK391 1, hcz BK392 0, hcz BK392 1⟩ (fun hHeld => ?_)
            clear hK K
            refine normQ (N := 114) ?_
            refine pureQ 34 115 HT_.out ?_
            refine pureQ 35 116 HT_.out ?_
            refine pureQ 36 117 HT_.out ?_
            refine done_ (done_of HT_.out (by kernel_rfl)) ?_
            try go_wp2
            go_meet
            case rel => exact ⟨_, ((!(t437 == t439) || (!(t438 == t440)))), (by first | rfl | (simp; done) | (simp [*]; done)), H', ⟨by have := HJ5.out; have := HJ74.out; first | omega | exact Nat.le_refl _⟩, pkA BK391, pkA BK392, pkA BK393, pkA BK396, pkA BK399, bpk HB⟩
           ·
            replace c370 := Bool.eq_false_iff.mpr c370
            subst c370
            have H1 : (gimballaw02_ItvLattice.j2 kj74 false a0_0 a0_1 a1_0 a1_1 a2_0 a2_1 t394 t395 t397 t398) = some true := by rw [if_neg (show ¬ (false = true) by decide)] at H; exact H
            clear H
            have H := H1
            clear H1
            have H' := Aside0.mk H
            clear H
            try go_wp2
            have n0_ := Aside0.mk (blk_drew BK391.out)
            have n1_ := Aside0.mk (blk_drew BK392.out)
            have n2_ := Aside0.mk (blk_drew BK393.out)
            have n3_ := Aside0.mk (blk_drew BK396.out)
            have n4_ := Aside0.mk (blk_drew BK399.out)
            have n5_ := Aside0.mk (below_drew1 HB.out)
            clear BK391
            clear BK392
            clear BK393
            clear BK396
            clear BK399
            clear HB
            have BK391 := n0_
            have BK392 := n1_
            have BK393 := n2_
            have BK396 := n3_
            have BK399 := n4_
            have HB := n5_
            clear n0_ n1_ n2_ n3_ n4_ n5_
            refine start_ (n := 37) (S := fun w' => w'.cell? ⟨gb391, 0, none⟩ = some (.int .i64 a0_0) ∧ w'.cell? ⟨gb391, 1, none⟩ = some (.int .i64 a0_1) ∧ w'.cell? ⟨gb392, 0, none⟩ = some (.int .i64 a1_0) ∧ w'.cell? ⟨gb392, 1, none⟩ = some (.int .i64 a1_1)) (ds := []) #[false, false, false, false, false, false, false, false, false, false, false, false, false, false, false, false, false, false, false, false, false, false, false, false, false, false, false, false, false, false, false, false, false, false, false, false, false] (by kernel_rfl) rfl rfl ⟨hcz BK391 0, hcz BK391 1, hcz BK392 0, hcz BK392 1⟩ (fun hHeld => ?_); refine with_tabW gimballaw02_ItvLattice.tab7 gimballaw02_ItvLattice.bits7 (fun HT_ HW_ => ?_)
            generalize wc.drew = w379 at BK391 BK392 BK393 BK396 BK399 HB hHeld ⊢
            refine takeQ 0 81 HT_.out HW_.out hHeld ?_
            refine takeQ 1 82 HT_.out HW_.out hHeld ?_
            refine oneQ 2 83 HT_.out (fun K hK => ?_)
            refine goesQ Try.func24 #[.agg #[.int .i64 a0_0, .int .i64 a0_1], .agg #[.int .i64 a1_0, .int .i64 a1_1]] ?_
            with_reducible refine (itv_Leq.calls a0_0 a0_1 a1_0 a1_1 false _ A310.out).mono ?_
            rintro e w380 ⟨rfl, hb⟩
            refine ⟨_, rfl, ?_⟩
            have n0_ := bst HB hb
            replace BK391 := bbw BK391 hb
            replace BK392 := bbw BK392 hb
            replace BK393 := bbw BK393 hb
            replace BK396 := bbw BK396 hb
            replace BK399 := bbw BK399 hb
            clear HB
            have HB := n0_
            clear n0_
            (try clear hb)
            (try clear hb2)
            (try clear hk)
            (try clear hi)
            refine hK.out _ _ ⟨hcz BK391 0, hcz BK391 1, hcz BK392 0, hcz BK392 1⟩ (fun hHeld => ?_)
            clear hK K
            refine normQ (N := 83) ?_
            refine pureQ 3 84 HT_.out ?_
            refine pureU 4 85 HT_.out ?_
            refine pureU 5 86 HT_.out ?_
            refine pureU 6 87 HT_.out ?_
            refine pureQ 7 88 HT_.out ?_
            refine pureQ 8 89 HT_.out ?_
            refine pureU 9 90 HT_.out ?_
            refine pureU 10 91 HT_.out ?_
            refine pureU 11 92 HT_.out ?_
            refine pureU 12 93 HT_.out ?_
            refine pureQ 13 94 HT_.out ?_
            refine pureQ 14 95 HT_.out ?_
            refine takeQ 15 96 HT_.out HW_.out hHeld ?_
            refine takeQ 16 97 HT_.out HW_.out hHeld ?_
            refine oneQ 17 98 HT_.out (fun K hK => ?_)
            refine goesQ Try.func24 #[.agg #[.int .i64 a0_0, .int .i64 a0_1], .agg #[.int .i64 a1_0, .int .i64 a1_1]] ?_
            with_reducible refine (itv_Leq.calls a0_0 a0_1 a1_0 a1_1 true _ A367.out).mono ?_
            rintro e w381 ⟨rfl, hb⟩
            refine ⟨_, rfl, ?_⟩
            have n0_ := bst HB hb
            replace BK391 := bbw BK391 hb
            replace BK392 := bbw BK392 hb
            replace BK393 := bbw BK393 hb
            replace BK396 := bbw BK396 hb
            replace BK399 := bbw BK399 hb
            clear HB
            have HB := n0_
            clear n0_
            (try clear hb)
            (try clear hb2)
            (try clear hk)
            (try clear hi)
            refine hK.out _ _ ⟨hcz BK391 0, hcz BK391 1, hcz BK392 0, hcz BK392 1⟩ (fun hHeld => ?_)
            clear hK K
            refine normQ (N := 98) ?_
            refine pureQ 18 99 HT_.out ?_
            refine takeQ 19 100 HT_.out HW_.out hHeld ?_
            refine takeQ 20 101 HT_.out HW_.out hHeld ?_
            refine oneQ 21 102 HT_.out (fun K hK => ?_)
            refine goesQ Try.func24 #[.agg #[.int .i64 a1_0, .int .i64 a1_1], .agg #[.int .i64 a0_0, .int .i64 a0_1]] ?_
            with_reducible refine (itv_Leq.calls a1_0 a1_1 a0_0 a0_1 false _ A369.out).mono ?_
            rintro e w382 ⟨rfl, hb⟩
            refine ⟨_, rfl, ?_⟩
            have n0_ := bst HB hb
            replace BK391 := bbw BK391 hb
            replace BK392 := bbw BK392 hb
            replace BK393 := bbw BK393 hb
            replace BK396 := bbw BK396 hb
            replace BK399 := bbw BK399 hb
            clear HB
            have HB := n0_
            clear n0_
            (try clear hb)
            (try clear hb2)
            (try clear hk)
            (try clear hi)
            refine hK.out _ _ ⟨hcz BK391 0, hcz BK391 1, hcz BK392 0, hcz BK392 1⟩ (fun hHeld => ?_)
            clear hK K
            refine normQ (N := 102) ?_
            refine pureQ 22 103 HT_.out ?_
            refine pureQ 23 104 HT_.out ?_
            refine pureU 24 105 HT_.out ?_
            refine pureU 25 106 HT_.out ?_
            refine pureU 26 107 HT_.out ?_
            refine pureU 27 108 HT_.out ?_
            refine pureU 28 109 HT_.out ?_
            refine pureU 29 110 HT_.out ?_
            refine pureU 30 111 HT_.out ?_
            refine pureU 31 112 HT_.out ?_
            refine pureU 32 113 HT_.out ?_
            refine pureU 33 114 HT_.out ?_
            refine pureU 34 115 HT_.out ?_
            refine pureQ 35 116 HT_.out ?_
            refine pureQ 36 117 HT_.out ?_
            refine done_ (done_of HT_.out (by kernel_rfl)) ?_
            try go_wp2
            go_meet
            case rel => exact ⟨_, (false), (by first | rfl | (simp; done) | (simp [*]; done)), H', ⟨by have := HJ5.out; have := HJ74.out; first | omega | exact Nat.le_refl _⟩, pkA BK391, pkA BK392, pkA BK393, pkA BK396, pkA BK399, bpk HB⟩
          ·
           replace c368 := Bool.eq_false_iff.mpr c368
           subst c368
           have H1 : (gimballaw02_ItvLattice.j2 kj74 false a0_0 a0_1 a1_0 a1_1 a2_0 a2_1 t394 t395 t397 t398) = some true := by rw [if_neg (show ¬ (false = true) by decide)] at H; exact H
           clear H
           have H := H1
           clear H1
           have H' := Aside0.mk H
           clear H
           try go_wp2
           have n0_ := Aside0.mk (blk_drew BK391.out)
           have n1_ := Aside0.mk (blk_drew BK392.out)
           have n2_ := Aside0.mk (blk_drew BK393.out)
           have n3_ := Aside0.mk (blk_drew BK396.out)
           have n4_ := Aside0.mk (blk_drew BK399.out)
           have n5_ := Aside0.mk (below_drew1 HB.out)
           clear BK391
           clear BK392
           clear BK393
           clear BK396
           clear BK399
           clear HB
           have BK391 := n0_
           have BK392 := n1_
           have BK393 := n2_
           have BK396 := n3_
           have BK399 := n4_
           have HB := n5_
           clear n0_ n1_ n2_ n3_ n4_ n5_
           refine start_ (n := 37) (S := fun w' => w'.cell? ⟨gb391, 0, none⟩ = some (.int .i64 a0_0) ∧ w'.cell? ⟨gb391, 1, none⟩ = some (.int .i64 a0_1) ∧ w'.cell? ⟨gb392, 0, none⟩ = some (.int .i64 a1_0) ∧ w'.cell? ⟨gb392, 1, none⟩ = some (.int .i64 a1_1)) (ds := []) #[false, false, false, false, false, false, false, false, false, false, false, false, false, false, false, false, false, false, false, false, false, false, false, false, false, false, false, false, false, false, false, false, false, false, false, false, false] (by kernel_rfl) rfl rfl ⟨hcz BK391 0, hcz BK391 1, hcz BK392 0, hcz BK392 1⟩ (fun hHeld => ?_); refine with_tabW gimballaw02_ItvLattice.tab7 gimballaw02_ItvLattice.bits7 (fun HT_ HW_ => ?_)
           generalize wc.drew = w383 at BK391 BK392 BK393 BK396 BK399 HB hHeld ⊢
           refine takeQ 0 81 HT_.out HW_.out hHeld ?_
           refine takeQ 1 82 HT_.out HW_.out hHeld ?_
           refine oneQ 2 83 HT_.out (fun K hK => ?_)
           refine goesQ Try.func24 #[.agg #[.int .i64 a0_0, .int .i64 a0_1], .agg #[.int .i64 a1_0, .int .i64 a1_1]] ?_
           with_reducible refine (itv_Leq.calls a0_0 a0_1 a1_0 a1_1 false _ A310.out).mono ?_
           rintro e w384 ⟨rfl, hb⟩
           refine ⟨_, rfl, ?_⟩
           have n0_ := bst HB hb
           replace BK391 := bbw BK391 hb
           replace BK392 := bbw BK392 hb
           replace BK393 := bbw BK393 hb
           replace BK396 := bbw BK396 hb
           replace BK399 := bbw BK399 hb
           clear HB
           have HB := n0_
           clear n0_
           (try clear hb)
           (try clear hb2)
           (try clear hk)
           (try clear hi)
           refine hK.out _ _ ⟨hcz BK391 0, hcz BK391 1, hcz BK392 0, hcz BK392 1⟩ (fun hHeld => ?_)
           clear hK K
           refine normQ (N := 83) ?_
           refine pureQ 3 84 HT_.out ?_
           refine pureU 4 85 HT_.out ?_
           refine pureU 5 86 HT_.out ?_
           refine pureU 6 87 HT_.out ?_
           refine pureQ 7 88 HT_.out ?_
           refine pureQ 8 89 HT_.out ?_
           refine pureU 9 90 HT_.out ?_
           refine pureU 10 91 HT_.out ?_
           refine pureU 11 92 HT_.out ?_
           refine pureU 12 93 HT_.out ?_
           refine pureQ 13 94 HT_.out ?_
           refine pureQ 14 95 HT_.out ?_
           refine takeQ 15 96 HT_.out HW_.out hHeld ?_
           refine takeQ 16 97 HT_.out HW_.out hHeld ?_
           refine oneQ 17 98 HT_.out (fun K hK => ?_)
           refine goesQ Try.func24 #[.agg #[.int .i64 a0_0, .int .i64 a0_1], .agg #[.int .i64 a1_0, .int .i64 a1_1]] ?_
           with_reducible refine (itv_Leq.calls a0_0 a0_1 a1_0 a1_1 false _ A367.out).mono ?_
           rintro e w385 ⟨rfl, hb⟩
           refine ⟨_, rfl, ?_⟩
           have n0_ := bst HB hb
           replace BK391 := bbw BK391 hb
           replace BK392 := bbw BK392 hb
           replace BK393 := bbw BK393 hb
           replace BK396 := bbw BK396 hb
           replace BK399 := bbw BK399 hb
           clear HB
           have HB := n0_
           clear n0_
           (try clear hb)
           (try clear hb2)
           (try clear hk)
           (try clear hi)
           refine hK.out _ _ ⟨hcz BK391 0, hcz BK391 1, hcz BK392 0, hcz BK392 1⟩ (fun hHeld => ?_)
           clear hK K
           refine normQ (N := 98) ?_
           refine pureQ 18 99 HT_.out ?_
           refine pureU 19 100 HT_.out ?_
           refine pureU 20 101 HT_.out ?_
           refine pureU 21 102 HT_.out ?_
           refine pureQ 22 103 HT_.out ?_
           refine pureQ 23 104 HT_.out ?_
           refine pureU 24 105 HT_.out ?_
           refine pureU 25 106 HT_.out ?_
           refine pureU 26 107 HT_.out ?_
           refine pureU 27 108 HT_.out ?_
           refine pureU 28 109 HT_.out ?_
           refine pureU 29 110 HT_.out ?_
           refine pureU 30 111 HT_.out ?_
           refine pureU 31 112 HT_.out ?_
           refine pureU 32 113 HT_.out ?_
           refine pureU 33 114 HT_.out ?_
           refine pureU 34 115 HT_.out ?_
           refine pureQ 35 116 HT_.out ?_
           refine pureQ 36 117 HT_.out ?_
           refine done_ (done_of HT_.out (by kernel_rfl)) ?_
           try go_wp2
           go_meet
           case rel => exact ⟨_, (false), (by first | rfl | (simp; done) | (simp [*]; done)), H', ⟨by have := HJ5.out; have := HJ74.out; first | omega | exact Nat.le_refl _⟩, pkA BK391, pkA BK392, pkA BK393, pkA BK396, pkA BK399, bpk HB⟩
        case rest => as_aux_lemma =>
         clear HC309
         try clear c2
         try clear p2
         try clear c3
         try clear c24
         try clear c36
         try clear c368
         obtain ⟨kq, x117_308, rfl, HA, HJ308, BK391, BK392, BK393, BK396, BK399, HB⟩ := hcut
         cases kq with
         | zero => exact absurd HA.out (by simp [gimballaw02_ItvLattice.j2])
         | succ kj308 =>
          have H := HA.out
          clear HA
          simp only [gimballaw02_ItvLattice.j2] at H
          by_cases c386 : x117_308 = true
          ·
           subst c386
           have H1 : (some false) = some true := by rw [if_pos rfl] at H; exact H
           clear H
           have H := H1
           clear H1
           exact absurd H (by simp)
          ·
           replace c386 := Bool.eq_false_iff.mpr c386
           subst c386
           have H1 : ((itv_Join.f a0_0 a0_1 t397 t398).bind fun bt441 => ((itv_Of.f a0_0 a0_1).bind fun bt443 => (if (bt441.1 == bt443.1 && (bt441.2 == bt443.2)) = true then ((itv_Join.f t394 t395 a2_0 a2_1).bind fun bt445 => ((itv_Join.f a1_0 a1_1 a2_0 a2_1).bind fun bt447 => ((itv_Join.f a0_0 a0_1 bt447.1 bt447.2).bind fun bt449 => (if (bt445.1 == bt449.1 && (bt445.2 == bt449.2)) = true then ((itv_Meet.f kj308 t397 t398 a2_0 a2_1).bind fun bt451 => ((itv_Meet.f kj308 a1_0 a1_1 a2_0 a2_1).bind fun bt453 => ((itv_Meet.f kj308 a0_0 a0_1 bt453.1 bt453.2).bind fun bt455 => (if (bt451.1 == bt455.1 && (bt451.2 == bt455.2)) = true then ((gimballaw02_awake.f kj308).bind fun t457 => (some t457)) else (some false))))) else (some false))))) else (some false)))) = some true := by rw [if_neg (show ¬ (false = true) by decide)] at H; exact H
           clear H
           have H := H1
           clear H1
           replace H := Option.bind_eq_some_iff.mp H
           obtain ⟨⟨t441, t442⟩, A3870, H⟩ := H
           replace H : ((itv_Of.f a0_0 a0_1).bind fun bt443 => (if (t441 == bt443.1 && (t442 == bt443.2)) = true then ((itv_Join.f t394 t395 a2_0 a2_1).bind fun bt445 => ((itv_Join.f a1_0 a1_1 a2_0 a2_1).bind fun bt447 => ((itv_Join.f a0_0 a0_1 bt447.1 bt447.2).bind fun bt449 => (if (bt445.1 == bt449.1 && (bt445.2 == bt449.2)) = true then ((itv_Meet.f kj308 t397 t398 a2_0 a2_1).bind fun bt451 => ((itv_Meet.f kj308 a1_0 a1_1 a2_0 a2_1).bind fun bt453 => ((itv_Meet.f kj308 a0_0 a0_1 bt453.1 bt453.2).bind fun bt455 => (if (bt451.1 == bt455.1 && (bt451.2 == bt455.2)) = true then ((gimballaw02_awake.f kj308).bind fun t457 => (some t457)) else (some false))))) else (some false))))) else (some false))) = some true := H
           have A387 := Aside0.mk A3870
           clear A3870
           replace H := Option.bind_eq_some_iff.mp H
           obtain ⟨⟨t443, t444⟩, A3880, H⟩ := H
           replace H : (if (t441 == t443 && (t442 == t444)) = true then ((itv_Join.f t394 t395 a2_0 a2_1).bind fun bt445 => ((itv_Join.f a1_0 a1_1 a2_0 a2_1).bind fun bt447 => ((itv_Join.f a0_0 a0_1 bt447.1 bt447.2).bind fun bt449 => (if (bt445.1 == bt449.1 && (bt445.2 == bt449.2)) = true then ((itv_Meet.f kj308 t397 t398 a2_0 a2_1).bind fun bt451 => ((itv_Meet.f kj308 a1_0 a1_1 a2_0 a2_1).bind fun bt453 => ((itv_Meet.f kj308 a0_0 a0_1 bt453.1 bt453.2).bind fun bt455 => (if (bt451.1 == bt455.1 && (bt451.2 == bt455.2)) = true then ((gimballaw02_awake.f kj308).bind fun t457 => (some t457)) else (some false))))) else (some false))))) else (some false)) = some true := H
           have A388 := Aside0.mk A3880
           clear A3880
           by_cases c389 : (t441 == t443 && (t442 == t444)) = true
           ·
            rw [if_pos c389] at H
            have c389b0 : (t441 == t443 && (t442 == t444)) = true := c389
            (try (have c389b1 : decide (t441 = t443 && (t442 == t444)) = true := by simpa using c389))
            (try (have c389b2 : (t441 == t443 && (t442 == t444)) = true := by simpa using c389))
            clear c389
            replace H := Option.bind_eq_some_iff.mp H
            obtain ⟨⟨t445, t446⟩, A3900, H⟩ := H
            replace H : ((itv_Join.f a1_0 a1_1 a2_0 a2_1).bind fun bt447 => ((itv_Join.f a0_0 a0_1 bt447.1 bt447.2).bind fun bt449 => (if (t445 == bt449.1 && (t446 == bt449.2)) = true then ((itv_Meet.f kj308 t397 t398 a2_0 a2_1).bind fun bt451 => ((itv_Meet.f kj308 a1_0 a1_1 a2_0 a2_1).bind fun bt453 => ((itv_Meet.f kj308 a0_0 a0_1 bt453.1 bt453.2).bind fun bt455 => (if (bt451.1 == bt455.1 && (bt451.2 == bt455.2)) = true then ((gimballaw02_awake.f kj308).bind fun t457 => (some t457)) else (some false))))) else (some false)))) = some true := H
            have A390 := Aside0.mk A3900
            clear A3900
            replace H := Option.bind_eq_some_iff.mp H
            obtain ⟨⟨t447, t448⟩, A3910, H⟩ := H
            replace H : ((itv_Join.f a0_0 a0_1 t447 t448).bind fun bt449 => (if (t445 == bt449.1 && (t446 == bt449.2)) = true then ((itv_Meet.f kj308 t397 t398 a2_0 a2_1).bind fun bt451 => ((itv_Meet.f kj308 a1_0 a1_1 a2_0 a2_1).bind fun bt453 => ((itv_Meet.f kj308 a0_0 a0_1 bt453.1 bt453.2).bind fun bt455 => (if (bt451.1 == bt455.1 && (bt451.2 == bt455.2)) = true then ((gimballaw02_awake.f kj308).bind fun t457 => (some t457)) else (some false))))) else (some false))) = some true := H
            have A391 := Aside0.mk A3910
            clear A3910
            replace H := Option.bind_eq_some_iff.mp H
            obtain ⟨⟨t449, t450⟩, A3920, H⟩ := H
            replace H : (if (t445 == t449 && (t446 == t450)) = true then ((itv_Meet.f kj308 t397 t398 a2_0 a2_1).bind fun bt451 => ((itv_Meet.f kj308 a1_0 a1_1 a2_0 a2_1).bind fun bt453 => ((itv_Meet.f kj308 a0_0 a0_1 bt453.1 bt453.2).bind fun bt455 => (if (bt451.1 == bt455.1 && (bt451.2 == bt455.2)) = true then ((gimballaw02_awake.f kj308).bind fun t457 => (some t457)) else (some false))))) else (some false)) = some true := H
            have A392 := Aside0.mk A3920
            clear A3920
            by_cases c393 : (t445 == t449 && (t446 == t450)) = true
            ·
             rw [if_pos c393] at H
             have c393b0 : (t445 == t449 && (t446 == t450)) = true := c393
             (try (have c393b1 : decide (t445 = t449 && (t446 == t450)) = true := by simpa using c393))
             (try (have c393b2 : (t445 == t449 && (t446 == t450)) = true := by simpa using c393))
             clear c393
             replace H := Option.bind_eq_some_iff.mp H
             obtain ⟨⟨t451, t452⟩, A3940, H⟩ := H
             replace H : ((itv_Meet.f kj308 a1_0 a1_1 a2_0 a2_1).bind fun bt453 => ((itv_Meet.f kj308 a0_0 a0_1 bt453.1 bt453.2).bind fun bt455 => (if (t451 == bt455.1 && (t452 == bt455.2)) = true then ((gimballaw02_awake.f kj308).bind fun t457 => (some t457)) else (some false)))) = some true := H
             have A394 := Aside0.mk A3940
             clear A3940
             replace H := Option.bind_eq_some_iff.mp H
             obtain ⟨⟨t453, t454⟩, A3950, H⟩ := H
             replace H : ((itv_Meet.f kj308 a0_0 a0_1 t453 t454).bind fun bt455 => (if (t451 == bt455.1 && (t452 == bt455.2)) = true then ((gimballaw02_awake.f kj308).bind fun t457 => (some t457)) else (some false))) = some true := H
             have A395 := Aside0.mk A3950
             clear A3950
             replace H := Option.bind_eq_some_iff.mp H
             obtain ⟨⟨t455, t456⟩, A3960, H⟩ := H
             replace H : (if (t451 == t455 && (t452 == t456)) = true then ((gimballaw02_awake.f kj308).bind fun t457 => (some t457)) else (some false)) = some true := H
             have A396 := Aside0.mk A3960
             clear A3960
             by_cases c397 : (t451 == t455 && (t452 == t456)) = true
             ·
              rw [if_pos c397] at H
              have c397b0 : (t451 == t455 && (t452 == t456)) = true := c397
              (try (have c397b1 : decide (t451 = t455 && (t452 == t456)) = true := by simpa using c397))
              (try (have c397b2 : (t451 == t455 && (t452 == t456)) = true := by simpa using c397))
              clear c397
              replace H := Option.bind_eq_some_iff.mp H
              obtain ⟨t457, A3980, H⟩ := H
              replace H : (some t457) = some true := H
              have A398 := Aside0.mk A3980
              clear A3980
              have hret_ := Option.some.inj H
              clear H
              try go_wp2
              have n0_ := Aside0.mk (blk_drew BK391.out)
              have n1_ := Aside0.mk (blk_drew BK392.out)
              have n2_ := Aside0.mk (blk_drew BK393.out)
              have n3_ := Aside0.mk (blk_drew BK396.out)
              have n4_ := Aside0.mk (blk_drew BK399.out)
              have n5_ := Aside0.mk (below_drew1 HB.out)
              clear BK391
              clear BK392
              clear BK393
              clear BK396
              clear BK399
              clear HB
              have BK391 := n0_
              have BK392 := n1_
              have BK393 := n2_
              have BK396 := n3_
              have BK399 := n4_
              have HB := n5_
              clear n0_ n1_ n2_ n3_ n4_ n5_
              refine start_ (n := 35) (S := fun w' => w'.cell? ⟨gb391, 0, none⟩ = some (.int .i64 a0_0) ∧ w'.cell? ⟨gb391, 1, none⟩ = some (.int .i64 a0_1) ∧ w'.cell? ⟨gb399, 0, none⟩ = some (.int .i64 t397) ∧ w'.cell? ⟨gb399, 1, none⟩ = some (.int .i64 t398) ∧ w'.cell? ⟨gb396, 0, none⟩ = some (.int .i64 t394) ∧ w'.cell? ⟨gb396, 1, none⟩ = some (.int .i64 t395) ∧ w'.cell? ⟨gb393, 0, none⟩ = some (.int .i64 a2_0) ∧ w'.cell? ⟨gb393, 1, none⟩ = some (.int .i64 a2_1) ∧ w'.cell? ⟨gb392, 0, none⟩ = some (.int .i64 a1_0) ∧ w'.cell? ⟨gb392, 1, none⟩ = some (.int .i64 a1_1)) (ds := []) #[false, false, false, false, false, false, false, false, false, false, false, false, false, false, false, false, false, false, false, false, false, false, false, false, false, false, false, false, false, false, false, false, false, false, false] (by kernel_rfl) rfl rfl ⟨hcz BK391 0, hcz BK391 1, hcz BK399 0, hcz BK399 1, hcz BK396 0, hcz BK396 1, hcz BK393 0, hcz BK393 1, hcz BK392 0, hcz BK392 1⟩ (fun hHeld => ?_); refine with_tabW gimballaw02_ItvLattice.tab9 gimballaw02_ItvLattice.bits9 (fun HT_ HW_ => ?_)
              generalize wc.drew = w399 at BK391 BK392 BK393 BK396 BK399 HB hHeld ⊢
              refine pureQ 3 121 HT_.out ?_
              refine pureQ 5 123 HT_.out ?_
              refine takeQ 0 118 HT_.out HW_.out hHeld ?_
              refine takeQ 1 119 HT_.out HW_.out hHeld ?_
              refine takeQ 4 122 HT_.out HW_.out hHeld ?_
              refine takeQ 6 124 HT_.out HW_.out hHeld ?_
              refine oneQ 2 120 HT_.out (fun K hK => ?_)
              refine goesQ Try.func26 #[.agg #[.int .i64 a0_0, .int .i64 a0_1], .agg #[.int .i64 t397, .int .i64 t398]] ?_
              with_reducible refine (itv_Join.calls a0_0 a0_1 t397 t398 t441 t442 _ A387.out).mono ?_
              rintro e w400 ⟨rfl, hb⟩
              refine ⟨_, rfl, ?_⟩
              have n0_ := bst HB hb
              replace BK391 := bbw BK391 hb
              replace BK392 := bbw BK392 hb
              replace BK393 := bbw BK393 hb
              replace BK396 := bbw BK396 hb
              replace BK399 := bbw BK399 hb
              clear HB
              have HB := n0_
              clear n0_
              (try clear hb)
              (try clear hb2)
              (try clear hk)
              (try clear hi)
              refine hK.out _ _ ⟨hcz BK391 0, hcz BK391 1, hcz BK399 0, hcz BK399 1, hcz BK396 0, hcz BK396 1, hcz BK393 0, hcz BK393 1, hcz BK392 0, hcz BK392 1⟩ (fun hHeld => ?_)
              clear hK K
              refine normQ (N := 120) ?_
              refine oneQ 7 125 HT_.out (fun K hK => ?_)
              refine goesQ Try.func13 #[.int .i64 a0_0, .int .i64 a0_1] ?_
              with_reducible refine (itv_Of.calls a0_0 a0_1 t443 t444 _ A388.out).mono ?_
              rintro e w401 ⟨rfl, hb⟩
              refine ⟨_, rfl, ?_⟩
              have n0_ := bst HB hb
              replace BK391 := bbw BK391 hb
              replace BK392 := bbw BK392 hb
              replace BK393 := bbw BK393 hb
              replace BK396 := bbw BK396 hb
              replace BK399 := bbw BK399 hb
              clear HB
              have HB := n0_
              clear n0_
              (try clear hb)
              (try clear hb2)
              (try clear hk)
              (try clear hi)
              refine hK.out _ _ ⟨hcz BK391 0, hcz BK391 1, hcz BK399 0, hcz BK399 1, hcz BK396 0, hcz BK396 1, hcz BK393 0, hcz BK393 1, hcz BK392 0, hcz BK392 1⟩ (fun hHeld => ?_)
              clear hK K
              refine normQ (N := 125) ?_
              refine pureQ 8 126 HT_.out ?_
              refine pureQ 9 127 HT_.out ?_
              refine takeQ 10 128 HT_.out HW_.out hHeld ?_
              refine takeQ 11 129 HT_.out HW_.out hHeld ?_
              refine takeQ 13 131 HT_.out HW_.out hHeld ?_
              refine takeQ 14 132 HT_.out HW_.out hHeld ?_
              refine takeQ 15 133 HT_.out HW_.out hHeld ?_
              refine oneQ 12 130 HT_.out (fun K hK => ?_)
              refine goesQ Try.func26 #[.agg #[.int .i64 t394, .int .i64 t395], .agg #[.int .i64 a2_0, .int .i64 a2_1]] ?_
              with_reducible refine (itv_Join.calls t394 t395 a2_0 a2_1 t445 t446 _ A390.out).mono ?_
              rintro e w402 ⟨rfl, hb⟩
              refine ⟨_, rfl, ?_⟩
              have n0_ := bst HB hb
              replace BK391 := bbw BK391 hb
              replace BK392 := bbw BK392 hb
              replace BK393 := bbw BK393 hb
              replace BK396 := bbw BK396 hb
              replace BK399 := bbw BK399 hb
              clear HB
              have HB := n0_
              clear n0_
              (try clear hb)
              (try clear hb2)
              (try clear hk)
              (try clear hi)
              refine hK.out _ _ ⟨hcz BK391 0, hcz BK391 1, hcz BK399 0, hcz BK399 1, hcz BK396 0, hcz BK396 1, hcz BK393 0, hcz BK393 1, hcz BK392 0, hcz BK392 1⟩ (fun hHeld => ?_)
              clear hK K
              refine normQ (N := 130) ?_
              refine oneQ 16 134 HT_.out (fun K hK => ?_)
              refine goesQ Try.func26 #[.agg #[.int .i64 a1_0, .int .i64 a1_1], .agg #[.int .i64 a2_0, .int .i64 a2_1]] ?_
              with_reducible refine (itv_Join.calls a1_0 a1_1 a2_0 a2_1 t447 t448 _ A391.out).mono ?_
              rintro e w403 ⟨rfl, hb⟩
              refine ⟨_, rfl, ?_⟩
              have n0_ := bst HB hb
              replace BK391 := bbw BK391 hb
              replace BK392 := bbw BK392 hb
              replace BK393 := bbw BK393 hb
              replace BK396 := bbw BK396 hb
              replace BK399 := bbw BK399 hb
              clear HB
              have HB := n0_
              clear n0_
              (try clear hb)
              (try clear hb2)
              (try clear hk)
              (try clear hi)
              refine hK.out _ _ ⟨hcz BK391 0, hcz BK391 1, hcz BK399 0, hcz BK399 1, hcz BK396 0, hcz BK396 1, hcz BK393 0, hcz BK393 1, hcz BK392 0, hcz BK392 1⟩ (fun hHeld => ?_)
              clear hK K
              refine normQ (N := 134) ?_
              refine oneQ 17 135 HT_.out (fun K hK => ?_)
              refine goesQ Try.func26 #[.agg #[.int .i64 a0_0, .int .i64 a0_1], .agg #[.int .i64 t447, .int .i64 t448]] ?_
              with_reducible refine (itv_Join.calls a0_0 a0_1 t447 t448 t449 t450 _ A392.out).mono ?_
              rintro e w404 ⟨rfl, hb⟩
              refine ⟨_, rfl, ?_⟩
              have n0_ := bst HB hb
              replace BK391 := bbw BK391 hb
              replace BK392 := bbw BK392 hb
              replace BK393 := bbw BK393 hb
              replace BK396 := bbw BK396 hb
              replace BK399 := bbw BK399 hb
              clear HB
              have HB := n0_
              clear n0_
              (try clear hb)
              (try clear hb2)
              (try clear hk)
              (try clear hi)
              refine hK.out _ _ ⟨hcz BK391 0, hcz BK391 1, hcz BK399 0, hcz BK399 1, hcz BK396 0, hcz BK396 1, hcz BK393 0, hcz BK393 1, hcz BK392 0, hcz BK392 1⟩ (fun hHeld => ?_)
              clear hK K
              refine normQ (N := 135) ?_
              refine pureQ 18 136 HT_.out ?_
              refine pureQ 19 137 HT_.out ?_
              refine pureQ 20 138 HT_.out ?_
              refine takeQ 21 139 HT_.out HW_.out hHeld ?_
              refine takeQ 22 140 HT_.out HW_.out hHeld ?_
              refine takeQ 24 142 HT_.out HW_.out hHeld ?_
              refine takeQ 25 143 HT_.out HW_.out hHeld ?_
              refine takeQ 26 144 HT_.out HW_.out hHeld ?_
              refine oneQ 23 141 HT_.out (fun K hK => ?_)
              refine goesQ Try.func28 #[.agg #[.int .i64 t397, .int .i64 t398], .agg #[.int .i64 a2_0, .int .i64 a2_1]] ?_
              with_reducible refine (itv_Meet.calls kj308 t397 t398 a2_0 a2_1 t451 t452 _ A394.out).mono ?_
              rintro e w405 ⟨rfl, hb⟩
              refine ⟨_, rfl, ?_⟩
              have n0_ := bst HB hb
              replace BK391 := bbw BK391 hb
              replace BK392 := bbw BK392 hb
              replace BK393 := bbw BK393 hb
              replace BK396 := bbw BK396 hb
              replace BK399 := bbw BK399 hb
              clear HB
              have HB := n0_
              clear n0_
              (try clear hb)
              (try clear hb2)
              (try clear hk)
              (try clear hi)
              refine hK.out _ _ ⟨hcz BK391 0, hcz BK391 1, hcz BK399 0, hcz BK399 1, hcz BK396 0, hcz BK396 1, hcz BK393 0, hcz BK393 1, hcz BK392 0, hcz BK392 1⟩ (fun hHeld => ?_)
              clear hK K
              refine normQ (N := 141) ?_
              refine oneQ 27 145 HT_.out (fun K hK => ?_)
              refine goesQ Try.func28 #[.agg #[.int .i64 a1_0, .int .i64 a1_1], .agg #[.int .i64 a2_0, .int .i64 a2_1]] ?_
              with_reducible refine (itv_Meet.calls kj308 a1_0 a1_1 a2_0 a2_1 t453 t454 _ A395.out).mono ?_
              rintro e w406 ⟨rfl, hb⟩
              refine ⟨_, rfl, ?_⟩
              have n0_ := bst HB hb
              replace BK391 := bbw BK391 hb
              replace BK392 := bbw BK392 hb
              replace BK393 := bbw BK393 hb
              replace BK396 := bbw BK396 hb
              replace BK399 := bbw BK399 hb
              clear HB
              have HB := n0_
              clear n0_
              (try clear hb)
              (try clear hb2)
              (try clear hk)
              (try clear hi)
              refine hK.out _ _ ⟨hcz BK391 0, hcz BK391 1, hcz BK399 0, hcz BK399 1, hcz BK396 0, hcz BK396 1, hcz BK393 0, hcz BK393 1, hcz BK392 0, hcz BK392 1⟩ (fun hHeld => ?_)
              clear hK K
              refine normQ (N := 145) ?_
              refine oneQ 28 146 HT_.out (fun K hK => ?_)
              refine goesQ Try.func28 #[.agg #[.int .i64 a0_0, .int .i64 a0_1], .agg #[.int .i64 t453, .int .i64 t454]] ?_
              with_reducible refine (itv_Meet.calls kj308 a0_0 a0_1 t453 t454 t455 t456 _ A396.out).mono ?_
              rintro e w407 ⟨rfl, hb⟩
              refine ⟨_, rfl, ?_⟩
              have n0_ := bst HB hb
              replace BK391 := bbw BK391 hb
              replace BK392 := bbw BK392 hb
              replace BK393 := bbw BK393 hb
              replace BK396 := bbw BK396 hb
              replace BK399 := bbw BK399 hb
              clear HB
              have HB := n0_
              clear n0_
              (try clear hb)
              (try clear hb2)
              (try clear hk)
              (try clear hi)
              refine hK.out _ _ ⟨hcz BK391 0, hcz BK391 1, hcz BK399 0, hcz BK399 1, hcz BK396 0, hcz BK396 1, hcz BK393 0, hcz BK393 1, hcz BK392 0, hcz BK392 1⟩ (fun hHeld => ?_)
              clear hK K
              refine normQ (N := 146) ?_
              refine pureQ 29 147 HT_.out ?_
              refine pureQ 30 148 HT_.out ?_
              refine pureQ 31 149 HT_.out ?_
              refine oneQ 32 150 HT_.out (fun K hK => ?_)
              refine goesQ Try.func36 #[] ?_
              with_reducible refine (gimballaw02_awake.calls kj308  t457 _ A398.out).mono ?_
              rintro e w408 ⟨rfl, hb⟩
              refine ⟨_, rfl, ?_⟩
              have n0_ := bst HB hb
              replace BK391 := bbw BK391 hb
              replace BK392 := bbw BK392 hb
              replace BK393 := bbw BK393 hb
              replace BK396 := bbw BK396 hb
              replace BK399 := bbw BK399 hb
              clear HB
              have HB := n0_
              clear n0_
              (try clear hb)
              (try clear hb2)
              (try clear hk)
              (try clear hi)
              refine hK.out _ _ ⟨hcz BK391 0, hcz BK391 1, hcz BK399 0, hcz BK399 1, hcz BK396 0, hcz BK396 1, hcz BK393 0, hcz BK393 1, hcz BK392 0, hcz BK392 1⟩ (fun hHeld => ?_)
              clear hK K
              refine normQ (N := 150) ?_
              refine pureQ 33 151 HT_.out ?_
              refine pureQ 34 6 HT_.out ?_
              refine done_ (done_of HT_.out (by kernel_rfl)) ?_
              try go_wp2
              go_ret
              exact ⟨by first | rfl | (simp [errW_none, errW_some] <;> rfl) | (simp [*, errW_none, errW_some] <;> rfl) | kernel_rfl, by repeat (first | (with_reducible first | exact HB.out | apply below_alloc | apply pw_below_drewN | apply below_drew1 | refine below_set ?_ GE391.out | refine below_set ?_ GE392.out | refine below_set ?_ GE393.out | refine below_set ?_ GE396.out | refine below_set ?_ GE399.out) | exact HB.out)⟩
             ·
              rw [if_neg c397] at H
              have c397b0 : (t451 == t455 && (t452 == t456)) = false := by simpa using c397
              (try (have c397b1 : decide (t451 = t455 && (t452 == t456)) = false := by simpa using c397))
              (try (have c397b2 : (t451 == t455 && (t452 == t456)) = false := by simpa using c397))
              (try (have c397b3 : ¬ (t451 = t455 && (t452 == t456)) := by simpa using c397))
              clear c397
              exact absurd H (by simp)
            ·
             rw [if_neg c393] at H
             have c393b0 : (t445 == t449 && (t446 == t450)) = false := by simpa using c393
             (try (have c393b1 : decide (t445 = t449 && (t446 == t450)) = false := by simpa using c393))
             (try (have c393b2 : (t445 == t449 && (t446 == t450)) = false := by simpa using c393))
             (try (have c393b3 : ¬ (t445 = t449 && (t446 == t450)) := by simpa using c393))
             clear c393
             exact absurd H (by simp)
           ·
            rw [if_neg c389] at H
            have c389b0 : (t441 == t443 && (t442 == t444)) = false := by simpa using c389
            (try (have c389b1 : decide (t441 = t443 && (t442 == t444)) = false := by simpa using c389))
            (try (have c389b2 : (t441 == t443 && (t442 == t444)) = false := by simpa using c389))
            (try (have c389b3 : ¬ (t441 = t443 && (t442 == t444)) := by simpa using c389))
            clear c389
            exact absurd H (by simp)
/-- THE ONE PURE STATEMENT of gimballaw02_ItvLattice: yours. -/
def gimballaw02_ItvLattice.Pure : Prop := ∀ (a0_0 : Int) (a0_1 : Int) (a1_0 : Int) (a1_1 : Int) (a2_0 : Int) (a2_1 : Int), (Lit.int .i64 a0_0).wf = true → (Lit.int .i64 a0_1).wf = true → (Lit.int .i64 a1_0).wf = true → (Lit.int .i64 a1_1).wf = true → (Lit.int .i64 a2_0).wf = true → (Lit.int .i64 a2_1).wf = true → ∃ k, gimballaw02_ItvLattice.f k a0_0 a0_1 a1_0 a1_1 a2_0 a2_1 = some true
theorem gimballaw02_ItvLattice.walk (P : gimballaw02_ItvLattice.Pure) (a0_0 : Int) (a0_1 : Int) (a1_0 : Int) (a1_1 : Int) (a2_0 : Int) (a2_1 : Int) (w : World) (w0_0 : (Lit.int .i64 a0_0).wf = true) (w0_1 : (Lit.int .i64 a0_1).wf = true) (w1_0 : (Lit.int .i64 a1_0).wf = true) (w1_1 : (Lit.int .i64 a1_1).wf = true) (w2_0 : (Lit.int .i64 a2_0).wf = true) (w2_1 : (Lit.int .i64 a2_1).wf = true) :
    Calls Try.prog 6 #[.agg #[.int .i64 a0_0, .int .i64 a0_1], .agg #[.int .i64 a1_0, .int .i64 a1_1], .agg #[.int .i64 a2_0, .int .i64 a2_1]] w fun e w' => e = .returned (.bool true) ∧ Below w.heap.size w w' := by
  obtain ⟨k, h⟩ := P a0_0 a0_1 a1_0 a1_1 a2_0 a2_1 w0_0 w0_1 w1_0 w1_1 w2_0 w2_1
  refine (gimballaw02_ItvLattice.calls k a0_0 a0_1 a1_0 a1_1 a2_0 a2_1  w h).mono ?_
  rintro e w' ⟨rfl, hd⟩
  exact ⟨rfl, hd⟩
end Go.Proofs.Ytbbnpipmjadpoaa.P
