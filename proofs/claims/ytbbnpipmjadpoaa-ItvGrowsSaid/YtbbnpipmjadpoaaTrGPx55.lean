/- What the law's proof needs of Px55. -/
import Derived.Test.YtbbnpipmjadpoaaTrGU3
import Derived.Test.YtbbnpipmjadpoaaTrGU
import Derived.Test.YtbbnpipmjadpoaaTrGPx0
import Derived.Test.YtbbnpipmjadpoaaTrGPx6
import Derived.Test.YtbbnpipmjadpoaaTrGPx8
import Derived.Test.YtbbnpipmjadpoaaTrGPx10
import Derived.Test.YtbbnpipmjadpoaaTrGPx15
import Derived.Test.YtbbnpipmjadpoaaTrGPx16
import Derived.Test.YtbbnpipmjadpoaaTrGPx18
import Derived.Test.YtbbnpipmjadpoaaTrGPx25
import Derived.Test.YtbbnpipmjadpoaaTrGPx26
import Derived.Test.YtbbnpipmjadpoaaTrGPx29
import Derived.Test.YtbbnpipmjadpoaaTrGPx30
import Derived.Test.YtbbnpipmjadpoaaTrGPx31
import Derived.Test.YtbbnpipmjadpoaaTrGPx34
import Derived.Test.YtbbnpipmjadpoaaTrGPx35
import Derived.Test.YtbbnpipmjadpoaaTrGPx50
-- PRINTED by print.py (a twelfth state) out of the translation. Not trusted: Lean checks it.
namespace Go.Proofs.Ytbbnpipmjadpoaa.P
open Go.RowKit Go.Proofs.YtbbnpipmjadpoaaW.PrintWords Go.Proofs.YtbbnpipmjadpoaaW.PrintLast Go.Proofs.YtbbnpipmjadpoaaW.PrintMore Go.Proofs.YtbbnpipmjadpoaaO
attribute [local go_sem] max2_int min2_int max_two min_two max_three min_three max_four min_four   -- for this text's walks alone
set_option linter.unusedVariables false
set_option linter.unusedSimpArgs false
def gimballaw02_ItvGrows.j0 : Nat → Bool → Int → Int → Int → Int → Int → Int → Int → Int → Option (Bool)
  | 0, _, _, _, _, _, _, _, _, _ => none
  | k + 1, x94, x1226000, x1226001, x1227000, x1227001, x1228000, x1228001, x1229000, x1229001 => if x94 = true then (some false) else ((itv_Add.f k x1226000 x1226001 x1227000 x1227001).bind fun bt1253 => ((itv_Add.f k x1228000 x1228001 x1229000 x1229001).bind fun bt1255 => ((itv_Leq.f bt1253.1 bt1253.2 bt1255.1 bt1255.2).bind fun t1257 => (if t1257 = true then ((itv_Sub.f k x1226000 x1226001 x1227000 x1227001).bind fun bt1258 => ((itv_Sub.f k x1228000 x1228001 x1229000 x1229001).bind fun bt1260 => ((itv_Leq.f bt1258.1 bt1258.2 bt1260.1 bt1260.2).bind fun t1262 => (if t1262 = true then ((itv_Mul.f k x1226000 x1226001 x1227000 x1227001).bind fun bt1263 => ((itv_Mul.f k x1228000 x1228001 x1229000 x1229001).bind fun bt1265 => ((itv_Leq.f bt1263.1 bt1263.2 bt1265.1 bt1265.2).bind fun t1267 => (if t1267 = true then ((itv_Div.f k x1226000 x1226001 x1227000 x1227001).bind fun bt1268 => ((itv_Div.f k x1228000 x1228001 x1229000 x1229001).bind fun bt1270 => ((itv_Leq.f bt1268.1 bt1268.2 bt1270.1 bt1270.2).bind fun t1272 => (if t1272 = true then ((itv_Mod.f k x1226000 x1226001 x1227000 x1227001).bind fun bt1273 => ((itv_Mod.f k x1228000 x1228001 x1229000 x1229001).bind fun bt1275 => ((itv_Leq.f bt1273.1 bt1273.2 bt1275.1 bt1275.2).bind fun t1277 => (if t1277 = true then ((itv_Neg.f x1226000 x1226001).bind fun bt1278 => ((itv_Neg.f x1228000 x1228001).bind fun bt1280 => ((itv_Leq.f bt1278.1 bt1278.2 bt1280.1 bt1280.2).bind fun t1282 => (if t1282 = true then ((itv_Abs.f k x1226000 x1226001).bind fun bt1283 => ((itv_Abs.f k x1228000 x1228001).bind fun bt1285 => ((itv_Leq.f bt1283.1 bt1283.2 bt1285.1 bt1285.2).bind fun t1287 => (if t1287 = true then ((itv_Min.f k x1226000 x1226001 x1227000 x1227001).bind fun bt1288 => ((itv_Min.f k x1228000 x1228001 x1229000 x1229001).bind fun bt1290 => ((itv_Leq.f bt1288.1 bt1288.2 bt1290.1 bt1290.2).bind fun t1292 => (if t1292 = true then ((itv_Max.f k x1226000 x1226001 x1227000 x1227001).bind fun bt1293 => ((itv_Max.f k x1228000 x1228001 x1229000 x1229001).bind fun bt1295 => ((itv_Leq.f bt1293.1 bt1293.2 bt1295.1 bt1295.2).bind fun t1297 => (if t1297 = true then ((itv_Meet.f k x1226000 x1226001 x1227000 x1227001).bind fun bt1298 => ((itv_Meet.f k x1228000 x1228001 x1229000 x1229001).bind fun bt1300 => ((itv_Leq.f bt1298.1 bt1298.2 bt1300.1 bt1300.2).bind fun t1302 => (if t1302 = true then ((gimballaw02_awake.f k).bind fun t1303 => (some t1303)) else (some false))))) else (some false))))) else (some false))))) else (some false))))) else (some false))))) else (some false))))) else (some false))))) else (some false))))) else (some false))))) else (some false)))))
def gimballaw02_ItvGrows.f (k : Nat) (a0_0 : Int) (a0_1 : Int) (a1_0 : Int) (a1_1 : Int) (a2_0 : Int) (a2_1 : Int) (a3_0 : Int) (a3_1 : Int) (a4 : Int) : Option (Bool) := (itv_Join.f a0_0 a0_1 a2_0 a2_1).bind fun bt1229 => ((itv_Join.f a1_0 a1_1 a3_0 a3_1).bind fun bt1231 => ((itv_Test.f k (wrap64 (14 + (wrap64 (Int.tmod (IntKind.u64.wrap (a4)) 6)))) a0_0 a0_1 a1_0 a1_1).bind fun bt1233 => ((itv_Test.f k (wrap64 (14 + (wrap64 (Int.tmod (IntKind.u64.wrap (a4)) 6)))) bt1229.1 bt1229.2 bt1231.1 bt1231.2).bind fun bt1239 => ((itv_Holds.f k (wrap64 (14 + (wrap64 (Int.tmod (IntKind.u64.wrap (a4)) 6)))) a0_0 a0_1 a1_0 a1_1).bind fun bt1245 => ((itv_Holds.f k (wrap64 (14 + (wrap64 (Int.tmod (IntKind.u64.wrap (a4)) 6)))) bt1229.1 bt1229.2 bt1231.1 bt1231.2).bind fun bt1247 => ((itv_Leq.f a0_0 a0_1 bt1229.1 bt1229.2).bind fun t1249 => (if t1249 = true then ((itv_Leq.f a1_0 a1_1 bt1231.1 bt1231.2).bind fun t1250 => (if t1250 = true then ((itv_Leq.f bt1233.1 bt1233.2.1 bt1239.1 bt1239.2.1).bind fun t1251 => (if t1251 = true then ((itv_Leq.f bt1233.2.2.1 bt1233.2.2.2 bt1239.2.2.1 bt1239.2.2.2).bind fun t1252 => (if t1252 = true then (if bt1245.1 = true then (if bt1247.1 = true then (if bt1245.2 = true then (gimballaw02_ItvGrows.j0 k (!bt1247.2) a0_0 a0_1 a1_0 a1_1 bt1229.1 bt1229.2 bt1231.1 bt1231.2) else (gimballaw02_ItvGrows.j0 k false a0_0 a0_1 a1_0 a1_1 bt1229.1 bt1229.2 bt1231.1 bt1231.2)) else (gimballaw02_ItvGrows.j0 k true a0_0 a0_1 a1_0 a1_1 bt1229.1 bt1229.2 bt1231.1 bt1231.2)) else (if bt1245.2 = true then (gimballaw02_ItvGrows.j0 k (!bt1247.2) a0_0 a0_1 a1_0 a1_1 bt1229.1 bt1229.2 bt1231.1 bt1231.2) else (gimballaw02_ItvGrows.j0 k false a0_0 a0_1 a1_0 a1_1 bt1229.1 bt1229.2 bt1231.1 bt1231.2))) else (gimballaw02_ItvGrows.j0 k true a0_0 a0_1 a1_0 a1_1 bt1229.1 bt1229.2 bt1231.1 bt1231.2))) else (gimballaw02_ItvGrows.j0 k true a0_0 a0_1 a1_0 a1_1 bt1229.1 bt1229.2 bt1231.1 bt1231.2))) else (gimballaw02_ItvGrows.j0 k true a0_0 a0_1 a1_0 a1_1 bt1229.1 bt1229.2 bt1231.1 bt1231.2))) else (gimballaw02_ItvGrows.j0 k true a0_0 a0_1 a1_0 a1_1 bt1229.1 bt1229.2 bt1231.1 bt1231.2))))))))
def gimballaw02_ItvGrows.T10 : Bool × List (List Nat × List Nat) := (true, [([], []), ([], []), ([0, 1], [0, 1]), ([], []), ([], []), ([3, 4, 2], [3, 4]), ([2, 5, 5], [2, 5]), ([6, 6], [6]), ([7], [7]), ([7], [7]), ([8, 9, 7, 7], [7, 8, 9]), ([7], [7]), ([7], [7]), ([11, 12, 10, 7], [7, 11, 12]), ([10, 13, 13, 7], [7, 10, 13]), ([7, 14], [7, 14]), ([15, 14], [15]), ([16], [16]), ([16], [16]), ([17, 18, 16, 16], [16, 17, 18]), ([16], [16]), ([16], [16]), ([20, 21, 19, 16], [16, 20, 21]), ([19, 22, 22, 16], [16, 19, 22]), ([16, 23], [16, 23]), ([24, 23], [24]), ([25], [25]), ([25], [25]), ([26, 27, 25, 25], [25, 26, 27]), ([25], [25]), ([25], [25]), ([29, 30, 28, 25], [25, 29, 30]), ([28, 31, 31, 25], [25, 28, 31]), ([25, 32], [25, 32]), ([33, 32], [33]), ([34], [34]), ([34], [34]), ([35, 36, 34, 34], [34, 35, 36]), ([34], [34]), ([34], [34]), ([38, 39, 37, 34], [34, 38, 39]), ([37, 40, 40, 34], [34, 37, 40]), ([34, 41], [34, 41]), ([42, 41], [42]), ([43], [43]), ([44, 43, 43], [43, 44]), ([43], [43]), ([46, 45, 43], [43, 46]), ([45, 47, 47, 43], [43, 45, 47]), ([43, 48], [43, 48]), ([49, 48], [49]), ([50], [50]), ([51, 50, 50], [50, 51]), ([50], [50]), ([53, 52, 50], [50, 53]), ([52, 54, 54, 50], [50, 52, 54]), ([50, 55], [50, 55]), ([56, 55], [56]), ([57], [57]), ([57], [57]), ([58, 59, 57, 57], [57, 58, 59]), ([57], [57]), ([57], [57]), ([61, 62, 60, 57], [57, 61, 62]), ([60, 63, 63, 57], [57, 60, 63]), ([57, 64], [57, 64]), ([65, 64], [65]), ([66], [66]), ([66], [66]), ([67, 68, 66, 66], [66, 67, 68]), ([66], [66]), ([66], [66]), ([70, 71, 69, 66], [66, 70, 71]), ([69, 72, 72, 66], [66, 69, 72]), ([66, 73], [66, 73]), ([74, 73], [74]), ([75], [75]), ([75], [75]), ([76, 77, 75, 75], [75, 76, 77]), ([75], [75]), ([75], [75]), ([79, 80, 78, 75], [75, 79, 80]), ([78, 81, 81, 75], [75, 78, 81]), ([75, 82], [75, 82]), ([83, 82], [83]), ([84, 84], [84]), ([84, 85], [84, 85]), ([86, 85, 0, 1, 2, 3, 4, 5, 6, 7, 8, 9, 10, 11, 12, 13, 14, 15, 16, 17, 18, 19, 20, 21, 22, 23, 24, 25, 26, 27, 28, 29, 30, 31, 32, 33, 34, 35, 36, 37, 38, 39, 40, 41, 42, 43, 44, 45, 46, 47, 48, 49, 50, 51, 52, 53, 54, 55, 56, 57, 58, 59, 60, 61, 62, 63, 64, 65, 66, 67, 68, 69, 70, 71, 72, 73, 74, 75, 76, 77, 78, 79, 80, 81, 82, 83, 84, 85, 86], [86])])
def gimballaw02_ItvGrows.B10 : List Nat := [0, 0, 3, 0, 0, 31, 63, 127, 255, 255, 1023, 255, 255, 8191, 16383, 32767, 65535, 131071, 131071, 524287, 131071, 131071, 4194303, 8388607, 16777215, 33554431, 67108863, 67108863, 268435455, 67108863, 67108863, 2147483647, 4294967295, 8589934591, 17179869183, 34359738367, 34359738367, 137438953471, 34359738367, 34359738367, 1099511627775, 2199023255551, 4398046511103, 8796093022207, 17592186044415, 35184372088831, 17592186044415, 140737488355327, 281474976710655, 562949953421311, 1125899906842623, 2251799813685247, 4503599627370495, 2251799813685247, 18014398509481983, 36028797018963967, 72057594037927935, 144115188075855871, 288230376151711743, 288230376151711743, 1152921504606846975, 288230376151711743, 288230376151711743, 9223372036854775807, 18446744073709551615, 36893488147419103231, 73786976294838206463, 147573952589676412927, 147573952589676412927, 590295810358705651711, 147573952589676412927, 147573952589676412927, 4722366482869645213695, 9444732965739290427391, 18889465931478580854783, 37778931862957161709567, 75557863725914323419135, 75557863725914323419135, 302231454903657293676543, 75557863725914323419135, 75557863725914323419135, 2417851639229258349412351, 4835703278458516698824703, 9671406556917033397649407, 19342813113834066795298815, 38685626227668133590597631, 77371252455336267181195263, 154742504910672534362390527]
theorem gimballaw02_ItvGrows.tab10 : rtab .any (opsOf Try.f12 10) = gimballaw02_ItvGrows.T10 := by kernel_rfl
theorem gimballaw02_ItvGrows.bits10 : waitsOk gimballaw02_ItvGrows.T10.2 gimballaw02_ItvGrows.B10 = true := by kernel_rfl
set_option maxHeartbeats 8000000 in
set_option maxRecDepth 100000 in
theorem gimballaw02_ItvGrows.calls (k : Nat) (a0_0 : Int) (a0_1 : Int) (a1_0 : Int) (a1_1 : Int) (a2_0 : Int) (a2_1 : Int) (a3_0 : Int) (a3_1 : Int) (a4 : Int) (w : World) (h : gimballaw02_ItvGrows.f k a0_0 a0_1 a1_0 a1_1 a2_0 a2_1 a3_0 a3_1 a4 = some true) :
    Calls Try.prog 12 #[.agg #[.int .i64 a0_0, .int .i64 a0_1], .agg #[.int .i64 a1_0, .int .i64 a1_1], .agg #[.int .i64 a2_0, .int .i64 a2_1], .agg #[.int .i64 a3_0, .int .i64 a3_1], .int .i64 a4] w fun e w' => e = .returned (.bool true) ∧ Below w.heap.size w w' := by
  have hu23 := Try.underlying23
  have HB := Aside0.mk (Below.refl w.heap.size w)
  have H : ((itv_Join.f a0_0 a0_1 a2_0 a2_1).bind fun bt1229 => ((itv_Join.f a1_0 a1_1 a3_0 a3_1).bind fun bt1231 => ((itv_Test.f k (wrap64 (14 + (wrap64 (Int.tmod (IntKind.u64.wrap (a4)) 6)))) a0_0 a0_1 a1_0 a1_1).bind fun bt1233 => ((itv_Test.f k (wrap64 (14 + (wrap64 (Int.tmod (IntKind.u64.wrap (a4)) 6)))) bt1229.1 bt1229.2 bt1231.1 bt1231.2).bind fun bt1239 => ((itv_Holds.f k (wrap64 (14 + (wrap64 (Int.tmod (IntKind.u64.wrap (a4)) 6)))) a0_0 a0_1 a1_0 a1_1).bind fun bt1245 => ((itv_Holds.f k (wrap64 (14 + (wrap64 (Int.tmod (IntKind.u64.wrap (a4)) 6)))) bt1229.1 bt1229.2 bt1231.1 bt1231.2).bind fun bt1247 => ((itv_Leq.f a0_0 a0_1 bt1229.1 bt1229.2).bind fun t1249 => (if t1249 = true then ((itv_Leq.f a1_0 a1_1 bt1231.1 bt1231.2).bind fun t1250 => (if t1250 = true then ((itv_Leq.f bt1233.1 bt1233.2.1 bt1239.1 bt1239.2.1).bind fun t1251 => (if t1251 = true then ((itv_Leq.f bt1233.2.2.1 bt1233.2.2.2 bt1239.2.2.1 bt1239.2.2.2).bind fun t1252 => (if t1252 = true then (if bt1245.1 = true then (if bt1247.1 = true then (if bt1245.2 = true then (gimballaw02_ItvGrows.j0 k (!bt1247.2) a0_0 a0_1 a1_0 a1_1 bt1229.1 bt1229.2 bt1231.1 bt1231.2) else (gimballaw02_ItvGrows.j0 k false a0_0 a0_1 a1_0 a1_1 bt1229.1 bt1229.2 bt1231.1 bt1231.2)) else (gimballaw02_ItvGrows.j0 k true a0_0 a0_1 a1_0 a1_1 bt1229.1 bt1229.2 bt1231.1 bt1231.2)) else (if bt1245.2 = true then (gimballaw02_ItvGrows.j0 k (!bt1247.2) a0_0 a0_1 a1_0 a1_1 bt1229.1 bt1229.2 bt1231.1 bt1231.2) else (gimballaw02_ItvGrows.j0 k false a0_0 a0_1 a1_0 a1_1 bt1229.1 bt1229.2 bt1231.1 bt1231.2))) else (gimballaw02_ItvGrows.j0 k true a0_0 a0_1 a1_0 a1_1 bt1229.1 bt1229.2 bt1231.1 bt1231.2))) else (gimballaw02_ItvGrows.j0 k true a0_0 a0_1 a1_0 a1_1 bt1229.1 bt1229.2 bt1231.1 bt1231.2))) else (gimballaw02_ItvGrows.j0 k true a0_0 a0_1 a1_0 a1_1 bt1229.1 bt1229.2 bt1231.1 bt1231.2))) else (gimballaw02_ItvGrows.j0 k true a0_0 a0_1 a1_0 a1_1 bt1229.1 bt1229.2 bt1231.1 bt1231.2))))))))) = some true := h
  clear h
  replace H := bnH H
  obtain ⟨⟨t1229, t1230⟩, A60, H⟩ := H
  replace H : ((itv_Join.f a1_0 a1_1 a3_0 a3_1).bind fun bt1231 => ((itv_Test.f k (wrap64 (14 + (wrap64 (Int.tmod (IntKind.u64.wrap (a4)) 6)))) a0_0 a0_1 a1_0 a1_1).bind fun bt1233 => ((itv_Test.f k (wrap64 (14 + (wrap64 (Int.tmod (IntKind.u64.wrap (a4)) 6)))) t1229 t1230 bt1231.1 bt1231.2).bind fun bt1239 => ((itv_Holds.f k (wrap64 (14 + (wrap64 (Int.tmod (IntKind.u64.wrap (a4)) 6)))) a0_0 a0_1 a1_0 a1_1).bind fun bt1245 => ((itv_Holds.f k (wrap64 (14 + (wrap64 (Int.tmod (IntKind.u64.wrap (a4)) 6)))) t1229 t1230 bt1231.1 bt1231.2).bind fun bt1247 => ((itv_Leq.f a0_0 a0_1 t1229 t1230).bind fun t1249 => (if t1249 = true then ((itv_Leq.f a1_0 a1_1 bt1231.1 bt1231.2).bind fun t1250 => (if t1250 = true then ((itv_Leq.f bt1233.1 bt1233.2.1 bt1239.1 bt1239.2.1).bind fun t1251 => (if t1251 = true then ((itv_Leq.f bt1233.2.2.1 bt1233.2.2.2 bt1239.2.2.1 bt1239.2.2.2).bind fun t1252 => (if t1252 = true then (if bt1245.1 = true then (if bt1247.1 = true then (if bt1245.2 = true then (gimballaw02_ItvGrows.j0 k (!bt1247.2) a0_0 a0_1 a1_0 a1_1 t1229 t1230 bt1231.1 bt1231.2) else (gimballaw02_ItvGrows.j0 k false a0_0 a0_1 a1_0 a1_1 t1229 t1230 bt1231.1 bt1231.2)) else (gimballaw02_ItvGrows.j0 k true a0_0 a0_1 a1_0 a1_1 t1229 t1230 bt1231.1 bt1231.2)) else (if bt1245.2 = true then (gimballaw02_ItvGrows.j0 k (!bt1247.2) a0_0 a0_1 a1_0 a1_1 t1229 t1230 bt1231.1 bt1231.2) else (gimballaw02_ItvGrows.j0 k false a0_0 a0_1 a1_0 a1_1 t1229 t1230 bt1231.1 bt1231.2))) else (gimballaw02_ItvGrows.j0 k true a0_0 a0_1 a1_0 a1_1 t1229 t1230 bt1231.1 bt1231.2))) else (gimballaw02_ItvGrows.j0 k true a0_0 a0_1 a1_0 a1_1 t1229 t1230 bt1231.1 bt1231.2))) else (gimballaw02_ItvGrows.j0 k true a0_0 a0_1 a1_0 a1_1 t1229 t1230 bt1231.1 bt1231.2))) else (gimballaw02_ItvGrows.j0 k true a0_0 a0_1 a1_0 a1_1 t1229 t1230 bt1231.1 bt1231.2)))))))) = some true := H
  have A6 := Aside0.mk A60
  clear A60
  replace H := bnH H
  obtain ⟨⟨t1231, t1232⟩, A70, H⟩ := H
  replace H : ((itv_Test.f k (wrap64 (14 + (wrap64 (Int.tmod (IntKind.u64.wrap (a4)) 6)))) a0_0 a0_1 a1_0 a1_1).bind fun bt1233 => ((itv_Test.f k (wrap64 (14 + (wrap64 (Int.tmod (IntKind.u64.wrap (a4)) 6)))) t1229 t1230 t1231 t1232).bind fun bt1239 => ((itv_Holds.f k (wrap64 (14 + (wrap64 (Int.tmod (IntKind.u64.wrap (a4)) 6)))) a0_0 a0_1 a1_0 a1_1).bind fun bt1245 => ((itv_Holds.f k (wrap64 (14 + (wrap64 (Int.tmod (IntKind.u64.wrap (a4)) 6)))) t1229 t1230 t1231 t1232).bind fun bt1247 => ((itv_Leq.f a0_0 a0_1 t1229 t1230).bind fun t1249 => (if t1249 = true then ((itv_Leq.f a1_0 a1_1 t1231 t1232).bind fun t1250 => (if t1250 = true then ((itv_Leq.f bt1233.1 bt1233.2.1 bt1239.1 bt1239.2.1).bind fun t1251 => (if t1251 = true then ((itv_Leq.f bt1233.2.2.1 bt1233.2.2.2 bt1239.2.2.1 bt1239.2.2.2).bind fun t1252 => (if t1252 = true then (if bt1245.1 = true then (if bt1247.1 = true then (if bt1245.2 = true then (gimballaw02_ItvGrows.j0 k (!bt1247.2) a0_0 a0_1 a1_0 a1_1 t1229 t1230 t1231 t1232) else (gimballaw02_ItvGrows.j0 k false a0_0 a0_1 a1_0 a1_1 t1229 t1230 t1231 t1232)) else (gimballaw02_ItvGrows.j0 k true a0_0 a0_1 a1_0 a1_1 t1229 t1230 t1231 t1232)) else (if bt1245.2 = true then (gimballaw02_ItvGrows.j0 k (!bt1247.2) a0_0 a0_1 a1_0 a1_1 t1229 t1230 t1231 t1232) else (gimballaw02_ItvGrows.j0 k false a0_0 a0_1 a1_0 a1_1 t1229 t1230 t1231 t1232))) else (gimballaw02_ItvGrows.j0 k true a0_0 a0_1 a1_0 a1_1 t1229 t1230 t1231 t1232))) else (gimballaw02_ItvGrows.j0 k true a0_0 a0_1 a1_0 a1_1 t1229 t1230 t1231 t1232))) else (gimballaw02_ItvGrows.j0 k true a0_0 a0_1 a1_0 a1_1 t1229 t1230 t1231 t1232))) else (gimballaw02_ItvGrows.j0 k true a0_0 a0_1 a1_0 a1_1 t1229 t1230 t1231 t1232))))))) = some true := H
  have A7 := Aside0.mk A70
  clear A70
  replace H := bnH H
  obtain ⟨⟨t1233, t1234, t1235, t1236⟩, A80, H⟩ := H
  replace H : ((itv_Test.f k (wrap64 (14 + (wrap64 (Int.tmod (IntKind.u64.wrap (a4)) 6)))) t1229 t1230 t1231 t1232).bind fun bt1239 => ((itv_Holds.f k (wrap64 (14 + (wrap64 (Int.tmod (IntKind.u64.wrap (a4)) 6)))) a0_0 a0_1 a1_0 a1_1).bind fun bt1245 => ((itv_Holds.f k (wrap64 (14 + (wrap64 (Int.tmod (IntKind.u64.wrap (a4)) 6)))) t1229 t1230 t1231 t1232).bind fun bt1247 => ((itv_Leq.f a0_0 a0_1 t1229 t1230).bind fun t1249 => (if t1249 = true then ((itv_Leq.f a1_0 a1_1 t1231 t1232).bind fun t1250 => (if t1250 = true then ((itv_Leq.f t1233 t1234 bt1239.1 bt1239.2.1).bind fun t1251 => (if t1251 = true then ((itv_Leq.f t1235 t1236 bt1239.2.2.1 bt1239.2.2.2).bind fun t1252 => (if t1252 = true then (if bt1245.1 = true then (if bt1247.1 = true then (if bt1245.2 = true then (gimballaw02_ItvGrows.j0 k (!bt1247.2) a0_0 a0_1 a1_0 a1_1 t1229 t1230 t1231 t1232) else (gimballaw02_ItvGrows.j0 k false a0_0 a0_1 a1_0 a1_1 t1229 t1230 t1231 t1232)) else (gimballaw02_ItvGrows.j0 k true a0_0 a0_1 a1_0 a1_1 t1229 t1230 t1231 t1232)) else (if bt1245.2 = true then (gimballaw02_ItvGrows.j0 k (!bt1247.2) a0_0 a0_1 a1_0 a1_1 t1229 t1230 t1231 t1232) else (gimballaw02_ItvGrows.j0 k false a0_0 a0_1 a1_0 a1_1 t1229 t1230 t1231 t1232))) else (gimballaw02_ItvGrows.j0 k true a0_0 a0_1 a1_0 a1_1 t1229 t1230 t1231 t1232))) else (gimballaw02_ItvGrows.j0 k true a0_0 a0_1 a1_0 a1_1 t1229 t1230 t1231 t1232))) else (gimballaw02_ItvGrows.j0 k true a0_0 a0_1 a1_0 a1_1 t1229 t1230 t1231 t1232))) else (gimballaw02_ItvGrows.j0 k true a0_0 a0_1 a1_0 a1_1 t1229 t1230 t1231 t1232)))))) = some true := H
  have A8 := Aside0.mk A80
  clear A80
  replace H := bnH H
  obtain ⟨⟨t1239, t1240, t1241, t1242⟩, A90, H⟩ := H
  replace H : ((itv_Holds.f k (wrap64 (14 + (wrap64 (Int.tmod (IntKind.u64.wrap (a4)) 6)))) a0_0 a0_1 a1_0 a1_1).bind fun bt1245 => ((itv_Holds.f k (wrap64 (14 + (wrap64 (Int.tmod (IntKind.u64.wrap (a4)) 6)))) t1229 t1230 t1231 t1232).bind fun bt1247 => ((itv_Leq.f a0_0 a0_1 t1229 t1230).bind fun t1249 => (if t1249 = true then ((itv_Leq.f a1_0 a1_1 t1231 t1232).bind fun t1250 => (if t1250 = true then ((itv_Leq.f t1233 t1234 t1239 t1240).bind fun t1251 => (if t1251 = true then ((itv_Leq.f t1235 t1236 t1241 t1242).bind fun t1252 => (if t1252 = true then (if bt1245.1 = true then (if bt1247.1 = true then (if bt1245.2 = true then (gimballaw02_ItvGrows.j0 k (!bt1247.2) a0_0 a0_1 a1_0 a1_1 t1229 t1230 t1231 t1232) else (gimballaw02_ItvGrows.j0 k false a0_0 a0_1 a1_0 a1_1 t1229 t1230 t1231 t1232)) else (gimballaw02_ItvGrows.j0 k true a0_0 a0_1 a1_0 a1_1 t1229 t1230 t1231 t1232)) else (if bt1245.2 = true then (gimballaw02_ItvGrows.j0 k (!bt1247.2) a0_0 a0_1 a1_0 a1_1 t1229 t1230 t1231 t1232) else (gimballaw02_ItvGrows.j0 k false a0_0 a0_1 a1_0 a1_1 t1229 t1230 t1231 t1232))) else (gimballaw02_ItvGrows.j0 k true a0_0 a0_1 a1_0 a1_1 t1229 t1230 t1231 t1232))) else (gimballaw02_ItvGrows.j0 k true a0_0 a0_1 a1_0 a1_1 t1229 t1230 t1231 t1232))) else (gimballaw02_ItvGrows.j0 k true a0_0 a0_1 a1_0 a1_1 t1229 t1230 t1231 t1232))) else (gimballaw02_ItvGrows.j0 k true a0_0 a0_1 a1_0 a1_1 t1229 t1230 t1231 t1232))))) = some true := H
  have A9 := Aside0.mk A90
  clear A90
  replace H := bnH H
  obtain ⟨⟨t1245, t1246⟩, A100, H⟩ := H
  replace H : ((itv_Holds.f k (wrap64 (14 + (wrap64 (Int.tmod (IntKind.u64.wrap (a4)) 6)))) t1229 t1230 t1231 t1232).bind fun bt1247 => ((itv_Leq.f a0_0 a0_1 t1229 t1230).bind fun t1249 => (if t1249 = true then ((itv_Leq.f a1_0 a1_1 t1231 t1232).bind fun t1250 => (if t1250 = true then ((itv_Leq.f t1233 t1234 t1239 t1240).bind fun t1251 => (if t1251 = true then ((itv_Leq.f t1235 t1236 t1241 t1242).bind fun t1252 => (if t1252 = true then (if t1245 = true then (if bt1247.1 = true then (if t1246 = true then (gimballaw02_ItvGrows.j0 k (!bt1247.2) a0_0 a0_1 a1_0 a1_1 t1229 t1230 t1231 t1232) else (gimballaw02_ItvGrows.j0 k false a0_0 a0_1 a1_0 a1_1 t1229 t1230 t1231 t1232)) else (gimballaw02_ItvGrows.j0 k true a0_0 a0_1 a1_0 a1_1 t1229 t1230 t1231 t1232)) else (if t1246 = true then (gimballaw02_ItvGrows.j0 k (!bt1247.2) a0_0 a0_1 a1_0 a1_1 t1229 t1230 t1231 t1232) else (gimballaw02_ItvGrows.j0 k false a0_0 a0_1 a1_0 a1_1 t1229 t1230 t1231 t1232))) else (gimballaw02_ItvGrows.j0 k true a0_0 a0_1 a1_0 a1_1 t1229 t1230 t1231 t1232))) else (gimballaw02_ItvGrows.j0 k true a0_0 a0_1 a1_0 a1_1 t1229 t1230 t1231 t1232))) else (gimballaw02_ItvGrows.j0 k true a0_0 a0_1 a1_0 a1_1 t1229 t1230 t1231 t1232))) else (gimballaw02_ItvGrows.j0 k true a0_0 a0_1 a1_0 a1_1 t1229 t1230 t1231 t1232)))) = some true := H
  have A10 := Aside0.mk A100
  clear A100
  replace H := bnH H
  obtain ⟨⟨t1247, t1248⟩, A110, H⟩ := H
  replace H : ((itv_Leq.f a0_0 a0_1 t1229 t1230).bind fun t1249 => (if t1249 = true then ((itv_Leq.f a1_0 a1_1 t1231 t1232).bind fun t1250 => (if t1250 = true then ((itv_Leq.f t1233 t1234 t1239 t1240).bind fun t1251 => (if t1251 = true then ((itv_Leq.f t1235 t1236 t1241 t1242).bind fun t1252 => (if t1252 = true then (if t1245 = true then (if t1247 = true then (if t1246 = true then (gimballaw02_ItvGrows.j0 k (!t1248) a0_0 a0_1 a1_0 a1_1 t1229 t1230 t1231 t1232) else (gimballaw02_ItvGrows.j0 k false a0_0 a0_1 a1_0 a1_1 t1229 t1230 t1231 t1232)) else (gimballaw02_ItvGrows.j0 k true a0_0 a0_1 a1_0 a1_1 t1229 t1230 t1231 t1232)) else (if t1246 = true then (gimballaw02_ItvGrows.j0 k (!t1248) a0_0 a0_1 a1_0 a1_1 t1229 t1230 t1231 t1232) else (gimballaw02_ItvGrows.j0 k false a0_0 a0_1 a1_0 a1_1 t1229 t1230 t1231 t1232))) else (gimballaw02_ItvGrows.j0 k true a0_0 a0_1 a1_0 a1_1 t1229 t1230 t1231 t1232))) else (gimballaw02_ItvGrows.j0 k true a0_0 a0_1 a1_0 a1_1 t1229 t1230 t1231 t1232))) else (gimballaw02_ItvGrows.j0 k true a0_0 a0_1 a1_0 a1_1 t1229 t1230 t1231 t1232))) else (gimballaw02_ItvGrows.j0 k true a0_0 a0_1 a1_0 a1_1 t1229 t1230 t1231 t1232))) = some true := H
  have A11 := Aside0.mk A110
  clear A110
  have HC12 := Aside0.mk H
  clear H
  go_enter Try.func12, Try.ntmps12
  go_upto_region 8 with (first | ((with_reducible refine gate_dst (N := 5) rfl ?_); refine box_event ?hg (N := 5) ?hd (cs := #[.int .i64 a0_0, .int .i64 a0_1]) (t := 23) ?hr ?_; (case hd => rfl); (case hg => rfl); (case hr => first | (go_simp; done) | (go_simp; rfl)); intro gb1225 hg w13 hbox hb; have n0_ := bst HB hb; have n1_ := Aside0.mk (hbox); have n2_ := bsz HB hg; have n3_ := bsz HB hg; clear HB; have HB := n0_; have BK1225 := n1_; have GW1225 := n2_; have GE1225 := n3_; clear n0_ n1_ n2_ n3_; clear hb hbox hg) | ((with_reducible refine gate_dst (N := 6) rfl ?_); refine box_event ?hg (N := 6) ?hd (cs := #[.int .i64 a1_0, .int .i64 a1_1]) (t := 23) ?hr ?_; (case hd => rfl); (case hg => rfl); (case hr => first | (go_simp; done) | (go_simp; rfl)); intro gb1226 hg w14 hbox hb; have n0_ := bst HB hb; have n1_ := Aside0.mk (hbox); have n2_ := bsz HB hg; have n3_ := bsz HB hg; have n4_ := bn1 BK1225 hg; have n5_ := bn2 BK1225 hg; replace BK1225 := bbw BK1225 hb; clear HB; have HB := n0_; have BK1226 := n1_; have GW1226 := n2_; have GE1226 := n3_; have NB1225_1226 := n4_; have NB1226_1225 := n5_; clear n0_ n1_ n2_ n3_ n4_ n5_; clear hb hbox hg) | ((with_reducible refine gate_dst (N := 7) rfl ?_); refine box_event ?hg (N := 7) ?hd (cs := #[.int .i64 a2_0, .int .i64 a2_1]) (t := 23) ?hr ?_; (case hd => rfl); (case hg => rfl); (case hr => first | (go_simp; done) | (go_simp; rfl)); intro gb1227 hg w15 hbox hb; have n0_ := bst HB hb; have n1_ := Aside0.mk (hbox); have n2_ := bsz HB hg; have n3_ := bsz HB hg; have n4_ := bn1 BK1225 hg; have n5_ := bn2 BK1225 hg; have n6_ := bn1 BK1226 hg; have n7_ := bn2 BK1226 hg; replace BK1225 := bbw BK1225 hb; replace BK1226 := bbw BK1226 hb; clear HB; have HB := n0_; have BK1227 := n1_; have GW1227 := n2_; have GE1227 := n3_; have NB1225_1227 := n4_; have NB1227_1225 := n5_; have NB1226_1227 := n6_; have NB1227_1226 := n7_; clear n0_ n1_ n2_ n3_ n4_ n5_ n6_ n7_; clear hb hbox hg) | ((with_reducible refine gate_dst (N := 8) rfl ?_); refine box_event ?hg (N := 8) ?hd (cs := #[.int .i64 a3_0, .int .i64 a3_1]) (t := 23) ?hr ?_; (case hd => rfl); (case hg => rfl); (case hr => first | (go_simp; done) | (go_simp; rfl)); intro gb1228 hg w16 hbox hb; have n0_ := bst HB hb; have n1_ := Aside0.mk (hbox); have n2_ := bsz HB hg; have n3_ := bsz HB hg; have n4_ := bn1 BK1225 hg; have n5_ := bn2 BK1225 hg; have n6_ := bn1 BK1226 hg; have n7_ := bn2 BK1226 hg; have n8_ := bn1 BK1227 hg; have n9_ := bn2 BK1227 hg; replace BK1225 := bbw BK1225 hb; replace BK1226 := bbw BK1226 hb; replace BK1227 := bbw BK1227 hb; clear HB; have HB := n0_; have BK1228 := n1_; have GW1228 := n2_; have GE1228 := n3_; have NB1225_1228 := n4_; have NB1228_1225 := n5_; have NB1226_1228 := n6_; have NB1228_1226 := n7_; have NB1227_1228 := n8_; have NB1228_1227 := n9_; clear n0_ n1_ n2_ n3_ n4_ n5_ n6_ n7_ n8_ n9_; clear hb hbox hg; have hnb17 := nn NB1225_1226 NB1226_1225; have hnb18 := nn NB1225_1227 NB1227_1225; have hnb19 := nn NB1225_1228 NB1228_1225; have hcz20_0 := hcz BK1225 0; have hcz20_1 := hcz BK1225 1; have hfz20_0 := bfz BK1225 0; have hfz20_1 := bfz BK1225 1; have hnb21 := nn NB1227_1226 NB1226_1227; have hnb22 := nn NB1227_1228 NB1228_1227; have hcz23_0 := hcz BK1227 0; have hcz23_1 := hcz BK1227 1; have hfz23_0 := bfz BK1227 0; have hfz23_1 := bfz BK1227 1) | ((with_reducible refine gate_callee (f := 26) rfl ?_); refine goesL_ (some 22) rfl rfl Try.func26 (by kernel_rfl) rfl #[.agg #[.int .i64 a0_0, .int .i64 a0_1], .agg #[.int .i64 a2_0, .int .i64 a2_1]] rfl (by (try simp only [List.map_toArray, List.map_cons, List.map_nil]); first | done | rfl | (simp only [List.length_drop, List.length_take]; rfl)) ?_; (with_reducible refine (itv_Join.calls a0_0 a0_1 a2_0 a2_1 t1229 t1230 _ A6.out).mono ?_); rintro e w24 ⟨rfl, hb⟩; refine ⟨_, rfl, ?_⟩; have n0_ := bst HB hb; replace BK1225 := bbw BK1225 hb; replace BK1226 := bbw BK1226 hb; replace BK1227 := bbw BK1227 hb; replace BK1228 := bbw BK1228 hb; clear HB; have HB := n0_; clear n0_; (try clear hb); have hcz25_0 := hcz BK1227 0; have hcz25_1 := hcz BK1227 1; have hfz25_0 := bfz BK1227 0; have hfz25_1 := bfz BK1227 1; have hnb26 := nn NB1226_1228 NB1228_1226; have hcz27_0 := hcz BK1226 0; have hcz27_1 := hcz BK1226 1; have hfz27_0 := bfz BK1226 0; have hfz27_1 := bfz BK1226 1; have hcz28_0 := hcz BK1228 0; have hcz28_1 := hcz BK1228 1; have hfz28_0 := bfz BK1228 0; have hfz28_1 := bfz BK1228 1) | ((with_reducible refine gate_callee (f := 26) rfl ?_); refine goesL_ (some 25) rfl rfl Try.func26 (by kernel_rfl) rfl #[.agg #[.int .i64 a1_0, .int .i64 a1_1], .agg #[.int .i64 a3_0, .int .i64 a3_1]] rfl (by (try simp only [List.map_toArray, List.map_cons, List.map_nil]); first | done | rfl | (simp only [List.length_drop, List.length_take]; rfl)) ?_; (with_reducible refine (itv_Join.calls a1_0 a1_1 a3_0 a3_1 t1231 t1232 _ A7.out).mono ?_); rintro e w29 ⟨rfl, hb⟩; refine ⟨_, rfl, ?_⟩; have n0_ := bbF BK1225 hb; have n1_ := bbF BK1226 hb; have n2_ := Aside0.mk (blk_below (g := gb1227) (o := .cells #[.int .i64 t1229, .int .i64 t1230] 23 (0, 0)) (by refine pkB ?_; refine bput (cs := #[.int .i64 t1229, .int .i64 a2_1]) 1 ?_; refine bput (cs := #[.int .i64 a2_0, .int .i64 a2_1]) 0 ?_; exact BK1227.out) hb); have n3_ := bbF BK1228 hb; have n4_ := bst HB hb; clear BK1225; clear BK1226; clear BK1227; clear BK1228; clear HB; have BK1225 := n0_; have BK1226 := n1_; have BK1227 := n2_; have BK1228 := n3_; have HB := n4_; clear n0_ n1_ n2_ n3_ n4_; (try clear hb); have hcz30_0 := hcz BK1228 0; have hcz30_1 := hcz BK1228 1; have hfz30_0 := bfz BK1228 0; have hfz30_1 := bfz BK1228 1; have hcz31_0 := hcz BK1225 0; have hcz31_1 := hcz BK1225 1; have hfz31_0 := bfz BK1225 0; have hfz31_1 := bfz BK1225 1; have hcz32_0 := hcz BK1226 0; have hcz32_1 := hcz BK1226 1; have hfz32_0 := bfz BK1226 0; have hfz32_1 := bfz BK1226 1) | ((with_reducible refine gate_callee (f := 33) rfl ?_); refine goesL_ (some 35) rfl rfl Try.func33 (by kernel_rfl) rfl #[.int .i64 (wrap64 (14 + (wrap64 (Int.tmod (IntKind.u64.wrap (a4)) 6)))), .agg #[.int .i64 a0_0, .int .i64 a0_1], .agg #[.int .i64 a1_0, .int .i64 a1_1]] rfl (by (try simp only [List.map_toArray, List.map_cons, List.map_nil]); first | done | rfl | (simp only [List.length_drop, List.length_take]; rfl)) ?_; (with_reducible refine (itv_Test.calls k (wrap64 (14 + (wrap64 (Int.tmod (IntKind.u64.wrap (a4)) 6)))) a0_0 a0_1 a1_0 a1_1 t1233 t1234 t1235 t1236 _ A8.out).mono ?_); rintro e w33 ⟨rfl, hb⟩; refine ⟨_, rfl, ?_⟩; have n0_ := bbF BK1225 hb; have n1_ := bbF BK1226 hb; have n2_ := bbF BK1227 hb; have n3_ := Aside0.mk (blk_below (g := gb1228) (o := .cells #[.int .i64 t1231, .int .i64 t1232] 23 (0, 0)) (by refine pkB ?_; refine bput (cs := #[.int .i64 t1231, .int .i64 a3_1]) 1 ?_; refine bput (cs := #[.int .i64 a3_0, .int .i64 a3_1]) 0 ?_; exact BK1228.out) hb); have n4_ := bst HB hb; clear BK1225; clear BK1226; clear BK1227; clear BK1228; clear HB; have BK1225 := n0_; have BK1226 := n1_; have BK1227 := n2_; have BK1228 := n3_; have HB := n4_; clear n0_ n1_ n2_ n3_ n4_; (try clear hb)) | ((with_reducible refine gate_dst (N := 12) rfl ?_); refine box_event ?hg (N := 12) ?hd (cs := #[.int .i64 0, .int .i64 0]) (t := 23) ?hr ?_; (case hd => rfl); (case hg => rfl); (case hr => first | (go_simp; done) | (go_simp; rfl)); intro gb1237 hg w34 hbox hb; have n0_ := bst HB hb; have n1_ := Aside0.mk (hbox); have n2_ := bsz HB hg; have n3_ := bsz HB hg; have n4_ := bn1 BK1225 hg; have n5_ := bn2 BK1225 hg; have n6_ := bn1 BK1226 hg; have n7_ := bn2 BK1226 hg; have n8_ := bn1 BK1227 hg; have n9_ := bn2 BK1227 hg; have n10_ := bn1 BK1228 hg; have n11_ := bn2 BK1228 hg; replace BK1225 := bbw BK1225 hb; replace BK1226 := bbw BK1226 hb; replace BK1227 := bbw BK1227 hb; replace BK1228 := bbw BK1228 hb; clear HB; have HB := n0_; have BK1237 := n1_; have GW1237 := n2_; have GE1237 := n3_; have NB1225_1237 := n4_; have NB1237_1225 := n5_; have NB1226_1237 := n6_; have NB1237_1226 := n7_; have NB1227_1237 := n8_; have NB1237_1227 := n9_; have NB1228_1237 := n10_; have NB1237_1228 := n11_; clear n0_ n1_ n2_ n3_ n4_ n5_ n6_ n7_ n8_ n9_ n10_ n11_; clear hb hbox hg) | ((with_reducible refine gate_dst (N := 13) rfl ?_); refine box_event ?hg (N := 13) ?hd (cs := #[.int .i64 0, .int .i64 0]) (t := 23) ?hr ?_; (case hd => rfl); (case hg => rfl); (case hr => first | (go_simp; done) | (go_simp; rfl)); intro gb1238 hg w35 hbox hb; have n0_ := bst HB hb; have n1_ := Aside0.mk (hbox); have n2_ := bsz HB hg; have n3_ := bsz HB hg; have n4_ := bn1 BK1225 hg; have n5_ := bn2 BK1225 hg; have n6_ := bn1 BK1226 hg; have n7_ := bn2 BK1226 hg; have n8_ := bn1 BK1227 hg; have n9_ := bn2 BK1227 hg; have n10_ := bn1 BK1228 hg; have n11_ := bn2 BK1228 hg; have n12_ := bn1 BK1237 hg; have n13_ := bn2 BK1237 hg; replace BK1225 := bbw BK1225 hb; replace BK1226 := bbw BK1226 hb; replace BK1227 := bbw BK1227 hb; replace BK1228 := bbw BK1228 hb; replace BK1237 := bbw BK1237 hb; clear HB; have HB := n0_; have BK1238 := n1_; have GW1238 := n2_; have GE1238 := n3_; have NB1225_1238 := n4_; have NB1238_1225 := n5_; have NB1226_1238 := n6_; have NB1238_1226 := n7_; have NB1227_1238 := n8_; have NB1238_1227 := n9_; have NB1228_1238 := n10_; have NB1238_1228 := n11_; have NB1237_1238 := n12_; have NB1238_1237 := n13_; clear n0_ n1_ n2_ n3_ n4_ n5_ n6_ n7_ n8_ n9_ n10_ n11_ n12_ n13_; clear hb hbox hg; have hnb36 := nn NB1237_1225 NB1225_1237; have hnb37 := nn NB1237_1226 NB1226_1237; have hnb38 := nn NB1237_1227 NB1227_1237; have hnb39 := nn NB1237_1228 NB1228_1237; have hnb40 := nn NB1237_1238 NB1238_1237; have hcz41_0 := hcz BK1237 0; have hcz41_1 := hcz BK1237 1; have hfz41_0 := bfz BK1237 0; have hfz41_1 := bfz BK1237 1; have hnb42 := nn NB1238_1225 NB1225_1238; have hnb43 := nn NB1238_1226 NB1226_1238; have hnb44 := nn NB1238_1227 NB1227_1238; have hnb45 := nn NB1238_1228 NB1228_1238; have hcz46_0 := hcz BK1238 0; have hcz46_1 := hcz BK1238 1; have hfz46_0 := bfz BK1238 0; have hfz46_1 := bfz BK1238 1; have hcz47_0 := hcz BK1227 0; have hcz47_1 := hcz BK1227 1; have hfz47_0 := bfz BK1227 0; have hfz47_1 := bfz BK1227 1; have hcz48_0 := hcz BK1228 0; have hcz48_1 := hcz BK1228 1; have hfz48_0 := bfz BK1228 0; have hfz48_1 := bfz BK1228 1) | ((with_reducible refine gate_callee (f := 33) rfl ?_); refine goesL_ (some 42) rfl rfl Try.func33 (by kernel_rfl) rfl #[.int .i64 (wrap64 (14 + (wrap64 (Int.tmod (IntKind.u64.wrap (a4)) 6)))), .agg #[.int .i64 t1229, .int .i64 t1230], .agg #[.int .i64 t1231, .int .i64 t1232]] rfl (by (try simp only [List.map_toArray, List.map_cons, List.map_nil]); first | done | rfl | (simp only [List.length_drop, List.length_take]; rfl)) ?_; (with_reducible refine (itv_Test.calls k (wrap64 (14 + (wrap64 (Int.tmod (IntKind.u64.wrap (a4)) 6)))) t1229 t1230 t1231 t1232 t1239 t1240 t1241 t1242 _ A9.out).mono ?_); rintro e w49 ⟨rfl, hb⟩; refine ⟨_, rfl, ?_⟩; have n0_ := bbF BK1225 hb; have n1_ := bbF BK1226 hb; have n2_ := bbF BK1227 hb; have n3_ := bbF BK1228 hb; have n4_ := Aside0.mk (blk_below (g := gb1237) (o := .cells #[.int .i64 t1233, .int .i64 t1234] 23 (0, 0)) (by refine pkB ?_; refine blk_far ?_ NB1237_1238.out _; refine pkB ?_; refine blk_far ?_ NB1237_1238.out _; refine pkB ?_; refine bput (cs := #[.int .i64 t1233, .int .i64 0]) 1 ?_; refine bput (cs := #[.int .i64 0, .int .i64 0]) 0 ?_; exact BK1237.out) hb); have n5_ := Aside0.mk (blk_below (g := gb1238) (o := .cells #[.int .i64 t1235, .int .i64 t1236] 23 (0, 0)) (by refine pkB ?_; refine bput (cs := #[.int .i64 t1235, .int .i64 0]) 1 ?_; refine bput (cs := #[.int .i64 0, .int .i64 0]) 0 ?_; refine blk_far ?_ NB1238_1237.out _; refine pkB ?_; refine blk_far ?_ NB1238_1237.out _; refine pkB ?_; exact BK1238.out) hb); have n6_ := bst HB hb; clear BK1225; clear BK1226; clear BK1227; clear BK1228; clear BK1237; clear BK1238; clear HB; have BK1225 := n0_; have BK1226 := n1_; have BK1227 := n2_; have BK1228 := n3_; have BK1237 := n4_; have BK1238 := n5_; have HB := n6_; clear n0_ n1_ n2_ n3_ n4_ n5_ n6_; (try clear hb)) | ((with_reducible refine gate_dst (N := 14) rfl ?_); refine box_event ?hg (N := 14) ?hd (cs := #[.int .i64 0, .int .i64 0]) (t := 23) ?hr ?_; (case hd => rfl); (case hg => rfl); (case hr => first | (go_simp; done) | (go_simp; rfl)); intro gb1243 hg w50 hbox hb; have n0_ := bst HB hb; have n1_ := Aside0.mk (hbox); have n2_ := bsz HB hg; have n3_ := bsz HB hg; have n4_ := bn1 BK1225 hg; have n5_ := bn2 BK1225 hg; have n6_ := bn1 BK1226 hg; have n7_ := bn2 BK1226 hg; have n8_ := bn1 BK1227 hg; have n9_ := bn2 BK1227 hg; have n10_ := bn1 BK1228 hg; have n11_ := bn2 BK1228 hg; have n12_ := bn1 BK1237 hg; have n13_ := bn2 BK1237 hg; have n14_ := bn1 BK1238 hg; have n15_ := bn2 BK1238 hg; replace BK1225 := bbw BK1225 hb; replace BK1226 := bbw BK1226 hb; replace BK1227 := bbw BK1227 hb; replace BK1228 := bbw BK1228 hb; replace BK1237 := bbw BK1237 hb; replace BK1238 := bbw BK1238 hb; clear HB; have HB := n0_; have BK1243 := n1_; have GW1243 := n2_; have GE1243 := n3_; have NB1225_1243 := n4_; have NB1243_1225 := n5_; have NB1226_1243 := n6_; have NB1243_1226 := n7_; have NB1227_1243 := n8_; have NB1243_1227 := n9_; have NB1228_1243 := n10_; have NB1243_1228 := n11_; have NB1237_1243 := n12_; have NB1243_1237 := n13_; have NB1238_1243 := n14_; have NB1243_1238 := n15_; clear n0_ n1_ n2_ n3_ n4_ n5_ n6_ n7_ n8_ n9_ n10_ n11_ n12_ n13_ n14_ n15_; clear hb hbox hg) | ((with_reducible refine gate_dst (N := 15) rfl ?_); refine box_event ?hg (N := 15) ?hd (cs := #[.int .i64 0, .int .i64 0]) (t := 23) ?hr ?_; (case hd => rfl); (case hg => rfl); (case hr => first | (go_simp; done) | (go_simp; rfl)); intro gb1244 hg w51 hbox hb; have n0_ := bst HB hb; have n1_ := Aside0.mk (hbox); have n2_ := bsz HB hg; have n3_ := bsz HB hg; have n4_ := bn1 BK1225 hg; have n5_ := bn2 BK1225 hg; have n6_ := bn1 BK1226 hg; have n7_ := bn2 BK1226 hg; have n8_ := bn1 BK1227 hg; have n9_ := bn2 BK1227 hg; have n10_ := bn1 BK1228 hg; have n11_ := bn2 BK1228 hg; have n12_ := bn1 BK1237 hg; have n13_ := bn2 BK1237 hg; have n14_ := bn1 BK1238 hg; have n15_ := bn2 BK1238 hg; have n16_ := bn1 BK1243 hg; have n17_ := bn2 BK1243 hg; replace BK1225 := bbw BK1225 hb; replace BK1226 := bbw BK1226 hb; replace BK1227 := bbw BK1227 hb; replace BK1228 := bbw BK1228 hb; replace BK1237 := bbw BK1237 hb; replace BK1238 := bbw BK1238 hb; replace BK1243 := bbw BK1243 hb; clear HB; have HB := n0_; have BK1244 := n1_; have GW1244 := n2_; have GE1244 := n3_; have NB1225_1244 := n4_; have NB1244_1225 := n5_; have NB1226_1244 := n6_; have NB1244_1226 := n7_; have NB1227_1244 := n8_; have NB1244_1227 := n9_; have NB1228_1244 := n10_; have NB1244_1228 := n11_; have NB1237_1244 := n12_; have NB1244_1237 := n13_; have NB1238_1244 := n14_; have NB1244_1238 := n15_; have NB1243_1244 := n16_; have NB1244_1243 := n17_; clear n0_ n1_ n2_ n3_ n4_ n5_ n6_ n7_ n8_ n9_ n10_ n11_ n12_ n13_ n14_ n15_ n16_ n17_; clear hb hbox hg; have hnb52 := nn NB1243_1225 NB1225_1243; have hnb53 := nn NB1243_1226 NB1226_1243; have hnb54 := nn NB1243_1227 NB1227_1243; have hnb55 := nn NB1243_1228 NB1228_1243; have hnb56 := nn NB1243_1237 NB1237_1243; have hnb57 := nn NB1243_1238 NB1238_1243; have hnb58 := nn NB1243_1244 NB1244_1243; have hcz59_0 := hcz BK1243 0; have hcz59_1 := hcz BK1243 1; have hfz59_0 := bfz BK1243 0; have hfz59_1 := bfz BK1243 1; have hnb60 := nn NB1244_1225 NB1225_1244; have hnb61 := nn NB1244_1226 NB1226_1244; have hnb62 := nn NB1244_1227 NB1227_1244; have hnb63 := nn NB1244_1228 NB1228_1244; have hnb64 := nn NB1244_1237 NB1237_1244; have hnb65 := nn NB1244_1238 NB1238_1244; have hcz66_0 := hcz BK1244 0; have hcz66_1 := hcz BK1244 1; have hfz66_0 := bfz BK1244 0; have hfz66_1 := bfz BK1244 1; have hcz67_0 := hcz BK1225 0; have hcz67_1 := hcz BK1225 1; have hfz67_0 := bfz BK1225 0; have hfz67_1 := bfz BK1225 1; have hcz68_0 := hcz BK1226 0; have hcz68_1 := hcz BK1226 1; have hfz68_0 := bfz BK1226 0; have hfz68_1 := bfz BK1226 1) | ((with_reducible refine gate_callee (f := 34) rfl ?_); refine goesL_ (some 49) rfl rfl Try.func34 (by kernel_rfl) rfl #[.int .i64 (wrap64 (14 + (wrap64 (Int.tmod (IntKind.u64.wrap (a4)) 6)))), .agg #[.int .i64 a0_0, .int .i64 a0_1], .agg #[.int .i64 a1_0, .int .i64 a1_1]] rfl (by (try simp only [List.map_toArray, List.map_cons, List.map_nil]); first | done | rfl | (simp only [List.length_drop, List.length_take]; rfl)) ?_; (with_reducible refine (itv_Holds.calls k (wrap64 (14 + (wrap64 (Int.tmod (IntKind.u64.wrap (a4)) 6)))) a0_0 a0_1 a1_0 a1_1 t1245 t1246 _ A10.out).mono ?_); rintro e w69 ⟨rfl, hb⟩; refine ⟨_, rfl, ?_⟩; have n0_ := bbF BK1225 hb; have n1_ := bbF BK1226 hb; have n2_ := bbF BK1227 hb; have n3_ := bbF BK1228 hb; have n4_ := bbF BK1237 hb; have n5_ := bbF BK1238 hb; have n6_ := Aside0.mk (blk_below (g := gb1243) (o := .cells #[.int .i64 t1239, .int .i64 t1240] 23 (0, 0)) (by refine pkB ?_; refine blk_far ?_ NB1243_1244.out _; refine pkB ?_; refine blk_far ?_ NB1243_1244.out _; refine pkB ?_; refine bput (cs := #[.int .i64 t1239, .int .i64 0]) 1 ?_; refine bput (cs := #[.int .i64 0, .int .i64 0]) 0 ?_; exact BK1243.out) hb); have n7_ := Aside0.mk (blk_below (g := gb1244) (o := .cells #[.int .i64 t1241, .int .i64 t1242] 23 (0, 0)) (by refine pkB ?_; refine bput (cs := #[.int .i64 t1241, .int .i64 0]) 1 ?_; refine bput (cs := #[.int .i64 0, .int .i64 0]) 0 ?_; refine blk_far ?_ NB1244_1243.out _; refine pkB ?_; refine blk_far ?_ NB1244_1243.out _; refine pkB ?_; exact BK1244.out) hb); have n8_ := bst HB hb; clear BK1225; clear BK1226; clear BK1227; clear BK1228; clear BK1237; clear BK1238; clear BK1243; clear BK1244; clear HB; have BK1225 := n0_; have BK1226 := n1_; have BK1227 := n2_; have BK1228 := n3_; have BK1237 := n4_; have BK1238 := n5_; have BK1243 := n6_; have BK1244 := n7_; have HB := n8_; clear n0_ n1_ n2_ n3_ n4_ n5_ n6_ n7_ n8_; (try clear hb); have hcz70_0 := hcz BK1227 0; have hcz70_1 := hcz BK1227 1; have hfz70_0 := bfz BK1227 0; have hfz70_1 := bfz BK1227 1; have hcz71_0 := hcz BK1228 0; have hcz71_1 := hcz BK1228 1; have hfz71_0 := bfz BK1228 0; have hfz71_1 := bfz BK1228 1) | ((with_reducible refine gate_callee (f := 34) rfl ?_); refine goesL_ (some 56) rfl rfl Try.func34 (by kernel_rfl) rfl #[.int .i64 (wrap64 (14 + (wrap64 (Int.tmod (IntKind.u64.wrap (a4)) 6)))), .agg #[.int .i64 t1229, .int .i64 t1230], .agg #[.int .i64 t1231, .int .i64 t1232]] rfl (by (try simp only [List.map_toArray, List.map_cons, List.map_nil]); first | done | rfl | (simp only [List.length_drop, List.length_take]; rfl)) ?_; (with_reducible refine (itv_Holds.calls k (wrap64 (14 + (wrap64 (Int.tmod (IntKind.u64.wrap (a4)) 6)))) t1229 t1230 t1231 t1232 t1247 t1248 _ A11.out).mono ?_); rintro e w72 ⟨rfl, hb⟩; refine ⟨_, rfl, ?_⟩; have n0_ := bst HB hb; replace BK1225 := bbw BK1225 hb; replace BK1226 := bbw BK1226 hb; replace BK1227 := bbw BK1227 hb; replace BK1228 := bbw BK1228 hb; replace BK1237 := bbw BK1237 hb; replace BK1238 := bbw BK1238 hb; replace BK1243 := bbw BK1243 hb; replace BK1244 := bbw BK1244 hb; clear HB; have HB := n0_; clear n0_; (try clear hb)))
  (try simp only [Act.put, List.setIfInBounds_toArray, List.set_cons_zero, List.set_cons_succ])
  go_cut [94] (fun v94 wc => ∃ (kq : Nat) (x94_11 : Bool), v94 = .bool x94_11 ∧ Aside0 (gimballaw02_ItvGrows.j0 kq x94_11 a0_0 a0_1 a1_0 a1_1 t1229 t1230 t1231 t1232 = some true) ∧ Aside0 (kq ≤ k) ∧ Aside0 (wc.heap[gb1225]? = some (.cells #[.int .i64 a0_0, .int .i64 a0_1] 23 (0, 0))) ∧ Aside0 (wc.heap[gb1226]? = some (.cells #[.int .i64 a1_0, .int .i64 a1_1] 23 (0, 0))) ∧ Aside0 (wc.heap[gb1227]? = some (.cells #[.int .i64 t1229, .int .i64 t1230] 23 (0, 0))) ∧ Aside0 (wc.heap[gb1228]? = some (.cells #[.int .i64 t1231, .int .i64 t1232] 23 (0, 0))) ∧ Aside0 (wc.heap[gb1237]? = some (.cells #[.int .i64 t1233, .int .i64 t1234] 23 (0, 0))) ∧ Aside0 (wc.heap[gb1238]? = some (.cells #[.int .i64 t1235, .int .i64 t1236] 23 (0, 0))) ∧ Aside0 (wc.heap[gb1243]? = some (.cells #[.int .i64 t1239, .int .i64 t1240] 23 (0, 0))) ∧ Aside0 (wc.heap[gb1244]? = some (.cells #[.int .i64 t1241, .int .i64 t1242] 23 (0, 0))) ∧ Aside0 (Below w.heap.size w wc))
  case first =>
   have H := HC12.out
   clear HC12
   replace H := bnH H
   obtain ⟨t1249, A730, H⟩ := H
   replace H : (if t1249 = true then ((itv_Leq.f a1_0 a1_1 t1231 t1232).bind fun t1250 => (if t1250 = true then ((itv_Leq.f t1233 t1234 t1239 t1240).bind fun t1251 => (if t1251 = true then ((itv_Leq.f t1235 t1236 t1241 t1242).bind fun t1252 => (if t1252 = true then (if t1245 = true then (if t1247 = true then (if t1246 = true then (gimballaw02_ItvGrows.j0 k (!t1248) a0_0 a0_1 a1_0 a1_1 t1229 t1230 t1231 t1232) else (gimballaw02_ItvGrows.j0 k false a0_0 a0_1 a1_0 a1_1 t1229 t1230 t1231 t1232)) else (gimballaw02_ItvGrows.j0 k true a0_0 a0_1 a1_0 a1_1 t1229 t1230 t1231 t1232)) else (if t1246 = true then (gimballaw02_ItvGrows.j0 k (!t1248) a0_0 a0_1 a1_0 a1_1 t1229 t1230 t1231 t1232) else (gimballaw02_ItvGrows.j0 k false a0_0 a0_1 a1_0 a1_1 t1229 t1230 t1231 t1232))) else (gimballaw02_ItvGrows.j0 k true a0_0 a0_1 a1_0 a1_1 t1229 t1230 t1231 t1232))) else (gimballaw02_ItvGrows.j0 k true a0_0 a0_1 a1_0 a1_1 t1229 t1230 t1231 t1232))) else (gimballaw02_ItvGrows.j0 k true a0_0 a0_1 a1_0 a1_1 t1229 t1230 t1231 t1232))) else (gimballaw02_ItvGrows.j0 k true a0_0 a0_1 a1_0 a1_1 t1229 t1230 t1231 t1232)) = some true := H
   have A73 := Aside0.mk A730
   clear A730
   by_cases c74 : t1249 = true
   ·
    subst c74
    have H1 : ((itv_Leq.f a1_0 a1_1 t1231 t1232).bind fun t1250 => (if t1250 = true then ((itv_Leq.f t1233 t1234 t1239 t1240).bind fun t1251 => (if t1251 = true then ((itv_Leq.f t1235 t1236 t1241 t1242).bind fun t1252 => (if t1252 = true then (if t1245 = true then (if t1247 = true then (if t1246 = true then (gimballaw02_ItvGrows.j0 k (!t1248) a0_0 a0_1 a1_0 a1_1 t1229 t1230 t1231 t1232) else (gimballaw02_ItvGrows.j0 k false a0_0 a0_1 a1_0 a1_1 t1229 t1230 t1231 t1232)) else (gimballaw02_ItvGrows.j0 k true a0_0 a0_1 a1_0 a1_1 t1229 t1230 t1231 t1232)) else (if t1246 = true then (gimballaw02_ItvGrows.j0 k (!t1248) a0_0 a0_1 a1_0 a1_1 t1229 t1230 t1231 t1232) else (gimballaw02_ItvGrows.j0 k false a0_0 a0_1 a1_0 a1_1 t1229 t1230 t1231 t1232))) else (gimballaw02_ItvGrows.j0 k true a0_0 a0_1 a1_0 a1_1 t1229 t1230 t1231 t1232))) else (gimballaw02_ItvGrows.j0 k true a0_0 a0_1 a1_0 a1_1 t1229 t1230 t1231 t1232))) else (gimballaw02_ItvGrows.j0 k true a0_0 a0_1 a1_0 a1_1 t1229 t1230 t1231 t1232))) = some true := by rw [if_pos rfl] at H; exact H
    clear H
    have H := H1
    clear H1
    replace H := bnH H
    obtain ⟨t1250, A750, H⟩ := H
    replace H : (if t1250 = true then ((itv_Leq.f t1233 t1234 t1239 t1240).bind fun t1251 => (if t1251 = true then ((itv_Leq.f t1235 t1236 t1241 t1242).bind fun t1252 => (if t1252 = true then (if t1245 = true then (if t1247 = true then (if t1246 = true then (gimballaw02_ItvGrows.j0 k (!t1248) a0_0 a0_1 a1_0 a1_1 t1229 t1230 t1231 t1232) else (gimballaw02_ItvGrows.j0 k false a0_0 a0_1 a1_0 a1_1 t1229 t1230 t1231 t1232)) else (gimballaw02_ItvGrows.j0 k true a0_0 a0_1 a1_0 a1_1 t1229 t1230 t1231 t1232)) else (if t1246 = true then (gimballaw02_ItvGrows.j0 k (!t1248) a0_0 a0_1 a1_0 a1_1 t1229 t1230 t1231 t1232) else (gimballaw02_ItvGrows.j0 k false a0_0 a0_1 a1_0 a1_1 t1229 t1230 t1231 t1232))) else (gimballaw02_ItvGrows.j0 k true a0_0 a0_1 a1_0 a1_1 t1229 t1230 t1231 t1232))) else (gimballaw02_ItvGrows.j0 k true a0_0 a0_1 a1_0 a1_1 t1229 t1230 t1231 t1232))) else (gimballaw02_ItvGrows.j0 k true a0_0 a0_1 a1_0 a1_1 t1229 t1230 t1231 t1232)) = some true := H
    have A75 := Aside0.mk A750
    clear A750
    by_cases c76 : t1250 = true
    ·
     subst c76
     have H1 : ((itv_Leq.f t1233 t1234 t1239 t1240).bind fun t1251 => (if t1251 = true then ((itv_Leq.f t1235 t1236 t1241 t1242).bind fun t1252 => (if t1252 = true then (if t1245 = true then (if t1247 = true then (if t1246 = true then (gimballaw02_ItvGrows.j0 k (!t1248) a0_0 a0_1 a1_0 a1_1 t1229 t1230 t1231 t1232) else (gimballaw02_ItvGrows.j0 k false a0_0 a0_1 a1_0 a1_1 t1229 t1230 t1231 t1232)) else (gimballaw02_ItvGrows.j0 k true a0_0 a0_1 a1_0 a1_1 t1229 t1230 t1231 t1232)) else (if t1246 = true then (gimballaw02_ItvGrows.j0 k (!t1248) a0_0 a0_1 a1_0 a1_1 t1229 t1230 t1231 t1232) else (gimballaw02_ItvGrows.j0 k false a0_0 a0_1 a1_0 a1_1 t1229 t1230 t1231 t1232))) else (gimballaw02_ItvGrows.j0 k true a0_0 a0_1 a1_0 a1_1 t1229 t1230 t1231 t1232))) else (gimballaw02_ItvGrows.j0 k true a0_0 a0_1 a1_0 a1_1 t1229 t1230 t1231 t1232))) = some true := by rw [if_pos rfl] at H; exact H
     clear H
     have H := H1
     clear H1
     replace H := bnH H
     obtain ⟨t1251, A770, H⟩ := H
     replace H : (if t1251 = true then ((itv_Leq.f t1235 t1236 t1241 t1242).bind fun t1252 => (if t1252 = true then (if t1245 = true then (if t1247 = true then (if t1246 = true then (gimballaw02_ItvGrows.j0 k (!t1248) a0_0 a0_1 a1_0 a1_1 t1229 t1230 t1231 t1232) else (gimballaw02_ItvGrows.j0 k false a0_0 a0_1 a1_0 a1_1 t1229 t1230 t1231 t1232)) else (gimballaw02_ItvGrows.j0 k true a0_0 a0_1 a1_0 a1_1 t1229 t1230 t1231 t1232)) else (if t1246 = true then (gimballaw02_ItvGrows.j0 k (!t1248) a0_0 a0_1 a1_0 a1_1 t1229 t1230 t1231 t1232) else (gimballaw02_ItvGrows.j0 k false a0_0 a0_1 a1_0 a1_1 t1229 t1230 t1231 t1232))) else (gimballaw02_ItvGrows.j0 k true a0_0 a0_1 a1_0 a1_1 t1229 t1230 t1231 t1232))) else (gimballaw02_ItvGrows.j0 k true a0_0 a0_1 a1_0 a1_1 t1229 t1230 t1231 t1232)) = some true := H
     have A77 := Aside0.mk A770
     clear A770
     by_cases c78 : t1251 = true
     ·
      subst c78
      have H1 : ((itv_Leq.f t1235 t1236 t1241 t1242).bind fun t1252 => (if t1252 = true then (if t1245 = true then (if t1247 = true then (if t1246 = true then (gimballaw02_ItvGrows.j0 k (!t1248) a0_0 a0_1 a1_0 a1_1 t1229 t1230 t1231 t1232) else (gimballaw02_ItvGrows.j0 k false a0_0 a0_1 a1_0 a1_1 t1229 t1230 t1231 t1232)) else (gimballaw02_ItvGrows.j0 k true a0_0 a0_1 a1_0 a1_1 t1229 t1230 t1231 t1232)) else (if t1246 = true then (gimballaw02_ItvGrows.j0 k (!t1248) a0_0 a0_1 a1_0 a1_1 t1229 t1230 t1231 t1232) else (gimballaw02_ItvGrows.j0 k false a0_0 a0_1 a1_0 a1_1 t1229 t1230 t1231 t1232))) else (gimballaw02_ItvGrows.j0 k true a0_0 a0_1 a1_0 a1_1 t1229 t1230 t1231 t1232))) = some true := by rw [if_pos rfl] at H; exact H
      clear H
      have H := H1
      clear H1
      replace H := bnH H
      obtain ⟨t1252, A790, H⟩ := H
      replace H : (if t1252 = true then (if t1245 = true then (if t1247 = true then (if t1246 = true then (gimballaw02_ItvGrows.j0 k (!t1248) a0_0 a0_1 a1_0 a1_1 t1229 t1230 t1231 t1232) else (gimballaw02_ItvGrows.j0 k false a0_0 a0_1 a1_0 a1_1 t1229 t1230 t1231 t1232)) else (gimballaw02_ItvGrows.j0 k true a0_0 a0_1 a1_0 a1_1 t1229 t1230 t1231 t1232)) else (if t1246 = true then (gimballaw02_ItvGrows.j0 k (!t1248) a0_0 a0_1 a1_0 a1_1 t1229 t1230 t1231 t1232) else (gimballaw02_ItvGrows.j0 k false a0_0 a0_1 a1_0 a1_1 t1229 t1230 t1231 t1232))) else (gimballaw02_ItvGrows.j0 k true a0_0 a0_1 a1_0 a1_1 t1229 t1230 t1231 t1232)) = some true := H
      have A79 := Aside0.mk A790
      clear A790
      by_cases c80 : t1252 = true
      ·
       subst c80
       have H1 : (if t1245 = true then (if t1247 = true then (if t1246 = true then (gimballaw02_ItvGrows.j0 k (!t1248) a0_0 a0_1 a1_0 a1_1 t1229 t1230 t1231 t1232) else (gimballaw02_ItvGrows.j0 k false a0_0 a0_1 a1_0 a1_1 t1229 t1230 t1231 t1232)) else (gimballaw02_ItvGrows.j0 k true a0_0 a0_1 a1_0 a1_1 t1229 t1230 t1231 t1232)) else (if t1246 = true then (gimballaw02_ItvGrows.j0 k (!t1248) a0_0 a0_1 a1_0 a1_1 t1229 t1230 t1231 t1232) else (gimballaw02_ItvGrows.j0 k false a0_0 a0_1 a1_0 a1_1 t1229 t1230 t1231 t1232))) = some true := by rw [if_pos rfl] at H; exact H
       clear H
       have H := H1
       clear H1
       by_cases c81 : t1245 = true
       ·
        subst c81
        have H1 : (if t1247 = true then (if t1246 = true then (gimballaw02_ItvGrows.j0 k (!t1248) a0_0 a0_1 a1_0 a1_1 t1229 t1230 t1231 t1232) else (gimballaw02_ItvGrows.j0 k false a0_0 a0_1 a1_0 a1_1 t1229 t1230 t1231 t1232)) else (gimballaw02_ItvGrows.j0 k true a0_0 a0_1 a1_0 a1_1 t1229 t1230 t1231 t1232)) = some true := by rw [if_pos rfl] at H; exact H
        clear H
        have H := H1
        clear H1
        by_cases c82 : t1247 = true
        ·
         subst c82
         have H1 : (if t1246 = true then (gimballaw02_ItvGrows.j0 k (!t1248) a0_0 a0_1 a1_0 a1_1 t1229 t1230 t1231 t1232) else (gimballaw02_ItvGrows.j0 k false a0_0 a0_1 a1_0 a1_1 t1229 t1230 t1231 t1232)) = some true := by rw [if_pos rfl] at H; exact H
         clear H
         have H := H1
         clear H1
         by_cases c83 : t1246 = true
         ·
          subst c83
          have H1 : (gimballaw02_ItvGrows.j0 k (!t1248) a0_0 a0_1 a1_0 a1_1 t1229 t1230 t1231 t1232) = some true := by rw [if_pos rfl] at H; exact H
          clear H
          have H := H1
          clear H1
          have H' := Aside0.mk H
          clear H
          have hnb84 := nn NB1225_1226 NB1226_1225
          have hnb85 := nn NB1225_1227 NB1227_1225
          have hnb86 := nn NB1225_1228 NB1228_1225
          have hnb87 := nn NB1225_1237 NB1237_1225
          have hnb88 := nn NB1225_1238 NB1238_1225
          have hnb89 := nn NB1225_1243 NB1243_1225
          have hnb90 := nn NB1225_1244 NB1244_1225
          have hcz91_0 := hcz BK1225 0
          have hcz91_1 := hcz BK1225 1
          have hfz91_0 := bfz BK1225 0
          have hfz91_1 := bfz BK1225 1
          have hnb92 := nn NB1227_1226 NB1226_1227
          have hnb93 := nn NB1227_1228 NB1228_1227
          have hnb94 := nn NB1227_1237 NB1237_1227
          have hnb95 := nn NB1227_1238 NB1238_1227
          have hnb96 := nn NB1227_1243 NB1243_1227
          have hnb97 := nn NB1227_1244 NB1244_1227
          have hcz98_0 := hcz BK1227 0
          have hcz98_1 := hcz BK1227 1
          have hfz98_0 := bfz BK1227 0
          have hfz98_1 := bfz BK1227 1
          go_wp2_with (first | ((with_reducible refine gate_callee (f := 24) rfl ?_); refine goesL_ (some 61) rfl rfl Try.func24 (by kernel_rfl) rfl #[.agg #[.int .i64 a0_0, .int .i64 a0_1], .agg #[.int .i64 t1229, .int .i64 t1230]] rfl (by (try simp only [List.map_toArray, List.map_cons, List.map_nil]); first | done | rfl | (simp only [List.length_drop, List.length_take]; rfl)) ?_; (with_reducible refine (itv_Leq.calls a0_0 a0_1 t1229 t1230 true _ A73.out).mono ?_); rintro e w99 ⟨rfl, hb⟩; refine ⟨_, rfl, ?_⟩; have n0_ := bst HB hb; replace BK1225 := bbw BK1225 hb; replace BK1226 := bbw BK1226 hb; replace BK1227 := bbw BK1227 hb; replace BK1228 := bbw BK1228 hb; replace BK1237 := bbw BK1237 hb; replace BK1238 := bbw BK1238 hb; replace BK1243 := bbw BK1243 hb; replace BK1244 := bbw BK1244 hb; clear HB; have HB := n0_; clear n0_; (try clear hb); have hnb100 := nn NB1226_1228 NB1228_1226; have hnb101 := nn NB1226_1237 NB1237_1226; have hnb102 := nn NB1226_1238 NB1238_1226; have hnb103 := nn NB1226_1243 NB1243_1226; have hnb104 := nn NB1226_1244 NB1244_1226; have hcz105_0 := hcz BK1226 0; have hcz105_1 := hcz BK1226 1; have hfz105_0 := bfz BK1226 0; have hfz105_1 := bfz BK1226 1; have hnb106 := nn NB1228_1237 NB1237_1228; have hnb107 := nn NB1228_1238 NB1238_1228; have hnb108 := nn NB1228_1243 NB1243_1228; have hnb109 := nn NB1228_1244 NB1244_1228; have hcz110_0 := hcz BK1228 0; have hcz110_1 := hcz BK1228 1; have hfz110_0 := bfz BK1228 0; have hfz110_1 := bfz BK1228 1) | (go_at_call 24; (with_reducible refine (itv_Leq.calls a1_0 a1_1 t1231 t1232 true _ A75.out).mono ?_); rintro e w111 ⟨rfl, hb⟩; have n0_ := bst HB hb; replace BK1225 := bbw BK1225 hb; replace BK1226 := bbw BK1226 hb; replace BK1227 := bbw BK1227 hb; replace BK1228 := bbw BK1228 hb; replace BK1237 := bbw BK1237 hb; replace BK1238 := bbw BK1238 hb; replace BK1243 := bbw BK1243 hb; replace BK1244 := bbw BK1244 hb; clear HB; have HB := n0_; clear n0_; (try clear hb); have hnb112 := nn NB1237_1238 NB1238_1237; have hnb113 := nn NB1237_1243 NB1243_1237; have hnb114 := nn NB1237_1244 NB1244_1237; have hcz115_0 := hcz BK1237 0; have hcz115_1 := hcz BK1237 1; have hfz115_0 := bfz BK1237 0; have hfz115_1 := bfz BK1237 1; have hnb116 := nn NB1243_1238 NB1238_1243; have hnb117 := nn NB1243_1244 NB1244_1243; have hcz118_0 := hcz BK1243 0; have hcz118_1 := hcz BK1243 1; have hfz118_0 := bfz BK1243 0; have hfz118_1 := bfz BK1243 1) | (go_at_call 24; (with_reducible refine (itv_Leq.calls t1233 t1234 t1239 t1240 true _ A77.out).mono ?_); rintro e w119 ⟨rfl, hb⟩; have n0_ := bst HB hb; replace BK1225 := bbw BK1225 hb; replace BK1226 := bbw BK1226 hb; replace BK1227 := bbw BK1227 hb; replace BK1228 := bbw BK1228 hb; replace BK1237 := bbw BK1237 hb; replace BK1238 := bbw BK1238 hb; replace BK1243 := bbw BK1243 hb; replace BK1244 := bbw BK1244 hb; clear HB; have HB := n0_; clear n0_; (try clear hb); have hnb120 := nn NB1238_1244 NB1244_1238; have hcz121_0 := hcz BK1238 0; have hcz121_1 := hcz BK1238 1; have hfz121_0 := bfz BK1238 0; have hfz121_1 := bfz BK1238 1; have hcz122_0 := hcz BK1244 0; have hcz122_1 := hcz BK1244 1; have hfz122_0 := bfz BK1244 0; have hfz122_1 := bfz BK1244 1) | (go_at_call 24; (with_reducible refine (itv_Leq.calls t1235 t1236 t1241 t1242 true _ A79.out).mono ?_); rintro e w123 ⟨rfl, hb⟩; have n0_ := bst HB hb; replace BK1225 := bbw BK1225 hb; replace BK1226 := bbw BK1226 hb; replace BK1227 := bbw BK1227 hb; replace BK1228 := bbw BK1228 hb; replace BK1237 := bbw BK1237 hb; replace BK1238 := bbw BK1238 hb; replace BK1243 := bbw BK1243 hb; replace BK1244 := bbw BK1244 hb; clear HB; have HB := n0_; clear n0_; (try clear hb)))
          go_meet
          case rel => exact ⟨_, (!t1248), (by first | rfl | (simp; done) | (simp [*]; done)), H', ⟨by first | omega | exact Nat.le_refl _⟩, pkA BK1225, pkA BK1226, pkA BK1227, pkA BK1228, pkA BK1237, pkA BK1238, pkA BK1243, pkA BK1244, bpk HB⟩
         ·
          replace c83 := Bool.eq_false_iff.mpr c83
          subst c83
          have H1 : (gimballaw02_ItvGrows.j0 k false a0_0 a0_1 a1_0 a1_1 t1229 t1230 t1231 t1232) = some true := by rw [if_neg (show ¬ (false = true) by decide)] at H; exact H
          clear H
          have H := H1
          clear H1
          have H' := Aside0.mk H
          clear H
          have hnb124 := nn NB1225_1226 NB1226_1225
          have hnb125 := nn NB1225_1227 NB1227_1225
          have hnb126 := nn NB1225_1228 NB1228_1225
          have hnb127 := nn NB1225_1237 NB1237_1225
          have hnb128 := nn NB1225_1238 NB1238_1225
          have hnb129 := nn NB1225_1243 NB1243_1225
          have hnb130 := nn NB1225_1244 NB1244_1225
          have hcz131_0 := hcz BK1225 0
          have hcz131_1 := hcz BK1225 1
          have hfz131_0 := bfz BK1225 0
          have hfz131_1 := bfz BK1225 1
          have hnb132 := nn NB1227_1226 NB1226_1227
          have hnb133 := nn NB1227_1228 NB1228_1227
          have hnb134 := nn NB1227_1237 NB1237_1227
          have hnb135 := nn NB1227_1238 NB1238_1227
          have hnb136 := nn NB1227_1243 NB1243_1227
          have hnb137 := nn NB1227_1244 NB1244_1227
          have hcz138_0 := hcz BK1227 0
          have hcz138_1 := hcz BK1227 1
          have hfz138_0 := bfz BK1227 0
          have hfz138_1 := bfz BK1227 1
          go_wp2_with (first | ((with_reducible refine gate_callee (f := 24) rfl ?_); refine goesL_ (some 61) rfl rfl Try.func24 (by kernel_rfl) rfl #[.agg #[.int .i64 a0_0, .int .i64 a0_1], .agg #[.int .i64 t1229, .int .i64 t1230]] rfl (by (try simp only [List.map_toArray, List.map_cons, List.map_nil]); first | done | rfl | (simp only [List.length_drop, List.length_take]; rfl)) ?_; (with_reducible refine (itv_Leq.calls a0_0 a0_1 t1229 t1230 true _ A73.out).mono ?_); rintro e w139 ⟨rfl, hb⟩; refine ⟨_, rfl, ?_⟩; have n0_ := bst HB hb; replace BK1225 := bbw BK1225 hb; replace BK1226 := bbw BK1226 hb; replace BK1227 := bbw BK1227 hb; replace BK1228 := bbw BK1228 hb; replace BK1237 := bbw BK1237 hb; replace BK1238 := bbw BK1238 hb; replace BK1243 := bbw BK1243 hb; replace BK1244 := bbw BK1244 hb; clear HB; have HB := n0_; clear n0_; (try clear hb); have hnb140 := nn NB1226_1228 NB1228_1226; have hnb141 := nn NB1226_1237 NB1237_1226; have hnb142 := nn NB1226_1238 NB1238_1226; have hnb143 := nn NB1226_1243 NB1243_1226; have hnb144 := nn NB1226_1244 NB1244_1226; have hcz145_0 := hcz BK1226 0; have hcz145_1 := hcz BK1226 1; have hfz145_0 := bfz BK1226 0; have hfz145_1 := bfz BK1226 1; have hnb146 := nn NB1228_1237 NB1237_1228; have hnb147 := nn NB1228_1238 NB1238_1228; have hnb148 := nn NB1228_1243 NB1243_1228; have hnb149 := nn NB1228_1244 NB1244_1228; have hcz150_0 := hcz BK1228 0; have hcz150_1 := hcz BK1228 1; have hfz150_0 := bfz BK1228 0; have hfz150_1 := bfz BK1228 1) | (go_at_call 24; (with_reducible refine (itv_Leq.calls a1_0 a1_1 t1231 t1232 true _ A75.out).mono ?_); rintro e w151 ⟨rfl, hb⟩; have n0_ := bst HB hb; replace BK1225 := bbw BK1225 hb; replace BK1226 := bbw BK1226 hb; replace BK1227 := bbw BK1227 hb; replace BK1228 := bbw BK1228 hb; replace BK1237 := bbw BK1237 hb; replace BK1238 := bbw BK1238 hb; replace BK1243 := bbw BK1243 hb; replace BK1244 := bbw BK1244 hb; clear HB; have HB := n0_; clear n0_; (try clear hb); have hnb152 := nn NB1237_1238 NB1238_1237; have hnb153 := nn NB1237_1243 NB1243_1237; have hnb154 := nn NB1237_1244 NB1244_1237; have hcz155_0 := hcz BK1237 0; have hcz155_1 := hcz BK1237 1; have hfz155_0 := bfz BK1237 0; have hfz155_1 := bfz BK1237 1; have hnb156 := nn NB1243_1238 NB1238_1243; have hnb157 := nn NB1243_1244 NB1244_1243; have hcz158_0 := hcz BK1243 0; have hcz158_1 := hcz BK1243 1; have hfz158_0 := bfz BK1243 0; have hfz158_1 := bfz BK1243 1) | (go_at_call 24; (with_reducible refine (itv_Leq.calls t1233 t1234 t1239 t1240 true _ A77.out).mono ?_); rintro e w159 ⟨rfl, hb⟩; have n0_ := bst HB hb; replace BK1225 := bbw BK1225 hb; replace BK1226 := bbw BK1226 hb; replace BK1227 := bbw BK1227 hb; replace BK1228 := bbw BK1228 hb; replace BK1237 := bbw BK1237 hb; replace BK1238 := bbw BK1238 hb; replace BK1243 := bbw BK1243 hb; replace BK1244 := bbw BK1244 hb; clear HB; have HB := n0_; clear n0_; (try clear hb); have hnb160 := nn NB1238_1244 NB1244_1238; have hcz161_0 := hcz BK1238 0; have hcz161_1 := hcz BK1238 1; have hfz161_0 := bfz BK1238 0; have hfz161_1 := bfz BK1238 1; have hcz162_0 := hcz BK1244 0; have hcz162_1 := hcz BK1244 1; have hfz162_0 := bfz BK1244 0; have hfz162_1 := bfz BK1244 1) | (go_at_call 24; (with_reducible refine (itv_Leq.calls t1235 t1236 t1241 t1242 true _ A79.out).mono ?_); rintro e w163 ⟨rfl, hb⟩; have n0_ := bst HB hb; replace BK1225 := bbw BK1225 hb; replace BK1226 := bbw BK1226 hb; replace BK1227 := bbw BK1227 hb; replace BK1228 := bbw BK1228 hb; replace BK1237 := bbw BK1237 hb; replace BK1238 := bbw BK1238 hb; replace BK1243 := bbw BK1243 hb; replace BK1244 := bbw BK1244 hb; clear HB; have HB := n0_; clear n0_; (try clear hb)))
          go_meet
          case rel => exact ⟨_, (false), (by first | rfl | (simp; done) | (simp [*]; done)), H', ⟨by first | omega | exact Nat.le_refl _⟩, pkA BK1225, pkA BK1226, pkA BK1227, pkA BK1228, pkA BK1237, pkA BK1238, pkA BK1243, pkA BK1244, bpk HB⟩
        ·
         replace c82 := Bool.eq_false_iff.mpr c82
         subst c82
         have H1 : (gimballaw02_ItvGrows.j0 k true a0_0 a0_1 a1_0 a1_1 t1229 t1230 t1231 t1232) = some true := by rw [if_neg (show ¬ (false = true) by decide)] at H; exact H
         clear H
         have H := H1
         clear H1
         have H' := Aside0.mk H
         clear H
         have hnb164 := nn NB1225_1226 NB1226_1225
         have hnb165 := nn NB1225_1227 NB1227_1225
         have hnb166 := nn NB1225_1228 NB1228_1225
         have hnb167 := nn NB1225_1237 NB1237_1225
         have hnb168 := nn NB1225_1238 NB1238_1225
         have hnb169 := nn NB1225_1243 NB1243_1225
         have hnb170 := nn NB1225_1244 NB1244_1225
         have hcz171_0 := hcz BK1225 0
         have hcz171_1 := hcz BK1225 1
         have hfz171_0 := bfz BK1225 0
         have hfz171_1 := bfz BK1225 1
         have hnb172 := nn NB1227_1226 NB1226_1227
         have hnb173 := nn NB1227_1228 NB1228_1227
         have hnb174 := nn NB1227_1237 NB1237_1227
         have hnb175 := nn NB1227_1238 NB1238_1227
         have hnb176 := nn NB1227_1243 NB1243_1227
         have hnb177 := nn NB1227_1244 NB1244_1227
         have hcz178_0 := hcz BK1227 0
         have hcz178_1 := hcz BK1227 1
         have hfz178_0 := bfz BK1227 0
         have hfz178_1 := bfz BK1227 1
         go_wp2_with (first | ((with_reducible refine gate_callee (f := 24) rfl ?_); refine goesL_ (some 61) rfl rfl Try.func24 (by kernel_rfl) rfl #[.agg #[.int .i64 a0_0, .int .i64 a0_1], .agg #[.int .i64 t1229, .int .i64 t1230]] rfl (by (try simp only [List.map_toArray, List.map_cons, List.map_nil]); first | done | rfl | (simp only [List.length_drop, List.length_take]; rfl)) ?_; (with_reducible refine (itv_Leq.calls a0_0 a0_1 t1229 t1230 true _ A73.out).mono ?_); rintro e w179 ⟨rfl, hb⟩; refine ⟨_, rfl, ?_⟩; have n0_ := bst HB hb; replace BK1225 := bbw BK1225 hb; replace BK1226 := bbw BK1226 hb; replace BK1227 := bbw BK1227 hb; replace BK1228 := bbw BK1228 hb; replace BK1237 := bbw BK1237 hb; replace BK1238 := bbw BK1238 hb; replace BK1243 := bbw BK1243 hb; replace BK1244 := bbw BK1244 hb; clear HB; have HB := n0_; clear n0_; (try clear hb); have hnb180 := nn NB1226_1228 NB1228_1226; have hnb181 := nn NB1226_1237 NB1237_1226; have hnb182 := nn NB1226_1238 NB1238_1226; have hnb183 := nn NB1226_1243 NB1243_1226; have hnb184 := nn NB1226_1244 NB1244_1226; have hcz185_0 := hcz BK1226 0; have hcz185_1 := hcz BK1226 1; have hfz185_0 := bfz BK1226 0; have hfz185_1 := bfz BK1226 1; have hnb186 := nn NB1228_1237 NB1237_1228; have hnb187 := nn NB1228_1238 NB1238_1228; have hnb188 := nn NB1228_1243 NB1243_1228; have hnb189 := nn NB1228_1244 NB1244_1228; have hcz190_0 := hcz BK1228 0; have hcz190_1 := hcz BK1228 1; have hfz190_0 := bfz BK1228 0; have hfz190_1 := bfz BK1228 1) | (go_at_call 24; (with_reducible refine (itv_Leq.calls a1_0 a1_1 t1231 t1232 true _ A75.out).mono ?_); rintro e w191 ⟨rfl, hb⟩; have n0_ := bst HB hb; replace BK1225 := bbw BK1225 hb; replace BK1226 := bbw BK1226 hb; replace BK1227 := bbw BK1227 hb; replace BK1228 := bbw BK1228 hb; replace BK1237 := bbw BK1237 hb; replace BK1238 := bbw BK1238 hb; replace BK1243 := bbw BK1243 hb; replace BK1244 := bbw BK1244 hb; clear HB; have HB := n0_; clear n0_; (try clear hb); have hnb192 := nn NB1237_1238 NB1238_1237; have hnb193 := nn NB1237_1243 NB1243_1237; have hnb194 := nn NB1237_1244 NB1244_1237; have hcz195_0 := hcz BK1237 0; have hcz195_1 := hcz BK1237 1; have hfz195_0 := bfz BK1237 0; have hfz195_1 := bfz BK1237 1; have hnb196 := nn NB1243_1238 NB1238_1243; have hnb197 := nn NB1243_1244 NB1244_1243; have hcz198_0 := hcz BK1243 0; have hcz198_1 := hcz BK1243 1; have hfz198_0 := bfz BK1243 0; have hfz198_1 := bfz BK1243 1) | (go_at_call 24; (with_reducible refine (itv_Leq.calls t1233 t1234 t1239 t1240 true _ A77.out).mono ?_); rintro e w199 ⟨rfl, hb⟩; have n0_ := bst HB hb; replace BK1225 := bbw BK1225 hb; replace BK1226 := bbw BK1226 hb; replace BK1227 := bbw BK1227 hb; replace BK1228 := bbw BK1228 hb; replace BK1237 := bbw BK1237 hb; replace BK1238 := bbw BK1238 hb; replace BK1243 := bbw BK1243 hb; replace BK1244 := bbw BK1244 hb; clear HB; have HB := n0_; clear n0_; (try clear hb); have hnb200 := nn NB1238_1244 NB1244_1238; have hcz201_0 := hcz BK1238 0; have hcz201_1 := hcz BK1238 1; have hfz201_0 := bfz BK1238 0; have hfz201_1 := bfz BK1238 1; have hcz202_0 := hcz BK1244 0; have hcz202_1 := hcz BK1244 1; have hfz202_0 := bfz BK1244 0; have hfz202_1 := bfz BK1244 1) | (go_at_call 24; (with_reducible refine (itv_Leq.calls t1235 t1236 t1241 t1242 true _ A79.out).mono ?_); rintro e w203 ⟨rfl, hb⟩; have n0_ := bst HB hb; replace BK1225 := bbw BK1225 hb; replace BK1226 := bbw BK1226 hb; replace BK1227 := bbw BK1227 hb; replace BK1228 := bbw BK1228 hb; replace BK1237 := bbw BK1237 hb; replace BK1238 := bbw BK1238 hb; replace BK1243 := bbw BK1243 hb; replace BK1244 := bbw BK1244 hb; clear HB; have HB := n0_; clear n0_; (try clear hb)))
         go_meet
         case rel => exact ⟨_, (true), (by first | rfl | (simp; done) | (simp [*]; done)), H', ⟨by first | omega | exact Nat.le_refl _⟩, pkA BK1225, pkA BK1226, pkA BK1227, pkA BK1228, pkA BK1237, pkA BK1238, pkA BK1243, pkA BK1244, bpk HB⟩
       ·
        replace c81 := Bool.eq_false_iff.mpr c81
        subst c81
        have H1 : (if t1246 = true then (gimballaw02_ItvGrows.j0 k (!t1248) a0_0 a0_1 a1_0 a1_1 t1229 t1230 t1231 t1232) else (gimballaw02_ItvGrows.j0 k false a0_0 a0_1 a1_0 a1_1 t1229 t1230 t1231 t1232)) = some true := by rw [if_neg (show ¬ (false = true) by decide)] at H; exact H
        clear H
        have H := H1
        clear H1
        by_cases c204 : t1246 = true
        ·
         subst c204
         have H1 : (gimballaw02_ItvGrows.j0 k (!t1248) a0_0 a0_1 a1_0 a1_1 t1229 t1230 t1231 t1232) = some true := by rw [if_pos rfl] at H; exact H
         clear H
         have H := H1
         clear H1
         have H' := Aside0.mk H
         clear H
         have hnb205 := nn NB1225_1226 NB1226_1225
         have hnb206 := nn NB1225_1227 NB1227_1225
         have hnb207 := nn NB1225_1228 NB1228_1225
         have hnb208 := nn NB1225_1237 NB1237_1225
         have hnb209 := nn NB1225_1238 NB1238_1225
         have hnb210 := nn NB1225_1243 NB1243_1225
         have hnb211 := nn NB1225_1244 NB1244_1225
         have hcz212_0 := hcz BK1225 0
         have hcz212_1 := hcz BK1225 1
         have hfz212_0 := bfz BK1225 0
         have hfz212_1 := bfz BK1225 1
         have hnb213 := nn NB1227_1226 NB1226_1227
         have hnb214 := nn NB1227_1228 NB1228_1227
         have hnb215 := nn NB1227_1237 NB1237_1227
         have hnb216 := nn NB1227_1238 NB1238_1227
         have hnb217 := nn NB1227_1243 NB1243_1227
         have hnb218 := nn NB1227_1244 NB1244_1227
         have hcz219_0 := hcz BK1227 0
         have hcz219_1 := hcz BK1227 1
         have hfz219_0 := bfz BK1227 0
         have hfz219_1 := bfz BK1227 1
         go_wp2_with (first | ((with_reducible refine gate_callee (f := 24) rfl ?_); refine goesL_ (some 61) rfl rfl Try.func24 (by kernel_rfl) rfl #[.agg #[.int .i64 a0_0, .int .i64 a0_1], .agg #[.int .i64 t1229, .int .i64 t1230]] rfl (by (try simp only [List.map_toArray, List.map_cons, List.map_nil]); first | done | rfl | (simp only [List.length_drop, List.length_take]; rfl)) ?_; (with_reducible refine (itv_Leq.calls a0_0 a0_1 t1229 t1230 true _ A73.out).mono ?_); rintro e w220 ⟨rfl, hb⟩; refine ⟨_, rfl, ?_⟩; have n0_ := bst HB hb; replace BK1225 := bbw BK1225 hb; replace BK1226 := bbw BK1226 hb; replace BK1227 := bbw BK1227 hb; replace BK1228 := bbw BK1228 hb; replace BK1237 := bbw BK1237 hb; replace BK1238 := bbw BK1238 hb; replace BK1243 := bbw BK1243 hb; replace BK1244 := bbw BK1244 hb; clear HB; have HB := n0_; clear n0_; (try clear hb); have hnb221 := nn NB1226_1228 NB1228_1226; have hnb222 := nn NB1226_1237 NB1237_1226; have hnb223 := nn NB1226_1238 NB1238_1226; have hnb224 := nn NB1226_1243 NB1243_1226; have hnb225 := nn NB1226_1244 NB1244_1226; have hcz226_0 := hcz BK1226 0; have hcz226_1 := hcz BK1226 1; have hfz226_0 := bfz BK1226 0; have hfz226_1 := bfz BK1226 1; have hnb227 := nn NB1228_1237 NB1237_1228; have hnb228 := nn NB1228_1238 NB1238_1228; have hnb229 := nn NB1228_1243 NB1243_1228; have hnb230 := nn NB1228_1244 NB1244_1228; have hcz231_0 := hcz BK1228 0; have hcz231_1 := hcz BK1228 1; have hfz231_0 := bfz BK1228 0; have hfz231_1 := bfz BK1228 1) | (go_at_call 24; (with_reducible refine (itv_Leq.calls a1_0 a1_1 t1231 t1232 true _ A75.out).mono ?_); rintro e w232 ⟨rfl, hb⟩; have n0_ := bst HB hb; replace BK1225 := bbw BK1225 hb; replace BK1226 := bbw BK1226 hb; replace BK1227 := bbw BK1227 hb; replace BK1228 := bbw BK1228 hb; replace BK1237 := bbw BK1237 hb; replace BK1238 := bbw BK1238 hb; replace BK1243 := bbw BK1243 hb; replace BK1244 := bbw BK1244 hb; clear HB; have HB := n0_; clear n0_; (try clear hb); have hnb233 := nn NB1237_1238 NB1238_1237; have hnb234 := nn NB1237_1243 NB1243_1237; have hnb235 := nn NB1237_1244 NB1244_1237; have hcz236_0 := hcz BK1237 0; have hcz236_1 := hcz BK1237 1; have hfz236_0 := bfz BK1237 0; have hfz236_1 := bfz BK1237 1; have hnb237 := nn NB1243_1238 NB1238_1243; have hnb238 := nn NB1243_1244 NB1244_1243; have hcz239_0 := hcz BK1243 0; have hcz239_1 := hcz BK1243 1; have hfz239_0 := bfz BK1243 0; have hfz239_1 := bfz BK1243 1) | (go_at_call 24; (with_reducible refine (itv_Leq.calls t1233 t1234 t1239 t1240 true _ A77.out).mono ?_); rintro e w240 ⟨rfl, hb⟩; have n0_ := bst HB hb; replace BK1225 := bbw BK1225 hb; replace BK1226 := bbw BK1226 hb; replace BK1227 := bbw BK1227 hb; replace BK1228 := bbw BK1228 hb; replace BK1237 := bbw BK1237 hb; replace BK1238 := bbw BK1238 hb; replace BK1243 := bbw BK1243 hb; replace BK1244 := bbw BK1244 hb; clear HB; have HB := n0_; clear n0_; (try clear hb); have hnb241 := nn NB1238_1244 NB1244_1238; have hcz242_0 := hcz BK1238 0; have hcz242_1 := hcz BK1238 1; have hfz242_0 := bfz BK1238 0; have hfz242_1 := bfz BK1238 1; have hcz243_0 := hcz BK1244 0; have hcz243_1 := hcz BK1244 1; have hfz243_0 := bfz BK1244 0; have hfz243_1 := bfz BK1244 1) | (go_at_call 24; (with_reducible refine (itv_Leq.calls t1235 t1236 t1241 t1242 true _ A79.out).mono ?_); rintro e w244 ⟨rfl, hb⟩; have n0_ := bst HB hb; replace BK1225 := bbw BK1225 hb; replace BK1226 := bbw BK1226 hb; replace BK1227 := bbw BK1227 hb; replace BK1228 := bbw BK1228 hb; replace BK1237 := bbw BK1237 hb; replace BK1238 := bbw BK1238 hb; replace BK1243 := bbw BK1243 hb; replace BK1244 := bbw BK1244 hb; clear HB; have HB := n0_; clear n0_; (try clear hb)))
         go_meet
         case rel => exact ⟨_, (!t1248), (by first | rfl | (simp; done) | (simp [*]; done)), H', ⟨by first | omega | exact Nat.le_refl _⟩, pkA BK1225, pkA BK1226, pkA BK1227, pkA BK1228, pkA BK1237, pkA BK1238, pkA BK1243, pkA BK1244, bpk HB⟩
        ·
         replace c204 := Bool.eq_false_iff.mpr c204
         subst c204
         have H1 : (gimballaw02_ItvGrows.j0 k false a0_0 a0_1 a1_0 a1_1 t1229 t1230 t1231 t1232) = some true := by rw [if_neg (show ¬ (false = true) by decide)] at H; exact H
         clear H
         have H := H1
         clear H1
         have H' := Aside0.mk H
         clear H
         have hnb245 := nn NB1225_1226 NB1226_1225
         have hnb246 := nn NB1225_1227 NB1227_1225
         have hnb247 := nn NB1225_1228 NB1228_1225
         have hnb248 := nn NB1225_1237 NB1237_1225
         have hnb249 := nn NB1225_1238 NB1238_1225
         have hnb250 := nn NB1225_1243 NB1243_1225
         have hnb251 := nn NB1225_1244 NB1244_1225
         have hcz252_0 := hcz BK1225 0
         have hcz252_1 := hcz BK1225 1
         have hfz252_0 := bfz BK1225 0
         have hfz252_1 := bfz BK1225 1
         have hnb253 := nn NB1227_1226 NB1226_1227
         have hnb254 := nn NB1227_1228 NB1228_1227
         have hnb255 := nn NB1227_1237 NB1237_1227
         have hnb256 := nn NB1227_1238 NB1238_1227
         have hnb257 := nn NB1227_1243 NB1243_1227
         have hnb258 := nn NB1227_1244 NB1244_1227
         have hcz259_0 := hcz BK1227 0
         have hcz259_1 := hcz BK1227 1
         have hfz259_0 := bfz BK1227 0
         have hfz259_1 := bfz BK1227 1
         go_wp2_with (first | ((with_reducible refine gate_callee (f := 24) rfl ?_); refine goesL_ (some 61) rfl rfl Try.func24 (by kernel_rfl) rfl #[.agg #[.int .i64 a0_0, .int .i64 a0_1], .agg #[.int .i64 t1229, .int .i64 t1230]] rfl (by (try simp only [List.map_toArray, List.map_cons, List.map_nil]); first | done | rfl | (simp only [List.length_drop, List.length_take]; rfl)) ?_; (with_reducible refine (itv_Leq.calls a0_0 a0_1 t1229 t1230 true _ A73.out).mono ?_); rintro e w260 ⟨rfl, hb⟩; refine ⟨_, rfl, ?_⟩; have n0_ := bst HB hb; replace BK1225 := bbw BK1225 hb; replace BK1226 := bbw BK1226 hb; replace BK1227 := bbw BK1227 hb; replace BK1228 := bbw BK1228 hb; replace BK1237 := bbw BK1237 hb; replace BK1238 := bbw BK1238 hb; replace BK1243 := bbw BK1243 hb; replace BK1244 := bbw BK1244 hb; clear HB; have HB := n0_; clear n0_; (try clear hb); have hnb261 := nn NB1226_1228 NB1228_1226; have hnb262 := nn NB1226_1237 NB1237_1226; have hnb263 := nn NB1226_1238 NB1238_1226; have hnb264 := nn NB1226_1243 NB1243_1226; have hnb265 := nn NB1226_1244 NB1244_1226; have hcz266_0 := hcz BK1226 0; have hcz266_1 := hcz BK1226 1; have hfz266_0 := bfz BK1226 0; have hfz266_1 := bfz BK1226 1; have hnb267 := nn NB1228_1237 NB1237_1228; have hnb268 := nn NB1228_1238 NB1238_1228; have hnb269 := nn NB1228_1243 NB1243_1228; have hnb270 := nn NB1228_1244 NB1244_1228; have hcz271_0 := hcz BK1228 0; have hcz271_1 := hcz BK1228 1; have hfz271_0 := bfz BK1228 0; have hfz271_1 := bfz BK1228 1) | (go_at_call 24; (with_reducible refine (itv_Leq.calls a1_0 a1_1 t1231 t1232 true _ A75.out).mono ?_); rintro e w272 ⟨rfl, hb⟩; have n0_ := bst HB hb; replace BK1225 := bbw BK1225 hb; replace BK1226 := bbw BK1226 hb; replace BK1227 := bbw BK1227 hb; replace BK1228 := bbw BK1228 hb; replace BK1237 := bbw BK1237 hb; replace BK1238 := bbw BK1238 hb; replace BK1243 := bbw BK1243 hb; replace BK1244 := bbw BK1244 hb; clear HB; have HB := n0_; clear n0_; (try clear hb); have hnb273 := nn NB1237_1238 NB1238_1237; have hnb274 := nn NB1237_1243 NB1243_1237; have hnb275 := nn NB1237_1244 NB1244_1237; have hcz276_0 := hcz BK1237 0; have hcz276_1 := hcz BK1237 1; have hfz276_0 := bfz BK1237 0; have hfz276_1 := bfz BK1237 1; have hnb277 := nn NB1243_1238 NB1238_1243; have hnb278 := nn NB1243_1244 NB1244_1243; have hcz279_0 := hcz BK1243 0; have hcz279_1 := hcz BK1243 1; have hfz279_0 := bfz BK1243 0; have hfz279_1 := bfz BK1243 1) | (go_at_call 24; (with_reducible refine (itv_Leq.calls t1233 t1234 t1239 t1240 true _ A77.out).mono ?_); rintro e w280 ⟨rfl, hb⟩; have n0_ := bst HB hb; replace BK1225 := bbw BK1225 hb; replace BK1226 := bbw BK1226 hb; replace BK1227 := bbw BK1227 hb; replace BK1228 := bbw BK1228 hb; replace BK1237 := bbw BK1237 hb; replace BK1238 := bbw BK1238 hb; replace BK1243 := bbw BK1243 hb; replace BK1244 := bbw BK1244 hb; clear HB; have HB := n0_; clear n0_; (try clear hb); have hnb281 := nn NB1238_1244 NB1244_1238; have hcz282_0 := hcz BK1238 0; have hcz282_1 := hcz BK1238 1; have hfz282_0 := bfz BK1238 0; have hfz282_1 := bfz BK1238 1; have hcz283_0 := hcz BK1244 0; have hcz283_1 := hcz BK1244 1; have hfz283_0 := bfz BK1244 0; have hfz283_1 := bfz BK1244 1) | (go_at_call 24; (with_reducible refine (itv_Leq.calls t1235 t1236 t1241 t1242 true _ A79.out).mono ?_); rintro e w284 ⟨rfl, hb⟩; have n0_ := bst HB hb; replace BK1225 := bbw BK1225 hb; replace BK1226 := bbw BK1226 hb; replace BK1227 := bbw BK1227 hb; replace BK1228 := bbw BK1228 hb; replace BK1237 := bbw BK1237 hb; replace BK1238 := bbw BK1238 hb; replace BK1243 := bbw BK1243 hb; replace BK1244 := bbw BK1244 hb; clear HB; have HB := n0_; clear n0_; (try clear hb)))
         go_meet
         case rel => exact ⟨_, (false), (by first | rfl | (simp; done) | (simp [*]; done)), H', ⟨by first | omega | exact Nat.le_refl _⟩, pkA BK1225, pkA BK1226, pkA BK1227, pkA BK1228, pkA BK1237, pkA BK1238, pkA BK1243, pkA BK1244, bpk HB⟩
      ·
       replace c80 := Bool.eq_false_iff.mpr c80
       subst c80
       have H1 : (gimballaw02_ItvGrows.j0 k true a0_0 a0_1 a1_0 a1_1 t1229 t1230 t1231 t1232) = some true := by rw [if_neg (show ¬ (false = true) by decide)] at H; exact H
       clear H
       have H := H1
       clear H1
       have H' := Aside0.mk H
       clear H
       have hnb285 := nn NB1225_1226 NB1226_1225
       have hnb286 := nn NB1225_1227 NB1227_1225
       have hnb287 := nn NB1225_1228 NB1228_1225
       have hnb288 := nn NB1225_1237 NB1237_1225
       have hnb289 := nn NB1225_1238 NB1238_1225
       have hnb290 := nn NB1225_1243 NB1243_1225
       have hnb291 := nn NB1225_1244 NB1244_1225
       have hcz292_0 := hcz BK1225 0
       have hcz292_1 := hcz BK1225 1
       have hfz292_0 := bfz BK1225 0
       have hfz292_1 := bfz BK1225 1
       have hnb293 := nn NB1227_1226 NB1226_1227
       have hnb294 := nn NB1227_1228 NB1228_1227
       have hnb295 := nn NB1227_1237 NB1237_1227
       have hnb296 := nn NB1227_1238 NB1238_1227
       have hnb297 := nn NB1227_1243 NB1243_1227
       have hnb298 := nn NB1227_1244 NB1244_1227
       have hcz299_0 := hcz BK1227 0
       have hcz299_1 := hcz BK1227 1
       have hfz299_0 := bfz BK1227 0
       have hfz299_1 := bfz BK1227 1
       go_wp2_with (first | ((with_reducible refine gate_callee (f := 24) rfl ?_); refine goesL_ (some 61) rfl rfl Try.func24 (by kernel_rfl) rfl #[.agg #[.int .i64 a0_0, .int .i64 a0_1], .agg #[.int .i64 t1229, .int .i64 t1230]] rfl (by (try simp only [List.map_toArray, List.map_cons, List.map_nil]); first | done | rfl | (simp only [List.length_drop, List.length_take]; rfl)) ?_; (with_reducible refine (itv_Leq.calls a0_0 a0_1 t1229 t1230 true _ A73.out).mono ?_); rintro e w300 ⟨rfl, hb⟩; refine ⟨_, rfl, ?_⟩; have n0_ := bst HB hb; replace BK1225 := bbw BK1225 hb; replace BK1226 := bbw BK1226 hb; replace BK1227 := bbw BK1227 hb; replace BK1228 := bbw BK1228 hb; replace BK1237 := bbw BK1237 hb; replace BK1238 := bbw BK1238 hb; replace BK1243 := bbw BK1243 hb; replace BK1244 := bbw BK1244 hb; clear HB; have HB := n0_; clear n0_; (try clear hb); have hnb301 := nn NB1226_1228 NB1228_1226; have hnb302 := nn NB1226_1237 NB1237_1226; have hnb303 := nn NB1226_1238 NB1238_1226; have hnb304 := nn NB1226_1243 NB1243_1226; have hnb305 := nn NB1226_1244 NB1244_1226; have hcz306_0 := hcz BK1226 0; have hcz306_1 := hcz BK1226 1; have hfz306_0 := bfz BK1226 0; have hfz306_1 := bfz BK1226 1; have hnb307 := nn NB1228_1237 NB1237_1228; have hnb308 := nn NB1228_1238 NB1238_1228; have hnb309 := nn NB1228_1243 NB1243_1228; have hnb310 := nn NB1228_1244 NB1244_1228; have hcz311_0 := hcz BK1228 0; have hcz311_1 := hcz BK1228 1; have hfz311_0 := bfz BK1228 0; have hfz311_1 := bfz BK1228 1) | (go_at_call 24; (with_reducible refine (itv_Leq.calls a1_0 a1_1 t1231 t1232 true _ A75.out).mono ?_); rintro e w312 ⟨rfl, hb⟩; have n0_ := bst HB hb; replace BK1225 := bbw BK1225 hb; replace BK1226 := bbw BK1226 hb; replace BK1227 := bbw BK1227 hb; replace BK1228 := bbw BK1228 hb; replace BK1237 := bbw BK1237 hb; replace BK1238 := bbw BK1238 hb; replace BK1243 := bbw BK1243 hb; replace BK1244 := bbw BK1244 hb; clear HB; have HB := n0_; clear n0_; (try clear hb); have hnb313 := nn NB1237_1238 NB1238_1237; have hnb314 := nn NB1237_1243 NB1243_1237; have hnb315 := nn NB1237_1244 NB1244_1237; have hcz316_0 := hcz BK1237 0; have hcz316_1 := hcz BK1237 1; have hfz316_0 := bfz BK1237 0; have hfz316_1 := bfz BK1237 1; have hnb317 := nn NB1243_1238 NB1238_1243; have hnb318 := nn NB1243_1244 NB1244_1243; have hcz319_0 := hcz BK1243 0; have hcz319_1 := hcz BK1243 1; have hfz319_0 := bfz BK1243 0; have hfz319_1 := bfz BK1243 1) | (go_at_call 24; (with_reducible refine (itv_Leq.calls t1233 t1234 t1239 t1240 true _ A77.out).mono ?_); rintro e w320 ⟨rfl, hb⟩; have n0_ := bst HB hb; replace BK1225 := bbw BK1225 hb; replace BK1226 := bbw BK1226 hb; replace BK1227 := bbw BK1227 hb; replace BK1228 := bbw BK1228 hb; replace BK1237 := bbw BK1237 hb; replace BK1238 := bbw BK1238 hb; replace BK1243 := bbw BK1243 hb; replace BK1244 := bbw BK1244 hb; clear HB; have HB := n0_; clear n0_; (try clear hb); have hnb321 := nn NB1238_1244 NB1244_1238; have hcz322_0 := hcz BK1238 0; have hcz322_1 := hcz BK1238 1; have hfz322_0 := bfz BK1238 0; have hfz322_1 := bfz BK1238 1; have hcz323_0 := hcz BK1244 0; have hcz323_1 := hcz BK1244 1; have hfz323_0 := bfz BK1244 0; have hfz323_1 := bfz BK1244 1) | (go_at_call 24; (with_reducible refine (itv_Leq.calls t1235 t1236 t1241 t1242 false _ A79.out).mono ?_); rintro e w324 ⟨rfl, hb⟩; have n0_ := bst HB hb; replace BK1225 := bbw BK1225 hb; replace BK1226 := bbw BK1226 hb; replace BK1227 := bbw BK1227 hb; replace BK1228 := bbw BK1228 hb; replace BK1237 := bbw BK1237 hb; replace BK1238 := bbw BK1238 hb; replace BK1243 := bbw BK1243 hb; replace BK1244 := bbw BK1244 hb; clear HB; have HB := n0_; clear n0_; (try clear hb)))
       go_meet
       case rel => exact ⟨_, (true), (by first | rfl | (simp; done) | (simp [*]; done)), H', ⟨by first | omega | exact Nat.le_refl _⟩, pkA BK1225, pkA BK1226, pkA BK1227, pkA BK1228, pkA BK1237, pkA BK1238, pkA BK1243, pkA BK1244, bpk HB⟩
     ·
      replace c78 := Bool.eq_false_iff.mpr c78
      subst c78
      have H1 : (gimballaw02_ItvGrows.j0 k true a0_0 a0_1 a1_0 a1_1 t1229 t1230 t1231 t1232) = some true := by rw [if_neg (show ¬ (false = true) by decide)] at H; exact H
      clear H
      have H := H1
      clear H1
      have H' := Aside0.mk H
      clear H
      have hnb325 := nn NB1225_1226 NB1226_1225
      have hnb326 := nn NB1225_1227 NB1227_1225
      have hnb327 := nn NB1225_1228 NB1228_1225
      have hnb328 := nn NB1225_1237 NB1237_1225
      have hnb329 := nn NB1225_1238 NB1238_1225
      have hnb330 := nn NB1225_1243 NB1243_1225
      have hnb331 := nn NB1225_1244 NB1244_1225
      have hcz332_0 := hcz BK1225 0
      have hcz332_1 := hcz BK1225 1
      have hfz332_0 := bfz BK1225 0
      have hfz332_1 := bfz BK1225 1
      have hnb333 := nn NB1227_1226 NB1226_1227
      have hnb334 := nn NB1227_1228 NB1228_1227
      have hnb335 := nn NB1227_1237 NB1237_1227
      have hnb336 := nn NB1227_1238 NB1238_1227
      have hnb337 := nn NB1227_1243 NB1243_1227
      have hnb338 := nn NB1227_1244 NB1244_1227
      have hcz339_0 := hcz BK1227 0
      have hcz339_1 := hcz BK1227 1
      have hfz339_0 := bfz BK1227 0
      have hfz339_1 := bfz BK1227 1
      go_wp2_with (first | ((with_reducible refine gate_callee (f := 24) rfl ?_); refine goesL_ (some 61) rfl rfl Try.func24 (by kernel_rfl) rfl #[.agg #[.int .i64 a0_0, .int .i64 a0_1], .agg #[.int .i64 t1229, .int .i64 t1230]] rfl (by (try simp only [List.map_toArray, List.map_cons, List.map_nil]); first | done | rfl | (simp only [List.length_drop, List.length_take]; rfl)) ?_; (with_reducible refine (itv_Leq.calls a0_0 a0_1 t1229 t1230 true _ A73.out).mono ?_); rintro e w340 ⟨rfl, hb⟩; refine ⟨_, rfl, ?_⟩; have n0_ := bst HB hb; replace BK1225 := bbw BK1225 hb; replace BK1226 := bbw BK1226 hb; replace BK1227 := bbw BK1227 hb; replace BK1228 := bbw BK1228 hb; replace BK1237 := bbw BK1237 hb; replace BK1238 := bbw BK1238 hb; replace BK1243 := bbw BK1243 hb; replace BK1244 := bbw BK1244 hb; clear HB; have HB := n0_; clear n0_; (try clear hb); have hnb341 := nn NB1226_1228 NB1228_1226; have hnb342 := nn NB1226_1237 NB1237_1226; have hnb343 := nn NB1226_1238 NB1238_1226; have hnb344 := nn NB1226_1243 NB1243_1226; have hnb345 := nn NB1226_1244 NB1244_1226; have hcz346_0 := hcz BK1226 0; have hcz346_1 := hcz BK1226 1; have hfz346_0 := bfz BK1226 0; have hfz346_1 := bfz BK1226 1; have hnb347 := nn NB1228_1237 NB1237_1228; have hnb348 := nn NB1228_1238 NB1238_1228; have hnb349 := nn NB1228_1243 NB1243_1228; have hnb350 := nn NB1228_1244 NB1244_1228; have hcz351_0 := hcz BK1228 0; have hcz351_1 := hcz BK1228 1; have hfz351_0 := bfz BK1228 0; have hfz351_1 := bfz BK1228 1) | (go_at_call 24; (with_reducible refine (itv_Leq.calls a1_0 a1_1 t1231 t1232 true _ A75.out).mono ?_); rintro e w352 ⟨rfl, hb⟩; have n0_ := bst HB hb; replace BK1225 := bbw BK1225 hb; replace BK1226 := bbw BK1226 hb; replace BK1227 := bbw BK1227 hb; replace BK1228 := bbw BK1228 hb; replace BK1237 := bbw BK1237 hb; replace BK1238 := bbw BK1238 hb; replace BK1243 := bbw BK1243 hb; replace BK1244 := bbw BK1244 hb; clear HB; have HB := n0_; clear n0_; (try clear hb); have hnb353 := nn NB1237_1238 NB1238_1237; have hnb354 := nn NB1237_1243 NB1243_1237; have hnb355 := nn NB1237_1244 NB1244_1237; have hcz356_0 := hcz BK1237 0; have hcz356_1 := hcz BK1237 1; have hfz356_0 := bfz BK1237 0; have hfz356_1 := bfz BK1237 1; have hnb357 := nn NB1243_1238 NB1238_1243; have hnb358 := nn NB1243_1244 NB1244_1243; have hcz359_0 := hcz BK1243 0; have hcz359_1 := hcz BK1243 1; have hfz359_0 := bfz BK1243 0; have hfz359_1 := bfz BK1243 1) | (go_at_call 24; (with_reducible refine (itv_Leq.calls t1233 t1234 t1239 t1240 false _ A77.out).mono ?_); rintro e w360 ⟨rfl, hb⟩; have n0_ := bst HB hb; replace BK1225 := bbw BK1225 hb; replace BK1226 := bbw BK1226 hb; replace BK1227 := bbw BK1227 hb; replace BK1228 := bbw BK1228 hb; replace BK1237 := bbw BK1237 hb; replace BK1238 := bbw BK1238 hb; replace BK1243 := bbw BK1243 hb; replace BK1244 := bbw BK1244 hb; clear HB; have HB := n0_; clear n0_; (try clear hb)))
      go_meet
      case rel => exact ⟨_, (true), (by first | rfl | (simp; done) | (simp [*]; done)), H', ⟨by first | omega | exact Nat.le_refl _⟩, pkA BK1225, pkA BK1226, pkA BK1227, pkA BK1228, pkA BK1237, pkA BK1238, pkA BK1243, pkA BK1244, bpk HB⟩
    ·
     replace c76 := Bool.eq_false_iff.mpr c76
     subst c76
     have H1 : (gimballaw02_ItvGrows.j0 k true a0_0 a0_1 a1_0 a1_1 t1229 t1230 t1231 t1232) = some true := by rw [if_neg (show ¬ (false = true) by decide)] at H; exact H
     clear H
     have H := H1
     clear H1
     have H' := Aside0.mk H
     clear H
     have hnb361 := nn NB1225_1226 NB1226_1225
     have hnb362 := nn NB1225_1227 NB1227_1225
     have hnb363 := nn NB1225_1228 NB1228_1225
     have hnb364 := nn NB1225_1237 NB1237_1225
     have hnb365 := nn NB1225_1238 NB1238_1225
     have hnb366 := nn NB1225_1243 NB1243_1225
     have hnb367 := nn NB1225_1244 NB1244_1225
     have hcz368_0 := hcz BK1225 0
     have hcz368_1 := hcz BK1225 1
     have hfz368_0 := bfz BK1225 0
     have hfz368_1 := bfz BK1225 1
     have hnb369 := nn NB1227_1226 NB1226_1227
     have hnb370 := nn NB1227_1228 NB1228_1227
     have hnb371 := nn NB1227_1237 NB1237_1227
     have hnb372 := nn NB1227_1238 NB1238_1227
     have hnb373 := nn NB1227_1243 NB1243_1227
     have hnb374 := nn NB1227_1244 NB1244_1227
     have hcz375_0 := hcz BK1227 0
     have hcz375_1 := hcz BK1227 1
     have hfz375_0 := bfz BK1227 0
     have hfz375_1 := bfz BK1227 1
     go_wp2_with (first | ((with_reducible refine gate_callee (f := 24) rfl ?_); refine goesL_ (some 61) rfl rfl Try.func24 (by kernel_rfl) rfl #[.agg #[.int .i64 a0_0, .int .i64 a0_1], .agg #[.int .i64 t1229, .int .i64 t1230]] rfl (by (try simp only [List.map_toArray, List.map_cons, List.map_nil]); first | done | rfl | (simp only [List.length_drop, List.length_take]; rfl)) ?_; (with_reducible refine (itv_Leq.calls a0_0 a0_1 t1229 t1230 true _ A73.out).mono ?_); rintro e w376 ⟨rfl, hb⟩; refine ⟨_, rfl, ?_⟩; have n0_ := bst HB hb; replace BK1225 := bbw BK1225 hb; replace BK1226 := bbw BK1226 hb; replace BK1227 := bbw BK1227 hb; replace BK1228 := bbw BK1228 hb; replace BK1237 := bbw BK1237 hb; replace BK1238 := bbw BK1238 hb; replace BK1243 := bbw BK1243 hb; replace BK1244 := bbw BK1244 hb; clear HB; have HB := n0_; clear n0_; (try clear hb); have hnb377 := nn NB1226_1228 NB1228_1226; have hnb378 := nn NB1226_1237 NB1237_1226; have hnb379 := nn NB1226_1238 NB1238_1226; have hnb380 := nn NB1226_1243 NB1243_1226; have hnb381 := nn NB1226_1244 NB1244_1226; have hcz382_0 := hcz BK1226 0; have hcz382_1 := hcz BK1226 1; have hfz382_0 := bfz BK1226 0; have hfz382_1 := bfz BK1226 1; have hnb383 := nn NB1228_1237 NB1237_1228; have hnb384 := nn NB1228_1238 NB1238_1228; have hnb385 := nn NB1228_1243 NB1243_1228; have hnb386 := nn NB1228_1244 NB1244_1228; have hcz387_0 := hcz BK1228 0; have hcz387_1 := hcz BK1228 1; have hfz387_0 := bfz BK1228 0; have hfz387_1 := bfz BK1228 1) | (go_at_call 24; (with_reducible refine (itv_Leq.calls a1_0 a1_1 t1231 t1232 false _ A75.out).mono ?_); rintro e w388 ⟨rfl, hb⟩; have n0_ := bst HB hb; replace BK1225 := bbw BK1225 hb; replace BK1226 := bbw BK1226 hb; replace BK1227 := bbw BK1227 hb; replace BK1228 := bbw BK1228 hb; replace BK1237 := bbw BK1237 hb; replace BK1238 := bbw BK1238 hb; replace BK1243 := bbw BK1243 hb; replace BK1244 := bbw BK1244 hb; clear HB; have HB := n0_; clear n0_; (try clear hb)))
     go_meet
     case rel => exact ⟨_, (true), (by first | rfl | (simp; done) | (simp [*]; done)), H', ⟨by first | omega | exact Nat.le_refl _⟩, pkA BK1225, pkA BK1226, pkA BK1227, pkA BK1228, pkA BK1237, pkA BK1238, pkA BK1243, pkA BK1244, bpk HB⟩
   ·
    replace c74 := Bool.eq_false_iff.mpr c74
    subst c74
    have H1 : (gimballaw02_ItvGrows.j0 k true a0_0 a0_1 a1_0 a1_1 t1229 t1230 t1231 t1232) = some true := by rw [if_neg (show ¬ (false = true) by decide)] at H; exact H
    clear H
    have H := H1
    clear H1
    have H' := Aside0.mk H
    clear H
    have hnb389 := nn NB1225_1226 NB1226_1225
    have hnb390 := nn NB1225_1227 NB1227_1225
    have hnb391 := nn NB1225_1228 NB1228_1225
    have hnb392 := nn NB1225_1237 NB1237_1225
    have hnb393 := nn NB1225_1238 NB1238_1225
    have hnb394 := nn NB1225_1243 NB1243_1225
    have hnb395 := nn NB1225_1244 NB1244_1225
    have hcz396_0 := hcz BK1225 0
    have hcz396_1 := hcz BK1225 1
    have hfz396_0 := bfz BK1225 0
    have hfz396_1 := bfz BK1225 1
    have hnb397 := nn NB1227_1226 NB1226_1227
    have hnb398 := nn NB1227_1228 NB1228_1227
    have hnb399 := nn NB1227_1237 NB1237_1227
    have hnb400 := nn NB1227_1238 NB1238_1227
    have hnb401 := nn NB1227_1243 NB1243_1227
    have hnb402 := nn NB1227_1244 NB1244_1227
    have hcz403_0 := hcz BK1227 0
    have hcz403_1 := hcz BK1227 1
    have hfz403_0 := bfz BK1227 0
    have hfz403_1 := bfz BK1227 1
    go_wp2_with (first | ((with_reducible refine gate_callee (f := 24) rfl ?_); refine goesL_ (some 61) rfl rfl Try.func24 (by kernel_rfl) rfl #[.agg #[.int .i64 a0_0, .int .i64 a0_1], .agg #[.int .i64 t1229, .int .i64 t1230]] rfl (by (try simp only [List.map_toArray, List.map_cons, List.map_nil]); first | done | rfl | (simp only [List.length_drop, List.length_take]; rfl)) ?_; (with_reducible refine (itv_Leq.calls a0_0 a0_1 t1229 t1230 false _ A73.out).mono ?_); rintro e w404 ⟨rfl, hb⟩; refine ⟨_, rfl, ?_⟩; have n0_ := bst HB hb; replace BK1225 := bbw BK1225 hb; replace BK1226 := bbw BK1226 hb; replace BK1227 := bbw BK1227 hb; replace BK1228 := bbw BK1228 hb; replace BK1237 := bbw BK1237 hb; replace BK1238 := bbw BK1238 hb; replace BK1243 := bbw BK1243 hb; replace BK1244 := bbw BK1244 hb; clear HB; have HB := n0_; clear n0_; (try clear hb)))
    go_meet
    case rel => exact ⟨_, (true), (by first | rfl | (simp; done) | (simp [*]; done)), H', ⟨by first | omega | exact Nat.le_refl _⟩, pkA BK1225, pkA BK1226, pkA BK1227, pkA BK1228, pkA BK1237, pkA BK1238, pkA BK1243, pkA BK1244, bpk HB⟩
  case rest =>
   clear HC12
   try clear c1
   try clear c2
   try clear p2
   try clear c3
   try clear c4
   try clear c5
   try clear c6
   try clear p6
   try clear c7
   try clear c8
   try clear c9
   try clear c10
   try clear c11
   try clear c12
   try clear c13
   try clear c14
   try clear c15
   try clear c16
   try clear c17
   try clear c18
   try clear c19
   try clear c20
   try clear c21
   try clear c22
   try clear c23
   try clear c24
   try clear c25
   try clear c26
   try clear c27
   try clear c28
   try clear c29
   try clear c30
   try clear c31
   try clear c32
   try clear c33
   try clear c34
   try clear c35
   try clear c36
   try clear c37
   try clear c38
   try clear c39
   try clear c40
   try clear c42
   try clear c43
   try clear c44
   try clear c45
   try clear c52
   try clear c53
   try clear c54
   try clear c55
   try clear c56
   try clear c57
   try clear c58
   try clear c60
   try clear c61
   try clear c62
   try clear c63
   try clear c64
   try clear p64
   try clear c65
   try clear c74
   try clear c76
   try clear c78
   try clear c80
   try clear c81
   try clear c82
   try clear c83
   try clear c84
   try clear c85
   try clear c86
   try clear c87
   try clear c88
   try clear c89
   try clear c90
   try clear c92
   try clear c93
   try clear c94
   try clear c95
   try clear c96
   try clear c97
   try clear c100
   try clear c101
   try clear c102
   try clear c103
   try clear c104
   try clear c106
   try clear c107
   try clear c108
   try clear c109
   try clear c112
   try clear c113
   try clear c114
   try clear c116
   try clear c117
   try clear c120
   try clear c124
   try clear c125
   try clear c126
   try clear c127
   try clear c128
   try clear c129
   try clear c130
   try clear c132
   try clear c133
   try clear c134
   try clear c135
   try clear c136
   try clear c137
   try clear c140
   try clear c141
   try clear c142
   try clear c143
   try clear c144
   try clear c146
   try clear c147
   try clear c148
   try clear c149
   try clear c152
   try clear c153
   try clear c154
   try clear c156
   try clear c157
   try clear c160
   try clear c164
   try clear c165
   try clear c166
   try clear c167
   try clear c168
   try clear c169
   try clear c170
   try clear c172
   try clear c173
   try clear c174
   try clear c175
   try clear c176
   try clear c177
   try clear c180
   try clear c181
   try clear c182
   try clear c183
   try clear c184
   try clear c186
   try clear c187
   try clear c188
   try clear c189
   try clear c192
   try clear c193
   try clear c194
   try clear c196
   try clear c197
   try clear c200
   try clear c204
   try clear c205
   try clear c206
   try clear c207
   try clear c208
   try clear c209
   try clear c210
   try clear c211
   try clear c213
   try clear c214
   try clear c215
   try clear c216
   try clear c217
   try clear c218
   try clear c221
   try clear c222
   try clear c223
   try clear c224
   try clear c225
   try clear c227
   try clear c228
   try clear c229
   try clear c230
   try clear c233
   try clear c234
   try clear c235
   try clear c237
   try clear c238
   try clear c241
   try clear c245
   try clear c246
   try clear c247
   try clear c248
   try clear c249
   try clear c250
   try clear c251
   try clear c253
   try clear c254
   try clear c255
   try clear c256
   try clear c257
   try clear c258
   try clear c261
   try clear c262
   try clear c263
   try clear c264
   try clear c265
   try clear c267
   try clear c268
   try clear c269
   try clear c270
   try clear c273
   try clear c274
   try clear c275
   try clear c277
   try clear c278
   try clear c281
   try clear c285
   try clear c286
   try clear c287
   try clear c288
   try clear c289
   try clear c290
   try clear c291
   try clear c293
   try clear c294
   try clear c295
   try clear c296
   try clear c297
   try clear c298
   try clear c301
   try clear c302
   try clear c303
   try clear c304
   try clear c305
   try clear c307
   try clear c308
   try clear c309
   try clear c310
   try clear c313
   try clear c314
   try clear c315
   try clear c317
   try clear c318
   try clear c321
   try clear c325
   try clear c326
   try clear c327
   try clear c328
   try clear c329
   try clear c330
   try clear c331
   try clear c333
   try clear c334
   try clear c335
   try clear c336
   try clear c337
   try clear c338
   try clear c341
   try clear c342
   try clear c343
   try clear c344
   try clear c345
   try clear c347
   try clear c348
   try clear c349
   try clear c350
   try clear c353
   try clear c354
   try clear c355
   try clear c357
   try clear c358
   try clear c361
   try clear c362
   try clear c363
   try clear c364
   try clear c365
   try clear c366
   try clear c367
   try clear c369
   try clear c370
   try clear c371
   try clear c372
   try clear c373
   try clear c374
   try clear c377
   try clear c378
   try clear c379
   try clear c380
   try clear c381
   try clear c383
   try clear c384
   try clear c385
   try clear c386
   try clear c389
   try clear c390
   try clear c391
   try clear c392
   try clear c393
   try clear c394
   try clear c395
   try clear c397
   try clear c398
   try clear c399
   try clear c400
   try clear c401
   try clear c402
   try clear hcz105_0
   try clear hcz105_1
   try clear hcz110_0
   try clear hcz110_1
   try clear hcz115_0
   try clear hcz115_1
   try clear hcz118_0
   try clear hcz118_1
   try clear hcz121_0
   try clear hcz121_1
   try clear hcz122_0
   try clear hcz122_1
   try clear hcz131_0
   try clear hcz131_1
   try clear hcz138_0
   try clear hcz138_1
   try clear hcz145_0
   try clear hcz145_1
   try clear hcz150_0
   try clear hcz150_1
   try clear hcz155_0
   try clear hcz155_1
   try clear hcz158_0
   try clear hcz158_1
   try clear hcz161_0
   try clear hcz161_1
   try clear hcz162_0
   try clear hcz162_1
   try clear hcz171_0
   try clear hcz171_1
   try clear hcz178_0
   try clear hcz178_1
   try clear hcz185_0
   try clear hcz185_1
   try clear hcz190_0
   try clear hcz190_1
   try clear hcz195_0
   try clear hcz195_1
   try clear hcz198_0
   try clear hcz198_1
   try clear hcz201_0
   try clear hcz201_1
   try clear hcz202_0
   try clear hcz202_1
   try clear hcz20_0
   try clear hcz20_1
   try clear hcz212_0
   try clear hcz212_1
   try clear hcz219_0
   try clear hcz219_1
   try clear hcz226_0
   try clear hcz226_1
   try clear hcz231_0
   try clear hcz231_1
   try clear hcz236_0
   try clear hcz236_1
   try clear hcz239_0
   try clear hcz239_1
   try clear hcz23_0
   try clear hcz23_1
   try clear hcz242_0
   try clear hcz242_1
   try clear hcz243_0
   try clear hcz243_1
   try clear hcz252_0
   try clear hcz252_1
   try clear hcz259_0
   try clear hcz259_1
   try clear hcz25_0
   try clear hcz25_1
   try clear hcz266_0
   try clear hcz266_1
   try clear hcz271_0
   try clear hcz271_1
   try clear hcz276_0
   try clear hcz276_1
   try clear hcz279_0
   try clear hcz279_1
   try clear hcz27_0
   try clear hcz27_1
   try clear hcz282_0
   try clear hcz282_1
   try clear hcz283_0
   try clear hcz283_1
   try clear hcz28_0
   try clear hcz28_1
   try clear hcz292_0
   try clear hcz292_1
   try clear hcz299_0
   try clear hcz299_1
   try clear hcz306_0
   try clear hcz306_1
   try clear hcz30_0
   try clear hcz30_1
   try clear hcz311_0
   try clear hcz311_1
   try clear hcz316_0
   try clear hcz316_1
   try clear hcz319_0
   try clear hcz319_1
   try clear hcz31_0
   try clear hcz31_1
   try clear hcz322_0
   try clear hcz322_1
   try clear hcz323_0
   try clear hcz323_1
   try clear hcz32_0
   try clear hcz32_1
   try clear hcz332_0
   try clear hcz332_1
   try clear hcz339_0
   try clear hcz339_1
   try clear hcz346_0
   try clear hcz346_1
   try clear hcz351_0
   try clear hcz351_1
   try clear hcz356_0
   try clear hcz356_1
   try clear hcz359_0
   try clear hcz359_1
   try clear hcz368_0
   try clear hcz368_1
   try clear hcz375_0
   try clear hcz375_1
   try clear hcz382_0
   try clear hcz382_1
   try clear hcz387_0
   try clear hcz387_1
   try clear hcz396_0
   try clear hcz396_1
   try clear hcz403_0
   try clear hcz403_1
   try clear hcz41_0
   try clear hcz41_1
   try clear hcz46_0
   try clear hcz46_1
   try clear hcz47_0
   try clear hcz47_1
   try clear hcz48_0
   try clear hcz48_1
   try clear hcz59_0
   try clear hcz59_1
   try clear hcz66_0
   try clear hcz66_1
   try clear hcz67_0
   try clear hcz67_1
   try clear hcz68_0
   try clear hcz68_1
   try clear hcz70_0
   try clear hcz70_1
   try clear hcz71_0
   try clear hcz71_1
   try clear hcz91_0
   try clear hcz91_1
   try clear hcz98_0
   try clear hcz98_1
   try clear hfz105_0
   try clear hfz105_1
   try clear hfz110_0
   try clear hfz110_1
   try clear hfz115_0
   try clear hfz115_1
   try clear hfz118_0
   try clear hfz118_1
   try clear hfz121_0
   try clear hfz121_1
   try clear hfz122_0
   try clear hfz122_1
   try clear hfz131_0
   try clear hfz131_1
   try clear hfz138_0
   try clear hfz138_1
   try clear hfz145_0
   try clear hfz145_1
   try clear hfz150_0
   try clear hfz150_1
   try clear hfz155_0
   try clear hfz155_1
   try clear hfz158_0
   try clear hfz158_1
   try clear hfz161_0
   try clear hfz161_1
   try clear hfz162_0
   try clear hfz162_1
   try clear hfz171_0
   try clear hfz171_1
   try clear hfz178_0
   try clear hfz178_1
   try clear hfz185_0
   try clear hfz185_1
   try clear hfz190_0
   try clear hfz190_1
   try clear hfz195_0
   try clear hfz195_1
   try clear hfz198_0
   try clear hfz198_1
   try clear hfz201_0
   try clear hfz201_1
   try clear hfz202_0
   try clear hfz202_1
   try clear hfz20_0
   try clear hfz20_1
   try clear hfz212_0
   try clear hfz212_1
   try clear hfz219_0
   try clear hfz219_1
   try clear hfz226_0
   try clear hfz226_1
   try clear hfz231_0
   try clear hfz231_1
   try clear hfz236_0
   try clear hfz236_1
   try clear hfz239_0
   try clear hfz239_1
   try clear hfz23_0
   try clear hfz23_1
   try clear hfz242_0
   try clear hfz242_1
   try clear hfz243_0
   try clear hfz243_1
   try clear hfz252_0
   try clear hfz252_1
   try clear hfz259_0
   try clear hfz259_1
   try clear hfz25_0
   try clear hfz25_1
   try clear hfz266_0
   try clear hfz266_1
   try clear hfz271_0
   try clear hfz271_1
   try clear hfz276_0
   try clear hfz276_1
   try clear hfz279_0
   try clear hfz279_1
   try clear hfz27_0
   try clear hfz27_1
   try clear hfz282_0
   try clear hfz282_1
   try clear hfz283_0
   try clear hfz283_1
   try clear hfz28_0
   try clear hfz28_1
   try clear hfz292_0
   try clear hfz292_1
   try clear hfz299_0
   try clear hfz299_1
   try clear hfz306_0
   try clear hfz306_1
   try clear hfz30_0
   try clear hfz30_1
   try clear hfz311_0
   try clear hfz311_1
   try clear hfz316_0
   try clear hfz316_1
   try clear hfz319_0
   try clear hfz319_1
   try clear hfz31_0
   try clear hfz31_1
   try clear hfz322_0
   try clear hfz322_1
   try clear hfz323_0
   try clear hfz323_1
   try clear hfz32_0
   try clear hfz32_1
   try clear hfz332_0
   try clear hfz332_1
   try clear hfz339_0
   try clear hfz339_1
   try clear hfz346_0
   try clear hfz346_1
   try clear hfz351_0
   try clear hfz351_1
   try clear hfz356_0
   try clear hfz356_1
   try clear hfz359_0
   try clear hfz359_1
   try clear hfz368_0
   try clear hfz368_1
   try clear hfz375_0
   try clear hfz375_1
   try clear hfz382_0
   try clear hfz382_1
   try clear hfz387_0
   try clear hfz387_1
   try clear hfz396_0
   try clear hfz396_1
   try clear hfz403_0
   try clear hfz403_1
   try clear hfz41_0
   try clear hfz41_1
   try clear hfz46_0
   try clear hfz46_1
   try clear hfz47_0
   try clear hfz47_1
   try clear hfz48_0
   try clear hfz48_1
   try clear hfz59_0
   try clear hfz59_1
   try clear hfz66_0
   try clear hfz66_1
   try clear hfz67_0
   try clear hfz67_1
   try clear hfz68_0
   try clear hfz68_1
   try clear hfz70_0
   try clear hfz70_1
   try clear hfz71_0
   try clear hfz71_1
   try clear hfz91_0
   try clear hfz91_1
   try clear hfz98_0
   try clear hfz98_1
   obtain ⟨kq, x94_11, rfl, HA, HJ11, BK1225, BK1226, BK1227, BK1228, BK1237, BK1238, BK1243, BK1244, HB⟩ := hcut
   cases kq with
   | zero => exact absurd HA.out (by simp [gimballaw02_ItvGrows.j0])
   | succ kj11 =>
    have H := HA.out
    clear HA
    simp only [gimballaw02_ItvGrows.j0] at H
    by_cases c405 : x94_11 = true
    ·
     subst c405
     have H1 : (some false) = some true := by rw [if_pos rfl] at H; exact H
     clear H
     have H := H1
     clear H1
     exact absurd H (by simp)
    ·
     replace c405 := Bool.eq_false_iff.mpr c405
     subst c405
     have H1 : ((itv_Add.f kj11 a0_0 a0_1 a1_0 a1_1).bind fun bt1253 => ((itv_Add.f kj11 t1229 t1230 t1231 t1232).bind fun bt1255 => ((itv_Leq.f bt1253.1 bt1253.2 bt1255.1 bt1255.2).bind fun t1257 => (if t1257 = true then ((itv_Sub.f kj11 a0_0 a0_1 a1_0 a1_1).bind fun bt1258 => ((itv_Sub.f kj11 t1229 t1230 t1231 t1232).bind fun bt1260 => ((itv_Leq.f bt1258.1 bt1258.2 bt1260.1 bt1260.2).bind fun t1262 => (if t1262 = true then ((itv_Mul.f kj11 a0_0 a0_1 a1_0 a1_1).bind fun bt1263 => ((itv_Mul.f kj11 t1229 t1230 t1231 t1232).bind fun bt1265 => ((itv_Leq.f bt1263.1 bt1263.2 bt1265.1 bt1265.2).bind fun t1267 => (if t1267 = true then ((itv_Div.f kj11 a0_0 a0_1 a1_0 a1_1).bind fun bt1268 => ((itv_Div.f kj11 t1229 t1230 t1231 t1232).bind fun bt1270 => ((itv_Leq.f bt1268.1 bt1268.2 bt1270.1 bt1270.2).bind fun t1272 => (if t1272 = true then ((itv_Mod.f kj11 a0_0 a0_1 a1_0 a1_1).bind fun bt1273 => ((itv_Mod.f kj11 t1229 t1230 t1231 t1232).bind fun bt1275 => ((itv_Leq.f bt1273.1 bt1273.2 bt1275.1 bt1275.2).bind fun t1277 => (if t1277 = true then ((itv_Neg.f a0_0 a0_1).bind fun bt1278 => ((itv_Neg.f t1229 t1230).bind fun bt1280 => ((itv_Leq.f bt1278.1 bt1278.2 bt1280.1 bt1280.2).bind fun t1282 => (if t1282 = true then ((itv_Abs.f kj11 a0_0 a0_1).bind fun bt1283 => ((itv_Abs.f kj11 t1229 t1230).bind fun bt1285 => ((itv_Leq.f bt1283.1 bt1283.2 bt1285.1 bt1285.2).bind fun t1287 => (if t1287 = true then ((itv_Min.f kj11 a0_0 a0_1 a1_0 a1_1).bind fun bt1288 => ((itv_Min.f kj11 t1229 t1230 t1231 t1232).bind fun bt1290 => ((itv_Leq.f bt1288.1 bt1288.2 bt1290.1 bt1290.2).bind fun t1292 => (if t1292 = true then ((itv_Max.f kj11 a0_0 a0_1 a1_0 a1_1).bind fun bt1293 => ((itv_Max.f kj11 t1229 t1230 t1231 t1232).bind fun bt1295 => ((itv_Leq.f bt1293.1 bt1293.2 bt1295.1 bt1295.2).bind fun t1297 => (if t1297 = true then ((itv_Meet.f kj11 a0_0 a0_1 a1_0 a1_1).bind fun bt1298 => ((itv_Meet.f kj11 t1229 t1230 t1231 t1232).bind fun bt1300 => ((itv_Leq.f bt1298.1 bt1298.2 bt1300.1 bt1300.2).bind fun t1302 => (if t1302 = true then ((gimballaw02_awake.f kj11).bind fun t1303 => (some t1303)) else (some false))))) else (some false))))) else (some false))))) else (some false))))) else (some false))))) else (some false))))) else (some false))))) else (some false))))) else (some false))))) else (some false))))) = some true := by rw [if_neg (show ¬ (false = true) by decide)] at H; exact H
     clear H
     have H := H1
     clear H1
     replace H := bnH H
     obtain ⟨⟨t1253, t1254⟩, A4060, H⟩ := H
     replace H : ((itv_Add.f kj11 t1229 t1230 t1231 t1232).bind fun bt1255 => ((itv_Leq.f t1253 t1254 bt1255.1 bt1255.2).bind fun t1257 => (if t1257 = true then ((itv_Sub.f kj11 a0_0 a0_1 a1_0 a1_1).bind fun bt1258 => ((itv_Sub.f kj11 t1229 t1230 t1231 t1232).bind fun bt1260 => ((itv_Leq.f bt1258.1 bt1258.2 bt1260.1 bt1260.2).bind fun t1262 => (if t1262 = true then ((itv_Mul.f kj11 a0_0 a0_1 a1_0 a1_1).bind fun bt1263 => ((itv_Mul.f kj11 t1229 t1230 t1231 t1232).bind fun bt1265 => ((itv_Leq.f bt1263.1 bt1263.2 bt1265.1 bt1265.2).bind fun t1267 => (if t1267 = true then ((itv_Div.f kj11 a0_0 a0_1 a1_0 a1_1).bind fun bt1268 => ((itv_Div.f kj11 t1229 t1230 t1231 t1232).bind fun bt1270 => ((itv_Leq.f bt1268.1 bt1268.2 bt1270.1 bt1270.2).bind fun t1272 => (if t1272 = true then ((itv_Mod.f kj11 a0_0 a0_1 a1_0 a1_1).bind fun bt1273 => ((itv_Mod.f kj11 t1229 t1230 t1231 t1232).bind fun bt1275 => ((itv_Leq.f bt1273.1 bt1273.2 bt1275.1 bt1275.2).bind fun t1277 => (if t1277 = true then ((itv_Neg.f a0_0 a0_1).bind fun bt1278 => ((itv_Neg.f t1229 t1230).bind fun bt1280 => ((itv_Leq.f bt1278.1 bt1278.2 bt1280.1 bt1280.2).bind fun t1282 => (if t1282 = true then ((itv_Abs.f kj11 a0_0 a0_1).bind fun bt1283 => ((itv_Abs.f kj11 t1229 t1230).bind fun bt1285 => ((itv_Leq.f bt1283.1 bt1283.2 bt1285.1 bt1285.2).bind fun t1287 => (if t1287 = true then ((itv_Min.f kj11 a0_0 a0_1 a1_0 a1_1).bind fun bt1288 => ((itv_Min.f kj11 t1229 t1230 t1231 t1232).bind fun bt1290 => ((itv_Leq.f bt1288.1 bt1288.2 bt1290.1 bt1290.2).bind fun t1292 => (if t1292 = true then ((itv_Max.f kj11 a0_0 a0_1 a1_0 a1_1).bind fun bt1293 => ((itv_Max.f kj11 t1229 t1230 t1231 t1232).bind fun bt1295 => ((itv_Leq.f bt1293.1 bt1293.2 bt1295.1 bt1295.2).bind fun t1297 => (if t1297 = true then ((itv_Meet.f kj11 a0_0 a0_1 a1_0 a1_1).bind fun bt1298 => ((itv_Meet.f kj11 t1229 t1230 t1231 t1232).bind fun bt1300 => ((itv_Leq.f bt1298.1 bt1298.2 bt1300.1 bt1300.2).bind fun t1302 => (if t1302 = true then ((gimballaw02_awake.f kj11).bind fun t1303 => (some t1303)) else (some false))))) else (some false))))) else (some false))))) else (some false))))) else (some false))))) else (some false))))) else (some false))))) else (some false))))) else (some false))))) else (some false)))) = some true := H
     have A406 := Aside0.mk A4060
     clear A4060
     replace H := bnH H
     obtain ⟨⟨t1255, t1256⟩, A4070, H⟩ := H
     replace H : ((itv_Leq.f t1253 t1254 t1255 t1256).bind fun t1257 => (if t1257 = true then ((itv_Sub.f kj11 a0_0 a0_1 a1_0 a1_1).bind fun bt1258 => ((itv_Sub.f kj11 t1229 t1230 t1231 t1232).bind fun bt1260 => ((itv_Leq.f bt1258.1 bt1258.2 bt1260.1 bt1260.2).bind fun t1262 => (if t1262 = true then ((itv_Mul.f kj11 a0_0 a0_1 a1_0 a1_1).bind fun bt1263 => ((itv_Mul.f kj11 t1229 t1230 t1231 t1232).bind fun bt1265 => ((itv_Leq.f bt1263.1 bt1263.2 bt1265.1 bt1265.2).bind fun t1267 => (if t1267 = true then ((itv_Div.f kj11 a0_0 a0_1 a1_0 a1_1).bind fun bt1268 => ((itv_Div.f kj11 t1229 t1230 t1231 t1232).bind fun bt1270 => ((itv_Leq.f bt1268.1 bt1268.2 bt1270.1 bt1270.2).bind fun t1272 => (if t1272 = true then ((itv_Mod.f kj11 a0_0 a0_1 a1_0 a1_1).bind fun bt1273 => ((itv_Mod.f kj11 t1229 t1230 t1231 t1232).bind fun bt1275 => ((itv_Leq.f bt1273.1 bt1273.2 bt1275.1 bt1275.2).bind fun t1277 => (if t1277 = true then ((itv_Neg.f a0_0 a0_1).bind fun bt1278 => ((itv_Neg.f t1229 t1230).bind fun bt1280 => ((itv_Leq.f bt1278.1 bt1278.2 bt1280.1 bt1280.2).bind fun t1282 => (if t1282 = true then ((itv_Abs.f kj11 a0_0 a0_1).bind fun bt1283 => ((itv_Abs.f kj11 t1229 t1230).bind fun bt1285 => ((itv_Leq.f bt1283.1 bt1283.2 bt1285.1 bt1285.2).bind fun t1287 => (if t1287 = true then ((itv_Min.f kj11 a0_0 a0_1 a1_0 a1_1).bind fun bt1288 => ((itv_Min.f kj11 t1229 t1230 t1231 t1232).bind fun bt1290 => ((itv_Leq.f bt1288.1 bt1288.2 bt1290.1 bt1290.2).bind fun t1292 => (if t1292 = true then ((itv_Max.f kj11 a0_0 a0_1 a1_0 a1_1).bind fun bt1293 => ((itv_Max.f kj11 t1229 t1230 t1231 t1232).bind fun bt1295 => ((itv_Leq.f bt1293.1 bt1293.2 bt1295.1 bt1295.2).bind fun t1297 => (if t1297 = true then ((itv_Meet.f kj11 a0_0 a0_1 a1_0 a1_1).bind fun bt1298 => ((itv_Meet.f kj11 t1229 t1230 t1231 t1232).bind fun bt1300 => ((itv_Leq.f bt1298.1 bt1298.2 bt1300.1 bt1300.2).bind fun t1302 => (if t1302 = true then ((gimballaw02_awake.f kj11).bind fun t1303 => (some t1303)) else (some false))))) else (some false))))) else (some false))))) else (some false))))) else (some false))))) else (some false))))) else (some false))))) else (some false))))) else (some false))))) else (some false))) = some true := H
     have A407 := Aside0.mk A4070
     clear A4070
     replace H := bnH H
     obtain ⟨t1257, A4080, H⟩ := H
     replace H : (if t1257 = true then ((itv_Sub.f kj11 a0_0 a0_1 a1_0 a1_1).bind fun bt1258 => ((itv_Sub.f kj11 t1229 t1230 t1231 t1232).bind fun bt1260 => ((itv_Leq.f bt1258.1 bt1258.2 bt1260.1 bt1260.2).bind fun t1262 => (if t1262 = true then ((itv_Mul.f kj11 a0_0 a0_1 a1_0 a1_1).bind fun bt1263 => ((itv_Mul.f kj11 t1229 t1230 t1231 t1232).bind fun bt1265 => ((itv_Leq.f bt1263.1 bt1263.2 bt1265.1 bt1265.2).bind fun t1267 => (if t1267 = true then ((itv_Div.f kj11 a0_0 a0_1 a1_0 a1_1).bind fun bt1268 => ((itv_Div.f kj11 t1229 t1230 t1231 t1232).bind fun bt1270 => ((itv_Leq.f bt1268.1 bt1268.2 bt1270.1 bt1270.2).bind fun t1272 => (if t1272 = true then ((itv_Mod.f kj11 a0_0 a0_1 a1_0 a1_1).bind fun bt1273 => ((itv_Mod.f kj11 t1229 t1230 t1231 t1232).bind fun bt1275 => ((itv_Leq.f bt1273.1 bt1273.2 bt1275.1 bt1275.2).bind fun t1277 => (if t1277 = true then ((itv_Neg.f a0_0 a0_1).bind fun bt1278 => ((itv_Neg.f t1229 t1230).bind fun bt1280 => ((itv_Leq.f bt1278.1 bt1278.2 bt1280.1 bt1280.2).bind fun t1282 => (if t1282 = true then ((itv_Abs.f kj11 a0_0 a0_1).bind fun bt1283 => ((itv_Abs.f kj11 t1229 t1230).bind fun bt1285 => ((itv_Leq.f bt1283.1 bt1283.2 bt1285.1 bt1285.2).bind fun t1287 => (if t1287 = true then ((itv_Min.f kj11 a0_0 a0_1 a1_0 a1_1).bind fun bt1288 => ((itv_Min.f kj11 t1229 t1230 t1231 t1232).bind fun bt1290 => ((itv_Leq.f bt1288.1 bt1288.2 bt1290.1 bt1290.2).bind fun t1292 => (if t1292 = true then ((itv_Max.f kj11 a0_0 a0_1 a1_0 a1_1).bind fun bt1293 => ((itv_Max.f kj11 t1229 t1230 t1231 t1232).bind fun bt1295 => ((itv_Leq.f bt1293.1 bt1293.2 bt1295.1 bt1295.2).bind fun t1297 => (if t1297 = true then ((itv_Meet.f kj11 a0_0 a0_1 a1_0 a1_1).bind fun bt1298 => ((itv_Meet.f kj11 t1229 t1230 t1231 t1232).bind fun bt1300 => ((itv_Leq.f bt1298.1 bt1298.2 bt1300.1 bt1300.2).bind fun t1302 => (if t1302 = true then ((gimballaw02_awake.f kj11).bind fun t1303 => (some t1303)) else (some false))))) else (some false))))) else (some false))))) else (some false))))) else (some false))))) else (some false))))) else (some false))))) else (some false))))) else (some false))))) else (some false)) = some true := H
     have A408 := Aside0.mk A4080
     clear A4080
     by_cases c409 : t1257 = true
     ·
      subst c409
      have H1 : ((itv_Sub.f kj11 a0_0 a0_1 a1_0 a1_1).bind fun bt1258 => ((itv_Sub.f kj11 t1229 t1230 t1231 t1232).bind fun bt1260 => ((itv_Leq.f bt1258.1 bt1258.2 bt1260.1 bt1260.2).bind fun t1262 => (if t1262 = true then ((itv_Mul.f kj11 a0_0 a0_1 a1_0 a1_1).bind fun bt1263 => ((itv_Mul.f kj11 t1229 t1230 t1231 t1232).bind fun bt1265 => ((itv_Leq.f bt1263.1 bt1263.2 bt1265.1 bt1265.2).bind fun t1267 => (if t1267 = true then ((itv_Div.f kj11 a0_0 a0_1 a1_0 a1_1).bind fun bt1268 => ((itv_Div.f kj11 t1229 t1230 t1231 t1232).bind fun bt1270 => ((itv_Leq.f bt1268.1 bt1268.2 bt1270.1 bt1270.2).bind fun t1272 => (if t1272 = true then ((itv_Mod.f kj11 a0_0 a0_1 a1_0 a1_1).bind fun bt1273 => ((itv_Mod.f kj11 t1229 t1230 t1231 t1232).bind fun bt1275 => ((itv_Leq.f bt1273.1 bt1273.2 bt1275.1 bt1275.2).bind fun t1277 => (if t1277 = true then ((itv_Neg.f a0_0 a0_1).bind fun bt1278 => ((itv_Neg.f t1229 t1230).bind fun bt1280 => ((itv_Leq.f bt1278.1 bt1278.2 bt1280.1 bt1280.2).bind fun t1282 => (if t1282 = true then ((itv_Abs.f kj11 a0_0 a0_1).bind fun bt1283 => ((itv_Abs.f kj11 t1229 t1230).bind fun bt1285 => ((itv_Leq.f bt1283.1 bt1283.2 bt1285.1 bt1285.2).bind fun t1287 => (if t1287 = true then ((itv_Min.f kj11 a0_0 a0_1 a1_0 a1_1).bind fun bt1288 => ((itv_Min.f kj11 t1229 t1230 t1231 t1232).bind fun bt1290 => ((itv_Leq.f bt1288.1 bt1288.2 bt1290.1 bt1290.2).bind fun t1292 => (if t1292 = true then ((itv_Max.f kj11 a0_0 a0_1 a1_0 a1_1).bind fun bt1293 => ((itv_Max.f kj11 t1229 t1230 t1231 t1232).bind fun bt1295 => ((itv_Leq.f bt1293.1 bt1293.2 bt1295.1 bt1295.2).bind fun t1297 => (if t1297 = true then ((itv_Meet.f kj11 a0_0 a0_1 a1_0 a1_1).bind fun bt1298 => ((itv_Meet.f kj11 t1229 t1230 t1231 t1232).bind fun bt1300 => ((itv_Leq.f bt1298.1 bt1298.2 bt1300.1 bt1300.2).bind fun t1302 => (if t1302 = true then ((gimballaw02_awake.f kj11).bind fun t1303 => (some t1303)) else (some false))))) else (some false))))) else (some false))))) else (some false))))) else (some false))))) else (some false))))) else (some false))))) else (some false))))) else (some false))))) = some true := by rw [if_pos rfl] at H; exact H
      clear H
      have H := H1
      clear H1
      replace H := bnH H
      obtain ⟨⟨t1258, t1259⟩, A4100, H⟩ := H
      replace H : ((itv_Sub.f kj11 t1229 t1230 t1231 t1232).bind fun bt1260 => ((itv_Leq.f t1258 t1259 bt1260.1 bt1260.2).bind fun t1262 => (if t1262 = true then ((itv_Mul.f kj11 a0_0 a0_1 a1_0 a1_1).bind fun bt1263 => ((itv_Mul.f kj11 t1229 t1230 t1231 t1232).bind fun bt1265 => ((itv_Leq.f bt1263.1 bt1263.2 bt1265.1 bt1265.2).bind fun t1267 => (if t1267 = true then ((itv_Div.f kj11 a0_0 a0_1 a1_0 a1_1).bind fun bt1268 => ((itv_Div.f kj11 t1229 t1230 t1231 t1232).bind fun bt1270 => ((itv_Leq.f bt1268.1 bt1268.2 bt1270.1 bt1270.2).bind fun t1272 => (if t1272 = true then ((itv_Mod.f kj11 a0_0 a0_1 a1_0 a1_1).bind fun bt1273 => ((itv_Mod.f kj11 t1229 t1230 t1231 t1232).bind fun bt1275 => ((itv_Leq.f bt1273.1 bt1273.2 bt1275.1 bt1275.2).bind fun t1277 => (if t1277 = true then ((itv_Neg.f a0_0 a0_1).bind fun bt1278 => ((itv_Neg.f t1229 t1230).bind fun bt1280 => ((itv_Leq.f bt1278.1 bt1278.2 bt1280.1 bt1280.2).bind fun t1282 => (if t1282 = true then ((itv_Abs.f kj11 a0_0 a0_1).bind fun bt1283 => ((itv_Abs.f kj11 t1229 t1230).bind fun bt1285 => ((itv_Leq.f bt1283.1 bt1283.2 bt1285.1 bt1285.2).bind fun t1287 => (if t1287 = true then ((itv_Min.f kj11 a0_0 a0_1 a1_0 a1_1).bind fun bt1288 => ((itv_Min.f kj11 t1229 t1230 t1231 t1232).bind fun bt1290 => ((itv_Leq.f bt1288.1 bt1288.2 bt1290.1 bt1290.2).bind fun t1292 => (if t1292 = true then ((itv_Max.f kj11 a0_0 a0_1 a1_0 a1_1).bind fun bt1293 => ((itv_Max.f kj11 t1229 t1230 t1231 t1232).bind fun bt1295 => ((itv_Leq.f bt1293.1 bt1293.2 bt1295.1 bt1295.2).bind fun t1297 => (if t1297 = true then ((itv_Meet.f kj11 a0_0 a0_1 a1_0 a1_1).bind fun bt1298 => ((itv_Meet.f kj11 t1229 t1230 t1231 t1232).bind fun bt1300 => ((itv_Leq.f bt1298.1 bt1298.2 bt1300.1 bt1300.2).bind fun t1302 => (if t1302 = true then ((gimballaw02_awake.f kj11).bind fun t1303 => (some t1303)) else (some false))))) else (some false))))) else (some false))))) else (some false))))) else (some false))))) else (some false))))) else (some false))))) else (some false))))) else (some false)))) = some true := H
      have A410 := Aside0.mk A4100
      clear A4100
      replace H := bnH H
      obtain ⟨⟨t1260, t1261⟩, A4110, H⟩ := H
      replace H : ((itv_Leq.f t1258 t1259 t1260 t1261).bind fun t1262 => (if t1262 = true then ((itv_Mul.f kj11 a0_0 a0_1 a1_0 a1_1).bind fun bt1263 => ((itv_Mul.f kj11 t1229 t1230 t1231 t1232).bind fun bt1265 => ((itv_Leq.f bt1263.1 bt1263.2 bt1265.1 bt1265.2).bind fun t1267 => (if t1267 = true then ((itv_Div.f kj11 a0_0 a0_1 a1_0 a1_1).bind fun bt1268 => ((itv_Div.f kj11 t1229 t1230 t1231 t1232).bind fun bt1270 => ((itv_Leq.f bt1268.1 bt1268.2 bt1270.1 bt1270.2).bind fun t1272 => (if t1272 = true then ((itv_Mod.f kj11 a0_0 a0_1 a1_0 a1_1).bind fun bt1273 => ((itv_Mod.f kj11 t1229 t1230 t1231 t1232).bind fun bt1275 => ((itv_Leq.f bt1273.1 bt1273.2 bt1275.1 bt1275.2).bind fun t1277 => (if t1277 = true then ((itv_Neg.f a0_0 a0_1).bind fun bt1278 => ((itv_Neg.f t1229 t1230).bind fun bt1280 => ((itv_Leq.f bt1278.1 bt1278.2 bt1280.1 bt1280.2).bind fun t1282 => (if t1282 = true then ((itv_Abs.f kj11 a0_0 a0_1).bind fun bt1283 => ((itv_Abs.f kj11 t1229 t1230).bind fun bt1285 => ((itv_Leq.f bt1283.1 bt1283.2 bt1285.1 bt1285.2).bind fun t1287 => (if t1287 = true then ((itv_Min.f kj11 a0_0 a0_1 a1_0 a1_1).bind fun bt1288 => ((itv_Min.f kj11 t1229 t1230 t1231 t1232).bind fun bt1290 => ((itv_Leq.f bt1288.1 bt1288.2 bt1290.1 bt1290.2).bind fun t1292 => (if t1292 = true then ((itv_Max.f kj11 a0_0 a0_1 a1_0 a1_1).bind fun bt1293 => ((itv_Max.f kj11 t1229 t1230 t1231 t1232).bind fun bt1295 => ((itv_Leq.f bt1293.1 bt1293.2 bt1295.1 bt1295.2).bind fun t1297 => (if t1297 = true then ((itv_Meet.f kj11 a0_0 a0_1 a1_0 a1_1).bind fun bt1298 => ((itv_Meet.f kj11 t1229 t1230 t1231 t1232).bind fun bt1300 => ((itv_Leq.f bt1298.1 bt1298.2 bt1300.1 bt1300.2).bind fun t1302 => (if t1302 = true then ((gimballaw02_awake.f kj11).bind fun t1303 => (some t1303)) else (some false))))) else (some false))))) else (some false))))) else (some false))))) else (some false))))) else (some false))))) else (some false))))) else (some false))))) else (some false))) = some true := H
      have A411 := Aside0.mk A4110
      clear A4110
      replace H := bnH H
      obtain ⟨t1262, A4120, H⟩ := H
      replace H : (if t1262 = true then ((itv_Mul.f kj11 a0_0 a0_1 a1_0 a1_1).bind fun bt1263 => ((itv_Mul.f kj11 t1229 t1230 t1231 t1232).bind fun bt1265 => ((itv_Leq.f bt1263.1 bt1263.2 bt1265.1 bt1265.2).bind fun t1267 => (if t1267 = true then ((itv_Div.f kj11 a0_0 a0_1 a1_0 a1_1).bind fun bt1268 => ((itv_Div.f kj11 t1229 t1230 t1231 t1232).bind fun bt1270 => ((itv_Leq.f bt1268.1 bt1268.2 bt1270.1 bt1270.2).bind fun t1272 => (if t1272 = true then ((itv_Mod.f kj11 a0_0 a0_1 a1_0 a1_1).bind fun bt1273 => ((itv_Mod.f kj11 t1229 t1230 t1231 t1232).bind fun bt1275 => ((itv_Leq.f bt1273.1 bt1273.2 bt1275.1 bt1275.2).bind fun t1277 => (if t1277 = true then ((itv_Neg.f a0_0 a0_1).bind fun bt1278 => ((itv_Neg.f t1229 t1230).bind fun bt1280 => ((itv_Leq.f bt1278.1 bt1278.2 bt1280.1 bt1280.2).bind fun t1282 => (if t1282 = true then ((itv_Abs.f kj11 a0_0 a0_1).bind fun bt1283 => ((itv_Abs.f kj11 t1229 t1230).bind fun bt1285 => ((itv_Leq.f bt1283.1 bt1283.2 bt1285.1 bt1285.2).bind fun t1287 => (if t1287 = true then ((itv_Min.f kj11 a0_0 a0_1 a1_0 a1_1).bind fun bt1288 => ((itv_Min.f kj11 t1229 t1230 t1231 t1232).bind fun bt1290 => ((itv_Leq.f bt1288.1 bt1288.2 bt1290.1 bt1290.2).bind fun t1292 => (if t1292 = true then ((itv_Max.f kj11 a0_0 a0_1 a1_0 a1_1).bind fun bt1293 => ((itv_Max.f kj11 t1229 t1230 t1231 t1232).bind fun bt1295 => ((itv_Leq.f bt1293.1 bt1293.2 bt1295.1 bt1295.2).bind fun t1297 => (if t1297 = true then ((itv_Meet.f kj11 a0_0 a0_1 a1_0 a1_1).bind fun bt1298 => ((itv_Meet.f kj11 t1229 t1230 t1231 t1232).bind fun bt1300 => ((itv_Leq.f bt1298.1 bt1298.2 bt1300.1 bt1300.2).bind fun t1302 => (if t1302 = true then ((gimballaw02_awake.f kj11).bind fun t1303 => (some t1303)) else (some false))))) else (some false))))) else (some false))))) else (some false))))) else (some false))))) else (some false))))) else (some false))))) else (some false))))) else (some false)) = some true := H
      have A412 := Aside0.mk A4120
      clear A4120
      by_cases c413 : t1262 = true
      ·
       subst c413
       have H1 : ((itv_Mul.f kj11 a0_0 a0_1 a1_0 a1_1).bind fun bt1263 => ((itv_Mul.f kj11 t1229 t1230 t1231 t1232).bind fun bt1265 => ((itv_Leq.f bt1263.1 bt1263.2 bt1265.1 bt1265.2).bind fun t1267 => (if t1267 = true then ((itv_Div.f kj11 a0_0 a0_1 a1_0 a1_1).bind fun bt1268 => ((itv_Div.f kj11 t1229 t1230 t1231 t1232).bind fun bt1270 => ((itv_Leq.f bt1268.1 bt1268.2 bt1270.1 bt1270.2).bind fun t1272 => (if t1272 = true then ((itv_Mod.f kj11 a0_0 a0_1 a1_0 a1_1).bind fun bt1273 => ((itv_Mod.f kj11 t1229 t1230 t1231 t1232).bind fun bt1275 => ((itv_Leq.f bt1273.1 bt1273.2 bt1275.1 bt1275.2).bind fun t1277 => (if t1277 = true then ((itv_Neg.f a0_0 a0_1).bind fun bt1278 => ((itv_Neg.f t1229 t1230).bind fun bt1280 => ((itv_Leq.f bt1278.1 bt1278.2 bt1280.1 bt1280.2).bind fun t1282 => (if t1282 = true then ((itv_Abs.f kj11 a0_0 a0_1).bind fun bt1283 => ((itv_Abs.f kj11 t1229 t1230).bind fun bt1285 => ((itv_Leq.f bt1283.1 bt1283.2 bt1285.1 bt1285.2).bind fun t1287 => (if t1287 = true then ((itv_Min.f kj11 a0_0 a0_1 a1_0 a1_1).bind fun bt1288 => ((itv_Min.f kj11 t1229 t1230 t1231 t1232).bind fun bt1290 => ((itv_Leq.f bt1288.1 bt1288.2 bt1290.1 bt1290.2).bind fun t1292 => (if t1292 = true then ((itv_Max.f kj11 a0_0 a0_1 a1_0 a1_1).bind fun bt1293 => ((itv_Max.f kj11 t1229 t1230 t1231 t1232).bind fun bt1295 => ((itv_Leq.f bt1293.1 bt1293.2 bt1295.1 bt1295.2).bind fun t1297 => (if t1297 = true then ((itv_Meet.f kj11 a0_0 a0_1 a1_0 a1_1).bind fun bt1298 => ((itv_Meet.f kj11 t1229 t1230 t1231 t1232).bind fun bt1300 => ((itv_Leq.f bt1298.1 bt1298.2 bt1300.1 bt1300.2).bind fun t1302 => (if t1302 = true then ((gimballaw02_awake.f kj11).bind fun t1303 => (some t1303)) else (some false))))) else (some false))))) else (some false))))) else (some false))))) else (some false))))) else (some false))))) else (some false))))) else (some false))))) = some true := by rw [if_pos rfl] at H; exact H
       clear H
       have H := H1
       clear H1
       replace H := bnH H
       obtain ⟨⟨t1263, t1264⟩, A4140, H⟩ := H
       replace H : ((itv_Mul.f kj11 t1229 t1230 t1231 t1232).bind fun bt1265 => ((itv_Leq.f t1263 t1264 bt1265.1 bt1265.2).bind fun t1267 => (if t1267 = true then ((itv_Div.f kj11 a0_0 a0_1 a1_0 a1_1).bind fun bt1268 => ((itv_Div.f kj11 t1229 t1230 t1231 t1232).bind fun bt1270 => ((itv_Leq.f bt1268.1 bt1268.2 bt1270.1 bt1270.2).bind fun t1272 => (if t1272 = true then ((itv_Mod.f kj11 a0_0 a0_1 a1_0 a1_1).bind fun bt1273 => ((itv_Mod.f kj11 t1229 t1230 t1231 t1232).bind fun bt1275 => ((itv_Leq.f bt1273.1 bt1273.2 bt1275.1 bt1275.2).bind fun t1277 => (if t1277 = true then ((itv_Neg.f a0_0 a0_1).bind fun bt1278 => ((itv_Neg.f t1229 t1230).bind fun bt1280 => ((itv_Leq.f bt1278.1 bt1278.2 bt1280.1 bt1280.2).bind fun t1282 => (if t1282 = true then ((itv_Abs.f kj11 a0_0 a0_1).bind fun bt1283 => ((itv_Abs.f kj11 t1229 t1230).bind fun bt1285 => ((itv_Leq.f bt1283.1 bt1283.2 bt1285.1 bt1285.2).bind fun t1287 => (if t1287 = true then ((itv_Min.f kj11 a0_0 a0_1 a1_0 a1_1).bind fun bt1288 => ((itv_Min.f kj11 t1229 t1230 t1231 t1232).bind fun bt1290 => ((itv_Leq.f bt1288.1 bt1288.2 bt1290.1 bt1290.2).bind fun t1292 => (if t1292 = true then ((itv_Max.f kj11 a0_0 a0_1 a1_0 a1_1).bind fun bt1293 => ((itv_Max.f kj11 t1229 t1230 t1231 t1232).bind fun bt1295 => ((itv_Leq.f bt1293.1 bt1293.2 bt1295.1 bt1295.2).bind fun t1297 => (if t1297 = true then ((itv_Meet.f kj11 a0_0 a0_1 a1_0 a1_1).bind fun bt1298 => ((itv_Meet.f kj11 t1229 t1230 t1231 t1232).bind fun bt1300 => ((itv_Leq.f bt1298.1 bt1298.2 bt1300.1 bt1300.2).bind fun t1302 => (if t1302 = true then ((gimballaw02_awake.f kj11).bind fun t1303 => (some t1303)) else (some false))))) else (some false))))) else (some false))))) else (some false))))) else (some false))))) else (some false))))) else (some false))))) else (some false)))) = some true := H
       have A414 := Aside0.mk A4140
       clear A4140
       replace H := bnH H
       obtain ⟨⟨t1265, t1266⟩, A4150, H⟩ := H
       replace H : ((itv_Leq.f t1263 t1264 t1265 t1266).bind fun t1267 => (if t1267 = true then ((itv_Div.f kj11 a0_0 a0_1 a1_0 a1_1).bind fun bt1268 => ((itv_Div.f kj11 t1229 t1230 t1231 t1232).bind fun bt1270 => ((itv_Leq.f bt1268.1 bt1268.2 bt1270.1 bt1270.2).bind fun t1272 => (if t1272 = true then ((itv_Mod.f kj11 a0_0 a0_1 a1_0 a1_1).bind fun bt1273 => ((itv_Mod.f kj11 t1229 t1230 t1231 t1232).bind fun bt1275 => ((itv_Leq.f bt1273.1 bt1273.2 bt1275.1 bt1275.2).bind fun t1277 => (if t1277 = true then ((itv_Neg.f a0_0 a0_1).bind fun bt1278 => ((itv_Neg.f t1229 t1230).bind fun bt1280 => ((itv_Leq.f bt1278.1 bt1278.2 bt1280.1 bt1280.2).bind fun t1282 => (if t1282 = true then ((itv_Abs.f kj11 a0_0 a0_1).bind fun bt1283 => ((itv_Abs.f kj11 t1229 t1230).bind fun bt1285 => ((itv_Leq.f bt1283.1 bt1283.2 bt1285.1 bt1285.2).bind fun t1287 => (if t1287 = true then ((itv_Min.f kj11 a0_0 a0_1 a1_0 a1_1).bind fun bt1288 => ((itv_Min.f kj11 t1229 t1230 t1231 t1232).bind fun bt1290 => ((itv_Leq.f bt1288.1 bt1288.2 bt1290.1 bt1290.2).bind fun t1292 => (if t1292 = true then ((itv_Max.f kj11 a0_0 a0_1 a1_0 a1_1).bind fun bt1293 => ((itv_Max.f kj11 t1229 t1230 t1231 t1232).bind fun bt1295 => ((itv_Leq.f bt1293.1 bt1293.2 bt1295.1 bt1295.2).bind fun t1297 => (if t1297 = true then ((itv_Meet.f kj11 a0_0 a0_1 a1_0 a1_1).bind fun bt1298 => ((itv_Meet.f kj11 t1229 t1230 t1231 t1232).bind fun bt1300 => ((itv_Leq.f bt1298.1 bt1298.2 bt1300.1 bt1300.2).bind fun t1302 => (if t1302 = true then ((gimballaw02_awake.f kj11).bind fun t1303 => (some t1303)) else (some false))))) else (some false))))) else (some false))))) else (some false))))) else (some false))))) else (some false))))) else (some false))))) else (some false))) = some true := H
       have A415 := Aside0.mk A4150
       clear A4150
       replace H := bnH H
       obtain ⟨t1267, A4160, H⟩ := H
       replace H : (if t1267 = true then ((itv_Div.f kj11 a0_0 a0_1 a1_0 a1_1).bind fun bt1268 => ((itv_Div.f kj11 t1229 t1230 t1231 t1232).bind fun bt1270 => ((itv_Leq.f bt1268.1 bt1268.2 bt1270.1 bt1270.2).bind fun t1272 => (if t1272 = true then ((itv_Mod.f kj11 a0_0 a0_1 a1_0 a1_1).bind fun bt1273 => ((itv_Mod.f kj11 t1229 t1230 t1231 t1232).bind fun bt1275 => ((itv_Leq.f bt1273.1 bt1273.2 bt1275.1 bt1275.2).bind fun t1277 => (if t1277 = true then ((itv_Neg.f a0_0 a0_1).bind fun bt1278 => ((itv_Neg.f t1229 t1230).bind fun bt1280 => ((itv_Leq.f bt1278.1 bt1278.2 bt1280.1 bt1280.2).bind fun t1282 => (if t1282 = true then ((itv_Abs.f kj11 a0_0 a0_1).bind fun bt1283 => ((itv_Abs.f kj11 t1229 t1230).bind fun bt1285 => ((itv_Leq.f bt1283.1 bt1283.2 bt1285.1 bt1285.2).bind fun t1287 => (if t1287 = true then ((itv_Min.f kj11 a0_0 a0_1 a1_0 a1_1).bind fun bt1288 => ((itv_Min.f kj11 t1229 t1230 t1231 t1232).bind fun bt1290 => ((itv_Leq.f bt1288.1 bt1288.2 bt1290.1 bt1290.2).bind fun t1292 => (if t1292 = true then ((itv_Max.f kj11 a0_0 a0_1 a1_0 a1_1).bind fun bt1293 => ((itv_Max.f kj11 t1229 t1230 t1231 t1232).bind fun bt1295 => ((itv_Leq.f bt1293.1 bt1293.2 bt1295.1 bt1295.2).bind fun t1297 => (if t1297 = true then ((itv_Meet.f kj11 a0_0 a0_1 a1_0 a1_1).bind fun bt1298 => ((itv_Meet.f kj11 t1229 t1230 t1231 t1232).bind fun bt1300 => ((itv_Leq.f bt1298.1 bt1298.2 bt1300.1 bt1300.2).bind fun t1302 => (if t1302 = true then ((gimballaw02_awake.f kj11).bind fun t1303 => (some t1303)) else (some false))))) else (some false))))) else (some false))))) else (some false))))) else (some false))))) else (some false))))) else (some false))))) else (some false)) = some true := H
       have A416 := Aside0.mk A4160
       clear A4160
       by_cases c417 : t1267 = true
       ·
        subst c417
        have H1 : ((itv_Div.f kj11 a0_0 a0_1 a1_0 a1_1).bind fun bt1268 => ((itv_Div.f kj11 t1229 t1230 t1231 t1232).bind fun bt1270 => ((itv_Leq.f bt1268.1 bt1268.2 bt1270.1 bt1270.2).bind fun t1272 => (if t1272 = true then ((itv_Mod.f kj11 a0_0 a0_1 a1_0 a1_1).bind fun bt1273 => ((itv_Mod.f kj11 t1229 t1230 t1231 t1232).bind fun bt1275 => ((itv_Leq.f bt1273.1 bt1273.2 bt1275.1 bt1275.2).bind fun t1277 => (if t1277 = true then ((itv_Neg.f a0_0 a0_1).bind fun bt1278 => ((itv_Neg.f t1229 t1230).bind fun bt1280 => ((itv_Leq.f bt1278.1 bt1278.2 bt1280.1 bt1280.2).bind fun t1282 => (if t1282 = true then ((itv_Abs.f kj11 a0_0 a0_1).bind fun bt1283 => ((itv_Abs.f kj11 t1229 t1230).bind fun bt1285 => ((itv_Leq.f bt1283.1 bt1283.2 bt1285.1 bt1285.2).bind fun t1287 => (if t1287 = true then ((itv_Min.f kj11 a0_0 a0_1 a1_0 a1_1).bind fun bt1288 => ((itv_Min.f kj11 t1229 t1230 t1231 t1232).bind fun bt1290 => ((itv_Leq.f bt1288.1 bt1288.2 bt1290.1 bt1290.2).bind fun t1292 => (if t1292 = true then ((itv_Max.f kj11 a0_0 a0_1 a1_0 a1_1).bind fun bt1293 => ((itv_Max.f kj11 t1229 t1230 t1231 t1232).bind fun bt1295 => ((itv_Leq.f bt1293.1 bt1293.2 bt1295.1 bt1295.2).bind fun t1297 => (if t1297 = true then ((itv_Meet.f kj11 a0_0 a0_1 a1_0 a1_1).bind fun bt1298 => ((itv_Meet.f kj11 t1229 t1230 t1231 t1232).bind fun bt1300 => ((itv_Leq.f bt1298.1 bt1298.2 bt1300.1 bt1300.2).bind fun t1302 => (if t1302 = true then ((gimballaw02_awake.f kj11).bind fun t1303 => (some t1303)) else (some false))))) else (some false))))) else (some false))))) else (some false))))) else (some false))))) else (some false))))) else (some false))))) = some true := by rw [if_pos rfl] at H; exact H
        clear H
        have H := H1
        clear H1
        replace H := bnH H
        obtain ⟨⟨t1268, t1269⟩, A4180, H⟩ := H
        replace H : ((itv_Div.f kj11 t1229 t1230 t1231 t1232).bind fun bt1270 => ((itv_Leq.f t1268 t1269 bt1270.1 bt1270.2).bind fun t1272 => (if t1272 = true then ((itv_Mod.f kj11 a0_0 a0_1 a1_0 a1_1).bind fun bt1273 => ((itv_Mod.f kj11 t1229 t1230 t1231 t1232).bind fun bt1275 => ((itv_Leq.f bt1273.1 bt1273.2 bt1275.1 bt1275.2).bind fun t1277 => (if t1277 = true then ((itv_Neg.f a0_0 a0_1).bind fun bt1278 => ((itv_Neg.f t1229 t1230).bind fun bt1280 => ((itv_Leq.f bt1278.1 bt1278.2 bt1280.1 bt1280.2).bind fun t1282 => (if t1282 = true then ((itv_Abs.f kj11 a0_0 a0_1).bind fun bt1283 => ((itv_Abs.f kj11 t1229 t1230).bind fun bt1285 => ((itv_Leq.f bt1283.1 bt1283.2 bt1285.1 bt1285.2).bind fun t1287 => (if t1287 = true then ((itv_Min.f kj11 a0_0 a0_1 a1_0 a1_1).bind fun bt1288 => ((itv_Min.f kj11 t1229 t1230 t1231 t1232).bind fun bt1290 => ((itv_Leq.f bt1288.1 bt1288.2 bt1290.1 bt1290.2).bind fun t1292 => (if t1292 = true then ((itv_Max.f kj11 a0_0 a0_1 a1_0 a1_1).bind fun bt1293 => ((itv_Max.f kj11 t1229 t1230 t1231 t1232).bind fun bt1295 => ((itv_Leq.f bt1293.1 bt1293.2 bt1295.1 bt1295.2).bind fun t1297 => (if t1297 = true then ((itv_Meet.f kj11 a0_0 a0_1 a1_0 a1_1).bind fun bt1298 => ((itv_Meet.f kj11 t1229 t1230 t1231 t1232).bind fun bt1300 => ((itv_Leq.f bt1298.1 bt1298.2 bt1300.1 bt1300.2).bind fun t1302 => (if t1302 = true then ((gimballaw02_awake.f kj11).bind fun t1303 => (some t1303)) else (some false))))) else (some false))))) else (some false))))) else (some false))))) else (some false))))) else (some false))))) else (some false)))) = some true := H
        have A418 := Aside0.mk A4180
        clear A4180
        replace H := bnH H
        obtain ⟨⟨t1270, t1271⟩, A4190, H⟩ := H
        replace H : ((itv_Leq.f t1268 t1269 t1270 t1271).bind fun t1272 => (if t1272 = true then ((itv_Mod.f kj11 a0_0 a0_1 a1_0 a1_1).bind fun bt1273 => ((itv_Mod.f kj11 t1229 t1230 t1231 t1232).bind fun bt1275 => ((itv_Leq.f bt1273.1 bt1273.2 bt1275.1 bt1275.2).bind fun t1277 => (if t1277 = true then ((itv_Neg.f a0_0 a0_1).bind fun bt1278 => ((itv_Neg.f t1229 t1230).bind fun bt1280 => ((itv_Leq.f bt1278.1 bt1278.2 bt1280.1 bt1280.2).bind fun t1282 => (if t1282 = true then ((itv_Abs.f kj11 a0_0 a0_1).bind fun bt1283 => ((itv_Abs.f kj11 t1229 t1230).bind fun bt1285 => ((itv_Leq.f bt1283.1 bt1283.2 bt1285.1 bt1285.2).bind fun t1287 => (if t1287 = true then ((itv_Min.f kj11 a0_0 a0_1 a1_0 a1_1).bind fun bt1288 => ((itv_Min.f kj11 t1229 t1230 t1231 t1232).bind fun bt1290 => ((itv_Leq.f bt1288.1 bt1288.2 bt1290.1 bt1290.2).bind fun t1292 => (if t1292 = true then ((itv_Max.f kj11 a0_0 a0_1 a1_0 a1_1).bind fun bt1293 => ((itv_Max.f kj11 t1229 t1230 t1231 t1232).bind fun bt1295 => ((itv_Leq.f bt1293.1 bt1293.2 bt1295.1 bt1295.2).bind fun t1297 => (if t1297 = true then ((itv_Meet.f kj11 a0_0 a0_1 a1_0 a1_1).bind fun bt1298 => ((itv_Meet.f kj11 t1229 t1230 t1231 t1232).bind fun bt1300 => ((itv_Leq.f bt1298.1 bt1298.2 bt1300.1 bt1300.2).bind fun t1302 => (if t1302 = true then ((gimballaw02_awake.f kj11).bind fun t1303 => (some t1303)) else (some false))))) else (some false))))) else (some false))))) else (some false))))) else (some false))))) else (some false))))) else (some false))) = some true := H
        have A419 := Aside0.mk A4190
        clear A4190
        replace H := bnH H
        obtain ⟨t1272, A4200, H⟩ := H
        replace H : (if t1272 = true then ((itv_Mod.f kj11 a0_0 a0_1 a1_0 a1_1).bind fun bt1273 => ((itv_Mod.f kj11 t1229 t1230 t1231 t1232).bind fun bt1275 => ((itv_Leq.f bt1273.1 bt1273.2 bt1275.1 bt1275.2).bind fun t1277 => (if t1277 = true then ((itv_Neg.f a0_0 a0_1).bind fun bt1278 => ((itv_Neg.f t1229 t1230).bind fun bt1280 => ((itv_Leq.f bt1278.1 bt1278.2 bt1280.1 bt1280.2).bind fun t1282 => (if t1282 = true then ((itv_Abs.f kj11 a0_0 a0_1).bind fun bt1283 => ((itv_Abs.f kj11 t1229 t1230).bind fun bt1285 => ((itv_Leq.f bt1283.1 bt1283.2 bt1285.1 bt1285.2).bind fun t1287 => (if t1287 = true then ((itv_Min.f kj11 a0_0 a0_1 a1_0 a1_1).bind fun bt1288 => ((itv_Min.f kj11 t1229 t1230 t1231 t1232).bind fun bt1290 => ((itv_Leq.f bt1288.1 bt1288.2 bt1290.1 bt1290.2).bind fun t1292 => (if t1292 = true then ((itv_Max.f kj11 a0_0 a0_1 a1_0 a1_1).bind fun bt1293 => ((itv_Max.f kj11 t1229 t1230 t1231 t1232).bind fun bt1295 => ((itv_Leq.f bt1293.1 bt1293.2 bt1295.1 bt1295.2).bind fun t1297 => (if t1297 = true then ((itv_Meet.f kj11 a0_0 a0_1 a1_0 a1_1).bind fun bt1298 => ((itv_Meet.f kj11 t1229 t1230 t1231 t1232).bind fun bt1300 => ((itv_Leq.f bt1298.1 bt1298.2 bt1300.1 bt1300.2).bind fun t1302 => (if t1302 = true then ((gimballaw02_awake.f kj11).bind fun t1303 => (some t1303)) else (some false))))) else (some false))))) else (some false))))) else (some false))))) else (some false))))) else (some false))))) else (some false)) = some true := H
        have A420 := Aside0.mk A4200
        clear A4200
        by_cases c421 : t1272 = true
        ·
         subst c421
         have H1 : ((itv_Mod.f kj11 a0_0 a0_1 a1_0 a1_1).bind fun bt1273 => ((itv_Mod.f kj11 t1229 t1230 t1231 t1232).bind fun bt1275 => ((itv_Leq.f bt1273.1 bt1273.2 bt1275.1 bt1275.2).bind fun t1277 => (if t1277 = true then ((itv_Neg.f a0_0 a0_1).bind fun bt1278 => ((itv_Neg.f t1229 t1230).bind fun bt1280 => ((itv_Leq.f bt1278.1 bt1278.2 bt1280.1 bt1280.2).bind fun t1282 => (if t1282 = true then ((itv_Abs.f kj11 a0_0 a0_1).bind fun bt1283 => ((itv_Abs.f kj11 t1229 t1230).bind fun bt1285 => ((itv_Leq.f bt1283.1 bt1283.2 bt1285.1 bt1285.2).bind fun t1287 => (if t1287 = true then ((itv_Min.f kj11 a0_0 a0_1 a1_0 a1_1).bind fun bt1288 => ((itv_Min.f kj11 t1229 t1230 t1231 t1232).bind fun bt1290 => ((itv_Leq.f bt1288.1 bt1288.2 bt1290.1 bt1290.2).bind fun t1292 => (if t1292 = true then ((itv_Max.f kj11 a0_0 a0_1 a1_0 a1_1).bind fun bt1293 => ((itv_Max.f kj11 t1229 t1230 t1231 t1232).bind fun bt1295 => ((itv_Leq.f bt1293.1 bt1293.2 bt1295.1 bt1295.2).bind fun t1297 => (if t1297 = true then ((itv_Meet.f kj11 a0_0 a0_1 a1_0 a1_1).bind fun bt1298 => ((itv_Meet.f kj11 t1229 t1230 t1231 t1232).bind fun bt1300 => ((itv_Leq.f bt1298.1 bt1298.2 bt1300.1 bt1300.2).bind fun t1302 => (if t1302 = true then ((gimballaw02_awake.f kj11).bind fun t1303 => (some t1303)) else (some false))))) else (some false))))) else (some false))))) else (some false))))) else (some false))))) else (some false))))) = some true := by rw [if_pos rfl] at H; exact H
         clear H
         have H := H1
         clear H1
         replace H := bnH H
         obtain ⟨⟨t1273, t1274⟩, A4220, H⟩ := H
         replace H : ((itv_Mod.f kj11 t1229 t1230 t1231 t1232).bind fun bt1275 => ((itv_Leq.f t1273 t1274 bt1275.1 bt1275.2).bind fun t1277 => (if t1277 = true then ((itv_Neg.f a0_0 a0_1).bind fun bt1278 => ((itv_Neg.f t1229 t1230).bind fun bt1280 => ((itv_Leq.f bt1278.1 bt1278.2 bt1280.1 bt1280.2).bind fun t1282 => (if t1282 = true then ((itv_Abs.f kj11 a0_0 a0_1).bind fun bt1283 => ((itv_Abs.f kj11 t1229 t1230).bind fun bt1285 => ((itv_Leq.f bt1283.1 bt1283.2 bt1285.1 bt1285.2).bind fun t1287 => (if t1287 = true then ((itv_Min.f kj11 a0_0 a0_1 a1_0 a1_1).bind fun bt1288 => ((itv_Min.f kj11 t1229 t1230 t1231 t1232).bind fun bt1290 => ((itv_Leq.f bt1288.1 bt1288.2 bt1290.1 bt1290.2).bind fun t1292 => (if t1292 = true then ((itv_Max.f kj11 a0_0 a0_1 a1_0 a1_1).bind fun bt1293 => ((itv_Max.f kj11 t1229 t1230 t1231 t1232).bind fun bt1295 => ((itv_Leq.f bt1293.1 bt1293.2 bt1295.1 bt1295.2).bind fun t1297 => (if t1297 = true then ((itv_Meet.f kj11 a0_0 a0_1 a1_0 a1_1).bind fun bt1298 => ((itv_Meet.f kj11 t1229 t1230 t1231 t1232).bind fun bt1300 => ((itv_Leq.f bt1298.1 bt1298.2 bt1300.1 bt1300.2).bind fun t1302 => (if t1302 = true then ((gimballaw02_awake.f kj11).bind fun t1303 => (some t1303)) else (some false))))) else (some false))))) else (some false))))) else (some false))))) else (some false))))) else (some false)))) = some true := H
         have A422 := Aside0.mk A4220
         clear A4220
         replace H := bnH H
         obtain ⟨⟨t1275, t1276⟩, A4230, H⟩ := H
         replace H : ((itv_Leq.f t1273 t1274 t1275 t1276).bind fun t1277 => (if t1277 = true then ((itv_Neg.f a0_0 a0_1).bind fun bt1278 => ((itv_Neg.f t1229 t1230).bind fun bt1280 => ((itv_Leq.f bt1278.1 bt1278.2 bt1280.1 bt1280.2).bind fun t1282 => (if t1282 = true then ((itv_Abs.f kj11 a0_0 a0_1).bind fun bt1283 => ((itv_Abs.f kj11 t1229 t1230).bind fun bt1285 => ((itv_Leq.f bt1283.1 bt1283.2 bt1285.1 bt1285.2).bind fun t1287 => (if t1287 = true then ((itv_Min.f kj11 a0_0 a0_1 a1_0 a1_1).bind fun bt1288 => ((itv_Min.f kj11 t1229 t1230 t1231 t1232).bind fun bt1290 => ((itv_Leq.f bt1288.1 bt1288.2 bt1290.1 bt1290.2).bind fun t1292 => (if t1292 = true then ((itv_Max.f kj11 a0_0 a0_1 a1_0 a1_1).bind fun bt1293 => ((itv_Max.f kj11 t1229 t1230 t1231 t1232).bind fun bt1295 => ((itv_Leq.f bt1293.1 bt1293.2 bt1295.1 bt1295.2).bind fun t1297 => (if t1297 = true then ((itv_Meet.f kj11 a0_0 a0_1 a1_0 a1_1).bind fun bt1298 => ((itv_Meet.f kj11 t1229 t1230 t1231 t1232).bind fun bt1300 => ((itv_Leq.f bt1298.1 bt1298.2 bt1300.1 bt1300.2).bind fun t1302 => (if t1302 = true then ((gimballaw02_awake.f kj11).bind fun t1303 => (some t1303)) else (some false))))) else (some false))))) else (some false))))) else (some false))))) else (some false))))) else (some false))) = some true := H
         have A423 := Aside0.mk A4230
         clear A4230
         replace H := bnH H
         obtain ⟨t1277, A4240, H⟩ := H
         replace H : (if t1277 = true then ((itv_Neg.f a0_0 a0_1).bind fun bt1278 => ((itv_Neg.f t1229 t1230).bind fun bt1280 => ((itv_Leq.f bt1278.1 bt1278.2 bt1280.1 bt1280.2).bind fun t1282 => (if t1282 = true then ((itv_Abs.f kj11 a0_0 a0_1).bind fun bt1283 => ((itv_Abs.f kj11 t1229 t1230).bind fun bt1285 => ((itv_Leq.f bt1283.1 bt1283.2 bt1285.1 bt1285.2).bind fun t1287 => (if t1287 = true then ((itv_Min.f kj11 a0_0 a0_1 a1_0 a1_1).bind fun bt1288 => ((itv_Min.f kj11 t1229 t1230 t1231 t1232).bind fun bt1290 => ((itv_Leq.f bt1288.1 bt1288.2 bt1290.1 bt1290.2).bind fun t1292 => (if t1292 = true then ((itv_Max.f kj11 a0_0 a0_1 a1_0 a1_1).bind fun bt1293 => ((itv_Max.f kj11 t1229 t1230 t1231 t1232).bind fun bt1295 => ((itv_Leq.f bt1293.1 bt1293.2 bt1295.1 bt1295.2).bind fun t1297 => (if t1297 = true then ((itv_Meet.f kj11 a0_0 a0_1 a1_0 a1_1).bind fun bt1298 => ((itv_Meet.f kj11 t1229 t1230 t1231 t1232).bind fun bt1300 => ((itv_Leq.f bt1298.1 bt1298.2 bt1300.1 bt1300.2).bind fun t1302 => (if t1302 = true then ((gimballaw02_awake.f kj11).bind fun t1303 => (some t1303)) else (some false))))) else (some false))))) else (some false))))) else (some false))))) else (some false))))) else (some false)) = some true := H
         have A424 := Aside0.mk A4240
         clear A4240
         by_cases c425 : t1277 = true
         ·
          subst c425
          have H1 : ((itv_Neg.f a0_0 a0_1).bind fun bt1278 => ((itv_Neg.f t1229 t1230).bind fun bt1280 => ((itv_Leq.f bt1278.1 bt1278.2 bt1280.1 bt1280.2).bind fun t1282 => (if t1282 = true then ((itv_Abs.f kj11 a0_0 a0_1).bind fun bt1283 => ((itv_Abs.f kj11 t1229 t1230).bind fun bt1285 => ((itv_Leq.f bt1283.1 bt1283.2 bt1285.1 bt1285.2).bind fun t1287 => (if t1287 = true then ((itv_Min.f kj11 a0_0 a0_1 a1_0 a1_1).bind fun bt1288 => ((itv_Min.f kj11 t1229 t1230 t1231 t1232).bind fun bt1290 => ((itv_Leq.f bt1288.1 bt1288.2 bt1290.1 bt1290.2).bind fun t1292 => (if t1292 = true then ((itv_Max.f kj11 a0_0 a0_1 a1_0 a1_1).bind fun bt1293 => ((itv_Max.f kj11 t1229 t1230 t1231 t1232).bind fun bt1295 => ((itv_Leq.f bt1293.1 bt1293.2 bt1295.1 bt1295.2).bind fun t1297 => (if t1297 = true then ((itv_Meet.f kj11 a0_0 a0_1 a1_0 a1_1).bind fun bt1298 => ((itv_Meet.f kj11 t1229 t1230 t1231 t1232).bind fun bt1300 => ((itv_Leq.f bt1298.1 bt1298.2 bt1300.1 bt1300.2).bind fun t1302 => (if t1302 = true then ((gimballaw02_awake.f kj11).bind fun t1303 => (some t1303)) else (some false))))) else (some false))))) else (some false))))) else (some false))))) else (some false))))) = some true := by rw [if_pos rfl] at H; exact H
          clear H
          have H := H1
          clear H1
          replace H := bnH H
          obtain ⟨⟨t1278, t1279⟩, A4260, H⟩ := H
          replace H : ((itv_Neg.f t1229 t1230).bind fun bt1280 => ((itv_Leq.f t1278 t1279 bt1280.1 bt1280.2).bind fun t1282 => (if t1282 = true then ((itv_Abs.f kj11 a0_0 a0_1).bind fun bt1283 => ((itv_Abs.f kj11 t1229 t1230).bind fun bt1285 => ((itv_Leq.f bt1283.1 bt1283.2 bt1285.1 bt1285.2).bind fun t1287 => (if t1287 = true then ((itv_Min.f kj11 a0_0 a0_1 a1_0 a1_1).bind fun bt1288 => ((itv_Min.f kj11 t1229 t1230 t1231 t1232).bind fun bt1290 => ((itv_Leq.f bt1288.1 bt1288.2 bt1290.1 bt1290.2).bind fun t1292 => (if t1292 = true then ((itv_Max.f kj11 a0_0 a0_1 a1_0 a1_1).bind fun bt1293 => ((itv_Max.f kj11 t1229 t1230 t1231 t1232).bind fun bt1295 => ((itv_Leq.f bt1293.1 bt1293.2 bt1295.1 bt1295.2).bind fun t1297 => (if t1297 = true then ((itv_Meet.f kj11 a0_0 a0_1 a1_0 a1_1).bind fun bt1298 => ((itv_Meet.f kj11 t1229 t1230 t1231 t1232).bind fun bt1300 => ((itv_Leq.f bt1298.1 bt1298.2 bt1300.1 bt1300.2).bind fun t1302 => (if t1302 = true then ((gimballaw02_awake.f kj11).bind fun t1303 => (some t1303)) else (some false))))) else (some false))))) else (some false))))) else (some false))))) else (some false)))) = some true := H
          have A426 := Aside0.mk A4260
          clear A4260
          replace H := bnH H
          obtain ⟨⟨t1280, t1281⟩, A4270, H⟩ := H
          replace H : ((itv_Leq.f t1278 t1279 t1280 t1281).bind fun t1282 => (if t1282 = true then ((itv_Abs.f kj11 a0_0 a0_1).bind fun bt1283 => ((itv_Abs.f kj11 t1229 t1230).bind fun bt1285 => ((itv_Leq.f bt1283.1 bt1283.2 bt1285.1 bt1285.2).bind fun t1287 => (if t1287 = true then ((itv_Min.f kj11 a0_0 a0_1 a1_0 a1_1).bind fun bt1288 => ((itv_Min.f kj11 t1229 t1230 t1231 t1232).bind fun bt1290 => ((itv_Leq.f bt1288.1 bt1288.2 bt1290.1 bt1290.2).bind fun t1292 => (if t1292 = true then ((itv_Max.f kj11 a0_0 a0_1 a1_0 a1_1).bind fun bt1293 => ((itv_Max.f kj11 t1229 t1230 t1231 t1232).bind fun bt1295 => ((itv_Leq.f bt1293.1 bt1293.2 bt1295.1 bt1295.2).bind fun t1297 => (if t1297 = true then ((itv_Meet.f kj11 a0_0 a0_1 a1_0 a1_1).bind fun bt1298 => ((itv_Meet.f kj11 t1229 t1230 t1231 t1232).bind fun bt1300 => ((itv_Leq.f bt1298.1 bt1298.2 bt1300.1 bt1300.2).bind fun t1302 => (if t1302 = true then ((gimballaw02_awake.f kj11).bind fun t1303 => (some t1303)) else (some false))))) else (some false))))) else (some false))))) else (some false))))) else (some false))) = some true := H
          have A427 := Aside0.mk A4270
          clear A4270
          replace H := bnH H
          obtain ⟨t1282, A4280, H⟩ := H
          replace H : (if t1282 = true then ((itv_Abs.f kj11 a0_0 a0_1).bind fun bt1283 => ((itv_Abs.f kj11 t1229 t1230).bind fun bt1285 => ((itv_Leq.f bt1283.1 bt1283.2 bt1285.1 bt1285.2).bind fun t1287 => (if t1287 = true then ((itv_Min.f kj11 a0_0 a0_1 a1_0 a1_1).bind fun bt1288 => ((itv_Min.f kj11 t1229 t1230 t1231 t1232).bind fun bt1290 => ((itv_Leq.f bt1288.1 bt1288.2 bt1290.1 bt1290.2).bind fun t1292 => (if t1292 = true then ((itv_Max.f kj11 a0_0 a0_1 a1_0 a1_1).bind fun bt1293 => ((itv_Max.f kj11 t1229 t1230 t1231 t1232).bind fun bt1295 => ((itv_Leq.f bt1293.1 bt1293.2 bt1295.1 bt1295.2).bind fun t1297 => (if t1297 = true then ((itv_Meet.f kj11 a0_0 a0_1 a1_0 a1_1).bind fun bt1298 => ((itv_Meet.f kj11 t1229 t1230 t1231 t1232).bind fun bt1300 => ((itv_Leq.f bt1298.1 bt1298.2 bt1300.1 bt1300.2).bind fun t1302 => (if t1302 = true then ((gimballaw02_awake.f kj11).bind fun t1303 => (some t1303)) else (some false))))) else (some false))))) else (some false))))) else (some false))))) else (some false)) = some true := H
          have A428 := Aside0.mk A4280
          clear A4280
          by_cases c429 : t1282 = true
          ·
           subst c429
           have H1 : ((itv_Abs.f kj11 a0_0 a0_1).bind fun bt1283 => ((itv_Abs.f kj11 t1229 t1230).bind fun bt1285 => ((itv_Leq.f bt1283.1 bt1283.2 bt1285.1 bt1285.2).bind fun t1287 => (if t1287 = true then ((itv_Min.f kj11 a0_0 a0_1 a1_0 a1_1).bind fun bt1288 => ((itv_Min.f kj11 t1229 t1230 t1231 t1232).bind fun bt1290 => ((itv_Leq.f bt1288.1 bt1288.2 bt1290.1 bt1290.2).bind fun t1292 => (if t1292 = true then ((itv_Max.f kj11 a0_0 a0_1 a1_0 a1_1).bind fun bt1293 => ((itv_Max.f kj11 t1229 t1230 t1231 t1232).bind fun bt1295 => ((itv_Leq.f bt1293.1 bt1293.2 bt1295.1 bt1295.2).bind fun t1297 => (if t1297 = true then ((itv_Meet.f kj11 a0_0 a0_1 a1_0 a1_1).bind fun bt1298 => ((itv_Meet.f kj11 t1229 t1230 t1231 t1232).bind fun bt1300 => ((itv_Leq.f bt1298.1 bt1298.2 bt1300.1 bt1300.2).bind fun t1302 => (if t1302 = true then ((gimballaw02_awake.f kj11).bind fun t1303 => (some t1303)) else (some false))))) else (some false))))) else (some false))))) else (some false))))) = some true := by rw [if_pos rfl] at H; exact H
           clear H
           have H := H1
           clear H1
           replace H := bnH H
           obtain ⟨⟨t1283, t1284⟩, A4300, H⟩ := H
           replace H : ((itv_Abs.f kj11 t1229 t1230).bind fun bt1285 => ((itv_Leq.f t1283 t1284 bt1285.1 bt1285.2).bind fun t1287 => (if t1287 = true then ((itv_Min.f kj11 a0_0 a0_1 a1_0 a1_1).bind fun bt1288 => ((itv_Min.f kj11 t1229 t1230 t1231 t1232).bind fun bt1290 => ((itv_Leq.f bt1288.1 bt1288.2 bt1290.1 bt1290.2).bind fun t1292 => (if t1292 = true then ((itv_Max.f kj11 a0_0 a0_1 a1_0 a1_1).bind fun bt1293 => ((itv_Max.f kj11 t1229 t1230 t1231 t1232).bind fun bt1295 => ((itv_Leq.f bt1293.1 bt1293.2 bt1295.1 bt1295.2).bind fun t1297 => (if t1297 = true then ((itv_Meet.f kj11 a0_0 a0_1 a1_0 a1_1).bind fun bt1298 => ((itv_Meet.f kj11 t1229 t1230 t1231 t1232).bind fun bt1300 => ((itv_Leq.f bt1298.1 bt1298.2 bt1300.1 bt1300.2).bind fun t1302 => (if t1302 = true then ((gimballaw02_awake.f kj11).bind fun t1303 => (some t1303)) else (some false))))) else (some false))))) else (some false))))) else (some false)))) = some true := H
           have A430 := Aside0.mk A4300
           clear A4300
           replace H := bnH H
           obtain ⟨⟨t1285, t1286⟩, A4310, H⟩ := H
           replace H : ((itv_Leq.f t1283 t1284 t1285 t1286).bind fun t1287 => (if t1287 = true then ((itv_Min.f kj11 a0_0 a0_1 a1_0 a1_1).bind fun bt1288 => ((itv_Min.f kj11 t1229 t1230 t1231 t1232).bind fun bt1290 => ((itv_Leq.f bt1288.1 bt1288.2 bt1290.1 bt1290.2).bind fun t1292 => (if t1292 = true then ((itv_Max.f kj11 a0_0 a0_1 a1_0 a1_1).bind fun bt1293 => ((itv_Max.f kj11 t1229 t1230 t1231 t1232).bind fun bt1295 => ((itv_Leq.f bt1293.1 bt1293.2 bt1295.1 bt1295.2).bind fun t1297 => (if t1297 = true then ((itv_Meet.f kj11 a0_0 a0_1 a1_0 a1_1).bind fun bt1298 => ((itv_Meet.f kj11 t1229 t1230 t1231 t1232).bind fun bt1300 => ((itv_Leq.f bt1298.1 bt1298.2 bt1300.1 bt1300.2).bind fun t1302 => (if t1302 = true then ((gimballaw02_awake.f kj11).bind fun t1303 => (some t1303)) else (some false))))) else (some false))))) else (some false))))) else (some false))) = some true := H
           have A431 := Aside0.mk A4310
           clear A4310
           replace H := bnH H
           obtain ⟨t1287, A4320, H⟩ := H
           replace H : (if t1287 = true then ((itv_Min.f kj11 a0_0 a0_1 a1_0 a1_1).bind fun bt1288 => ((itv_Min.f kj11 t1229 t1230 t1231 t1232).bind fun bt1290 => ((itv_Leq.f bt1288.1 bt1288.2 bt1290.1 bt1290.2).bind fun t1292 => (if t1292 = true then ((itv_Max.f kj11 a0_0 a0_1 a1_0 a1_1).bind fun bt1293 => ((itv_Max.f kj11 t1229 t1230 t1231 t1232).bind fun bt1295 => ((itv_Leq.f bt1293.1 bt1293.2 bt1295.1 bt1295.2).bind fun t1297 => (if t1297 = true then ((itv_Meet.f kj11 a0_0 a0_1 a1_0 a1_1).bind fun bt1298 => ((itv_Meet.f kj11 t1229 t1230 t1231 t1232).bind fun bt1300 => ((itv_Leq.f bt1298.1 bt1298.2 bt1300.1 bt1300.2).bind fun t1302 => (if t1302 = true then ((gimballaw02_awake.f kj11).bind fun t1303 => (some t1303)) else (some false))))) else (some false))))) else (some false))))) else (some false)) = some true := H
           have A432 := Aside0.mk A4320
           clear A4320
           by_cases c433 : t1287 = true
           ·
            subst c433
            have H1 : ((itv_Min.f kj11 a0_0 a0_1 a1_0 a1_1).bind fun bt1288 => ((itv_Min.f kj11 t1229 t1230 t1231 t1232).bind fun bt1290 => ((itv_Leq.f bt1288.1 bt1288.2 bt1290.1 bt1290.2).bind fun t1292 => (if t1292 = true then ((itv_Max.f kj11 a0_0 a0_1 a1_0 a1_1).bind fun bt1293 => ((itv_Max.f kj11 t1229 t1230 t1231 t1232).bind fun bt1295 => ((itv_Leq.f bt1293.1 bt1293.2 bt1295.1 bt1295.2).bind fun t1297 => (if t1297 = true then ((itv_Meet.f kj11 a0_0 a0_1 a1_0 a1_1).bind fun bt1298 => ((itv_Meet.f kj11 t1229 t1230 t1231 t1232).bind fun bt1300 => ((itv_Leq.f bt1298.1 bt1298.2 bt1300.1 bt1300.2).bind fun t1302 => (if t1302 = true then ((gimballaw02_awake.f kj11).bind fun t1303 => (some t1303)) else (some false))))) else (some false))))) else (some false))))) = some true := by rw [if_pos rfl] at H; exact H
            clear H
            have H := H1
            clear H1
            replace H := bnH H
            obtain ⟨⟨t1288, t1289⟩, A4340, H⟩ := H
            replace H : ((itv_Min.f kj11 t1229 t1230 t1231 t1232).bind fun bt1290 => ((itv_Leq.f t1288 t1289 bt1290.1 bt1290.2).bind fun t1292 => (if t1292 = true then ((itv_Max.f kj11 a0_0 a0_1 a1_0 a1_1).bind fun bt1293 => ((itv_Max.f kj11 t1229 t1230 t1231 t1232).bind fun bt1295 => ((itv_Leq.f bt1293.1 bt1293.2 bt1295.1 bt1295.2).bind fun t1297 => (if t1297 = true then ((itv_Meet.f kj11 a0_0 a0_1 a1_0 a1_1).bind fun bt1298 => ((itv_Meet.f kj11 t1229 t1230 t1231 t1232).bind fun bt1300 => ((itv_Leq.f bt1298.1 bt1298.2 bt1300.1 bt1300.2).bind fun t1302 => (if t1302 = true then ((gimballaw02_awake.f kj11).bind fun t1303 => (some t1303)) else (some false))))) else (some false))))) else (some false)))) = some true := H
            have A434 := Aside0.mk A4340
            clear A4340
            replace H := bnH H
            obtain ⟨⟨t1290, t1291⟩, A4350, H⟩ := H
            replace H : ((itv_Leq.f t1288 t1289 t1290 t1291).bind fun t1292 => (if t1292 = true then ((itv_Max.f kj11 a0_0 a0_1 a1_0 a1_1).bind fun bt1293 => ((itv_Max.f kj11 t1229 t1230 t1231 t1232).bind fun bt1295 => ((itv_Leq.f bt1293.1 bt1293.2 bt1295.1 bt1295.2).bind fun t1297 => (if t1297 = true then ((itv_Meet.f kj11 a0_0 a0_1 a1_0 a1_1).bind fun bt1298 => ((itv_Meet.f kj11 t1229 t1230 t1231 t1232).bind fun bt1300 => ((itv_Leq.f bt1298.1 bt1298.2 bt1300.1 bt1300.2).bind fun t1302 => (if t1302 = true then ((gimballaw02_awake.f kj11).bind fun t1303 => (some t1303)) else (some false))))) else (some false))))) else (some false))) = some true := H
            have A435 := Aside0.mk A4350
            clear A4350
            replace H := bnH H
            obtain ⟨t1292, A4360, H⟩ := H
            replace H : (if t1292 = true then ((itv_Max.f kj11 a0_0 a0_1 a1_0 a1_1).bind fun bt1293 => ((itv_Max.f kj11 t1229 t1230 t1231 t1232).bind fun bt1295 => ((itv_Leq.f bt1293.1 bt1293.2 bt1295.1 bt1295.2).bind fun t1297 => (if t1297 = true then ((itv_Meet.f kj11 a0_0 a0_1 a1_0 a1_1).bind fun bt1298 => ((itv_Meet.f kj11 t1229 t1230 t1231 t1232).bind fun bt1300 => ((itv_Leq.f bt1298.1 bt1298.2 bt1300.1 bt1300.2).bind fun t1302 => (if t1302 = true then ((gimballaw02_awake.f kj11).bind fun t1303 => (some t1303)) else (some false))))) else (some false))))) else (some false)) = some true := H
            have A436 := Aside0.mk A4360
            clear A4360
            by_cases c437 : t1292 = true
            ·
             subst c437
             have H1 : ((itv_Max.f kj11 a0_0 a0_1 a1_0 a1_1).bind fun bt1293 => ((itv_Max.f kj11 t1229 t1230 t1231 t1232).bind fun bt1295 => ((itv_Leq.f bt1293.1 bt1293.2 bt1295.1 bt1295.2).bind fun t1297 => (if t1297 = true then ((itv_Meet.f kj11 a0_0 a0_1 a1_0 a1_1).bind fun bt1298 => ((itv_Meet.f kj11 t1229 t1230 t1231 t1232).bind fun bt1300 => ((itv_Leq.f bt1298.1 bt1298.2 bt1300.1 bt1300.2).bind fun t1302 => (if t1302 = true then ((gimballaw02_awake.f kj11).bind fun t1303 => (some t1303)) else (some false))))) else (some false))))) = some true := by rw [if_pos rfl] at H; exact H
             clear H
             have H := H1
             clear H1
             replace H := bnH H
             obtain ⟨⟨t1293, t1294⟩, A4380, H⟩ := H
             replace H : ((itv_Max.f kj11 t1229 t1230 t1231 t1232).bind fun bt1295 => ((itv_Leq.f t1293 t1294 bt1295.1 bt1295.2).bind fun t1297 => (if t1297 = true then ((itv_Meet.f kj11 a0_0 a0_1 a1_0 a1_1).bind fun bt1298 => ((itv_Meet.f kj11 t1229 t1230 t1231 t1232).bind fun bt1300 => ((itv_Leq.f bt1298.1 bt1298.2 bt1300.1 bt1300.2).bind fun t1302 => (if t1302 = true then ((gimballaw02_awake.f kj11).bind fun t1303 => (some t1303)) else (some false))))) else (some false)))) = some true := H
             have A438 := Aside0.mk A4380
             clear A4380
             replace H := bnH H
             obtain ⟨⟨t1295, t1296⟩, A4390, H⟩ := H
             replace H : ((itv_Leq.f t1293 t1294 t1295 t1296).bind fun t1297 => (if t1297 = true then ((itv_Meet.f kj11 a0_0 a0_1 a1_0 a1_1).bind fun bt1298 => ((itv_Meet.f kj11 t1229 t1230 t1231 t1232).bind fun bt1300 => ((itv_Leq.f bt1298.1 bt1298.2 bt1300.1 bt1300.2).bind fun t1302 => (if t1302 = true then ((gimballaw02_awake.f kj11).bind fun t1303 => (some t1303)) else (some false))))) else (some false))) = some true := H
             have A439 := Aside0.mk A4390
             clear A4390
             replace H := bnH H
             obtain ⟨t1297, A4400, H⟩ := H
             replace H : (if t1297 = true then ((itv_Meet.f kj11 a0_0 a0_1 a1_0 a1_1).bind fun bt1298 => ((itv_Meet.f kj11 t1229 t1230 t1231 t1232).bind fun bt1300 => ((itv_Leq.f bt1298.1 bt1298.2 bt1300.1 bt1300.2).bind fun t1302 => (if t1302 = true then ((gimballaw02_awake.f kj11).bind fun t1303 => (some t1303)) else (some false))))) else (some false)) = some true := H
             have A440 := Aside0.mk A4400
             clear A4400
             by_cases c441 : t1297 = true
             ·
              subst c441
              have H1 : ((itv_Meet.f kj11 a0_0 a0_1 a1_0 a1_1).bind fun bt1298 => ((itv_Meet.f kj11 t1229 t1230 t1231 t1232).bind fun bt1300 => ((itv_Leq.f bt1298.1 bt1298.2 bt1300.1 bt1300.2).bind fun t1302 => (if t1302 = true then ((gimballaw02_awake.f kj11).bind fun t1303 => (some t1303)) else (some false))))) = some true := by rw [if_pos rfl] at H; exact H
              clear H
              have H := H1
              clear H1
              replace H := bnH H
              obtain ⟨⟨t1298, t1299⟩, A4420, H⟩ := H
              replace H : ((itv_Meet.f kj11 t1229 t1230 t1231 t1232).bind fun bt1300 => ((itv_Leq.f t1298 t1299 bt1300.1 bt1300.2).bind fun t1302 => (if t1302 = true then ((gimballaw02_awake.f kj11).bind fun t1303 => (some t1303)) else (some false)))) = some true := H
              have A442 := Aside0.mk A4420
              clear A4420
              replace H := bnH H
              obtain ⟨⟨t1300, t1301⟩, A4430, H⟩ := H
              replace H : ((itv_Leq.f t1298 t1299 t1300 t1301).bind fun t1302 => (if t1302 = true then ((gimballaw02_awake.f kj11).bind fun t1303 => (some t1303)) else (some false))) = some true := H
              have A443 := Aside0.mk A4430
              clear A4430
              replace H := bnH H
              obtain ⟨t1302, A4440, H⟩ := H
              replace H : (if t1302 = true then ((gimballaw02_awake.f kj11).bind fun t1303 => (some t1303)) else (some false)) = some true := H
              have A444 := Aside0.mk A4440
              clear A4440
              by_cases c445 : t1302 = true
              ·
               subst c445
               have H1 : ((gimballaw02_awake.f kj11).bind fun t1303 => (some t1303)) = some true := by rw [if_pos rfl] at H; exact H
               clear H
               have H := H1
               clear H1
               replace H := bnH H
               obtain ⟨t1303, A4460, H⟩ := H
               replace H : (some t1303) = some true := H
               have A446 := Aside0.mk A4460
               clear A4460
               have hret_ := Option.some.inj H
               clear H
               try go_wp2
               have n0_ := Aside0.mk (blk_drew BK1225.out)
               have n1_ := Aside0.mk (blk_drew BK1226.out)
               have n2_ := Aside0.mk (blk_drew BK1227.out)
               have n3_ := Aside0.mk (blk_drew BK1228.out)
               have n4_ := Aside0.mk (blk_drew BK1237.out)
               have n5_ := Aside0.mk (blk_drew BK1238.out)
               have n6_ := Aside0.mk (blk_drew BK1243.out)
               have n7_ := Aside0.mk (blk_drew BK1244.out)
               have n8_ := Aside0.mk (below_drew1 HB.out)
               clear BK1225
               clear BK1226
               clear BK1227
               clear BK1228
               clear BK1237
               clear BK1238
               clear BK1243
               clear BK1244
               clear HB
               have BK1225 := n0_
               have BK1226 := n1_
               have BK1227 := n2_
               have BK1228 := n3_
               have BK1237 := n4_
               have BK1238 := n5_
               have BK1243 := n6_
               have BK1244 := n7_
               have HB := n8_
               clear n0_ n1_ n2_ n3_ n4_ n5_ n6_ n7_ n8_
               refine start_ (n := 88) (S := fun w' => w'.cell? ⟨gb1225, 0, none⟩ = some (.int .i64 a0_0) ∧ w'.cell? ⟨gb1225, 1, none⟩ = some (.int .i64 a0_1) ∧ w'.cell? ⟨gb1226, 0, none⟩ = some (.int .i64 a1_0) ∧ w'.cell? ⟨gb1226, 1, none⟩ = some (.int .i64 a1_1) ∧ w'.cell? ⟨gb1227, 0, none⟩ = some (.int .i64 t1229) ∧ w'.cell? ⟨gb1227, 1, none⟩ = some (.int .i64 t1230) ∧ w'.cell? ⟨gb1228, 0, none⟩ = some (.int .i64 t1231) ∧ w'.cell? ⟨gb1228, 1, none⟩ = some (.int .i64 t1232)) (ds := []) #[false, false, false, false, false, false, false, false, false, false, false, false, false, false, false, false, false, false, false, false, false, false, false, false, false, false, false, false, false, false, false, false, false, false, false, false, false, false, false, false, false, false, false, false, false, false, false, false, false, false, false, false, false, false, false, false, false, false, false, false, false, false, false, false, false, false, false, false, false, false, false, false, false, false, false, false, false, false, false, false, false, false, false, false, false, false, false, false] (by kernel_rfl) rfl rfl ⟨hcz BK1225 0, hcz BK1225 1, hcz BK1226 0, hcz BK1226 1, hcz BK1227 0, hcz BK1227 1, hcz BK1228 0, hcz BK1228 1⟩ (fun hHeld => ?_); refine with_tabW gimballaw02_ItvGrows.tab10 gimballaw02_ItvGrows.bits10 (fun HT_ HW_ => ?_)
               generalize wc.drew = w447 at BK1225 BK1226 BK1227 BK1228 BK1237 BK1238 BK1243 BK1244 HB hHeld ⊢
               refine takeQ 0 95 HT_.out HW_.out hHeld ?_
               refine takeQ 1 96 HT_.out HW_.out hHeld ?_
               refine takeQ 3 98 HT_.out HW_.out hHeld ?_
               refine takeQ 4 99 HT_.out HW_.out hHeld ?_
               refine oneQ 2 97 HT_.out (fun K hK => ?_)
               refine goesQ Try.func40 #[.agg #[.int .i64 a0_0, .int .i64 a0_1], .agg #[.int .i64 a1_0, .int .i64 a1_1]] ?_
               with_reducible refine (itv_Add.calls kj11 a0_0 a0_1 a1_0 a1_1 t1253 t1254 _ A406.out).mono ?_
               rintro e w448 ⟨rfl, hb⟩
               refine ⟨_, rfl, ?_⟩
               have n0_ := bst HB hb
               replace BK1225 := bbw BK1225 hb
               replace BK1226 := bbw BK1226 hb
               replace BK1227 := bbw BK1227 hb
               replace BK1228 := bbw BK1228 hb
               replace BK1237 := bbw BK1237 hb
               replace BK1238 := bbw BK1238 hb
               replace BK1243 := bbw BK1243 hb
               replace BK1244 := bbw BK1244 hb
               clear HB
               have HB := n0_
               clear n0_
               (try clear hb)
               refine hK.out _ _ ⟨hcz BK1225 0, hcz BK1225 1, hcz BK1226 0, hcz BK1226 1, hcz BK1227 0, hcz BK1227 1, hcz BK1228 0, hcz BK1228 1⟩ (fun hHeld => ?_)
               clear hK K
               refine normQ (N := 97) ?_
               refine oneQ 5 100 HT_.out (fun K hK => ?_)
               refine goesQ Try.func40 #[.agg #[.int .i64 t1229, .int .i64 t1230], .agg #[.int .i64 t1231, .int .i64 t1232]] ?_
               with_reducible refine (itv_Add.calls kj11 t1229 t1230 t1231 t1232 t1255 t1256 _ A407.out).mono ?_
               rintro e w449 ⟨rfl, hb⟩
               refine ⟨_, rfl, ?_⟩
               have n0_ := bst HB hb
               replace BK1225 := bbw BK1225 hb
               replace BK1226 := bbw BK1226 hb
               replace BK1227 := bbw BK1227 hb
               replace BK1228 := bbw BK1228 hb
               replace BK1237 := bbw BK1237 hb
               replace BK1238 := bbw BK1238 hb
               replace BK1243 := bbw BK1243 hb
               replace BK1244 := bbw BK1244 hb
               clear HB
               have HB := n0_
               clear n0_
               (try clear hb)
               refine hK.out _ _ ⟨hcz BK1225 0, hcz BK1225 1, hcz BK1226 0, hcz BK1226 1, hcz BK1227 0, hcz BK1227 1, hcz BK1228 0, hcz BK1228 1⟩ (fun hHeld => ?_)
               clear hK K
               refine normQ (N := 100) ?_
               refine oneQ 6 101 HT_.out (fun K hK => ?_)
               refine goesQ Try.func24 #[.agg #[.int .i64 t1253, .int .i64 t1254], .agg #[.int .i64 t1255, .int .i64 t1256]] ?_
               with_reducible refine (itv_Leq.calls t1253 t1254 t1255 t1256 true _ A408.out).mono ?_
               rintro e w450 ⟨rfl, hb⟩
               refine ⟨_, rfl, ?_⟩
               have n0_ := bst HB hb
               replace BK1225 := bbw BK1225 hb
               replace BK1226 := bbw BK1226 hb
               replace BK1227 := bbw BK1227 hb
               replace BK1228 := bbw BK1228 hb
               replace BK1237 := bbw BK1237 hb
               replace BK1238 := bbw BK1238 hb
               replace BK1243 := bbw BK1243 hb
               replace BK1244 := bbw BK1244 hb
               clear HB
               have HB := n0_
               clear n0_
               (try clear hb)
               refine hK.out _ _ ⟨hcz BK1225 0, hcz BK1225 1, hcz BK1226 0, hcz BK1226 1, hcz BK1227 0, hcz BK1227 1, hcz BK1228 0, hcz BK1228 1⟩ (fun hHeld => ?_)
               clear hK K
               refine normQ (N := 101) ?_
               refine pureQ 7 102 HT_.out ?_
               refine takeQ 8 103 HT_.out HW_.out hHeld ?_
               refine takeQ 9 104 HT_.out HW_.out hHeld ?_
               refine takeQ 11 106 HT_.out HW_.out hHeld ?_
               refine takeQ 12 107 HT_.out HW_.out hHeld ?_
               refine oneQ 10 105 HT_.out (fun K hK => ?_)
               refine goesQ Try.func41 #[.agg #[.int .i64 a0_0, .int .i64 a0_1], .agg #[.int .i64 a1_0, .int .i64 a1_1]] ?_
               with_reducible refine (itv_Sub.calls kj11 a0_0 a0_1 a1_0 a1_1 t1258 t1259 _ A410.out).mono ?_
               rintro e w451 ⟨rfl, hb⟩
               refine ⟨_, rfl, ?_⟩
               have n0_ := bst HB hb
               replace BK1225 := bbw BK1225 hb
               replace BK1226 := bbw BK1226 hb
               replace BK1227 := bbw BK1227 hb
               replace BK1228 := bbw BK1228 hb
               replace BK1237 := bbw BK1237 hb
               replace BK1238 := bbw BK1238 hb
               replace BK1243 := bbw BK1243 hb
               replace BK1244 := bbw BK1244 hb
               clear HB
               have HB := n0_
               clear n0_
               (try clear hb)
               refine hK.out _ _ ⟨hcz BK1225 0, hcz BK1225 1, hcz BK1226 0, hcz BK1226 1, hcz BK1227 0, hcz BK1227 1, hcz BK1228 0, hcz BK1228 1⟩ (fun hHeld => ?_)
               clear hK K
               refine normQ (N := 105) ?_
               refine oneQ 13 108 HT_.out (fun K hK => ?_)
               refine goesQ Try.func41 #[.agg #[.int .i64 t1229, .int .i64 t1230], .agg #[.int .i64 t1231, .int .i64 t1232]] ?_
               with_reducible refine (itv_Sub.calls kj11 t1229 t1230 t1231 t1232 t1260 t1261 _ A411.out).mono ?_
               rintro e w452 ⟨rfl, hb⟩
               refine ⟨_, rfl, ?_⟩
               have n0_ := bst HB hb
               replace BK1225 := bbw BK1225 hb
               replace BK1226 := bbw BK1226 hb
               replace BK1227 := bbw BK1227 hb
               replace BK1228 := bbw BK1228 hb
               replace BK1237 := bbw BK1237 hb
               replace BK1238 := bbw BK1238 hb
               replace BK1243 := bbw BK1243 hb
               replace BK1244 := bbw BK1244 hb
               clear HB
               have HB := n0_
               clear n0_
               (try clear hb)
               refine hK.out _ _ ⟨hcz BK1225 0, hcz BK1225 1, hcz BK1226 0, hcz BK1226 1, hcz BK1227 0, hcz BK1227 1, hcz BK1228 0, hcz BK1228 1⟩ (fun hHeld => ?_)
               clear hK K
               refine normQ (N := 108) ?_
               refine oneQ 14 109 HT_.out (fun K hK => ?_)
               refine goesQ Try.func24 #[.agg #[.int .i64 t1258, .int .i64 t1259], .agg #[.int .i64 t1260, .int .i64 t1261]] ?_
               with_reducible refine (itv_Leq.calls t1258 t1259 t1260 t1261 true _ A412.out).mono ?_
               rintro e w453 ⟨rfl, hb⟩
               refine ⟨_, rfl, ?_⟩
               have n0_ := bst HB hb
               replace BK1225 := bbw BK1225 hb
               replace BK1226 := bbw BK1226 hb
               replace BK1227 := bbw BK1227 hb
               replace BK1228 := bbw BK1228 hb
               replace BK1237 := bbw BK1237 hb
               replace BK1238 := bbw BK1238 hb
               replace BK1243 := bbw BK1243 hb
               replace BK1244 := bbw BK1244 hb
               clear HB
               have HB := n0_
               clear n0_
               (try clear hb)
               refine hK.out _ _ ⟨hcz BK1225 0, hcz BK1225 1, hcz BK1226 0, hcz BK1226 1, hcz BK1227 0, hcz BK1227 1, hcz BK1228 0, hcz BK1228 1⟩ (fun hHeld => ?_)
               clear hK K
               refine normQ (N := 109) ?_
               refine pureQ 15 110 HT_.out ?_
               refine pureQ 16 111 HT_.out ?_
               refine takeQ 17 112 HT_.out HW_.out hHeld ?_
               refine takeQ 18 113 HT_.out HW_.out hHeld ?_
               refine takeQ 20 115 HT_.out HW_.out hHeld ?_
               refine takeQ 21 116 HT_.out HW_.out hHeld ?_
               refine oneQ 19 114 HT_.out (fun K hK => ?_)
               refine goesQ Try.func42 #[.agg #[.int .i64 a0_0, .int .i64 a0_1], .agg #[.int .i64 a1_0, .int .i64 a1_1]] ?_
               with_reducible refine (itv_Mul.calls kj11 a0_0 a0_1 a1_0 a1_1 t1263 t1264 _ A414.out).mono ?_
               rintro e w454 ⟨rfl, hb⟩
               refine ⟨_, rfl, ?_⟩
               have n0_ := bst HB hb
               replace BK1225 := bbw BK1225 hb
               replace BK1226 := bbw BK1226 hb
               replace BK1227 := bbw BK1227 hb
               replace BK1228 := bbw BK1228 hb
               replace BK1237 := bbw BK1237 hb
               replace BK1238 := bbw BK1238 hb
               replace BK1243 := bbw BK1243 hb
               replace BK1244 := bbw BK1244 hb
               clear HB
               have HB := n0_
               clear n0_
               (try clear hb)
               refine hK.out _ _ ⟨hcz BK1225 0, hcz BK1225 1, hcz BK1226 0, hcz BK1226 1, hcz BK1227 0, hcz BK1227 1, hcz BK1228 0, hcz BK1228 1⟩ (fun hHeld => ?_)
               clear hK K
               refine normQ (N := 114) ?_
               refine oneQ 22 117 HT_.out (fun K hK => ?_)
               refine goesQ Try.func42 #[.agg #[.int .i64 t1229, .int .i64 t1230], .agg #[.int .i64 t1231, .int .i64 t1232]] ?_
               with_reducible refine (itv_Mul.calls kj11 t1229 t1230 t1231 t1232 t1265 t1266 _ A415.out).mono ?_
               rintro e w455 ⟨rfl, hb⟩
               refine ⟨_, rfl, ?_⟩
               have n0_ := bst HB hb
               replace BK1225 := bbw BK1225 hb
               replace BK1226 := bbw BK1226 hb
               replace BK1227 := bbw BK1227 hb
               replace BK1228 := bbw BK1228 hb
               replace BK1237 := bbw BK1237 hb
               replace BK1238 := bbw BK1238 hb
               replace BK1243 := bbw BK1243 hb
               replace BK1244 := bbw BK1244 hb
               clear HB
               have HB := n0_
               clear n0_
               (try clear hb)
               refine hK.out _ _ ⟨hcz BK1225 0, hcz BK1225 1, hcz BK1226 0, hcz BK1226 1, hcz BK1227 0, hcz BK1227 1, hcz BK1228 0, hcz BK1228 1⟩ (fun hHeld => ?_)
               clear hK K
               refine normQ (N := 117) ?_
               refine oneQ 23 118 HT_.out (fun K hK => ?_)
               refine goesQ Try.func24 #[.agg #[.int .i64 t1263, .int .i64 t1264], .agg #[.int .i64 t1265, .int .i64 t1266]] ?_
               with_reducible refine (itv_Leq.calls t1263 t1264 t1265 t1266 true _ A416.out).mono ?_
               rintro e w456 ⟨rfl, hb⟩
               refine ⟨_, rfl, ?_⟩
               have n0_ := bst HB hb
               replace BK1225 := bbw BK1225 hb
               replace BK1226 := bbw BK1226 hb
               replace BK1227 := bbw BK1227 hb
               replace BK1228 := bbw BK1228 hb
               replace BK1237 := bbw BK1237 hb
               replace BK1238 := bbw BK1238 hb
               replace BK1243 := bbw BK1243 hb
               replace BK1244 := bbw BK1244 hb
               clear HB
               have HB := n0_
               clear n0_
               (try clear hb)
               refine hK.out _ _ ⟨hcz BK1225 0, hcz BK1225 1, hcz BK1226 0, hcz BK1226 1, hcz BK1227 0, hcz BK1227 1, hcz BK1228 0, hcz BK1228 1⟩ (fun hHeld => ?_)
               clear hK K
               refine normQ (N := 118) ?_
               refine pureQ 24 119 HT_.out ?_
               refine pureQ 25 120 HT_.out ?_
               refine takeQ 26 121 HT_.out HW_.out hHeld ?_
               refine takeQ 27 122 HT_.out HW_.out hHeld ?_
               refine takeQ 29 124 HT_.out HW_.out hHeld ?_
               refine takeQ 30 125 HT_.out HW_.out hHeld ?_
               refine oneQ 28 123 HT_.out (fun K hK => ?_)
               refine goesQ Try.func45 #[.agg #[.int .i64 a0_0, .int .i64 a0_1], .agg #[.int .i64 a1_0, .int .i64 a1_1]] ?_
               with_reducible refine (itv_Div.calls kj11 a0_0 a0_1 a1_0 a1_1 t1268 t1269 _ A418.out).mono ?_
               rintro e w457 ⟨rfl, hb⟩
               refine ⟨_, rfl, ?_⟩
               have n0_ := bst HB hb
               replace BK1225 := bbw BK1225 hb
               replace BK1226 := bbw BK1226 hb
               replace BK1227 := bbw BK1227 hb
               replace BK1228 := bbw BK1228 hb
               replace BK1237 := bbw BK1237 hb
               replace BK1238 := bbw BK1238 hb
               replace BK1243 := bbw BK1243 hb
               replace BK1244 := bbw BK1244 hb
               clear HB
               have HB := n0_
               clear n0_
               (try clear hb)
               refine hK.out _ _ ⟨hcz BK1225 0, hcz BK1225 1, hcz BK1226 0, hcz BK1226 1, hcz BK1227 0, hcz BK1227 1, hcz BK1228 0, hcz BK1228 1⟩ (fun hHeld => ?_)
               clear hK K
               refine normQ (N := 123) ?_
               refine oneQ 31 126 HT_.out (fun K hK => ?_)
               refine goesQ Try.func45 #[.agg #[.int .i64 t1229, .int .i64 t1230], .agg #[.int .i64 t1231, .int .i64 t1232]] ?_
               with_reducible refine (itv_Div.calls kj11 t1229 t1230 t1231 t1232 t1270 t1271 _ A419.out).mono ?_
               rintro e w458 ⟨rfl, hb⟩
               refine ⟨_, rfl, ?_⟩
               have n0_ := bst HB hb
               replace BK1225 := bbw BK1225 hb
               replace BK1226 := bbw BK1226 hb
               replace BK1227 := bbw BK1227 hb
               replace BK1228 := bbw BK1228 hb
               replace BK1237 := bbw BK1237 hb
               replace BK1238 := bbw BK1238 hb
               replace BK1243 := bbw BK1243 hb
               replace BK1244 := bbw BK1244 hb
               clear HB
               have HB := n0_
               clear n0_
               (try clear hb)
               refine hK.out _ _ ⟨hcz BK1225 0, hcz BK1225 1, hcz BK1226 0, hcz BK1226 1, hcz BK1227 0, hcz BK1227 1, hcz BK1228 0, hcz BK1228 1⟩ (fun hHeld => ?_)
               clear hK K
               refine normQ (N := 126) ?_
               refine oneQ 32 127 HT_.out (fun K hK => ?_)
               refine goesQ Try.func24 #[.agg #[.int .i64 t1268, .int .i64 t1269], .agg #[.int .i64 t1270, .int .i64 t1271]] ?_
               with_reducible refine (itv_Leq.calls t1268 t1269 t1270 t1271 true _ A420.out).mono ?_
               rintro e w459 ⟨rfl, hb⟩
               refine ⟨_, rfl, ?_⟩
               have n0_ := bst HB hb
               replace BK1225 := bbw BK1225 hb
               replace BK1226 := bbw BK1226 hb
               replace BK1227 := bbw BK1227 hb
               replace BK1228 := bbw BK1228 hb
               replace BK1237 := bbw BK1237 hb
               replace BK1238 := bbw BK1238 hb
               replace BK1243 := bbw BK1243 hb
               replace BK1244 := bbw BK1244 hb
               clear HB
               have HB := n0_
               clear n0_
               (try clear hb)
               refine hK.out _ _ ⟨hcz BK1225 0, hcz BK1225 1, hcz BK1226 0, hcz BK1226 1, hcz BK1227 0, hcz BK1227 1, hcz BK1228 0, hcz BK1228 1⟩ (fun hHeld => ?_)
               clear hK K
               refine normQ (N := 127) ?_
               refine pureQ 33 128 HT_.out ?_
               refine pureQ 34 129 HT_.out ?_
               refine takeQ 35 130 HT_.out HW_.out hHeld ?_
               refine takeQ 36 131 HT_.out HW_.out hHeld ?_
               refine takeQ 38 133 HT_.out HW_.out hHeld ?_
               refine takeQ 39 134 HT_.out HW_.out hHeld ?_
               refine oneQ 37 132 HT_.out (fun K hK => ?_)
               refine goesQ Try.func56 #[.agg #[.int .i64 a0_0, .int .i64 a0_1], .agg #[.int .i64 a1_0, .int .i64 a1_1]] ?_
               with_reducible refine (itv_Mod.calls kj11 a0_0 a0_1 a1_0 a1_1 t1273 t1274 _ A422.out).mono ?_
               rintro e w460 ⟨rfl, hb⟩
               refine ⟨_, rfl, ?_⟩
               have n0_ := bst HB hb
               replace BK1225 := bbw BK1225 hb
               replace BK1226 := bbw BK1226 hb
               replace BK1227 := bbw BK1227 hb
               replace BK1228 := bbw BK1228 hb
               replace BK1237 := bbw BK1237 hb
               replace BK1238 := bbw BK1238 hb
               replace BK1243 := bbw BK1243 hb
               replace BK1244 := bbw BK1244 hb
               clear HB
               have HB := n0_
               clear n0_
               (try clear hb)
               refine hK.out _ _ ⟨hcz BK1225 0, hcz BK1225 1, hcz BK1226 0, hcz BK1226 1, hcz BK1227 0, hcz BK1227 1, hcz BK1228 0, hcz BK1228 1⟩ (fun hHeld => ?_)
               clear hK K
               refine normQ (N := 132) ?_
               refine oneQ 40 135 HT_.out (fun K hK => ?_)
               refine goesQ Try.func56 #[.agg #[.int .i64 t1229, .int .i64 t1230], .agg #[.int .i64 t1231, .int .i64 t1232]] ?_
               with_reducible refine (itv_Mod.calls kj11 t1229 t1230 t1231 t1232 t1275 t1276 _ A423.out).mono ?_
               rintro e w461 ⟨rfl, hb⟩
               refine ⟨_, rfl, ?_⟩
               have n0_ := bst HB hb
               replace BK1225 := bbw BK1225 hb
               replace BK1226 := bbw BK1226 hb
               replace BK1227 := bbw BK1227 hb
               replace BK1228 := bbw BK1228 hb
               replace BK1237 := bbw BK1237 hb
               replace BK1238 := bbw BK1238 hb
               replace BK1243 := bbw BK1243 hb
               replace BK1244 := bbw BK1244 hb
               clear HB
               have HB := n0_
               clear n0_
               (try clear hb)
               refine hK.out _ _ ⟨hcz BK1225 0, hcz BK1225 1, hcz BK1226 0, hcz BK1226 1, hcz BK1227 0, hcz BK1227 1, hcz BK1228 0, hcz BK1228 1⟩ (fun hHeld => ?_)
               clear hK K
               refine normQ (N := 135) ?_
               refine oneQ 41 136 HT_.out (fun K hK => ?_)
               refine goesQ Try.func24 #[.agg #[.int .i64 t1273, .int .i64 t1274], .agg #[.int .i64 t1275, .int .i64 t1276]] ?_
               with_reducible refine (itv_Leq.calls t1273 t1274 t1275 t1276 true _ A424.out).mono ?_
               rintro e w462 ⟨rfl, hb⟩
               refine ⟨_, rfl, ?_⟩
               have n0_ := bst HB hb
               replace BK1225 := bbw BK1225 hb
               replace BK1226 := bbw BK1226 hb
               replace BK1227 := bbw BK1227 hb
               replace BK1228 := bbw BK1228 hb
               replace BK1237 := bbw BK1237 hb
               replace BK1238 := bbw BK1238 hb
               replace BK1243 := bbw BK1243 hb
               replace BK1244 := bbw BK1244 hb
               clear HB
               have HB := n0_
               clear n0_
               (try clear hb)
               refine hK.out _ _ ⟨hcz BK1225 0, hcz BK1225 1, hcz BK1226 0, hcz BK1226 1, hcz BK1227 0, hcz BK1227 1, hcz BK1228 0, hcz BK1228 1⟩ (fun hHeld => ?_)
               clear hK K
               refine normQ (N := 136) ?_
               refine pureQ 42 137 HT_.out ?_
               refine pureQ 43 138 HT_.out ?_
               refine takeQ 44 139 HT_.out HW_.out hHeld ?_
               refine takeQ 46 141 HT_.out HW_.out hHeld ?_
               refine oneQ 45 140 HT_.out (fun K hK => ?_)
               refine goesQ Try.func46 #[.agg #[.int .i64 a0_0, .int .i64 a0_1]] ?_
               with_reducible refine (itv_Neg.calls a0_0 a0_1 t1278 t1279 _ A426.out).mono ?_
               rintro e w463 ⟨rfl, hb⟩
               refine ⟨_, rfl, ?_⟩
               have n0_ := bst HB hb
               replace BK1225 := bbw BK1225 hb
               replace BK1226 := bbw BK1226 hb
               replace BK1227 := bbw BK1227 hb
               replace BK1228 := bbw BK1228 hb
               replace BK1237 := bbw BK1237 hb
               replace BK1238 := bbw BK1238 hb
               replace BK1243 := bbw BK1243 hb
               replace BK1244 := bbw BK1244 hb
               clear HB
               have HB := n0_
               clear n0_
               (try clear hb)
               refine hK.out _ _ ⟨hcz BK1225 0, hcz BK1225 1, hcz BK1226 0, hcz BK1226 1, hcz BK1227 0, hcz BK1227 1, hcz BK1228 0, hcz BK1228 1⟩ (fun hHeld => ?_)
               clear hK K
               refine normQ (N := 140) ?_
               refine oneQ 47 142 HT_.out (fun K hK => ?_)
               refine goesQ Try.func46 #[.agg #[.int .i64 t1229, .int .i64 t1230]] ?_
               with_reducible refine (itv_Neg.calls t1229 t1230 t1280 t1281 _ A427.out).mono ?_
               rintro e w464 ⟨rfl, hb⟩
               refine ⟨_, rfl, ?_⟩
               have n0_ := bst HB hb
               replace BK1225 := bbw BK1225 hb
               replace BK1226 := bbw BK1226 hb
               replace BK1227 := bbw BK1227 hb
               replace BK1228 := bbw BK1228 hb
               replace BK1237 := bbw BK1237 hb
               replace BK1238 := bbw BK1238 hb
               replace BK1243 := bbw BK1243 hb
               replace BK1244 := bbw BK1244 hb
               clear HB
               have HB := n0_
               clear n0_
               (try clear hb)
               refine hK.out _ _ ⟨hcz BK1225 0, hcz BK1225 1, hcz BK1226 0, hcz BK1226 1, hcz BK1227 0, hcz BK1227 1, hcz BK1228 0, hcz BK1228 1⟩ (fun hHeld => ?_)
               clear hK K
               refine normQ (N := 142) ?_
               refine oneQ 48 143 HT_.out (fun K hK => ?_)
               refine goesQ Try.func24 #[.agg #[.int .i64 t1278, .int .i64 t1279], .agg #[.int .i64 t1280, .int .i64 t1281]] ?_
               with_reducible refine (itv_Leq.calls t1278 t1279 t1280 t1281 true _ A428.out).mono ?_
               rintro e w465 ⟨rfl, hb⟩
               refine ⟨_, rfl, ?_⟩
               have n0_ := bst HB hb
               replace BK1225 := bbw BK1225 hb
               replace BK1226 := bbw BK1226 hb
               replace BK1227 := bbw BK1227 hb
               replace BK1228 := bbw BK1228 hb
               replace BK1237 := bbw BK1237 hb
               replace BK1238 := bbw BK1238 hb
               replace BK1243 := bbw BK1243 hb
               replace BK1244 := bbw BK1244 hb
               clear HB
               have HB := n0_
               clear n0_
               (try clear hb)
               refine hK.out _ _ ⟨hcz BK1225 0, hcz BK1225 1, hcz BK1226 0, hcz BK1226 1, hcz BK1227 0, hcz BK1227 1, hcz BK1228 0, hcz BK1228 1⟩ (fun hHeld => ?_)
               clear hK K
               refine normQ (N := 143) ?_
               refine pureQ 49 144 HT_.out ?_
               refine pureQ 50 145 HT_.out ?_
               refine takeQ 51 146 HT_.out HW_.out hHeld ?_
               refine takeQ 53 148 HT_.out HW_.out hHeld ?_
               refine oneQ 52 147 HT_.out (fun K hK => ?_)
               refine goesQ Try.func47 #[.agg #[.int .i64 a0_0, .int .i64 a0_1]] ?_
               with_reducible refine (itv_Abs.calls kj11 a0_0 a0_1 t1283 t1284 _ A430.out).mono ?_
               rintro e w466 ⟨rfl, hb⟩
               refine ⟨_, rfl, ?_⟩
               have n0_ := bst HB hb
               replace BK1225 := bbw BK1225 hb
               replace BK1226 := bbw BK1226 hb
               replace BK1227 := bbw BK1227 hb
               replace BK1228 := bbw BK1228 hb
               replace BK1237 := bbw BK1237 hb
               replace BK1238 := bbw BK1238 hb
               replace BK1243 := bbw BK1243 hb
               replace BK1244 := bbw BK1244 hb
               clear HB
               have HB := n0_
               clear n0_
               (try clear hb)
               refine hK.out _ _ ⟨hcz BK1225 0, hcz BK1225 1, hcz BK1226 0, hcz BK1226 1, hcz BK1227 0, hcz BK1227 1, hcz BK1228 0, hcz BK1228 1⟩ (fun hHeld => ?_)
               clear hK K
               refine normQ (N := 147) ?_
               refine oneQ 54 149 HT_.out (fun K hK => ?_)
               refine goesQ Try.func47 #[.agg #[.int .i64 t1229, .int .i64 t1230]] ?_
               with_reducible refine (itv_Abs.calls kj11 t1229 t1230 t1285 t1286 _ A431.out).mono ?_
               rintro e w467 ⟨rfl, hb⟩
               refine ⟨_, rfl, ?_⟩
               have n0_ := bst HB hb
               replace BK1225 := bbw BK1225 hb
               replace BK1226 := bbw BK1226 hb
               replace BK1227 := bbw BK1227 hb
               replace BK1228 := bbw BK1228 hb
               replace BK1237 := bbw BK1237 hb
               replace BK1238 := bbw BK1238 hb
               replace BK1243 := bbw BK1243 hb
               replace BK1244 := bbw BK1244 hb
               clear HB
               have HB := n0_
               clear n0_
               (try clear hb)
               refine hK.out _ _ ⟨hcz BK1225 0, hcz BK1225 1, hcz BK1226 0, hcz BK1226 1, hcz BK1227 0, hcz BK1227 1, hcz BK1228 0, hcz BK1228 1⟩ (fun hHeld => ?_)
               clear hK K
               refine normQ (N := 149) ?_
               refine oneQ 55 150 HT_.out (fun K hK => ?_)
               refine goesQ Try.func24 #[.agg #[.int .i64 t1283, .int .i64 t1284], .agg #[.int .i64 t1285, .int .i64 t1286]] ?_
               with_reducible refine (itv_Leq.calls t1283 t1284 t1285 t1286 true _ A432.out).mono ?_
               rintro e w468 ⟨rfl, hb⟩
               refine ⟨_, rfl, ?_⟩
               have n0_ := bst HB hb
               replace BK1225 := bbw BK1225 hb
               replace BK1226 := bbw BK1226 hb
               replace BK1227 := bbw BK1227 hb
               replace BK1228 := bbw BK1228 hb
               replace BK1237 := bbw BK1237 hb
               replace BK1238 := bbw BK1238 hb
               replace BK1243 := bbw BK1243 hb
               replace BK1244 := bbw BK1244 hb
               clear HB
               have HB := n0_
               clear n0_
               (try clear hb)
               refine hK.out _ _ ⟨hcz BK1225 0, hcz BK1225 1, hcz BK1226 0, hcz BK1226 1, hcz BK1227 0, hcz BK1227 1, hcz BK1228 0, hcz BK1228 1⟩ (fun hHeld => ?_)
               clear hK K
               refine normQ (N := 150) ?_
               refine pureQ 56 151 HT_.out ?_
               refine pureQ 57 152 HT_.out ?_
               refine takeQ 58 153 HT_.out HW_.out hHeld ?_
               refine takeQ 59 154 HT_.out HW_.out hHeld ?_
               refine takeQ 61 156 HT_.out HW_.out hHeld ?_
               refine takeQ 62 157 HT_.out HW_.out hHeld ?_
               refine oneQ 60 155 HT_.out (fun K hK => ?_)
               refine goesQ Try.func43 #[.agg #[.int .i64 a0_0, .int .i64 a0_1], .agg #[.int .i64 a1_0, .int .i64 a1_1]] ?_
               with_reducible refine (itv_Min.calls kj11 a0_0 a0_1 a1_0 a1_1 t1288 t1289 _ A434.out).mono ?_
               rintro e w469 ⟨rfl, hb⟩
               refine ⟨_, rfl, ?_⟩
               have n0_ := bst HB hb
               replace BK1225 := bbw BK1225 hb
               replace BK1226 := bbw BK1226 hb
               replace BK1227 := bbw BK1227 hb
               replace BK1228 := bbw BK1228 hb
               replace BK1237 := bbw BK1237 hb
               replace BK1238 := bbw BK1238 hb
               replace BK1243 := bbw BK1243 hb
               replace BK1244 := bbw BK1244 hb
               clear HB
               have HB := n0_
               clear n0_
               (try clear hb)
               refine hK.out _ _ ⟨hcz BK1225 0, hcz BK1225 1, hcz BK1226 0, hcz BK1226 1, hcz BK1227 0, hcz BK1227 1, hcz BK1228 0, hcz BK1228 1⟩ (fun hHeld => ?_)
               clear hK K
               refine normQ (N := 155) ?_
               refine oneQ 63 158 HT_.out (fun K hK => ?_)
               refine goesQ Try.func43 #[.agg #[.int .i64 t1229, .int .i64 t1230], .agg #[.int .i64 t1231, .int .i64 t1232]] ?_
               with_reducible refine (itv_Min.calls kj11 t1229 t1230 t1231 t1232 t1290 t1291 _ A435.out).mono ?_
               rintro e w470 ⟨rfl, hb⟩
               refine ⟨_, rfl, ?_⟩
               have n0_ := bst HB hb
               replace BK1225 := bbw BK1225 hb
               replace BK1226 := bbw BK1226 hb
               replace BK1227 := bbw BK1227 hb
               replace BK1228 := bbw BK1228 hb
               replace BK1237 := bbw BK1237 hb
               replace BK1238 := bbw BK1238 hb
               replace BK1243 := bbw BK1243 hb
               replace BK1244 := bbw BK1244 hb
               clear HB
               have HB := n0_
               clear n0_
               (try clear hb)
               refine hK.out _ _ ⟨hcz BK1225 0, hcz BK1225 1, hcz BK1226 0, hcz BK1226 1, hcz BK1227 0, hcz BK1227 1, hcz BK1228 0, hcz BK1228 1⟩ (fun hHeld => ?_)
               clear hK K
               refine normQ (N := 158) ?_
               refine oneQ 64 159 HT_.out (fun K hK => ?_)
               refine goesQ Try.func24 #[.agg #[.int .i64 t1288, .int .i64 t1289], .agg #[.int .i64 t1290, .int .i64 t1291]] ?_
               with_reducible refine (itv_Leq.calls t1288 t1289 t1290 t1291 true _ A436.out).mono ?_
               rintro e w471 ⟨rfl, hb⟩
               refine ⟨_, rfl, ?_⟩
               have n0_ := bst HB hb
               replace BK1225 := bbw BK1225 hb
               replace BK1226 := bbw BK1226 hb
               replace BK1227 := bbw BK1227 hb
               replace BK1228 := bbw BK1228 hb
               replace BK1237 := bbw BK1237 hb
               replace BK1238 := bbw BK1238 hb
               replace BK1243 := bbw BK1243 hb
               replace BK1244 := bbw BK1244 hb
               clear HB
               have HB := n0_
               clear n0_
               (try clear hb)
               refine hK.out _ _ ⟨hcz BK1225 0, hcz BK1225 1, hcz BK1226 0, hcz BK1226 1, hcz BK1227 0, hcz BK1227 1, hcz BK1228 0, hcz BK1228 1⟩ (fun hHeld => ?_)
               clear hK K
               refine normQ (N := 159) ?_
               refine pureQ 65 160 HT_.out ?_
               refine pureQ 66 161 HT_.out ?_
               refine takeQ 67 162 HT_.out HW_.out hHeld ?_
               refine takeQ 68 163 HT_.out HW_.out hHeld ?_
               refine takeQ 70 165 HT_.out HW_.out hHeld ?_
               refine takeQ 71 166 HT_.out HW_.out hHeld ?_
               refine oneQ 69 164 HT_.out (fun K hK => ?_)
               refine goesQ Try.func44 #[.agg #[.int .i64 a0_0, .int .i64 a0_1], .agg #[.int .i64 a1_0, .int .i64 a1_1]] ?_
               with_reducible refine (itv_Max.calls kj11 a0_0 a0_1 a1_0 a1_1 t1293 t1294 _ A438.out).mono ?_
               rintro e w472 ⟨rfl, hb⟩
               refine ⟨_, rfl, ?_⟩
               have n0_ := bst HB hb
               replace BK1225 := bbw BK1225 hb
               replace BK1226 := bbw BK1226 hb
               replace BK1227 := bbw BK1227 hb
               replace BK1228 := bbw BK1228 hb
               replace BK1237 := bbw BK1237 hb
               replace BK1238 := bbw BK1238 hb
               replace BK1243 := bbw BK1243 hb
               replace BK1244 := bbw BK1244 hb
               clear HB
               have HB := n0_
               clear n0_
               (try clear hb)
               refine hK.out _ _ ⟨hcz BK1225 0, hcz BK1225 1, hcz BK1226 0, hcz BK1226 1, hcz BK1227 0, hcz BK1227 1, hcz BK1228 0, hcz BK1228 1⟩ (fun hHeld => ?_)
               clear hK K
               refine normQ (N := 164) ?_
               refine oneQ 72 167 HT_.out (fun K hK => ?_)
               refine goesQ Try.func44 #[.agg #[.int .i64 t1229, .int .i64 t1230], .agg #[.int .i64 t1231, .int .i64 t1232]] ?_
               with_reducible refine (itv_Max.calls kj11 t1229 t1230 t1231 t1232 t1295 t1296 _ A439.out).mono ?_
               rintro e w473 ⟨rfl, hb⟩
               refine ⟨_, rfl, ?_⟩
               have n0_ := bst HB hb
               replace BK1225 := bbw BK1225 hb
               replace BK1226 := bbw BK1226 hb
               replace BK1227 := bbw BK1227 hb
               replace BK1228 := bbw BK1228 hb
               replace BK1237 := bbw BK1237 hb
               replace BK1238 := bbw BK1238 hb
               replace BK1243 := bbw BK1243 hb
               replace BK1244 := bbw BK1244 hb
               clear HB
               have HB := n0_
               clear n0_
               (try clear hb)
               refine hK.out _ _ ⟨hcz BK1225 0, hcz BK1225 1, hcz BK1226 0, hcz BK1226 1, hcz BK1227 0, hcz BK1227 1, hcz BK1228 0, hcz BK1228 1⟩ (fun hHeld => ?_)
               clear hK K
               refine normQ (N := 167) ?_
               refine oneQ 73 168 HT_.out (fun K hK => ?_)
               refine goesQ Try.func24 #[.agg #[.int .i64 t1293, .int .i64 t1294], .agg #[.int .i64 t1295, .int .i64 t1296]] ?_
               with_reducible refine (itv_Leq.calls t1293 t1294 t1295 t1296 true _ A440.out).mono ?_
               rintro e w474 ⟨rfl, hb⟩
               refine ⟨_, rfl, ?_⟩
               have n0_ := bst HB hb
               replace BK1225 := bbw BK1225 hb
               replace BK1226 := bbw BK1226 hb
               replace BK1227 := bbw BK1227 hb
               replace BK1228 := bbw BK1228 hb
               replace BK1237 := bbw BK1237 hb
               replace BK1238 := bbw BK1238 hb
               replace BK1243 := bbw BK1243 hb
               replace BK1244 := bbw BK1244 hb
               clear HB
               have HB := n0_
               clear n0_
               (try clear hb)
               refine hK.out _ _ ⟨hcz BK1225 0, hcz BK1225 1, hcz BK1226 0, hcz BK1226 1, hcz BK1227 0, hcz BK1227 1, hcz BK1228 0, hcz BK1228 1⟩ (fun hHeld => ?_)
               clear hK K
               refine normQ (N := 168) ?_
               refine pureQ 74 169 HT_.out ?_
               refine pureQ 75 170 HT_.out ?_
               refine takeQ 76 171 HT_.out HW_.out hHeld ?_
               refine takeQ 77 172 HT_.out HW_.out hHeld ?_
               refine takeQ 79 174 HT_.out HW_.out hHeld ?_
               refine takeQ 80 175 HT_.out HW_.out hHeld ?_
               refine oneQ 78 173 HT_.out (fun K hK => ?_)
               refine goesQ Try.func28 #[.agg #[.int .i64 a0_0, .int .i64 a0_1], .agg #[.int .i64 a1_0, .int .i64 a1_1]] ?_
               with_reducible refine (itv_Meet.calls kj11 a0_0 a0_1 a1_0 a1_1 t1298 t1299 _ A442.out).mono ?_
               rintro e w475 ⟨rfl, hb⟩
               refine ⟨_, rfl, ?_⟩
               have n0_ := bst HB hb
               replace BK1225 := bbw BK1225 hb
               replace BK1226 := bbw BK1226 hb
               replace BK1227 := bbw BK1227 hb
               replace BK1228 := bbw BK1228 hb
               replace BK1237 := bbw BK1237 hb
               replace BK1238 := bbw BK1238 hb
               replace BK1243 := bbw BK1243 hb
               replace BK1244 := bbw BK1244 hb
               clear HB
               have HB := n0_
               clear n0_
               (try clear hb)
               refine hK.out _ _ ⟨hcz BK1225 0, hcz BK1225 1, hcz BK1226 0, hcz BK1226 1, hcz BK1227 0, hcz BK1227 1, hcz BK1228 0, hcz BK1228 1⟩ (fun hHeld => ?_)
               clear hK K
               refine normQ (N := 173) ?_
               refine oneQ 81 176 HT_.out (fun K hK => ?_)
               refine goesQ Try.func28 #[.agg #[.int .i64 t1229, .int .i64 t1230], .agg #[.int .i64 t1231, .int .i64 t1232]] ?_
               with_reducible refine (itv_Meet.calls kj11 t1229 t1230 t1231 t1232 t1300 t1301 _ A443.out).mono ?_
               rintro e w476 ⟨rfl, hb⟩
               refine ⟨_, rfl, ?_⟩
               have n0_ := bst HB hb
               replace BK1225 := bbw BK1225 hb
               replace BK1226 := bbw BK1226 hb
               replace BK1227 := bbw BK1227 hb
               replace BK1228 := bbw BK1228 hb
               replace BK1237 := bbw BK1237 hb
               replace BK1238 := bbw BK1238 hb
               replace BK1243 := bbw BK1243 hb
               replace BK1244 := bbw BK1244 hb
               clear HB
               have HB := n0_
               clear n0_
               (try clear hb)
               refine hK.out _ _ ⟨hcz BK1225 0, hcz BK1225 1, hcz BK1226 0, hcz BK1226 1, hcz BK1227 0, hcz BK1227 1, hcz BK1228 0, hcz BK1228 1⟩ (fun hHeld => ?_)
               clear hK K
               refine normQ (N := 176) ?_
               refine oneQ 82 177 HT_.out (fun K hK => ?_)
               refine goesQ Try.func24 #[.agg #[.int .i64 t1298, .int .i64 t1299], .agg #[.int .i64 t1300, .int .i64 t1301]] ?_
               with_reducible refine (itv_Leq.calls t1298 t1299 t1300 t1301 true _ A444.out).mono ?_
               rintro e w477 ⟨rfl, hb⟩
               refine ⟨_, rfl, ?_⟩
               have n0_ := bst HB hb
               replace BK1225 := bbw BK1225 hb
               replace BK1226 := bbw BK1226 hb
               replace BK1227 := bbw BK1227 hb
               replace BK1228 := bbw BK1228 hb
               replace BK1237 := bbw BK1237 hb
               replace BK1238 := bbw BK1238 hb
               replace BK1243 := bbw BK1243 hb
               replace BK1244 := bbw BK1244 hb
               clear HB
               have HB := n0_
               clear n0_
               (try clear hb)
               refine hK.out _ _ ⟨hcz BK1225 0, hcz BK1225 1, hcz BK1226 0, hcz BK1226 1, hcz BK1227 0, hcz BK1227 1, hcz BK1228 0, hcz BK1228 1⟩ (fun hHeld => ?_)
               clear hK K
               refine normQ (N := 177) ?_
               refine pureQ 83 178 HT_.out ?_
               refine pureQ 84 179 HT_.out ?_
               refine oneQ 85 180 HT_.out (fun K hK => ?_)
               refine goesQ Try.func36 #[] ?_
               with_reducible refine (gimballaw02_awake.calls kj11  t1303 _ A446.out).mono ?_
               rintro e w478 ⟨rfl, hb⟩
               refine ⟨_, rfl, ?_⟩
               have n0_ := bst HB hb
               replace BK1225 := bbw BK1225 hb
               replace BK1226 := bbw BK1226 hb
               replace BK1227 := bbw BK1227 hb
               replace BK1228 := bbw BK1228 hb
               replace BK1237 := bbw BK1237 hb
               replace BK1238 := bbw BK1238 hb
               replace BK1243 := bbw BK1243 hb
               replace BK1244 := bbw BK1244 hb
               clear HB
               have HB := n0_
               clear n0_
               (try clear hb)
               refine hK.out _ _ ⟨hcz BK1225 0, hcz BK1225 1, hcz BK1226 0, hcz BK1226 1, hcz BK1227 0, hcz BK1227 1, hcz BK1228 0, hcz BK1228 1⟩ (fun hHeld => ?_)
               clear hK K
               refine normQ (N := 180) ?_
               refine pureQ 86 181 HT_.out ?_
               refine pureQ 87 10 HT_.out ?_
               refine done_ (done_of HT_.out (by kernel_rfl)) ?_
               try go_wp2
               go_ret
               exact ⟨by first | rfl | (simp [errW_none, errW_some] <;> rfl) | (simp [*, errW_none, errW_some] <;> rfl) | kernel_rfl, (bpk HB).out⟩
              ·
               replace c445 := Bool.eq_false_iff.mpr c445
               subst c445
               have H1 : (some false) = some true := by rw [if_neg (show ¬ (false = true) by decide)] at H; exact H
               clear H
               have H := H1
               clear H1
               exact absurd H (by simp)
             ·
              replace c441 := Bool.eq_false_iff.mpr c441
              subst c441
              have H1 : (some false) = some true := by rw [if_neg (show ¬ (false = true) by decide)] at H; exact H
              clear H
              have H := H1
              clear H1
              exact absurd H (by simp)
            ·
             replace c437 := Bool.eq_false_iff.mpr c437
             subst c437
             have H1 : (some false) = some true := by rw [if_neg (show ¬ (false = true) by decide)] at H; exact H
             clear H
             have H := H1
             clear H1
             exact absurd H (by simp)
           ·
            replace c433 := Bool.eq_false_iff.mpr c433
            subst c433
            have H1 : (some false) = some true := by rw [if_neg (show ¬ (false = true) by decide)] at H; exact H
            clear H
            have H := H1
            clear H1
            exact absurd H (by simp)
          ·
           replace c429 := Bool.eq_false_iff.mpr c429
           subst c429
           have H1 : (some false) = some true := by rw [if_neg (show ¬ (false = true) by decide)] at H; exact H
           clear H
           have H := H1
           clear H1
           exact absurd H (by simp)
         ·
          replace c425 := Bool.eq_false_iff.mpr c425
          subst c425
          have H1 : (some false) = some true := by rw [if_neg (show ¬ (false = true) by decide)] at H; exact H
          clear H
          have H := H1
          clear H1
          exact absurd H (by simp)
        ·
         replace c421 := Bool.eq_false_iff.mpr c421
         subst c421
         have H1 : (some false) = some true := by rw [if_neg (show ¬ (false = true) by decide)] at H; exact H
         clear H
         have H := H1
         clear H1
         exact absurd H (by simp)
       ·
        replace c417 := Bool.eq_false_iff.mpr c417
        subst c417
        have H1 : (some false) = some true := by rw [if_neg (show ¬ (false = true) by decide)] at H; exact H
        clear H
        have H := H1
        clear H1
        exact absurd H (by simp)
      ·
       replace c413 := Bool.eq_false_iff.mpr c413
       subst c413
       have H1 : (some false) = some true := by rw [if_neg (show ¬ (false = true) by decide)] at H; exact H
       clear H
       have H := H1
       clear H1
       exact absurd H (by simp)
     ·
      replace c409 := Bool.eq_false_iff.mpr c409
      subst c409
      have H1 : (some false) = some true := by rw [if_neg (show ¬ (false = true) by decide)] at H; exact H
      clear H
      have H := H1
      clear H1
      exact absurd H (by simp)
/-- THE ONE PURE STATEMENT of gimballaw02_ItvGrows: yours. -/
def gimballaw02_ItvGrows.Pure : Prop := ∀ (a0_0 : Int) (a0_1 : Int) (a1_0 : Int) (a1_1 : Int) (a2_0 : Int) (a2_1 : Int) (a3_0 : Int) (a3_1 : Int) (a4 : Int), (Lit.int .i64 a0_0).wf = true → (Lit.int .i64 a0_1).wf = true → (Lit.int .i64 a1_0).wf = true → (Lit.int .i64 a1_1).wf = true → (Lit.int .i64 a2_0).wf = true → (Lit.int .i64 a2_1).wf = true → (Lit.int .i64 a3_0).wf = true → (Lit.int .i64 a3_1).wf = true → (Lit.int .i64 a4).wf = true → ∃ k, gimballaw02_ItvGrows.f k a0_0 a0_1 a1_0 a1_1 a2_0 a2_1 a3_0 a3_1 a4 = some true
theorem gimballaw02_ItvGrows.walk (P : gimballaw02_ItvGrows.Pure) (a0_0 : Int) (a0_1 : Int) (a1_0 : Int) (a1_1 : Int) (a2_0 : Int) (a2_1 : Int) (a3_0 : Int) (a3_1 : Int) (a4 : Int) (w : World) (w0_0 : (Lit.int .i64 a0_0).wf = true) (w0_1 : (Lit.int .i64 a0_1).wf = true) (w1_0 : (Lit.int .i64 a1_0).wf = true) (w1_1 : (Lit.int .i64 a1_1).wf = true) (w2_0 : (Lit.int .i64 a2_0).wf = true) (w2_1 : (Lit.int .i64 a2_1).wf = true) (w3_0 : (Lit.int .i64 a3_0).wf = true) (w3_1 : (Lit.int .i64 a3_1).wf = true) (w4 : (Lit.int .i64 a4).wf = true) :
    Calls Try.prog 12 #[.agg #[.int .i64 a0_0, .int .i64 a0_1], .agg #[.int .i64 a1_0, .int .i64 a1_1], .agg #[.int .i64 a2_0, .int .i64 a2_1], .agg #[.int .i64 a3_0, .int .i64 a3_1], .int .i64 a4] w fun e w' => e = .returned (.bool true) ∧ Below w.heap.size w w' := by
  obtain ⟨k, h⟩ := P a0_0 a0_1 a1_0 a1_1 a2_0 a2_1 a3_0 a3_1 a4 w0_0 w0_1 w1_0 w1_1 w2_0 w2_1 w3_0 w3_1 w4
  refine (gimballaw02_ItvGrows.calls k a0_0 a0_1 a1_0 a1_1 a2_0 a2_1 a3_0 a3_1 a4  w h).mono ?_
  rintro e w' ⟨rfl, hd⟩
  exact ⟨rfl, hd⟩
end Go.Proofs.Ytbbnpipmjadpoaa.P
