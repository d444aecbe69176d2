/- What the law's proof needs of Px51. -/
import Derived.Test.YtbbnpipmjadpoaaTrDU2
import Derived.Test.YtbbnpipmjadpoaaTrDU
import Derived.Test.YtbbnpipmjadpoaaTrDPx0
import Derived.Test.YtbbnpipmjadpoaaTrDPx2
import Derived.Test.YtbbnpipmjadpoaaTrDPx3
import Derived.Test.YtbbnpipmjadpoaaTrDPx7
import Derived.Test.YtbbnpipmjadpoaaTrDPx9
import Derived.Test.YtbbnpipmjadpoaaTrDPx11
import Derived.Test.YtbbnpipmjadpoaaTrDPx37
-- PRINTED by print.py (a twelfth state) out of the translation. Not trusted: Lean checks it.
namespace Go.Proofs.Ytbbnpipmjadpoaa.P
open Go.RowKit Go.Proofs.YtbbnpipmjadpoaaW.PrintWords Go.Proofs.YtbbnpipmjadpoaaW.PrintLast Go.Proofs.YtbbnpipmjadpoaaW.PrintMore Go.Proofs.YtbbnpipmjadpoaaO
attribute [local go_sem] max2_int min2_int max_two min_two max_three min_three max_four min_four   -- for this text's walks alone
set_option linter.unusedVariables false
set_option linter.unusedSimpArgs false
mutual
def gimbalref02_Mod.j0 : Nat → Bool → Int → Int → Int → Int → Int → Int → Option (Int × Int)
  | 0, _, _, _, _, _, _, _ => none
  | k + 1, x30, x1112000, x1112001, x1121000, x1121001, x1126000, x1126001 => if x30 = true then ((gimbalref02_Empty.f).bind fun bt1129 => (some (bt1129.1, bt1129.2))) else ((gimbalref02_Neg.f k x1121000 x1121001).bind fun bt1131 => ((gimbalref02_Join.f k bt1131.1 bt1131.2 x1126000 x1126001).bind fun bt1133 => ((gimbalref02_None.f x1121000 x1121001).bind fun t1136 => (if t1136 = true then (gimbalref02_Mod.j1 k bt1133.1 bt1133.2 false x1112000 x1112001 x1121000 x1121001 x1126000 x1126001) else ((gimbalref02_None.f x1126000 x1126001).bind fun t1137 => (gimbalref02_Mod.j1 k bt1133.1 bt1133.2 (!t1137) x1112000 x1112001 x1121000 x1121001 x1126000 x1126001))))))
def gimbalref02_Mod.j1 : Nat → Int → Int → Bool → Int → Int → Int → Int → Int → Int → Option (Int × Int)
  | 0, _, _, _, _, _, _, _, _, _ => none
  | k + 1, x8, x9, x47, x1112000, x1112001, x1121000, x1121001, x1126000, x1126001 => if x47 = true then ((gimbalref02_less.f (wrap64 (-x1121001)) x1126000).bind fun t1138 => ((gimbalref02_more.f (wrap64 (-x1121000)) x1126001).bind fun t1139 => (gimbalref02_Mod.j2 k t1138 t1139 x1112000 x1112001 x1121000 x1121001 x1126000 x1126001))) else (gimbalref02_Mod.j2 k x8 x9 x1112000 x1112001 x1121000 x1121001 x1126000 x1126001)
def gimbalref02_Mod.j2 : Nat → Int → Int → Int → Int → Int → Int → Int → Int → Option (Int × Int)
  | 0, _, _, _, _, _, _, _, _ => none
  | k + 1, x8, x9, x1112000, x1112001, x1121000, x1121001, x1126000, x1126001 => if x1112000 > (wrap64 (-x8)) then (gimbalref02_Mod.j3 k x8 x9 (decide (x1112001 < x8)) x1112000 x1112001 x1121000 x1121001 x1126000 x1126001) else (gimbalref02_Mod.j3 k x8 x9 false x1112000 x1112001 x1121000 x1121001 x1126000 x1126001)
def gimbalref02_Mod.j3 : Nat → Int → Int → Bool → Int → Int → Int → Int → Int → Int → Option (Int × Int)
  | 0, _, _, _, _, _, _, _, _, _ => none
  | k + 1, x8, x9, x70, x1112000, x1112001, x1121000, x1121001, x1126000, x1126001 => if x70 = true then (some (x1112000, x1112001)) else ((gimbalref02_None.f x1121000 x1121001).bind fun t1140 => (if t1140 = true then (if x8 = x9 then (if x1112000 > (-4611686018427387904) then (if x1112001 < 4611686018427387904 then (if x8 = 0 then (none) else (gimbalref02_Mod.j4 k x8 x9 ((wrap64 (Int.tdiv x1112000 x8)) == (wrap64 (Int.tdiv x1112001 x8))) x1112000 x1112001)) else (gimbalref02_Mod.j4 k x8 x9 false x1112000 x1112001)) else (gimbalref02_Mod.j4 k x8 x9 false x1112000 x1112001)) else (gimbalref02_Mod.j4 k x8 x9 false x1112000 x1112001)) else ((gimbalref02_None.f x1126000 x1126001).bind fun t1141 => (if t1141 = true then (if x8 = x9 then (if x1112000 > (-4611686018427387904) then (if x1112001 < 4611686018427387904 then (if x8 = 0 then (none) else (gimbalref02_Mod.j4 k x8 x9 ((wrap64 (Int.tdiv x1112000 x8)) == (wrap64 (Int.tdiv x1112001 x8))) x1112000 x1112001)) else (gimbalref02_Mod.j4 k x8 x9 false x1112000 x1112001)) else (gimbalref02_Mod.j4 k x8 x9 false x1112000 x1112001)) else (gimbalref02_Mod.j4 k x8 x9 false x1112000 x1112001)) else (gimbalref02_Mod.j4 k x8 x9 false x1112000 x1112001)))))
def gimbalref02_Mod.j4 : Nat → Int → Int → Bool → Int → Int → Option (Int × Int)
  | 0, _, _, _, _, _ => none
  | k + 1, x8, x9, x103, x1112000, x1112001 => if x103 = true then (if x8 = 0 then (none) else ((gimbalref02_Of.f k (Int.tmod x1112000 x8) (Int.tmod x1112001 x8)).bind fun bt1142 => (some (bt1142.1, bt1142.2)))) else (if x9 < 4611686018427387904 then (gimbalref02_Mod.j5 k 0 0 (wrap64 (x9 - 1)) x1112000 x1112001) else (gimbalref02_Mod.j5 k 0 0 x9 x1112000 x1112001))
def gimbalref02_Mod.j5 : Nat → Int → Int → Int → Int → Int → Option (Int × Int)
  | 0, _, _, _, _, _ => none
  | k + 1, x10, x11, x12, x1112000, x1112001 => if x1112000 < 0 then ((gimbalref02_more.f x1112000 (wrap64 (-x12))).bind fun t1144 => (gimbalref02_Mod.j6 k t1144 x11 x12 x1112000 x1112001)) else (gimbalref02_Mod.j6 k x10 x11 x12 x1112000 x1112001)
def gimbalref02_Mod.j6 : Nat → Int → Int → Int → Int → Int → Option (Int × Int)
  | 0, _, _, _, _, _ => none
  | k + 1, x10, x11, x12, x1112000, x1112001 => if x1112001 > 0 then ((gimbalref02_less.f x1112001 x12).bind fun t1145 => ((gimbalref02_Of.f k x10 t1145).bind fun bt1146 => (some (bt1146.1, bt1146.2)))) else ((gimbalref02_Of.f k x10 x11).bind fun bt1148 => (some (bt1148.1, bt1148.2)))
end
def gimbalref02_Mod.f (k : Nat) (a0_0 : Int) (a0_1 : Int) (a1_0 : Int) (a1_1 : Int) : Option (Int × Int) := (gimbalref02_norm.f k a0_0 a0_1).bind fun bt1114 => ((gimbalref02_Of.f k (-4611686018427387904) (-1)).bind fun bt1116 => ((gimbalref02_Meet.f k a1_0 a1_1 bt1116.1 bt1116.2).bind fun bt1118 => ((gimbalref02_Of.f k 1 4611686018427387904).bind fun bt1121 => ((gimbalref02_Meet.f k a1_0 a1_1 bt1121.1 bt1121.2).bind fun bt1123 => ((gimbalref02_None.f bt1114.1 bt1114.2).bind fun t1126 => (if t1126 = true then (gimbalref02_Mod.j0 k true bt1114.1 bt1114.2 bt1118.1 bt1118.2 bt1123.1 bt1123.2) else ((gimbalref02_None.f bt1118.1 bt1118.2).bind fun t1127 => (if t1127 = true then ((gimbalref02_None.f bt1123.1 bt1123.2).bind fun t1128 => (gimbalref02_Mod.j0 k t1128 bt1114.1 bt1114.2 bt1118.1 bt1118.2 bt1123.1 bt1123.2)) else (gimbalref02_Mod.j0 k false bt1114.1 bt1114.2 bt1118.1 bt1118.2 bt1123.1 bt1123.2)))))))))
def gimbalref02_Mod.T14 : Bool × List (List Nat × List Nat) := (true, [([], []), ([0], [0]), ([1, 1], [1]), ([2], [2]), ([3, 2, 2], [2, 3]), ([2, 4], [2, 4]), ([5, 4], [5]), ([6], [6]), ([6], [6]), ([7, 8, 6], [6, 7, 8]), ([6, 9], [6, 9]), ([10, 6], [10]), ([11], [11]), ([12, 11], [11, 12]), ([13, 11], [11, 13]), ([11, 14], [11, 14]), ([15, 11], [15]), ([16], [16]), ([17, 16], [16, 17]), ([18, 16], [16, 18]), ([16, 19], [16, 19]), ([20, 16], [20]), ([21], [21]), ([22, 21], [21, 22]), ([21], [21]), ([23, 24, 21], [21, 23, 24]), ([21], [21]), ([26, 21], [21, 26]), ([21], [21]), ([27, 28, 21], [21, 27, 28]), ([25, 29, 21], [21, 25, 29]), ([21, 30], [21, 30])])
def gimbalref02_Mod.B14 : List Nat := [0, 1, 3, 7, 15, 31, 63, 127, 127, 511, 1023, 2047, 4095, 8191, 16383, 32767, 65535, 131071, 262143, 524287, 1048575, 2097151, 4194303, 8388607, 4194303, 33554431, 4194303, 71303167, 4194303, 473956351, 1073741823, 2147483647]
theorem gimbalref02_Mod.tab14 : rtab .any (opsOf Try.f57 14) = gimbalref02_Mod.T14 := by kernel_rfl
theorem gimbalref02_Mod.bits14 : waitsOk gimbalref02_Mod.T14.2 gimbalref02_Mod.B14 = true := by kernel_rfl
def gimbalref02_Mod.T15 : Bool × List (List Nat × List Nat) := (true, [([], []), ([0], [0]), ([], []), ([1, 2], [1, 2]), ([], []), ([4], [4]), ([], []), ([5, 6], [5, 6]), ([3, 7], [3, 7]), ([8, 8, 0, 1, 2, 3, 4, 5, 6, 7, 8], [8])])
def gimbalref02_Mod.B15 : List Nat := [0, 1, 0, 7, 0, 16, 0, 112, 255, 511]
theorem gimbalref02_Mod.tab15 : rtab .any (opsOf Try.f57 15) = gimbalref02_Mod.T15 := by kernel_rfl
theorem gimbalref02_Mod.bits15 : waitsOk gimbalref02_Mod.T15.2 gimbalref02_Mod.B15 = true := by kernel_rfl
set_option maxHeartbeats 8000000 in
set_option maxRecDepth 100000 in
theorem gimbalref02_Mod.calls (k : Nat) (a0_0 : Int) (a0_1 : Int) (a1_0 : Int) (a1_1 : Int) (r1 : Int) (r2 : Int) (w : World) (h : gimbalref02_Mod.f k a0_0 a0_1 a1_0 a1_1 = some (r1, r2)) :
    Calls Try.prog 57 #[.agg #[.int .i64 a0_0, .int .i64 a0_1], .agg #[.int .i64 a1_0, .int .i64 a1_1]] w fun e w' => e = .returned (.agg #[.int .i64 r1, .int .i64 r2]) ∧ Below w.heap.size w w' := by
  have hu23 := Try.underlying23
  have HB := Aside0.mk (Below.refl w.heap.size w)
  have H : ((gimbalref02_norm.f k a0_0 a0_1).bind fun bt1114 => ((gimbalref02_Of.f k (-4611686018427387904) (-1)).bind fun bt1116 => ((gimbalref02_Meet.f k a1_0 a1_1 bt1116.1 bt1116.2).bind fun bt1118 => ((gimbalref02_Of.f k 1 4611686018427387904).bind fun bt1121 => ((gimbalref02_Meet.f k a1_0 a1_1 bt1121.1 bt1121.2).bind fun bt1123 => ((gimbalref02_None.f bt1114.1 bt1114.2).bind fun t1126 => (if t1126 = true then (gimbalref02_Mod.j0 k true bt1114.1 bt1114.2 bt1118.1 bt1118.2 bt1123.1 bt1123.2) else ((gimbalref02_None.f bt1118.1 bt1118.2).bind fun t1127 => (if t1127 = true then ((gimbalref02_None.f bt1123.1 bt1123.2).bind fun t1128 => (gimbalref02_Mod.j0 k t1128 bt1114.1 bt1114.2 bt1118.1 bt1118.2 bt1123.1 bt1123.2)) else (gimbalref02_Mod.j0 k false bt1114.1 bt1114.2 bt1118.1 bt1118.2 bt1123.1 bt1123.2)))))))))) = some (r1, r2) := h
  clear h
  replace H := Option.bind_eq_some_iff.mp H
  obtain ⟨⟨t1114, t1115⟩, A30, H⟩ := H
  replace H : ((gimbalref02_Of.f k (-4611686018427387904) (-1)).bind fun bt1116 => ((gimbalref02_Meet.f k a1_0 a1_1 bt1116.1 bt1116.2).bind fun bt1118 => ((gimbalref02_Of.f k 1 4611686018427387904).bind fun bt1121 => ((gimbalref02_Meet.f k a1_0 a1_1 bt1121.1 bt1121.2).bind fun bt1123 => ((gimbalref02_None.f t1114 t1115).bind fun t1126 => (if t1126 = true then (gimbalref02_Mod.j0 k true t1114 t1115 bt1118.1 bt1118.2 bt1123.1 bt1123.2) else ((gimbalref02_None.f bt1118.1 bt1118.2).bind fun t1127 => (if t1127 = true then ((gimbalref02_None.f bt1123.1 bt1123.2).bind fun t1128 => (gimbalref02_Mod.j0 k t1128 t1114 t1115 bt1118.1 bt1118.2 bt1123.1 bt1123.2)) else (gimbalref02_Mod.j0 k false t1114 t1115 bt1118.1 bt1118.2 bt1123.1 bt1123.2))))))))) = some (r1, r2) := H
  have A3 := Aside0.mk A30
  clear A30
  replace H := Option.bind_eq_some_iff.mp H
  obtain ⟨⟨t1116, t1117⟩, A40, H⟩ := H
  replace H : ((gimbalref02_Meet.f k a1_0 a1_1 t1116 t1117).bind fun bt1118 => ((gimbalref02_Of.f k 1 4611686018427387904).bind fun bt1121 => ((gimbalref02_Meet.f k a1_0 a1_1 bt1121.1 bt1121.2).bind fun bt1123 => ((gimbalref02_None.f t1114 t1115).bind fun t1126 => (if t1126 = true then (gimbalref02_Mod.j0 k true t1114 t1115 bt1118.1 bt1118.2 bt1123.1 bt1123.2) else ((gimbalref02_None.f bt1118.1 bt1118.2).bind fun t1127 => (if t1127 = true then ((gimbalref02_None.f bt1123.1 bt1123.2).bind fun t1128 => (gimbalref02_Mod.j0 k t1128 t1114 t1115 bt1118.1 bt1118.2 bt1123.1 bt1123.2)) else (gimbalref02_Mod.j0 k false t1114 t1115 bt1118.1 bt1118.2 bt1123.1 bt1123.2)))))))) = some (r1, r2) := H
  have A4 := Aside0.mk A40
  clear A40
  replace H := Option.bind_eq_some_iff.mp H
  obtain ⟨⟨t1118, t1119⟩, A50, H⟩ := H
  replace H : ((gimbalref02_Of.f k 1 4611686018427387904).bind fun bt1121 => ((gimbalref02_Meet.f k a1_0 a1_1 bt1121.1 bt1121.2).bind fun bt1123 => ((gimbalref02_None.f t1114 t1115).bind fun t1126 => (if t1126 = true then (gimbalref02_Mod.j0 k true t1114 t1115 t1118 t1119 bt1123.1 bt1123.2) else ((gimbalref02_None.f t1118 t1119).bind fun t1127 => (if t1127 = true then ((gimbalref02_None.f bt1123.1 bt1123.2).bind fun t1128 => (gimbalref02_Mod.j0 k t1128 t1114 t1115 t1118 t1119 bt1123.1 bt1123.2)) else (gimbalref02_Mod.j0 k false t1114 t1115 t1118 t1119 bt1123.1 bt1123.2))))))) = some (r1, r2) := H
  have A5 := Aside0.mk A50
  clear A50
  replace H := Option.bind_eq_some_iff.mp H
  obtain ⟨⟨t1121, t1122⟩, A60, H⟩ := H
  replace H : ((gimbalref02_Meet.f k a1_0 a1_1 t1121 t1122).bind fun bt1123 => ((gimbalref02_None.f t1114 t1115).bind fun t1126 => (if t1126 = true then (gimbalref02_Mod.j0 k true t1114 t1115 t1118 t1119 bt1123.1 bt1123.2) else ((gimbalref02_None.f t1118 t1119).bind fun t1127 => (if t1127 = true then ((gimbalref02_None.f bt1123.1 bt1123.2).bind fun t1128 => (gimbalref02_Mod.j0 k t1128 t1114 t1115 t1118 t1119 bt1123.1 bt1123.2)) else (gimbalref02_Mod.j0 k false t1114 t1115 t1118 t1119 bt1123.1 bt1123.2)))))) = some (r1, r2) := H
  have A6 := Aside0.mk A60
  clear A60
  replace H := Option.bind_eq_some_iff.mp H
  obtain ⟨⟨t1123, t1124⟩, A70, H⟩ := H
  replace H : ((gimbalref02_None.f t1114 t1115).bind fun t1126 => (if t1126 = true then (gimbalref02_Mod.j0 k true t1114 t1115 t1118 t1119 t1123 t1124) else ((gimbalref02_None.f t1118 t1119).bind fun t1127 => (if t1127 = true then ((gimbalref02_None.f t1123 t1124).bind fun t1128 => (gimbalref02_Mod.j0 k t1128 t1114 t1115 t1118 t1119 t1123 t1124)) else (gimbalref02_Mod.j0 k false t1114 t1115 t1118 t1119 t1123 t1124))))) = some (r1, r2) := H
  have A7 := Aside0.mk A70
  clear A70
  have HC8 := Aside0.mk H
  clear H
  go_enter Try.func57, Try.ntmps57
  try go_wp2_with (first | ((with_reducible refine gate_dst (N := 2) rfl ?_); refine box_event ?hg (N := 2) ?hd (cs := #[.int .i64 a0_0, .int .i64 a0_1]) (t := 23) ?hr ?_; (case hd => rfl); (case hg => rfl); (case hr => first | (go_simp; done) | (go_simp; rfl)); intro gb1111 hg w9 hbox hb; have n0_ := bst HB hb; have n1_ := Aside0.mk (hbox); have n2_ := bsz HB hg; have n3_ := bsz HB hg; clear HB; have HB := n0_; have BK1111 := n1_; have GW1111 := n2_; have GE1111 := n3_; clear n0_ n1_ n2_ n3_; clear hb hbox hg) | ((with_reducible refine gate_dst (N := 3) rfl ?_); refine box_event ?hg (N := 3) ?hd (cs := #[.int .i64 a1_0, .int .i64 a1_1]) (t := 23) ?hr ?_; (case hd => rfl); (case hg => rfl); (case hr => first | (go_simp; done) | (go_simp; rfl)); intro gb1112 hg w10 hbox hb; have n0_ := bst HB hb; have n1_ := Aside0.mk (hbox); have n2_ := bsz HB hg; have n3_ := bsz HB hg; have n4_ := bn1 BK1111 hg; have n5_ := bn2 BK1111 hg; replace BK1111 := bbw BK1111 hb; clear HB; have HB := n0_; have BK1112 := n1_; have GW1112 := n2_; have GE1112 := n3_; have NB1111_1112 := n4_; have NB1112_1111 := n5_; clear n0_ n1_ n2_ n3_ n4_ n5_; clear hb hbox hg) | ((with_reducible refine gate_dst (N := 4) rfl ?_); refine box_event ?hg (N := 4) ?hd (cs := #[.int .i64 0, .int .i64 0]) (t := 23) ?hr ?_; (case hd => rfl); (case hg => rfl); (case hr => first | (go_simp; done) | (go_simp; rfl)); intro gb1113 hg w11 hbox hb; have n0_ := bst HB hb; have n1_ := Aside0.mk (hbox); have n2_ := bsz HB hg; have n3_ := bsz HB hg; have n4_ := bn1 BK1111 hg; have n5_ := bn2 BK1111 hg; have n6_ := bn1 BK1112 hg; have n7_ := bn2 BK1112 hg; replace BK1111 := bbw BK1111 hb; replace BK1112 := bbw BK1112 hb; clear HB; have HB := n0_; have BK1113 := n1_; have GW1113 := n2_; have GE1113 := n3_; have NB1111_1113 := n4_; have NB1113_1111 := n5_; have NB1112_1113 := n6_; have NB1113_1112 := n7_; clear n0_ n1_ n2_ n3_ n4_ n5_ n6_ n7_; clear hb hbox hg; have hnb12 := NB1111_1112.out; have hnc12 := NB1112_1111.out; have hnb13 := NB1111_1113.out; have hnc13 := NB1113_1111.out; have hcz14_0 := hcz BK1111 0; have hcz14_1 := hcz BK1111 1; have hfz14_0 := blk_frozen BK1111.out 0; have hfz14_1 := blk_frozen BK1111.out 1) | ((with_reducible refine gate_callee (f := 60) rfl ?_); refine goesL_ (some 14) rfl rfl Try.func60 (by kernel_rfl) rfl #[.agg #[.int .i64 a0_0, .int .i64 a0_1]] rfl (by (try simp only [List.map_toArray, List.map_cons, List.map_nil]); first | done | rfl | (simp only [List.length_drop, List.length_take]; rfl)) ?_; (with_reducible refine (gimbalref02_norm.calls k a0_0 a0_1 t1114 t1115 _ A3.out).mono ?_); rintro e w15 ⟨rfl, hb⟩; refine ⟨_, rfl, ?_⟩; have n0_ := bst HB hb; replace BK1111 := bbw BK1111 hb; replace BK1112 := bbw BK1112 hb; replace BK1113 := bbw BK1113 hb; clear HB; have HB := n0_; clear n0_; (try clear hb); (try clear hb2); (try clear hk); (try clear hi); have hcz16_0 := hcz BK1111 0; have hcz16_1 := hcz BK1111 1; have hfz16_0 := blk_frozen BK1111.out 0; have hfz16_1 := blk_frozen BK1111.out 1))
  have n0_ : Aside0 (((w15.setCell ⟨gb1111, 0, none⟩ (.int .i64 t1114)).setCell ⟨gb1111, 1, none⟩ (.int .i64 t1115)).heap[gb1111]? = some (.cells #[.int .i64 t1114, .int .i64 t1115] 23 (0, 0))) := ⟨by refine pkB ?_; refine blk_put (cs := #[.int .i64 t1114, .int .i64 a0_1]) ?_ 1 _ (by first | rfl | (subst_vars; rfl)); refine pkB ?_; refine blk_put (cs := #[.int .i64 a0_0, .int .i64 a0_1]) ?_ 0 _ (by first | rfl | (subst_vars; rfl)); refine pkB ?_; exact BK1111.out⟩
  have n1_ : Aside0 (((w15.setCell ⟨gb1111, 0, none⟩ (.int .i64 t1114)).setCell ⟨gb1111, 1, none⟩ (.int .i64 t1115)).heap[gb1112]? = some (.cells #[.int .i64 a1_0, .int .i64 a1_1] 23 (0, 0))) := far2 BK1112 NB1112_1111
  have n2_ : Aside0 (((w15.setCell ⟨gb1111, 0, none⟩ (.int .i64 t1114)).setCell ⟨gb1111, 1, none⟩ (.int .i64 t1115)).heap[gb1113]? = some (.cells #[.int .i64 0, .int .i64 0] 23 (0, 0))) := far2 BK1113 NB1113_1111
  have n3_ : Aside0 (Below w.heap.size w ((w15.setCell ⟨gb1111, 0, none⟩ (.int .i64 t1114)).setCell ⟨gb1111, 1, none⟩ (.int .i64 t1115))) := bpk HB
  (try clear BK1111)
  (try clear BK1112)
  (try clear BK1113)
  (try clear HB)
  generalize ((w15.setCell ⟨gb1111, 0, none⟩ (.int .i64 t1114)).setCell ⟨gb1111, 1, none⟩ (.int .i64 t1115)) = w17 at n0_ n1_ n2_ n3_ ⊢
  have BK1111 := n0_
  have BK1112 := n1_
  have BK1113 := n2_
  have HB := n3_
  clear n0_ n1_ n2_ n3_
  have n0_ := Aside0.mk (blk_drew BK1111.out)
  have n1_ := Aside0.mk (blk_drew BK1112.out)
  have n2_ := Aside0.mk (blk_drew BK1113.out)
  have n3_ := Aside0.mk (below_drew1 HB.out)
  clear BK1111
  clear BK1112
  clear BK1113
  clear HB
  have BK1111 := n0_
  have BK1112 := n1_
  have BK1113 := n2_
  have HB := n3_
  clear n0_ n1_ n2_ n3_
  refine start_ (n := 5) (S := fun w' => w'.cell? ⟨gb1112, 0, none⟩ = some (.int .i64 a1_0) ∧ w'.cell? ⟨gb1112, 1, none⟩ = some (.int .i64 a1_1)) (ds := []) #[false, false, false, false, false] (by kernel_rfl) rfl rfl ⟨hcz BK1112 0, hcz BK1112 1⟩ (fun hHeld => ?_)
  generalize w17.drew = w18 at BK1111 BK1112 BK1113 HB hHeld ⊢
  refine take_ (i := 0) (N := some 15) (v := ?_) (a' := ?_) #[true, false, false, false, false] rfl rfl (by kernel_rfl) (fun _ _ _ h => h) (Or.inl ⟨by rfl, ?_⟩) hHeld ?_ ?_
  rotate_left
  ·
   rintro w' ⟨s0, s1⟩
   go_simp
   with_reducible rfl
  rotate_left
  ·
   simp only [Act.put, List.setIfInBounds_toArray, List.set_cons_zero, List.set_cons_succ, i64_w, i32_w]
   rfl
  refine join_ (σ := Nat) 1 #[true, true, true, true, false] (fun s_ => [(16, .agg #[.int .i64 t1116, .int .i64 t1117]), (17, .agg #[.int .i64 t1118, .int .i64 t1119]), (5, .pointer (some ⟨s_, 0, none⟩))]) (fun s_ w' => (w'.cell? ⟨gb1112, 0, none⟩ = some (.int .i64 a1_0) ∧ w'.cell? ⟨gb1112, 1, none⟩ = some (.int .i64 a1_1)) ∧ (w'.heap[gb1111]? = some (.cells #[.int .i64 t1114, .int .i64 t1115] 23 (0, 0))) ∧ (w'.heap[gb1112]? = some (.cells #[.int .i64 a1_0, .int .i64 a1_1] 23 (0, 0))) ∧ (w'.heap[gb1113]? = some (.cells #[.int .i64 0, .int .i64 0] 23 (0, 0))) ∧ (w'.heap[s_]? = some (.cells #[.int .i64 0, .int .i64 0] 23 (0, 0))) ∧ (w.heap.size ≤ s_) ∧ (w.heap.size ≤ s_) ∧ (gb1111 ≠ s_) ∧ (s_ ≠ gb1111) ∧ (gb1112 ≠ s_) ∧ (s_ ≠ gb1112) ∧ (gb1113 ≠ s_) ∧ (s_ ≠ gb1113) ∧ (Below w.heap.size w w')) ?_ ?_
  rotate_left
  ·
   intro hCont
   refine two_ (i := 1) (j := 3) (Ni := some 16) (Nj := some 5) #[true, true, false, false, false] #[true, false, false, true, false] rfl rfl rfl rfl (by kernel_rfl) (by decide) (by decide) (fun K hK => ?_) (fun K hK => ?_)
   · skip
     refine goesQ Try.func14 #[.int .i64 (-4611686018427387904), .int .i64 (-1)] ?_
     with_reducible refine (gimbalref02_Of.calls k (-4611686018427387904) (-1) t1116 t1117 _ A4.out).mono ?_
     rintro e w19 ⟨rfl, hb⟩
     refine ⟨_, rfl, ?_⟩
     have n0_ := bst HB hb
     replace BK1111 := bbw BK1111 hb
     replace BK1112 := bbw BK1112 hb
     replace BK1113 := bbw BK1113 hb
     clear HB
     have HB := n0_
     clear n0_
     (try clear hb)
     (try clear hb2)
     (try clear hk)
     (try clear hi)
     refine hK.out _ _ ⟨hcz BK1112 0, hcz BK1112 1⟩ (fun hHeld => ?_)
     clear hK K
     refine norm_ (a' := ?_) ?_ ?_
     rotate_left
     · show Act.put _ (some 16) _ = _
       simp only [Act.put, List.setIfInBounds_toArray, List.set_cons_zero, List.set_cons_succ, i64_w, i32_w]
       rfl
     refine two_ (i := 2) (j := 3) (Ni := some 17) (Nj := some 5) #[true, true, true, false, false] #[true, true, false, true, false] rfl rfl rfl rfl (by kernel_rfl) (by decide) (by decide) (fun K hK => ?_) (fun K hK => ?_)
     · skip
       refine goesQ Try.func29 #[.agg #[.int .i64 a1_0, .int .i64 a1_1], .agg #[.int .i64 t1116, .int .i64 t1117]] ?_
       with_reducible refine (gimbalref02_Meet.calls k a1_0 a1_1 t1116 t1117 t1118 t1119 _ A5.out).mono ?_
       rintro e w20 ⟨rfl, hb⟩
       refine ⟨_, rfl, ?_⟩
       have n0_ := bst HB hb
       replace BK1111 := bbw BK1111 hb
       replace BK1112 := bbw BK1112 hb
       replace BK1113 := bbw BK1113 hb
       clear HB
       have HB := n0_
       clear n0_
       (try clear hb)
       (try clear hb2)
       (try clear hk)
       (try clear hi)
       refine hK.out _ _ ⟨hcz BK1112 0, hcz BK1112 1⟩ (fun hHeld => ?_)
       clear hK K
       refine norm_ (a' := ?_) ?_ ?_
       rotate_left
       · show Act.put _ (some 17) _ = _
         simp only [Act.put, List.setIfInBounds_toArray, List.set_cons_zero, List.set_cons_succ, i64_w, i32_w]
         rfl
       refine one_ (i := 3) (N := some 5) #[true, true, true, true, false] rfl rfl (by kernel_rfl) (by decide) (fun K hK => ?_)
       refine box_step ?hg (N := 5) ?hd (cs := #[.int .i64 0, .int .i64 0]) (t := 23) ?hr ?_; (case hd => rfl); (case hg => rfl); (case hr => first | (go_simp; done) | (go_simp; rfl))
       intro gb1120 hg w21 hbox hb
       have n0_ := bst HB hb
       have n1_ := Aside0.mk (hbox)
       have n2_ := bsz HB hg
       have n3_ := bsz HB hg
       have n4_ := bn1 BK1111 hg
       have n5_ := bn2 BK1111 hg
       have n6_ := bn1 BK1112 hg
       have n7_ := bn2 BK1112 hg
       have n8_ := bn1 BK1113 hg
       have n9_ := bn2 BK1113 hg
       replace BK1111 := bbw BK1111 hb
       replace BK1112 := bbw BK1112 hb
       replace BK1113 := bbw BK1113 hb
       clear HB
       have HB := n0_
       have BK1120 := n1_
       have GW1120 := n2_
       have GE1120 := n3_
       have NB1111_1120 := n4_
       have NB1120_1111 := n5_
       have NB1112_1120 := n6_
       have NB1120_1112 := n7_
       have NB1113_1120 := n8_
       have NB1120_1113 := n9_
       clear n0_ n1_ n2_ n3_ n4_ n5_ n6_ n7_ n8_ n9_
       clear hb hbox hg
       refine hK.out _ _ ⟨hcz BK1112 0, hcz BK1112 1⟩ (fun hHeld => ?_)
       clear hK K
       refine norm_ (a' := ?_) ?_ ?_
       rotate_left
       · show Act.put _ (some 5) _ = _
         simp only [Act.put, List.setIfInBounds_toArray, List.set_cons_zero, List.set_cons_succ, i64_w, i32_w]
         rfl
       exact norm_ (by simp only [putAll, Act.put, List.setIfInBounds_toArray, List.set_cons_zero, List.set_cons_succ]) (hCont (gb1120) _ ⟨hHeld, (pk BK1111.out), (pk BK1112.out), (pk BK1113.out), (pk BK1120.out), GW1120.out, GE1120.out, NB1111_1120.out, NB1120_1111.out, NB1112_1120.out, NB1120_1112.out, NB1113_1120.out, NB1120_1113.out, (by repeat (first | (with_reducible first | exact HB.out | apply below_alloc | apply pw_below_drewN | apply below_drew1 | refine below_set ?_ GE1111.out | refine below_set ?_ GE1112.out | refine below_set ?_ GE1113.out | refine below_set ?_ GE1120.out) | exact HB.out))⟩)
     · skip
       refine box_step ?hg (N := 5) ?hd (cs := #[.int .i64 0, .int .i64 0]) (t := 23) ?hr ?_; (case hd => rfl); (case hg => rfl); (case hr => first | (go_simp; done) | (go_simp; rfl))
       intro gb1120 hg w20 hbox hb
       have n0_ := bst HB hb
       have n1_ := Aside0.mk (hbox)
       have n2_ := bsz HB hg
       have n3_ := bsz HB hg
       have n4_ := bn1 BK1111 hg
       have n5_ := bn2 BK1111 hg
       have n6_ := bn1 BK1112 hg
       have n7_ := bn2 BK1112 hg
       have n8_ := bn1 BK1113 hg
       have n9_ := bn2 BK1113 hg
       replace BK1111 := bbw BK1111 hb
       replace BK1112 := bbw BK1112 hb
       replace BK1113 := bbw BK1113 hb
       clear HB
       have HB := n0_
       have BK1120 := n1_
       have GW1120 := n2_
       have GE1120 := n3_
       have NB1111_1120 := n4_
       have NB1120_1111 := n5_
       have NB1112_1120 := n6_
       have NB1120_1112 := n7_
       have NB1113_1120 := n8_
       have NB1120_1113 := n9_
       clear n0_ n1_ n2_ n3_ n4_ n5_ n6_ n7_ n8_ n9_
       clear hb hbox hg
       refine hK.out _ _ ⟨hcz BK1112 0, hcz BK1112 1⟩ (fun hHeld => ?_)
       clear hK K
       refine norm_ (a' := ?_) ?_ ?_
       rotate_left
       · show Act.put _ (some 5) _ = _
         simp only [Act.put, List.setIfInBounds_toArray, List.set_cons_zero, List.set_cons_succ, i64_w, i32_w]
         rfl
       refine one_ (i := 2) (N := some 17) #[true, true, true, true, false] rfl rfl (by kernel_rfl) (by decide) (fun K hK => ?_)
       refine goesQ Try.func29 #[.agg #[.int .i64 a1_0, .int .i64 a1_1], .agg #[.int .i64 t1116, .int .i64 t1117]] ?_
       with_reducible refine (gimbalref02_Meet.calls k a1_0 a1_1 t1116 t1117 t1118 t1119 _ A5.out).mono ?_
       rintro e w21 ⟨rfl, hb⟩
       refine ⟨_, rfl, ?_⟩
       have n0_ := bst HB hb
       replace BK1111 := bbw BK1111 hb
       replace BK1112 := bbw BK1112 hb
       replace BK1113 := bbw BK1113 hb
       replace BK1120 := bbw BK1120 hb
       clear HB
       have HB := n0_
       clear n0_
       (try clear hb)
       (try clear hb2)
       (try clear hk)
       (try clear hi)
       refine hK.out _ _ ⟨hcz BK1112 0, hcz BK1112 1⟩ (fun hHeld => ?_)
       clear hK K
       refine norm_ (a' := ?_) ?_ ?_
       rotate_left
       · show Act.put _ (some 17) _ = _
         simp only [Act.put, List.setIfInBounds_toArray, List.set_cons_zero, List.set_cons_succ, i64_w, i32_w]
         rfl
       exact norm_ (by simp only [putAll, Act.put, List.setIfInBounds_toArray, List.set_cons_zero, List.set_cons_succ]) (hCont (gb1120) _ ⟨hHeld, (pk BK1111.out), (pk BK1112.out), (pk BK1113.out), (pk BK1120.out), GW1120.out, GE1120.out, NB1111_1120.out, NB1120_1111.out, NB1112_1120.out, NB1120_1112.out, NB1113_1120.out, NB1120_1113.out, (by repeat (first | (with_reducible first | exact HB.out | apply below_alloc | apply pw_below_drewN | apply below_drew1 | refine below_set ?_ GE1111.out | refine below_set ?_ GE1112.out | refine below_set ?_ GE1113.out | refine below_set ?_ GE1120.out) | exact HB.out))⟩)
   · skip
     refine box_step ?hg (N := 5) ?hd (cs := #[.int .i64 0, .int .i64 0]) (t := 23) ?hr ?_; (case hd => rfl); (case hg => rfl); (case hr => first | (go_simp; done) | (go_simp; rfl))
     intro gb1120 hg w19 hbox hb
     have n0_ := bst HB hb
     have n1_ := Aside0.mk (hbox)
     have n2_ := bsz HB hg
     have n3_ := bsz HB hg
     have n4_ := bn1 BK1111 hg
     have n5_ := bn2 BK1111 hg
     have n6_ := bn1 BK1112 hg
     have n7_ := bn2 BK1112 hg
     have n8_ := bn1 BK1113 hg
     have n9_ := bn2 BK1113 hg
     replace BK1111 := bbw BK1111 hb
     replace BK1112 := bbw BK1112 hb
     replace BK1113 := bbw BK1113 hb
     clear HB
     have HB := n0_
     have BK1120 := n1_
     have GW1120 := n2_
     have GE1120 := n3_
     have NB1111_1120 := n4_
     have NB1120_1111 := n5_
     have NB1112_1120 := n6_
     have NB1120_1112 := n7_
     have NB1113_1120 := n8_
     have NB1120_1113 := n9_
     clear n0_ n1_ n2_ n3_ n4_ n5_ n6_ n7_ n8_ n9_
     clear hb hbox hg
     refine hK.out _ _ ⟨hcz BK1112 0, hcz BK1112 1⟩ (fun hHeld => ?_)
     clear hK K
     refine norm_ (a' := ?_) ?_ ?_
     rotate_left
     · show Act.put _ (some 5) _ = _
       simp only [Act.put, List.setIfInBounds_toArray, List.set_cons_zero, List.set_cons_succ, i64_w, i32_w]
       rfl
     refine one_ (i := 1) (N := some 16) #[true, true, false, true, false] rfl rfl (by kernel_rfl) (by decide) (fun K hK => ?_)
     refine goesQ Try.func14 #[.int .i64 (-4611686018427387904), .int .i64 (-1)] ?_
     with_reducible refine (gimbalref02_Of.calls k (-4611686018427387904) (-1) t1116 t1117 _ A4.out).mono ?_
     rintro e w20 ⟨rfl, hb⟩
     refine ⟨_, rfl, ?_⟩
     have n0_ := bst HB hb
     replace BK1111 := bbw BK1111 hb
     replace BK1112 := bbw BK1112 hb
     replace BK1113 := bbw BK1113 hb
     replace BK1120 := bbw BK1120 hb
     clear HB
     have HB := n0_
     clear n0_
     (try clear hb)
     (try clear hb2)
     (try clear hk)
     (try clear hi)
     refine hK.out _ _ ⟨hcz BK1112 0, hcz BK1112 1⟩ (fun hHeld => ?_)
     clear hK K
     refine norm_ (a' := ?_) ?_ ?_
     rotate_left
     · show Act.put _ (some 16) _ = _
       simp only [Act.put, List.setIfInBounds_toArray, List.set_cons_zero, List.set_cons_succ, i64_w, i32_w]
       rfl
     refine one_ (i := 2) (N := some 17) #[true, true, true, true, false] rfl rfl (by kernel_rfl) (by decide) (fun K hK => ?_)
     refine goesQ Try.func29 #[.agg #[.int .i64 a1_0, .int .i64 a1_1], .agg #[.int .i64 t1116, .int .i64 t1117]] ?_
     with_reducible refine (gimbalref02_Meet.calls k a1_0 a1_1 t1116 t1117 t1118 t1119 _ A5.out).mono ?_
     rintro e w21 ⟨rfl, hb⟩
     refine ⟨_, rfl, ?_⟩
     have n0_ := bst HB hb
     replace BK1111 := bbw BK1111 hb
     replace BK1112 := bbw BK1112 hb
     replace BK1113 := bbw BK1113 hb
     replace BK1120 := bbw BK1120 hb
     clear HB
     have HB := n0_
     clear n0_
     (try clear hb)
     (try clear hb2)
     (try clear hk)
     (try clear hi)
     refine hK.out _ _ ⟨hcz BK1112 0, hcz BK1112 1⟩ (fun hHeld => ?_)
     clear hK K
     refine norm_ (a' := ?_) ?_ ?_
     rotate_left
     · show Act.put _ (some 17) _ = _
       simp only [Act.put, List.setIfInBounds_toArray, List.set_cons_zero, List.set_cons_succ, i64_w, i32_w]
       rfl
     exact norm_ (by simp only [putAll, Act.put, List.setIfInBounds_toArray, List.set_cons_zero, List.set_cons_succ]) (hCont (gb1120) _ ⟨hHeld, (pk BK1111.out), (pk BK1112.out), (pk BK1113.out), (pk BK1120.out), GW1120.out, GE1120.out, NB1111_1120.out, NB1120_1111.out, NB1112_1120.out, NB1120_1112.out, NB1113_1120.out, NB1120_1113.out, (by repeat (first | (with_reducible first | exact HB.out | apply below_alloc | apply pw_below_drewN | apply below_drew1 | refine below_set ?_ GE1111.out | refine below_set ?_ GE1112.out | refine below_set ?_ GE1113.out | refine below_set ?_ GE1120.out) | exact HB.out))⟩)
  rintro gb1120 w22 ⟨hS_, h0_, h1_, h2_, h3_, h4_, h5_, h6_, h7_, h8_, h9_, h10_, h11_, h12_⟩
  have n0_ : Aside0 (w22.heap[gb1111]? = some (.cells #[.int .i64 t1114, .int .i64 t1115] 23 (0, 0))) := ⟨h0_⟩
  have n1_ : Aside0 (w22.heap[gb1112]? = some (.cells #[.int .i64 a1_0, .int .i64 a1_1] 23 (0, 0))) := ⟨h1_⟩
  have n2_ : Aside0 (w22.heap[gb1113]? = some (.cells #[.int .i64 0, .int .i64 0] 23 (0, 0))) := ⟨h2_⟩
  have n3_ : Aside0 (w22.heap[gb1120]? = some (.cells #[.int .i64 0, .int .i64 0] 23 (0, 0))) := ⟨h3_⟩
  have n4_ : Aside0 (w.heap.size ≤ gb1120) := ⟨h4_⟩
  have n5_ : Aside0 (w.heap.size ≤ gb1120) := ⟨h5_⟩
  have n6_ : Aside0 (gb1111 ≠ gb1120) := ⟨h6_⟩
  have n7_ : Aside0 (gb1120 ≠ gb1111) := ⟨h7_⟩
  have n8_ : Aside0 (gb1112 ≠ gb1120) := ⟨h8_⟩
  have n9_ : Aside0 (gb1120 ≠ gb1112) := ⟨h9_⟩
  have n10_ : Aside0 (gb1113 ≠ gb1120) := ⟨h10_⟩
  have n11_ : Aside0 (gb1120 ≠ gb1113) := ⟨h11_⟩
  have n12_ : Aside0 (Below w.heap.size w w22) := ⟨h12_⟩
  clear BK1111
  clear BK1112
  clear BK1113
  clear HB
  clear h0_ h1_ h2_ h3_ h4_ h5_ h6_ h7_ h8_ h9_ h10_ h11_ h12_
  have BK1111 := n0_
  have BK1112 := n1_
  have BK1113 := n2_
  have BK1120 := n3_
  have GW1120 := n4_
  have GE1120 := n5_
  have NB1111_1120 := n6_
  have NB1120_1111 := n7_
  have NB1112_1120 := n8_
  have NB1120_1112 := n9_
  have NB1113_1120 := n10_
  have NB1120_1113 := n11_
  have HB := n12_
  clear n0_ n1_ n2_ n3_ n4_ n5_ n6_ n7_ n8_ n9_ n10_ n11_ n12_
  have hHeld : w22.cell? ⟨gb1112, 0, none⟩ = some (.int .i64 a1_0) ∧ w22.cell? ⟨gb1112, 1, none⟩ = some (.int .i64 a1_1) := hS_
  refine norm_ (a' := ?_) ?_ ?_
  rotate_left
  ·
   simp only [putAll, Act.put, List.setIfInBounds_toArray, List.set_cons_zero, List.set_cons_succ]
   rfl
  refine one_ (i := 4) (N := none) #[true, true, true, true, true] rfl rfl (by kernel_rfl) (by decide) (fun K hK => ?_)
  have hs23 : w22.cell? ⟨gb1120, 0, none⟩ = some (.int .i64 0) := hcz BK1120 0
  have hfs23 := blk_frozen BK1120.out 0
  have hns23_0 := NB1111_1120.out
  have hns23_1 := NB1112_1120.out
  have hns23_2 := NB1113_1120.out
  have hms23_0 := NB1120_1111.out
  have hms23_1 := NB1120_1112.out
  have hms23_2 := NB1120_1113.out
  have hs24 : w22.cell? ⟨gb1120, 1, none⟩ = some (.int .i64 0) := hcz BK1120 1
  have hfs24 := blk_frozen BK1120.out 1
  have hns24_0 := NB1111_1120.out
  have hns24_1 := NB1112_1120.out
  have hns24_2 := NB1113_1120.out
  have hms24_0 := NB1120_1111.out
  have hms24_1 := NB1120_1112.out
  have hms24_2 := NB1120_1113.out
  refine skip_ (w1 := ?_) (by rfl) rfl ?_ ?_
  rotate_left
  ·
   go_simp
   rfl
  refine hK.out _ _ ⟨((cell_far (p := ⟨gb1120, _, none⟩) NB1112_1120.out _).trans (((cell_far (p := ⟨gb1120, _, none⟩) NB1112_1120.out _).trans (hHeld.1)))), ((cell_far (p := ⟨gb1120, _, none⟩) NB1112_1120.out _).trans (((cell_far (p := ⟨gb1120, _, none⟩) NB1112_1120.out _).trans (hHeld.2))))⟩ (fun hHeld => ?_)
  clear hK K
  refine done_ (by kernel_rfl) ?_
  try go_wp2
  have n0_ : Aside0 (((w22.setCell ⟨gb1120, 0, none⟩ (.int .i64 t1118)).setCell ⟨gb1120, 1, none⟩ (.int .i64 t1119)).heap[gb1111]? = some (.cells #[.int .i64 t1114, .int .i64 t1115] 23 (0, 0))) := far2 BK1111 NB1111_1120
  have n1_ : Aside0 (((w22.setCell ⟨gb1120, 0, none⟩ (.int .i64 t1118)).setCell ⟨gb1120, 1, none⟩ (.int .i64 t1119)).heap[gb1112]? = some (.cells #[.int .i64 a1_0, .int .i64 a1_1] 23 (0, 0))) := far2 BK1112 NB1112_1120
  have n2_ : Aside0 (((w22.setCell ⟨gb1120, 0, none⟩ (.int .i64 t1118)).setCell ⟨gb1120, 1, none⟩ (.int .i64 t1119)).heap[gb1113]? = some (.cells #[.int .i64 0, .int .i64 0] 23 (0, 0))) := far2 BK1113 NB1113_1120
  have n3_ : Aside0 (((w22.setCell ⟨gb1120, 0, none⟩ (.int .i64 t1118)).setCell ⟨gb1120, 1, none⟩ (.int .i64 t1119)).heap[gb1120]? = some (.cells #[.int .i64 t1118, .int .i64 t1119] 23 (0, 0))) := ⟨by refine pkB ?_; refine blk_put (cs := #[.int .i64 t1118, .int .i64 0]) ?_ 1 _ (by first | rfl | (subst_vars; rfl)); refine pkB ?_; refine blk_put (cs := #[.int .i64 0, .int .i64 0]) ?_ 0 _ (by first | rfl | (subst_vars; rfl)); refine pkB ?_; exact BK1120.out⟩
  have n4_ : Aside0 (Below w.heap.size w ((w22.setCell ⟨gb1120, 0, none⟩ (.int .i64 t1118)).setCell ⟨gb1120, 1, none⟩ (.int .i64 t1119))) := bpk HB
  (try clear BK1111)
  (try clear BK1112)
  (try clear BK1113)
  (try clear BK1120)
  (try clear HB)
  generalize ((w22.setCell ⟨gb1120, 0, none⟩ (.int .i64 t1118)).setCell ⟨gb1120, 1, none⟩ (.int .i64 t1119)) = w25 at n0_ n1_ n2_ n3_ n4_ ⊢
  have BK1111 := n0_
  have BK1112 := n1_
  have BK1113 := n2_
  have BK1120 := n3_
  have HB := n4_
  clear n0_ n1_ n2_ n3_ n4_
  have n0_ := Aside0.mk (blk_drew BK1111.out)
  have n1_ := Aside0.mk (blk_drew BK1112.out)
  have n2_ := Aside0.mk (blk_drew BK1113.out)
  have n3_ := Aside0.mk (blk_drew BK1120.out)
  have n4_ := Aside0.mk (below_drew1 HB.out)
  clear BK1111
  clear BK1112
  clear BK1113
  clear BK1120
  clear HB
  have BK1111 := n0_
  have BK1112 := n1_
  have BK1113 := n2_
  have BK1120 := n3_
  have HB := n4_
  clear n0_ n1_ n2_ n3_ n4_
  refine start_ (n := 5) (S := fun w' => w'.cell? ⟨gb1112, 0, none⟩ = some (.int .i64 a1_0) ∧ w'.cell? ⟨gb1112, 1, none⟩ = some (.int .i64 a1_1)) (ds := []) #[false, false, false, false, false] (by kernel_rfl) rfl rfl ⟨hcz BK1112 0, hcz BK1112 1⟩ (fun hHeld => ?_)
  generalize w25.drew = w26 at BK1111 BK1112 BK1113 BK1120 HB hHeld ⊢
  refine take_ (i := 0) (N := some 18) (v := ?_) (a' := ?_) #[true, false, false, false, false] rfl rfl (by kernel_rfl) (fun _ _ _ h => h) (Or.inl ⟨by rfl, ?_⟩) hHeld ?_ ?_
  rotate_left
  ·
   rintro w' ⟨s0, s1⟩
   go_simp
   with_reducible rfl
  rotate_left
  ·
   simp only [Act.put, List.setIfInBounds_toArray, List.set_cons_zero, List.set_cons_succ, i64_w, i32_w]
   rfl
  refine join_ (σ := Nat) 1 #[true, true, true, true, false] (fun s_ => [(19, .agg #[.int .i64 t1121, .int .i64 t1122]), (20, .agg #[.int .i64 t1123, .int .i64 t1124]), (6, .pointer (some ⟨s_, 0, none⟩))]) (fun s_ w' => (w'.cell? ⟨gb1112, 0, none⟩ = some (.int .i64 a1_0) ∧ w'.cell? ⟨gb1112, 1, none⟩ = some (.int .i64 a1_1)) ∧ (w'.heap[gb1111]? = some (.cells #[.int .i64 t1114, .int .i64 t1115] 23 (0, 0))) ∧ (w'.heap[gb1112]? = some (.cells #[.int .i64 a1_0, .int .i64 a1_1] 23 (0, 0))) ∧ (w'.heap[gb1113]? = some (.cells #[.int .i64 0, .int .i64 0] 23 (0, 0))) ∧ (w'.heap[gb1120]? = some (.cells #[.int .i64 t1118, .int .i64 t1119] 23 (0, 0))) ∧ (w'.heap[s_]? = some (.cells #[.int .i64 0, .int .i64 0] 23 (0, 0))) ∧ (w.heap.size ≤ s_) ∧ (w.heap.size ≤ s_) ∧ (gb1111 ≠ s_) ∧ (s_ ≠ gb1111) ∧ (gb1112 ≠ s_) ∧ (s_ ≠ gb1112) ∧ (gb1113 ≠ s_) ∧ (s_ ≠ gb1113) ∧ (gb1120 ≠ s_) ∧ (s_ ≠ gb1120) ∧ (Below w.heap.size w w')) ?_ ?_
  rotate_left
  ·
   intro hCont
   refine two_ (i := 1) (j := 3) (Ni := some 19) (Nj := some 6) #[true, true, false, false, false] #[true, false, false, true, false] rfl rfl rfl rfl (by kernel_rfl) (by decide) (by decide) (fun K hK => ?_) (fun K hK => ?_)
   · skip
     refine goesQ Try.func14 #[.int .i64 1, .int .i64 4611686018427387904] ?_
     with_reducible refine (gimbalref02_Of.calls k 1 4611686018427387904 t1121 t1122 _ A6.out).mono ?_
     rintro e w27 ⟨rfl, hb⟩
     refine ⟨_, rfl, ?_⟩
     have n0_ := bst HB hb
     replace BK1111 := bbw BK1111 hb
     replace BK1112 := bbw BK1112 hb
     replace BK1113 := bbw BK1113 hb
     replace BK1120 := bbw BK1120 hb
     clear HB
     have HB := n0_
     clear n0_
     (try clear hb)
     (try clear hb2)
     (try clear hk)
     (try clear hi)
     refine hK.out _ _ ⟨hcz BK1112 0, hcz BK1112 1⟩ (fun hHeld => ?_)
     clear hK K
     refine norm_ (a' := ?_) ?_ ?_
     rotate_left
     · show Act.put _ (some 19) _ = _
       simp only [Act.put, List.setIfInBounds_toArray, List.set_cons_zero, List.set_cons_succ, i64_w, i32_w]
       rfl
     refine two_ (i := 2) (j := 3) (Ni := some 20) (Nj := some 6) #[true, true, true, false, false] #[true, true, false, true, false] rfl rfl rfl rfl (by kernel_rfl) (by decide) (by decide) (fun K hK => ?_) (fun K hK => ?_)
     · skip
       refine goesQ Try.func29 #[.agg #[.int .i64 a1_0, .int .i64 a1_1], .agg #[.int .i64 t1121, .int .i64 t1122]] ?_
       with_reducible refine (gimbalref02_Meet.calls k a1_0 a1_1 t1121 t1122 t1123 t1124 _ A7.out).mono ?_
       rintro e w28 ⟨rfl, hb⟩
       refine ⟨_, rfl, ?_⟩
       have n0_ := bst HB hb
       replace BK1111 := bbw BK1111 hb
       replace BK1112 := bbw BK1112 hb
       replace BK1113 := bbw BK1113 hb
       replace BK1120 := bbw BK1120 hb
       clear HB
       have HB := n0_
       clear n0_
       (try clear hb)
       (try clear hb2)
       (try clear hk)
       (try clear hi)
       refine hK.out _ _ ⟨hcz BK1112 0, hcz BK1112 1⟩ (fun hHeld => ?_)
       clear hK K
       refine norm_ (a' := ?_) ?_ ?_
       rotate_left
       · show Act.put _ (some 20) _ = _
         simp only [Act.put, List.setIfInBounds_toArray, List.set_cons_zero, List.set_cons_succ, i64_w, i32_w]
         rfl
       refine one_ (i := 3) (N := some 6) #[true, true, true, true, false] rfl rfl (by kernel_rfl) (by decide) (fun K hK => ?_)
       refine box_step ?hg (N := 6) ?hd (cs := #[.int .i64 0, .int .i64 0]) (t := 23) ?hr ?_; (case hd => rfl); (case hg => rfl); (case hr => first | (go_simp; done) | (go_simp; rfl))
       intro gb1125 hg w29 hbox hb
       have n0_ := bst HB hb
       have n1_ := Aside0.mk (hbox)
       have n2_ := bsz HB hg
       have n3_ := bsz HB hg
       have n4_ := bn1 BK1111 hg
       have n5_ := bn2 BK1111 hg
       have n6_ := bn1 BK1112 hg
       have n7_ := bn2 BK1112 hg
       have n8_ := bn1 BK1113 hg
       have n9_ := bn2 BK1113 hg
       have n10_ := bn1 BK1120 hg
       have n11_ := bn2 BK1120 hg
       replace BK1111 := bbw BK1111 hb
       replace BK1112 := bbw BK1112 hb
       replace BK1113 := bbw BK1113 hb
       replace BK1120 := bbw BK1120 hb
       clear HB
       have HB := n0_
       have BK1125 := n1_
       have GW1125 := n2_
       have GE1125 := n3_
       have NB1111_1125 := n4_
       have NB1125_1111 := n5_
       have NB1112_1125 := n6_
       have NB1125_1112 := n7_
       have NB1113_1125 := n8_
       have NB1125_1113 := n9_
       have NB1120_1125 := n10_
       have NB1125_1120 := n11_
       clear n0_ n1_ n2_ n3_ n4_ n5_ n6_ n7_ n8_ n9_ n10_ n11_
       clear hb hbox hg
       refine hK.out _ _ ⟨hcz BK1112 0, hcz BK1112 1⟩ (fun hHeld => ?_)
       clear hK K
       refine norm_ (a' := ?_) ?_ ?_
       rotate_left
       · show Act.put _ (some 6) _ = _
         simp only [Act.put, List.setIfInBounds_toArray, List.set_cons_zero, List.set_cons_succ, i64_w, i32_w]
         rfl
       exact norm_ (by simp only [putAll, Act.put, List.setIfInBounds_toArray, List.set_cons_zero, List.set_cons_succ]) (hCont (gb1125) _ ⟨hHeld, (pk BK1111.out), (pk BK1112.out), (pk BK1113.out), (pk BK1120.out), (pk BK1125.out), GW1125.out, GE1125.out, NB1111_1125.out, NB1125_1111.out, NB1112_1125.out, NB1125_1112.out, NB1113_1125.out, NB1125_1113.out, NB1120_1125.out, NB1125_1120.out, (by repeat (first | (with_reducible first | exact HB.out | apply below_alloc | apply pw_below_drewN | apply below_drew1 | refine below_set ?_ GE1111.out | refine below_set ?_ GE1112.out | refine below_set ?_ GE1113.out | refine below_set ?_ GE1120.out | refine below_set ?_ GE1125.out) | exact HB.out))⟩)
     · skip
       refine box_step ?hg (N := 6) ?hd (cs := #[.int .i64 0, .int .i64 0]) (t := 23) ?hr ?_; (case hd => rfl); (case hg => rfl); (case hr => first | (go_simp; done) | (go_simp; rfl))
       intro gb1125 hg w28 hbox hb
       have n0_ := bst HB hb
       have n1_ := Aside0.mk (hbox)
       have n2_ := bsz HB hg
       have n3_ := bsz HB hg
       have n4_ := bn1 BK1111 hg
       have n5_ := bn2 BK1111 hg
       have n6_ := bn1 BK1112 hg
       have n7_ := bn2 BK1112 hg
       have n8_ := bn1 BK1113 hg
       have n9_ := bn2 BK1113 hg
       have n10_ := bn1 BK1120 hg
       have n11_ := bn2 BK1120 hg
       replace BK1111 := bbw BK1111 hb
       replace BK1112 := bbw BK1112 hb
       replace BK1113 := bbw BK1113 hb
       replace BK1120 := bbw BK1120 hb
       clear HB
       have HB := n0_
       have BK1125 := n1_
       have GW1125 := n2_
       have GE1125 := n3_
       have NB1111_1125 := n4_
       have NB1125_1111 := n5_
       have NB1112_1125 := n6_
       have NB1125_1112 := n7_
       have NB1113_1125 := n8_
       have NB1125_1113 := n9_
       have NB1120_1125 := n10_
       have NB1125_1120 := n11_
       clear n0_ n1_ n2_ n3_ n4_ n5_ n6_ n7_ n8_ n9_ n10_ n11_
       clear hb hbox hg
       refine hK.out _ _ ⟨hcz BK1112 0, hcz BK1112 1⟩ (fun hHeld => ?_)
       clear hK K
       refine norm_ (a' := ?_) ?_ ?_
       rotate_left
       · show Act.put _ (some 6) _ = _
         simp only [Act.put, List.setIfInBounds_toArray, List.set_cons_zero, List.set_cons_succ, i64_w, i32_w]
         rfl
       refine one_ (i := 2) (N := some 20) #[true, true, true, true, false] rfl rfl (by kernel_rfl) (by decide) (fun K hK => ?_)
       refine goesQ Try.func29 #[.agg #[.int .i64 a1_0, .int .i64 a1_1], .agg #[.int .i64 t1121, .int .i64 t1122]] ?_
       with_reducible refine (gimbalref02_Meet.calls k a1_0 a1_1 t1121 t1122 t1123 t1124 _ A7.out).mono ?_
       rintro e w29 ⟨rfl, hb⟩
       refine ⟨_, rfl, ?_⟩
       have n0_ := bst HB hb
       replace BK1111 := bbw BK1111 hb
       replace BK1112 := bbw BK1112 hb
       replace BK1113 := bbw BK1113 hb
       replace BK1120 := bbw BK1120 hb
       replace BK1125 := bbw BK1125 hb
       clear HB
       have HB := n0_
       clear n0_
       (try clear hb)
       (try clear hb2)
       (try clear hk)
       (try clear hi)
       refine hK.out _ _ ⟨hcz BK1112 0, hcz BK1112 1⟩ (fun hHeld => ?_)
       clear hK K
       refine norm_ (a' := ?_) ?_ ?_
       rotate_left
       · show Act.put _ (some 20) _ = _
         simp only [Act.put, List.setIfInBounds_toArray, List.set_cons_zero, List.set_cons_succ, i64_w, i32_w]
         rfl
       exact norm_ (by simp only [putAll, Act.put, List.setIfInBounds_toArray, List.set_cons_zero, List.set_cons_succ]) (hCont (gb1125) _ ⟨hHeld, (pk BK1111.out), (pk BK1112.out), (pk BK1113.out), (pk BK1120.out), (pk BK1125.out), GW1125.out, GE1125.out, NB1111_1125.out, NB1125_1111.out, NB1112_1125.out, NB1125_1112.out, NB1113_1125.out, NB1125_1113.out, NB1120_1125.out, NB1125_1120.out, (by repeat (first | (with_reducible first | exact HB.out | apply below_alloc | apply pw_below_drewN | apply below_drew1 | refine below_set ?_ GE1111.out | refine below_set ?_ GE1112.out | refine below_set ?_ GE1113.out | refine below_set ?_ GE1120.out | refine below_set ?_ GE1125.out) | exact HB.out))⟩)
   · skip
     refine box_step ?hg (N := 6) ?hd (cs := #[.int .i64 0, .int .i64 0]) (t := 23) ?hr ?_; (case hd => rfl); (case hg => rfl); (case hr => first | (go_simp; done) | (go_simp; rfl))
     intro gb1125 hg w27 hbox hb
     have n0_ := bst HB hb
     have n1_ := Aside0.mk (hbox)
     have n2_ := bsz HB hg
     have n3_ := bsz HB hg
     have n4_ := bn1 BK1111 hg
     have n5_ := bn2 BK1111 hg
     have n6_ := bn1 BK1112 hg
     have n7_ := bn2 BK1112 hg
     have n8_ := bn1 BK1113 hg
     have n9_ := bn2 BK1113 hg
     have n10_ := bn1 BK1120 hg
     have n11_ := bn2 BK1120 hg
     replace BK1111 := bbw BK1111 hb
     replace BK1112 := bbw BK1112 hb
     replace BK1113 := bbw BK1113 hb
     replace BK1120 := bbw BK1120 hb
     clear HB
     have HB := n0_
     have BK1125 := n1_
     have GW1125 := n2_
     have GE1125 := n3_
     have NB1111_1125 := n4_
     have NB1125_1111 := n5_
     have NB1112_1125 := n6_
     have NB1125_1112 := n7_
     have NB1113_1125 := n8_
     have NB1125_1113 := n9_
     have NB1120_1125 := n10_
     have NB1125_1120 := n11_
     clear n0_ n1_ n2_ n3_ n4_ n5_ n6_ n7_ n8_ n9_ n10_ n11_
     clear hb hbox hg
     refine hK.out _ _ ⟨hcz BK1112 0, hcz BK1112 1⟩ (fun hHeld => ?_)
     clear hK K
     refine norm_ (a' := ?_) ?_ ?_
     rotate_left
     · show Act.put _ (some 6) _ = _
       simp only [Act.put, List.setIfInBounds_toArray, List.set_cons_zero, List.set_cons_succ, i64_w, i32_w]
       rfl
     refine one_ (i := 1) (N := some 19) #[true, true, false, true, false] rfl rfl (by kernel_rfl) (by decide) (fun K hK => ?_)
     refine goesQ Try.func14 #[.int .i64 1, .int .i64 4611686018427387904] ?_
     with_reducible refine (gimbalref02_Of.calls k 1 4611686018427387904 t1121 t1122 _ A6.out).mono ?_
     rintro e w28 ⟨rfl, hb⟩
     refine ⟨_, rfl, ?_⟩
     have n0_ := bst HB hb
     replace BK1111 := bbw BK1111 hb
     replace BK1112 := bbw BK1112 hb
     replace BK1113 := bbw BK1113 hb
     replace BK1120 := bbw BK1120 hb
     replace BK1125 := bbw BK1125 hb
     clear HB
     have HB := n0_
     clear n0_
     (try clear hb)
     (try clear hb2)
     (try clear hk)
     (try clear hi)
     refine hK.out _ _ ⟨hcz BK1112 0, hcz BK1112 1⟩ (fun hHeld => ?_)
     clear hK K
     refine norm_ (a' := ?_) ?_ ?_
     rotate_left
     · show Act.put _ (some 19) _ = _
       simp only [Act.put, List.setIfInBounds_toArray, List.set_cons_zero, List.set_cons_succ, i64_w, i32_w]
       rfl
     refine one_ (i := 2) (N := some 20) #[true, true, true, true, false] rfl rfl (by kernel_rfl) (by decide) (fun K hK => ?_)
     refine goesQ Try.func29 #[.agg #[.int .i64 a1_0, .int .i64 a1_1], .agg #[.int .i64 t1121, .int .i64 t1122]] ?_
     with_reducible refine (gimbalref02_Meet.calls k a1_0 a1_1 t1121 t1122 t1123 t1124 _ A7.out).mono ?_
     rintro e w29 ⟨rfl, hb⟩
     refine ⟨_, rfl, ?_⟩
     have n0_ := bst HB hb
     replace BK1111 := bbw BK1111 hb
     replace BK1112 := bbw BK1112 hb
     replace BK1113 := bbw BK1113 hb
     replace BK1120 := bbw BK1120 hb
     replace BK1125 := bbw BK1125 hb
     clear HB
     have HB := n0_
     clear n0_
     (try clear hb)
     (try clear hb2)
     (try clear hk)
     (try clear hi)
     refine hK.out _ _ ⟨hcz BK1112 0, hcz BK1112 1⟩ (fun hHeld => ?_)
     clear hK K
     refine norm_ (a' := ?_) ?_ ?_
     rotate_left
     · show Act.put _ (some 20) _ = _
       simp only [Act.put, List.setIfInBounds_toArray, List.set_cons_zero, List.set_cons_succ, i64_w, i32_w]
       rfl
     exact norm_ (by simp only [putAll, Act.put, List.setIfInBounds_toArray, List.set_cons_zero, List.set_cons_succ]) (hCont (gb1125) _ ⟨hHeld, (pk BK1111.out), (pk BK1112.out), (pk BK1113.out), (pk BK1120.out), (pk BK1125.out), GW1125.out, GE1125.out, NB1111_1125.out, NB1125_1111.out, NB1112_1125.out, NB1125_1112.out, NB1113_1125.out, NB1125_1113.out, NB1120_1125.out, NB1125_1120.out, (by repeat (first | (with_reducible first | exact HB.out | apply below_alloc | apply pw_below_drewN | apply below_drew1 | refine below_set ?_ GE1111.out | refine below_set ?_ GE1112.out | refine below_set ?_ GE1113.out | refine below_set ?_ GE1120.out | refine below_set ?_ GE1125.out) | exact HB.out))⟩)
  rintro gb1125 w30 ⟨hS_, h0_, h1_, h2_, h3_, h4_, h5_, h6_, h7_, h8_, h9_, h10_, h11_, h12_, h13_, h14_, h15_⟩
  have n0_ : Aside0 (w30.heap[gb1111]? = some (.cells #[.int .i64 t1114, .int .i64 t1115] 23 (0, 0))) := ⟨h0_⟩
  have n1_ : Aside0 (w30.heap[gb1112]? = some (.cells #[.int .i64 a1_0, .int .i64 a1_1] 23 (0, 0))) := ⟨h1_⟩
  have n2_ : Aside0 (w30.heap[gb1113]? = some (.cells #[.int .i64 0, .int .i64 0] 23 (0, 0))) := ⟨h2_⟩
  have n3_ : Aside0 (w30.heap[gb1120]? = some (.cells #[.int .i64 t1118, .int .i64 t1119] 23 (0, 0))) := ⟨h3_⟩
  have n4_ : Aside0 (w30.heap[gb1125]? = some (.cells #[.int .i64 0, .int .i64 0] 23 (0, 0))) := ⟨h4_⟩
  have n5_ : Aside0 (w.heap.size ≤ gb1125) := ⟨h5_⟩
  have n6_ : Aside0 (w.heap.size ≤ gb1125) := ⟨h6_⟩
  have n7_ : Aside0 (gb1111 ≠ gb1125) := ⟨h7_⟩
  have n8_ : Aside0 (gb1125 ≠ gb1111) := ⟨h8_⟩
  have n9_ : Aside0 (gb1112 ≠ gb1125) := ⟨h9_⟩
  have n10_ : Aside0 (gb1125 ≠ gb1112) := ⟨h10_⟩
  have n11_ : Aside0 (gb1113 ≠ gb1125) := ⟨h11_⟩
  have n12_ : Aside0 (gb1125 ≠ gb1113) := ⟨h12_⟩
  have n13_ : Aside0 (gb1120 ≠ gb1125) := ⟨h13_⟩
  have n14_ : Aside0 (gb1125 ≠ gb1120) := ⟨h14_⟩
  have n15_ : Aside0 (Below w.heap.size w w30) := ⟨h15_⟩
  clear BK1111
  clear BK1112
  clear BK1113
  clear BK1120
  clear HB
  clear h0_ h1_ h2_ h3_ h4_ h5_ h6_ h7_ h8_ h9_ h10_ h11_ h12_ h13_ h14_ h15_
  have BK1111 := n0_
  have BK1112 := n1_
  have BK1113 := n2_
  have BK1120 := n3_
  have BK1125 := n4_
  have GW1125 := n5_
  have GE1125 := n6_
  have NB1111_1125 := n7_
  have NB1125_1111 := n8_
  have NB1112_1125 := n9_
  have NB1125_1112 := n10_
  have NB1113_1125 := n11_
  have NB1125_1113 := n12_
  have NB1120_1125 := n13_
  have NB1125_1120 := n14_
  have HB := n15_
  clear n0_ n1_ n2_ n3_ n4_ n5_ n6_ n7_ n8_ n9_ n10_ n11_ n12_ n13_ n14_ n15_
  have hHeld : w30.cell? ⟨gb1112, 0, none⟩ = some (.int .i64 a1_0) ∧ w30.cell? ⟨gb1112, 1, none⟩ = some (.int .i64 a1_1) := hS_
  refine norm_ (a' := ?_) ?_ ?_
  rotate_left
  ·
   simp only [putAll, Act.put, List.setIfInBounds_toArray, List.set_cons_zero, List.set_cons_succ]
   rfl
  refine one_ (i := 4) (N := none) #[true, true, true, true, true] rfl rfl (by kernel_rfl) (by decide) (fun K hK => ?_)
  have hs31 : w30.cell? ⟨gb1125, 0, none⟩ = some (.int .i64 0) := hcz BK1125 0
  have hfs31 := blk_frozen BK1125.out 0
  have hns31_0 := NB1111_1125.out
  have hns31_1 := NB1112_1125.out
  have hns31_2 := NB1113_1125.out
  have hns31_3 := NB1120_1125.out
  have hms31_0 := NB1125_1111.out
  have hms31_1 := NB1125_1112.out
  have hms31_2 := NB1125_1113.out
  have hms31_3 := NB1125_1120.out
  have hs32 : w30.cell? ⟨gb1125, 1, none⟩ = some (.int .i64 0) := hcz BK1125 1
  have hfs32 := blk_frozen BK1125.out 1
  have hns32_0 := NB1111_1125.out
  have hns32_1 := NB1112_1125.out
  have hns32_2 := NB1113_1125.out
  have hns32_3 := NB1120_1125.out
  have hms32_0 := NB1125_1111.out
  have hms32_1 := NB1125_1112.out
  have hms32_2 := NB1125_1113.out
  have hms32_3 := NB1125_1120.out
  refine skip_ (w1 := ?_) (by rfl) rfl ?_ ?_
  rotate_left
  ·
   go_simp
   rfl
  refine hK.out _ _ ⟨((cell_far (p := ⟨gb1125, _, none⟩) NB1112_1125.out _).trans (((cell_far (p := ⟨gb1125, _, none⟩) NB1112_1125.out _).trans (hHeld.1)))), ((cell_far (p := ⟨gb1125, _, none⟩) NB1112_1125.out _).trans (((cell_far (p := ⟨gb1125, _, none⟩) NB1112_1125.out _).trans (hHeld.2))))⟩ (fun hHeld => ?_)
  clear hK K
  refine done_ (by kernel_rfl) ?_
  go_upto_region 4 with (fail)
  go_cut [30] (fun v30 wc => ∃ (kq : Nat) (x30_7 : Bool), v30 = .bool x30_7 ∧ Aside0 (gimbalref02_Mod.j0 kq x30_7 t1114 t1115 t1118 t1119 t1123 t1124 = some (r1, r2)) ∧ Aside0 (kq ≤ k) ∧ Aside0 (wc.heap[gb1111]? = some (.cells #[.int .i64 t1114, .int .i64 t1115] 23 (0, 0))) ∧ Aside0 (wc.heap[gb1112]? = some (.cells #[.int .i64 a1_0, .int .i64 a1_1] 23 (0, 0))) ∧ Aside0 (wc.heap[gb1113]? = some (.cells #[.int .i64 0, .int .i64 0] 23 (0, 0))) ∧ Aside0 (wc.heap[gb1120]? = some (.cells #[.int .i64 t1118, .int .i64 t1119] 23 (0, 0))) ∧ Aside0 (wc.heap[gb1125]? = some (.cells #[.int .i64 t1123, .int .i64 t1124] 23 (0, 0))) ∧ Aside0 (Below w.heap.size w wc))
  case first =>
   have H := HC8.out
   clear HC8
   replace H := Option.bind_eq_some_iff.mp H
   obtain ⟨t1126, A330, H⟩ := H
   replace H : (if t1126 = true then (gimbalref02_Mod.j0 k true t1114 t1115 t1118 t1119 t1123 t1124) else ((gimbalref02_None.f t1118 t1119).bind fun t1127 => (if t1127 = true then ((gimbalref02_None.f t1123 t1124).bind fun t1128 => (gimbalref02_Mod.j0 k t1128 t1114 t1115 t1118 t1119 t1123 t1124)) else (gimbalref02_Mod.j0 k false t1114 t1115 t1118 t1119 t1123 t1124)))) = some (r1, r2) := H
   have A33 := Aside0.mk A330
   clear A330
   by_cases c34 : t1126 = true
   ·
    subst c34
    have H1 : (gimbalref02_Mod.j0 k true t1114 t1115 t1118 t1119 t1123 t1124) = some (r1, r2) := by rw [if_pos rfl] at H; exact H
    clear H
    have H := H1
    clear H1
    have H' := Aside0.mk H
    clear H
    have hnb35 := NB1111_1112.out
    have hnc35 := NB1112_1111.out
    have hnb36 := NB1111_1113.out
    have hnc36 := NB1113_1111.out
    have hnb37 := NB1111_1120.out
    have hnc37 := NB1120_1111.out
    have hnb38 := NB1111_1125.out
    have hnc38 := NB1125_1111.out
    have hcz39_0 := hcz BK1111 0
    have hcz39_1 := hcz BK1111 1
    have hfz39_0 := blk_frozen BK1111.out 0
    have hfz39_1 := blk_frozen BK1111.out 1
    go_wp2_with (first | ((with_reducible refine gate_callee (f := 61) rfl ?_); refine goesL_ (some 22) rfl rfl Try.func61 (by kernel_rfl) rfl #[.agg #[.int .i64 t1114, .int .i64 t1115]] rfl (by (try simp only [List.map_toArray, List.map_cons, List.map_nil]); first | done | rfl | (simp only [List.length_drop, List.length_take]; rfl)) ?_; (with_reducible refine (gimbalref02_None.calls t1114 t1115 true _ A33.out).mono ?_); rintro e w40 ⟨rfl, hb⟩; refine ⟨_, rfl, ?_⟩; have n0_ := Aside0.mk (blk_below (g := gb1111) (o := .cells #[.int .i64 t1114, .int .i64 t1115] 23 (0, 0)) (by refine pkB ?_; refine blk_far ?_ NB1111_1125.out _; refine pkB ?_; refine blk_far ?_ NB1111_1125.out _; refine pkB ?_; exact BK1111.out) hb); have n1_ := Aside0.mk (blk_below (g := gb1112) (o := .cells #[.int .i64 a1_0, .int .i64 a1_1] 23 (0, 0)) (by refine pkB ?_; refine blk_far ?_ NB1112_1125.out _; refine pkB ?_; refine blk_far ?_ NB1112_1125.out _; refine pkB ?_; exact BK1112.out) hb); have n2_ := Aside0.mk (blk_below (g := gb1113) (o := .cells #[.int .i64 0, .int .i64 0] 23 (0, 0)) (by refine pkB ?_; refine blk_far ?_ NB1113_1125.out _; refine pkB ?_; refine blk_far ?_ NB1113_1125.out _; refine pkB ?_; exact BK1113.out) hb); have n3_ := Aside0.mk (blk_below (g := gb1120) (o := .cells #[.int .i64 t1118, .int .i64 t1119] 23 (0, 0)) (by refine pkB ?_; refine blk_far ?_ NB1120_1125.out _; refine pkB ?_; refine blk_far ?_ NB1120_1125.out _; refine pkB ?_; exact BK1120.out) hb); have n4_ := Aside0.mk (blk_below (g := gb1125) (o := .cells #[.int .i64 t1123, .int .i64 t1124] 23 (0, 0)) (by refine pkB ?_; refine blk_put (cs := #[.int .i64 t1123, .int .i64 0]) ?_ 1 _ (by first | rfl | (subst_vars; rfl)); refine pkB ?_; refine blk_put (cs := #[.int .i64 0, .int .i64 0]) ?_ 0 _ (by first | rfl | (subst_vars; rfl)); refine pkB ?_; exact BK1125.out) hb); have n5_ := bst HB hb; clear BK1111; clear BK1112; clear BK1113; clear BK1120; clear BK1125; clear HB; have BK1111 := n0_; have BK1112 := n1_; have BK1113 := n2_; have BK1120 := n3_; have BK1125 := n4_; have HB := n5_; clear n0_ n1_ n2_ n3_ n4_ n5_; (try clear hb); (try clear hb2); (try clear hk); (try clear hi)))
    go_meet
    case rel => exact ⟨_, (true), (by first | rfl | (simp; done) | (simp [*]; done)), H', ⟨by first | omega | exact Nat.le_refl _⟩, pkA BK1111, pkA BK1112, pkA BK1113, pkA BK1120, pkA BK1125, bpk HB⟩
   ·
    replace c34 := Bool.eq_false_iff.mpr c34
    subst c34
    have H1 : ((gimbalref02_None.f t1118 t1119).bind fun t1127 => (if t1127 = true then ((gimbalref02_None.f t1123 t1124).bind fun t1128 => (gimbalref02_Mod.j0 k t1128 t1114 t1115 t1118 t1119 t1123 t1124)) else (gimbalref02_Mod.j0 k false t1114 t1115 t1118 t1119 t1123 t1124))) = some (r1, r2) := by rw [if_neg (show ¬ (false = true) by decide)] at H; exact H
    clear H
    have H := H1
    clear H1
    replace H := Option.bind_eq_some_iff.mp H
    obtain ⟨t1127, A410, H⟩ := H
    replace H : (if t1127 = true then ((gimbalref02_None.f t1123 t1124).bind fun t1128 => (gimbalref02_Mod.j0 k t1128 t1114 t1115 t1118 t1119 t1123 t1124)) else (gimbalref02_Mod.j0 k false t1114 t1115 t1118 t1119 t1123 t1124)) = some (r1, r2) := H
    have A41 := Aside0.mk A410
    clear A410
    by_cases c42 : t1127 = true
    ·
     subst c42
     have H1 : ((gimbalref02_None.f t1123 t1124).bind fun t1128 => (gimbalref02_Mod.j0 k t1128 t1114 t1115 t1118 t1119 t1123 t1124)) = some (r1, r2) := by rw [if_pos rfl] at H; exact H
     clear H
     have H := H1
     clear H1
     replace H := Option.bind_eq_some_iff.mp H
     obtain ⟨t1128, A430, H⟩ := H
     replace H : (gimbalref02_Mod.j0 k t1128 t1114 t1115 t1118 t1119 t1123 t1124) = some (r1, r2) := H
     have A43 := Aside0.mk A430
     clear A430
     have H' := Aside0.mk H
     clear H
     have hnb44 := NB1111_1112.out
     have hnc44 := NB1112_1111.out
     have hnb45 := NB1111_1113.out
     have hnc45 := NB1113_1111.out
     have hnb46 := NB1111_1120.out
     have hnc46 := NB1120_1111.out
     have hnb47 := NB1111_1125.out
     have hnc47 := NB1125_1111.out
     have hcz48_0 := hcz BK1111 0
     have hcz48_1 := hcz BK1111 1
     have hfz48_0 := blk_frozen BK1111.out 0
     have hfz48_1 := blk_frozen BK1111.out 1
     go_wp2_with (first | ((with_reducible refine gate_callee (f := 61) rfl ?_); refine goesL_ (some 22) rfl rfl Try.func61 (by kernel_rfl) rfl #[.agg #[.int .i64 t1114, .int .i64 t1115]] rfl (by (try simp only [List.map_toArray, List.map_cons, List.map_nil]); first | done | rfl | (simp only [List.length_drop, List.length_take]; rfl)) ?_; (with_reducible refine (gimbalref02_None.calls t1114 t1115 false _ A33.out).mono ?_); rintro e w49 ⟨rfl, hb⟩; refine ⟨_, rfl, ?_⟩; have n0_ := Aside0.mk (blk_below (g := gb1111) (o := .cells #[.int .i64 t1114, .int .i64 t1115] 23 (0, 0)) (by refine pkB ?_; refine blk_far ?_ NB1111_1125.out _; refine pkB ?_; refine blk_far ?_ NB1111_1125.out _; refine pkB ?_; exact BK1111.out) hb); have n1_ := Aside0.mk (blk_below (g := gb1112) (o := .cells #[.int .i64 a1_0, .int .i64 a1_1] 23 (0, 0)) (by refine pkB ?_; refine blk_far ?_ NB1112_1125.out _; refine pkB ?_; refine blk_far ?_ NB1112_1125.out _; refine pkB ?_; exact BK1112.out) hb); have n2_ := Aside0.mk (blk_below (g := gb1113) (o := .cells #[.int .i64 0, .int .i64 0] 23 (0, 0)) (by refine pkB ?_; refine blk_far ?_ NB1113_1125.out _; refine pkB ?_; refine blk_far ?_ NB1113_1125.out _; refine pkB ?_; exact BK1113.out) hb); have n3_ := Aside0.mk (blk_below (g := gb1120) (o := .cells #[.int .i64 t1118, .int .i64 t1119] 23 (0, 0)) (by refine pkB ?_; refine blk_far ?_ NB1120_1125.out _; refine pkB ?_; refine blk_far ?_ NB1120_1125.out _; refine pkB ?_; exact BK1120.out) hb); have n4_ := Aside0.mk (blk_below (g := gb1125) (o := .cells #[.int .i64 t1123, .int .i64 t1124] 23 (0, 0)) (by refine pkB ?_; refine blk_put (cs := #[.int .i64 t1123, .int .i64 0]) ?_ 1 _ (by first | rfl | (subst_vars; rfl)); refine pkB ?_; refine blk_put (cs := #[.int .i64 0, .int .i64 0]) ?_ 0 _ (by first | rfl | (subst_vars; rfl)); refine pkB ?_; exact BK1125.out) hb); have n5_ := bst HB hb; clear BK1111; clear BK1112; clear BK1113; clear BK1120; clear BK1125; clear HB; have BK1111 := n0_; have BK1112 := n1_; have BK1113 := n2_; have BK1120 := n3_; have BK1125 := n4_; have HB := n5_; clear n0_ n1_ n2_ n3_ n4_ n5_; (try clear hb); (try clear hb2); (try clear hk); (try clear hi); have hnb50 := NB1120_1112.out; have hnc50 := NB1112_1120.out; have hnb51 := NB1120_1113.out; have hnc51 := NB1113_1120.out; have hnb52 := NB1120_1125.out; have hnc52 := NB1125_1120.out; have hcz53_0 := hcz BK1120 0; have hcz53_1 := hcz BK1120 1; have hfz53_0 := blk_frozen BK1120.out 0; have hfz53_1 := blk_frozen BK1120.out 1) | (go_at_call 61; (with_reducible refine (gimbalref02_None.calls t1118 t1119 true _ A41.out).mono ?_); rintro e w54 ⟨rfl, hb⟩; have n0_ := bst HB hb; replace BK1111 := bbw BK1111 hb; replace BK1112 := bbw BK1112 hb; replace BK1113 := bbw BK1113 hb; replace BK1120 := bbw BK1120 hb; replace BK1125 := bbw BK1125 hb; clear HB; have HB := n0_; clear n0_; (try clear hb); (try clear hb2); (try clear hk); (try clear hi); have hnb55 := NB1125_1112.out; have hnc55 := NB1112_1125.out; have hnb56 := NB1125_1113.out; have hnc56 := NB1113_1125.out; have hcz57_0 := hcz BK1125 0; have hcz57_1 := hcz BK1125 1; have hfz57_0 := blk_frozen BK1125.out 0; have hfz57_1 := blk_frozen BK1125.out 1) | (go_at_call 61; (with_reducible refine (gimbalref02_None.calls t1123 t1124 t1128 _ A43.out).mono ?_); rintro e w58 ⟨rfl, hb⟩; have n0_ := bst HB hb; replace BK1111 := bbw BK1111 hb; replace BK1112 := bbw BK1112 hb; replace BK1113 := bbw BK1113 hb; replace BK1120 := bbw BK1120 hb; replace BK1125 := bbw BK1125 hb; clear HB; have HB := n0_; clear n0_; (try clear hb); (try clear hb2); (try clear hk); (try clear hi)))
     go_meet
     case rel => exact ⟨_, (t1128), (by first | rfl | (simp; done) | (simp [*]; done)), H', ⟨by first | omega | exact Nat.le_refl _⟩, pkA BK1111, pkA BK1112, pkA BK1113, pkA BK1120, pkA BK1125, bpk HB⟩
    ·
     replace c42 := Bool.eq_false_iff.mpr c42
     subst c42
     have H1 : (gimbalref02_Mod.j0 k false t1114 t1115 t1118 t1119 t1123 t1124) = some (r1, r2) := by rw [if_neg (show ¬ (false = true) by decide)] at H; exact H
     clear H
     have H := H1
     clear H1
     have H' := Aside0.mk H
     clear H
     have hnb59 := NB1111_1112.out
     have hnc59 := NB1112_1111.out
     have hnb60 := NB1111_1113.out
     have hnc60 := NB1113_1111.out
     have hnb61 := NB1111_1120.out
     have hnc61 := NB1120_1111.out
     have hnb62 := NB1111_1125.out
     have hnc62 := NB1125_1111.out
     have hcz63_0 := hcz BK1111 0
     have hcz63_1 := hcz BK1111 1
     have hfz63_0 := blk_frozen BK1111.out 0
     have hfz63_1 := blk_frozen BK1111.out 1
     go_wp2_with (first | ((with_reducible refine gate_callee (f := 61) rfl ?_); refine goesL_ (some 22) rfl rfl Try.func61 (by kernel_rfl) rfl #[.agg #[.int .i64 t1114, .int .i64 t1115]] rfl (by (try simp only [List.map_toArray, List.map_cons, List.map_nil]); first | done | rfl | (simp only [List.length_drop, List.length_take]; rfl)) ?_; (with_reducible refine (gimbalref02_None.calls t1114 t1115 false _ A33.out).mono ?_); rintro e w64 ⟨rfl, hb⟩; refine ⟨_, rfl, ?_⟩; have n0_ := Aside0.mk (blk_below (g := gb1111) (o := .cells #[.int .i64 t1114, .int .i64 t1115] 23 (0, 0)) (by refine pkB ?_; refine blk_far ?_ NB1111_1125.out _; refine pkB ?_; refine blk_far ?_ NB1111_1125.out _; refine pkB ?_; exact BK1111.out) hb); have n1_ := Aside0.mk (blk_below (g := gb1112) (o := .cells #[.int .i64 a1_0, .int .i64 a1_1] 23 (0, 0)) (by refine pkB ?_; refine blk_far ?_ NB1112_1125.out _; refine pkB ?_; refine blk_far ?_ NB1112_1125.out _; refine pkB ?_; exact BK1112.out) hb); have n2_ := Aside0.mk (blk_below (g := gb1113) (o := .cells #[.int .i64 0, .int .i64 0] 23 (0, 0)) (by refine pkB ?_; refine blk_far ?_ NB1113_1125.out _; refine pkB ?_; refine blk_far ?_ NB1113_1125.out _; refine pkB ?_; exact BK1113.out) hb); have n3_ := Aside0.mk (blk_below (g := gb1120) (o := .cells #[.int .i64 t1118, .int .i64 t1119] 23 (0, 0)) (by refine pkB ?_; refine blk_far ?_ NB1120_1125.out _; refine pkB ?_; refine blk_far ?_ NB1120_1125.out _; refine pkB ?_; exact BK1120.out) hb); have n4_ := Aside0.mk (blk_below (g := gb1125) (o := .cells #[.int .i64 t1123, .int .i64 t1124] 23 (0, 0)) (by refine pkB ?_; refine blk_put (cs := #[.int .i64 t1123, .int .i64 0]) ?_ 1 _ (by first | rfl | (subst_vars; rfl)); refine pkB ?_; refine blk_put (cs := #[.int .i64 0, .int .i64 0]) ?_ 0 _ (by first | rfl | (subst_vars; rfl)); refine pkB ?_; exact BK1125.out) hb); have n5_ := bst HB hb; clear BK1111; clear BK1112; clear BK1113; clear BK1120; clear BK1125; clear HB; have BK1111 := n0_; have BK1112 := n1_; have BK1113 := n2_; have BK1120 := n3_; have BK1125 := n4_; have HB := n5_; clear n0_ n1_ n2_ n3_ n4_ n5_; (try clear hb); (try clear hb2); (try clear hk); (try clear hi); have hnb65 := NB1120_1112.out; have hnc65 := NB1112_1120.out; have hnb66 := NB1120_1113.out; have hnc66 := NB1113_1120.out; have hnb67 := NB1120_1125.out; have hnc67 := NB1125_1120.out; have hcz68_0 := hcz BK1120 0; have hcz68_1 := hcz BK1120 1; have hfz68_0 := blk_frozen BK1120.out 0; have hfz68_1 := blk_frozen BK1120.out 1) | (go_at_call 61; (with_reducible refine (gimbalref02_None.calls t1118 t1119 false _ A41.out).mono ?_); rintro e w69 ⟨rfl, hb⟩; have n0_ := bst HB hb; replace BK1111 := bbw BK1111 hb; replace BK1112 := bbw BK1112 hb; replace BK1113 := bbw BK1113 hb; replace BK1120 := bbw BK1120 hb; replace BK1125 := bbw BK1125 hb; clear HB; have HB := n0_; clear n0_; (try clear hb); (try clear hb2); (try clear hk); (try clear hi)))
     go_meet
     case rel => exact ⟨_, (false), (by first | rfl | (simp; done) | (simp [*]; done)), H', ⟨by first | omega | exact Nat.le_refl _⟩, pkA BK1111, pkA BK1112, pkA BK1113, pkA BK1120, pkA BK1125, bpk HB⟩
  case rest =>
   clear HC8
   try clear c1
   try clear c2
   try clear p2
   try clear c3
   try clear c4
   try clear c5
   try clear c6
   try clear c14
   try clear c29
   try clear c34
   try clear c35
   try clear c36
   try clear c37
   try clear c38
   try clear c42
   try clear c44
   try clear c45
   try clear c46
   try clear c47
   try clear c50
   try clear c51
   try clear c52
   try clear c55
   try clear c56
   try clear c59
   try clear c60
   try clear c61
   try clear c62
   try clear c65
   try clear c66
   try clear c67
   try clear hcz39_0
   try clear hcz39_1
   try clear hcz48_0
   try clear hcz48_1
   try clear hcz53_0
   try clear hcz53_1
   try clear hcz57_0
   try clear hcz57_1
   try clear hcz63_0
   try clear hcz63_1
   try clear hcz68_0
   try clear hcz68_1
   try clear hfz39_0
   try clear hfz39_1
   try clear hfz48_0
   try clear hfz48_1
   try clear hfz53_0
   try clear hfz53_1
   try clear hfz57_0
   try clear hfz57_1
   try clear hfz63_0
   try clear hfz63_1
   try clear hfz68_0
   try clear hfz68_1
   obtain ⟨kq, x30_7, rfl, HA, HJ7, BK1111, BK1112, BK1113, BK1120, BK1125, HB⟩ := hcut
   cases kq with
   | zero => exact absurd HA.out (by simp [gimbalref02_Mod.j0])
   | succ kj7 =>
    have H := HA.out
    clear HA
    simp only [gimbalref02_Mod.j0] at H
    by_cases c70 : x30_7 = true
    ·
     subst c70
     have H1 : ((gimbalref02_Empty.f).bind fun bt1129 => (some (bt1129.1, bt1129.2))) = some (r1, r2) := by rw [if_pos rfl] at H; exact H
     clear H
     have H := H1
     clear H1
     replace H := Option.bind_eq_some_iff.mp H
     obtain ⟨⟨t1129, t1130⟩, A710, H⟩ := H
     replace H : (some (t1129, t1130)) = some (r1, r2) := H
     have A71 := Aside0.mk A710
     clear A710
     simp only [Option.some.injEq, Prod.mk.injEq] at H
     obtain ⟨rfl, rfl⟩ := H
     go_wp2_with (first | ((with_reducible refine gate_callee (f := 16) rfl ?_); refine goesL_ (some 31) rfl rfl Try.func16 (by kernel_rfl) rfl #[] rfl (by (try simp only [List.map_toArray, List.map_cons, List.map_nil]); first | done | rfl | (simp only [List.length_drop, List.length_take]; rfl)) ?_; (with_reducible refine (gimbalref02_Empty.calls  t1129 t1130 _ A71.out).mono ?_); rintro e w72 ⟨rfl, hb⟩; refine ⟨_, rfl, ?_⟩; have n0_ := bst HB hb; replace BK1111 := bbw BK1111 hb; replace BK1112 := bbw BK1112 hb; replace BK1113 := bbw BK1113 hb; replace BK1120 := bbw BK1120 hb; replace BK1125 := bbw BK1125 hb; clear HB; have HB := n0_; clear n0_; (try clear hb); (try clear hb2); (try clear hk); (try clear hi); have hnb73 := NB1113_1111.out; have hnc73 := NB1111_1113.out; have hnb74 := NB1113_1112.out; have hnc74 := NB1112_1113.out; have hnb75 := NB1113_1120.out; have hnc75 := NB1120_1113.out; have hnb76 := NB1113_1125.out; have hnc76 := NB1125_1113.out; have hcz77_0 := hcz BK1113 0; have hcz77_1 := hcz BK1113 1; have hfz77_0 := blk_frozen BK1113.out 0; have hfz77_1 := blk_frozen BK1113.out 1))
     refine bodyPost_ret (results_cell_row rfl _ _ gb1113 23 #[.int .i64 t1129, .int .i64 t1130] (0, 0) _ rfl (by refine pkB ?_; refine blk_put (cs := #[.int .i64 t1129, .int .i64 0]) ?_ 1 _ (by first | rfl | (subst_vars; rfl)); refine pkB ?_; refine blk_put (cs := #[.int .i64 0, .int .i64 0]) ?_ 0 _ (by first | rfl | (subst_vars; rfl)); refine pkB ?_; exact BK1113.out) Try.underlying23 rfl (by kernel_rfl)) rfl ?_
     exact ⟨by first | rfl | (simp [errW_none, errW_some] <;> rfl) | (simp [*, errW_none, errW_some] <;> rfl) | kernel_rfl, by repeat (first | (with_reducible first | exact HB.out | apply below_alloc | apply pw_below_drewN | apply below_drew1 | refine below_set ?_ GE1111.out | refine below_set ?_ GE1112.out | refine below_set ?_ GE1113.out | refine below_set ?_ GE1120.out | refine below_set ?_ GE1125.out) | exact HB.out)⟩
    ·
     replace c70 := Bool.eq_false_iff.mpr c70
     subst c70
     have H1 : ((gimbalref02_Neg.f kj7 t1118 t1119).bind fun bt1131 => ((gimbalref02_Join.f kj7 bt1131.1 bt1131.2 t1123 t1124).bind fun bt1133 => ((gimbalref02_None.f t1118 t1119).bind fun t1136 => (if t1136 = true then (gimbalref02_Mod.j1 kj7 bt1133.1 bt1133.2 false t1114 t1115 t1118 t1119 t1123 t1124) else ((gimbalref02_None.f t1123 t1124).bind fun t1137 => (gimbalref02_Mod.j1 kj7 bt1133.1 bt1133.2 (!t1137) t1114 t1115 t1118 t1119 t1123 t1124)))))) = some (r1, r2) := by rw [if_neg (show ¬ (false = true) by decide)] at H; exact H
     clear H
     have H := H1
     clear H1
     replace H := Option.bind_eq_some_iff.mp H
     obtain ⟨⟨t1131, t1132⟩, A780, H⟩ := H
     replace H : ((gimbalref02_Join.f kj7 t1131 t1132 t1123 t1124).bind fun bt1133 => ((gimbalref02_None.f t1118 t1119).bind fun t1136 => (if t1136 = true then (gimbalref02_Mod.j1 kj7 bt1133.1 bt1133.2 false t1114 t1115 t1118 t1119 t1123 t1124) else ((gimbalref02_None.f t1123 t1124).bind fun t1137 => (gimbalref02_Mod.j1 kj7 bt1133.1 bt1133.2 (!t1137) t1114 t1115 t1118 t1119 t1123 t1124))))) = some (r1, r2) := H
     have A78 := Aside0.mk A780
     clear A780
     replace H := Option.bind_eq_some_iff.mp H
     obtain ⟨⟨t1133, t1134⟩, A790, H⟩ := H
     replace H : ((gimbalref02_None.f t1118 t1119).bind fun t1136 => (if t1136 = true then (gimbalref02_Mod.j1 kj7 t1133 t1134 false t1114 t1115 t1118 t1119 t1123 t1124) else ((gimbalref02_None.f t1123 t1124).bind fun t1137 => (gimbalref02_Mod.j1 kj7 t1133 t1134 (!t1137) t1114 t1115 t1118 t1119 t1123 t1124)))) = some (r1, r2) := H
     have A79 := Aside0.mk A790
     clear A790
     have HC80 := Aside0.mk H
     clear H
     try go_wp2
     have n0_ := Aside0.mk (blk_drew BK1111.out)
     have n1_ := Aside0.mk (blk_drew BK1112.out)
     have n2_ := Aside0.mk (blk_drew BK1113.out)
     have n3_ := Aside0.mk (blk_drew BK1120.out)
     have n4_ := Aside0.mk (blk_drew BK1125.out)
     have n5_ := Aside0.mk (below_drew1 HB.out)
     clear BK1111
     clear BK1112
     clear BK1113
     clear BK1120
     clear BK1125
     clear HB
     have BK1111 := n0_
     have BK1112 := n1_
     have BK1113 := n2_
     have BK1120 := n3_
     have BK1125 := n4_
     have HB := n5_
     clear n0_ n1_ n2_ n3_ n4_ n5_
     refine start_ (n := 6) (S := fun w' => w'.cell? ⟨gb1120, 0, none⟩ = some (.int .i64 t1118) ∧ w'.cell? ⟨gb1120, 1, none⟩ = some (.int .i64 t1119) ∧ w'.cell? ⟨gb1125, 0, none⟩ = some (.int .i64 t1123) ∧ w'.cell? ⟨gb1125, 1, none⟩ = some (.int .i64 t1124)) (ds := []) #[false, false, false, false, false, false] (by kernel_rfl) rfl rfl ⟨hcz BK1120 0, hcz BK1120 1, hcz BK1125 0, hcz BK1125 1⟩ (fun hHeld => ?_)
     generalize wc.drew = w81 at BK1111 BK1112 BK1113 BK1120 BK1125 HB hHeld ⊢
     refine take_ (i := 0) (N := some 32) (v := ?_) (a' := ?_) #[true, false, false, false, false, false] rfl rfl (by kernel_rfl) (fun _ _ _ h => h) (Or.inl ⟨by rfl, ?_⟩) hHeld ?_ ?_
     rotate_left
     ·
      rintro w' ⟨s0, s1, s2, s3⟩
      go_simp
      with_reducible rfl
     rotate_left
     ·
      simp only [Act.put, List.setIfInBounds_toArray, List.set_cons_zero, List.set_cons_succ, i64_w, i32_w]
      rfl
     refine take_ (i := 2) (N := some 34) (v := ?_) (a' := ?_) #[true, false, true, false, false, false] rfl rfl (by kernel_rfl) (fun _ _ _ h => h) (Or.inl ⟨by rfl, ?_⟩) hHeld ?_ ?_
     rotate_left
     ·
      rintro w' ⟨s0, s1, s2, s3⟩
      go_simp
      with_reducible rfl
     rotate_left
     ·
      simp only [Act.put, List.setIfInBounds_toArray, List.set_cons_zero, List.set_cons_succ, i64_w, i32_w]
      rfl
     refine join_ (σ := Nat) 1 #[true, true, true, true, true, false] (fun s_ => [(33, .agg #[.int .i64 t1131, .int .i64 t1132]), (35, .agg #[.int .i64 t1133, .int .i64 t1134]), (7, .pointer (some ⟨s_, 0, none⟩))]) (fun s_ w' => (w'.cell? ⟨gb1120, 0, none⟩ = some (.int .i64 t1118) ∧ w'.cell? ⟨gb1120, 1, none⟩ = some (.int .i64 t1119) ∧ w'.cell? ⟨gb1125, 0, none⟩ = some (.int .i64 t1123) ∧ w'.cell? ⟨gb1125, 1, none⟩ = some (.int .i64 t1124)) ∧ (w'.heap[gb1111]? = some (.cells #[.int .i64 t1114, .int .i64 t1115] 23 (0, 0))) ∧ (w'.heap[gb1112]? = some (.cells #[.int .i64 a1_0, .int .i64 a1_1] 23 (0, 0))) ∧ (w'.heap[gb1113]? = some (.cells #[.int .i64 0, .int .i64 0] 23 (0, 0))) ∧ (w'.heap[gb1120]? = some (.cells #[.int .i64 t1118, .int .i64 t1119] 23 (0, 0))) ∧ (w'.heap[gb1125]? = some (.cells #[.int .i64 t1123, .int .i64 t1124] 23 (0, 0))) ∧ (w'.heap[s_]? = some (.cells #[.int .i64 0, .int .i64 0] 23 (0, 0))) ∧ (w.heap.size ≤ s_) ∧ (w.heap.size ≤ s_) ∧ (gb1111 ≠ s_) ∧ (s_ ≠ gb1111) ∧ (gb1112 ≠ s_) ∧ (s_ ≠ gb1112) ∧ (gb1113 ≠ s_) ∧ (s_ ≠ gb1113) ∧ (gb1120 ≠ s_) ∧ (s_ ≠ gb1120) ∧ (gb1125 ≠ s_) ∧ (s_ ≠ gb1125) ∧ (Below w.heap.size w w')) ?_ ?_
     rotate_left
     ·
      intro hCont
      refine two_ (i := 1) (j := 4) (Ni := some 33) (Nj := some 7) #[true, true, true, false, false, false] #[true, false, true, false, true, false] rfl rfl rfl rfl (by kernel_rfl) (by decide) (by decide) (fun K hK => ?_) (fun K hK => ?_)
      · skip
        refine goesQ Try.func51 #[.agg #[.int .i64 t1118, .int .i64 t1119]] ?_
        with_reducible refine (gimbalref02_Neg.calls kj7 t1118 t1119 t1131 t1132 _ A78.out).mono ?_
        rintro e w82 ⟨rfl, hb⟩
        refine ⟨_, rfl, ?_⟩
        have n0_ := bst HB hb
        replace BK1111 := bbw BK1111 hb
        replace BK1112 := bbw BK1112 hb
        replace BK1113 := bbw BK1113 hb
        replace BK1120 := bbw BK1120 hb
        replace BK1125 := bbw BK1125 hb
        clear HB
        have HB := n0_
        clear n0_
        (try clear hb)
        (try clear hb2)
        (try clear hk)
        (try clear hi)
        refine hK.out _ _ ⟨hcz BK1120 0, hcz BK1120 1, hcz BK1125 0, hcz BK1125 1⟩ (fun hHeld => ?_)
        clear hK K
        refine norm_ (a' := ?_) ?_ ?_
        rotate_left
        · show Act.put _ (some 33) _ = _
          simp only [Act.put, List.setIfInBounds_toArray, List.set_cons_zero, List.set_cons_succ, i64_w, i32_w]
          rfl
        refine two_ (i := 3) (j := 4) (Ni := some 35) (Nj := some 7) #[true, true, true, true, false, false] #[true, true, true, false, true, false] rfl rfl rfl rfl (by kernel_rfl) (by decide) (by decide) (fun K hK => ?_) (fun K hK => ?_)
        · skip
          refine goesQ Try.func27 #[.agg #[.int .i64 t1131, .int .i64 t1132], .agg #[.int .i64 t1123, .int .i64 t1124]] ?_
          with_reducible refine (gimbalref02_Join.calls kj7 t1131 t1132 t1123 t1124 t1133 t1134 _ A79.out).mono ?_
          rintro e w83 ⟨rfl, hb⟩
          refine ⟨_, rfl, ?_⟩
          have n0_ := bst HB hb
          replace BK1111 := bbw BK1111 hb
          replace BK1112 := bbw BK1112 hb
          replace BK1113 := bbw BK1113 hb
          replace BK1120 := bbw BK1120 hb
          replace BK1125 := bbw BK1125 hb
          clear HB
          have HB := n0_
          clear n0_
          (try clear hb)
          (try clear hb2)
          (try clear hk)
          (try clear hi)
          refine hK.out _ _ ⟨hcz BK1120 0, hcz BK1120 1, hcz BK1125 0, hcz BK1125 1⟩ (fun hHeld => ?_)
          clear hK K
          refine norm_ (a' := ?_) ?_ ?_
          rotate_left
          · show Act.put _ (some 35) _ = _
            simp only [Act.put, List.setIfInBounds_toArray, List.set_cons_zero, List.set_cons_succ, i64_w, i32_w]
            rfl
          refine one_ (i := 4) (N := some 7) #[true, true, true, true, true, false] rfl rfl (by kernel_rfl) (by decide) (fun K hK => ?_)
          refine box_step ?hg (N := 7) ?hd (cs := #[.int .i64 0, .int .i64 0]) (t := 23) ?hr ?_; (case hd => rfl); (case hg => rfl); (case hr => first | (go_simp; done) | (go_simp; rfl))
          intro gb1135 hg w84 hbox hb
          have n0_ := bst HB hb
          have n1_ := Aside0.mk (hbox)
          have n2_ := bsz HB hg
          have n3_ := bsz HB hg
          have n4_ := bn1 BK1111 hg
          have n5_ := bn2 BK1111 hg
          have n6_ := bn1 BK1112 hg
          have n7_ := bn2 BK1112 hg
          have n8_ := bn1 BK1113 hg
          have n9_ := bn2 BK1113 hg
          have n10_ := bn1 BK1120 hg
          have n11_ := bn2 BK1120 hg
          have n12_ := bn1 BK1125 hg
          have n13_ := bn2 BK1125 hg
          replace BK1111 := bbw BK1111 hb
          replace BK1112 := bbw BK1112 hb
          replace BK1113 := bbw BK1113 hb
          replace BK1120 := bbw BK1120 hb
          replace BK1125 := bbw BK1125 hb
          clear HB
          have HB := n0_
          have BK1135 := n1_
          have GW1135 := n2_
          have GE1135 := n3_
          have NB1111_1135 := n4_
          have NB1135_1111 := n5_
          have NB1112_1135 := n6_
          have NB1135_1112 := n7_
          have NB1113_1135 := n8_
          have NB1135_1113 := n9_
          have NB1120_1135 := n10_
          have NB1135_1120 := n11_
          have NB1125_1135 := n12_
          have NB1135_1125 := n13_
          clear n0_ n1_ n2_ n3_ n4_ n5_ n6_ n7_ n8_ n9_ n10_ n11_ n12_ n13_
          clear hb hbox hg
          refine hK.out _ _ ⟨hcz BK1120 0, hcz BK1120 1, hcz BK1125 0, hcz BK1125 1⟩ (fun hHeld => ?_)
          clear hK K
          refine norm_ (a' := ?_) ?_ ?_
          rotate_left
          · show Act.put _ (some 7) _ = _
            simp only [Act.put, List.setIfInBounds_toArray, List.set_cons_zero, List.set_cons_succ, i64_w, i32_w]
            rfl
          exact norm_ (by simp only [putAll, Act.put, List.setIfInBounds_toArray, List.set_cons_zero, List.set_cons_succ]) (hCont (gb1135) _ ⟨hHeld, (pk BK1111.out), (pk BK1112.out), (pk BK1113.out), (pk BK1120.out), (pk BK1125.out), (pk BK1135.out), GW1135.out, GE1135.out, NB1111_1135.out, NB1135_1111.out, NB1112_1135.out, NB1135_1112.out, NB1113_1135.out, NB1135_1113.out, NB1120_1135.out, NB1135_1120.out, NB1125_1135.out, NB1135_1125.out, (by repeat (first | (with_reducible first | exact HB.out | apply below_alloc | apply pw_below_drewN | apply below_drew1 | refine below_set ?_ GE1111.out | refine below_set ?_ GE1112.out | refine below_set ?_ GE1113.out | refine below_set ?_ GE1120.out | refine below_set ?_ GE1125.out | refine below_set ?_ GE1135.out) | exact HB.out))⟩)
        · skip
          refine box_step ?hg (N := 7) ?hd (cs := #[.int .i64 0, .int .i64 0]) (t := 23) ?hr ?_; (case hd => rfl); (case hg => rfl); (case hr => first | (go_simp; done) | (go_simp; rfl))
          intro gb1135 hg w83 hbox hb
          have n0_ := bst HB hb
          have n1_ := Aside0.mk (hbox)
          have n2_ := bsz HB hg
          have n3_ := bsz HB hg
          have n4_ := bn1 BK1111 hg
          have n5_ := bn2 BK1111 hg
          have n6_ := bn1 BK1112 hg
          have n7_ := bn2 BK1112 hg
          have n8_ := bn1 BK1113 hg
          have n9_ := bn2 BK1113 hg
          have n10_ := bn1 BK1120 hg
          have n11_ := bn2 BK1120 hg
          have n12_ := bn1 BK1125 hg
          have n13_ := bn2 BK1125 hg
          replace BK1111 := bbw BK1111 hb
          replace BK1112 := bbw BK1112 hb
          replace BK1113 := bbw BK1113 hb
          replace BK1120 := bbw BK1120 hb
          replace BK1125 := bbw BK1125 hb
          clear HB
          have HB := n0_
          have BK1135 := n1_
          have GW1135 := n2_
          have GE1135 := n3_
          have NB1111_1135 := n4_
          have NB1135_1111 := n5_
          have NB1112_1135 := n6_
          have NB1135_1112 := n7_
          have NB1113_1135 := n8_
          have NB1135_1113 := n9_
          have NB1120_1135 := n10_
          have NB1135_1120 := n11_
          have NB1125_1135 := n12_
          have NB1135_1125 := n13_
          clear n0_ n1_ n2_ n3_ n4_ n5_ n6_ n7_ n8_ n9_ n10_ n11_ n12_ n13_
          clear hb hbox hg
          refine hK.out _ _ ⟨hcz BK1120 0, hcz BK1120 1, hcz BK1125 0, hcz BK1125 1⟩ (fun hHeld => ?_)
          clear hK K
          refine norm_ (a' := ?_) ?_ ?_
          rotate_left
          · show Act.put _ (some 7) _ = _
            simp only [Act.put, List.setIfInBounds_toArray, List.set_cons_zero, List.set_cons_succ, i64_w, i32_w]
            rfl
          refine one_ (i := 3) (N := some 35) #[true, true, true, true, true, false] rfl rfl (by kernel_rfl) (by decide) (fun K hK => ?_)
          refine goesQ Try.func27 #[.agg #[.int .i64 t1131, .int .i64 t1132], .agg #[.int .i64 t1123, .int .i64 t1124]] ?_
          with_reducible refine (gimbalref02_Join.calls kj7 t1131 t1132 t1123 t1124 t1133 t1134 _ A79.out).mono ?_
          rintro e w84 ⟨rfl, hb⟩
          refine ⟨_, rfl, ?_⟩
          have n0_ := bst HB hb
          replace BK1111 := bbw BK1111 hb
          replace BK1112 := bbw BK1112 hb
          replace BK1113 := bbw BK1113 hb
          replace BK1120 := bbw BK1120 hb
          replace BK1125 := bbw BK1125 hb
          replace BK1135 := bbw BK1135 hb
          clear HB
          have HB := n0_
          clear n0_
          (try clear hb)
          (try clear hb2)
          (try clear hk)
          (try clear hi)
          refine hK.out _ _ ⟨hcz BK1120 0, hcz BK1120 1, hcz BK1125 0, hcz BK1125 1⟩ (fun hHeld => ?_)
          clear hK K
          refine norm_ (a' := ?_) ?_ ?_
          rotate_left
          · show Act.put _ (some 35) _ = _
            simp only [Act.put, List.setIfInBounds_toArray, List.set_cons_zero, List.set_cons_succ, i64_w, i32_w]
            rfl
          exact norm_ (by simp only [putAll, Act.put, List.setIfInBounds_toArray, List.set_cons_zero, List.set_cons_succ]) (hCont (gb1135) _ ⟨hHeld, (pk BK1111.out), (pk BK1112.out), (pk BK1113.out), (pk BK1120.out), (pk BK1125.out), (pk BK1135.out), GW1135.out, GE1135.out, NB1111_1135.out, NB1135_1111.out, NB1112_1135.out, NB1135_1112.out, NB1113_1135.out, NB1135_1113.out, NB1120_1135.out, NB1135_1120.out, NB1125_1135.out, NB1135_1125.out, (by repeat (first | (with_reducible first | exact HB.out | apply below_alloc | apply pw_below_drewN | apply below_drew1 | refine below_set ?_ GE1111.out | refine below_set ?_ GE1112.out | refine below_set ?_ GE1113.out | refine below_set ?_ GE1120.out | refine below_set ?_ GE1125.out | refine below_set ?_ GE1135.out) | exact HB.out))⟩)
      · skip
        refine box_step ?hg (N := 7) ?hd (cs := #[.int .i64 0, .int .i64 0]) (t := 23) ?hr ?_; (case hd => rfl); (case hg => rfl); (case hr => first | (go_simp; done) | (go_simp; rfl))
        intro gb1135 hg w82 hbox hb
        have n0_ := bst HB hb
        have n1_ := Aside0.mk (hbox)
        have n2_ := bsz HB hg
        have n3_ := bsz HB hg
        have n4_ := bn1 BK1111 hg
        have n5_ := bn2 BK1111 hg
        have n6_ := bn1 BK1112 hg
        have n7_ := bn2 BK1112 hg
        have n8_ := bn1 BK1113 hg
        have n9_ := bn2 BK1113 hg
        have n10_ := bn1 BK1120 hg
        have n11_ := bn2 BK1120 hg
        have n12_ := bn1 BK1125 hg
        have n13_ := bn2 BK1125 hg
        replace BK1111 := bbw BK1111 hb
        replace BK1112 := bbw BK1112 hb
        replace BK1113 := bbw BK1113 hb
        replace BK1120 := bbw BK1120 hb
        replace BK1125 := bbw BK1125 hb
        clear HB
        have HB := n0_
        have BK1135 := n1_
        have GW1135 := n2_
        have GE1135 := n3_
        have NB1111_1135 := n4_
        have NB1135_1111 := n5_
        have NB1112_1135 := n6_
        have NB1135_1112 := n7_
        have NB1113_1135 := n8_
        have NB1135_1113 := n9_
        have NB1120_1135 := n10_
        have NB1135_1120 := n11_
        have NB1125_1135 := n12_
        have NB1135_1125 := n13_
        clear n0_ n1_ n2_ n3_ n4_ n5_ n6_ n7_ n8_ n9_ n10_ n11_ n12_ n13_
        clear hb hbox hg
        refine hK.out _ _ ⟨hcz BK1120 0, hcz BK1120 1, hcz BK1125 0, hcz BK1125 1⟩ (fun hHeld => ?_)
        clear hK K
        refine norm_ (a' := ?_) ?_ ?_
        rotate_left
        · show Act.put _ (some 7) _ = _
          simp only [Act.put, List.setIfInBounds_toArray, List.set_cons_zero, List.set_cons_succ, i64_w, i32_w]
          rfl
        refine one_ (i := 1) (N := some 33) #[true, true, true, false, true, false] rfl rfl (by kernel_rfl) (by decide) (fun K hK => ?_)
        refine goesQ Try.func51 #[.agg #[.int .i64 t1118, .int .i64 t1119]] ?_
        with_reducible refine (gimbalref02_Neg.calls kj7 t1118 t1119 t1131 t1132 _ A78.out).mono ?_
        rintro e w83 ⟨rfl, hb⟩
        refine ⟨_, rfl, ?_⟩
        have n0_ := bst HB hb
        replace BK1111 := bbw BK1111 hb
        replace BK1112 := bbw BK1112 hb
        replace BK1113 := bbw BK1113 hb
        replace BK1120 := bbw BK1120 hb
        replace BK1125 := bbw BK1125 hb
        replace BK1135 := bbw BK1135 hb
        clear HB
        have HB := n0_
        clear n0_
        (try clear hb)
        (try clear hb2)
        (try clear hk)
        (try clear hi)
        refine hK.out _ _ ⟨hcz BK1120 0, hcz BK1120 1, hcz BK1125 0, hcz BK1125 1⟩ (fun hHeld => ?_)
        clear hK K
        refine norm_ (a' := ?_) ?_ ?_
        rotate_left
        · show Act.put _ (some 33) _ = _
          simp only [Act.put, List.setIfInBounds_toArray, List.set_cons_zero, List.set_cons_succ, i64_w, i32_w]
          rfl
        refine one_ (i := 3) (N := some 35) #[true, true, true, true, true, false] rfl rfl (by kernel_rfl) (by decide) (fun K hK => ?_)
        refine goesQ Try.func27 #[.agg #[.int .i64 t1131, .int .i64 t1132], .agg #[.int .i64 t1123, .int .i64 t1124]] ?_
        with_reducible refine (gimbalref02_Join.calls kj7 t1131 t1132 t1123 t1124 t1133 t1134 _ A79.out).mono ?_
        rintro e w84 ⟨rfl, hb⟩
        refine ⟨_, rfl, ?_⟩
        have n0_ := bst HB hb
        replace BK1111 := bbw BK1111 hb
        replace BK1112 := bbw BK1112 hb
        replace BK1113 := bbw BK1113 hb
        replace BK1120 := bbw BK1120 hb
        replace BK1125 := bbw BK1125 hb
        replace BK1135 := bbw BK1135 hb
        clear HB
        have HB := n0_
        clear n0_
        (try clear hb)
        (try clear hb2)
        (try clear hk)
        (try clear hi)
        refine hK.out _ _ ⟨hcz BK1120 0, hcz BK1120 1, hcz BK1125 0, hcz BK1125 1⟩ (fun hHeld => ?_)
        clear hK K
        refine norm_ (a' := ?_) ?_ ?_
        rotate_left
        · show Act.put _ (some 35) _ = _
          simp only [Act.put, List.setIfInBounds_toArray, List.set_cons_zero, List.set_cons_succ, i64_w, i32_w]
          rfl
        exact norm_ (by simp only [putAll, Act.put, List.setIfInBounds_toArray, List.set_cons_zero, List.set_cons_succ]) (hCont (gb1135) _ ⟨hHeld, (pk BK1111.out), (pk BK1112.out), (pk BK1113.out), (pk BK1120.out), (pk BK1125.out), (pk BK1135.out), GW1135.out, GE1135.out, NB1111_1135.out, NB1135_1111.out, NB1112_1135.out, NB1135_1112.out, NB1113_1135.out, NB1135_1113.out, NB1120_1135.out, NB1135_1120.out, NB1125_1135.out, NB1135_1125.out, (by repeat (first | (with_reducible first | exact HB.out | apply below_alloc | apply pw_below_drewN | apply below_drew1 | refine below_set ?_ GE1111.out | refine below_set ?_ GE1112.out | refine below_set ?_ GE1113.out | refine below_set ?_ GE1120.out | refine below_set ?_ GE1125.out | refine below_set ?_ GE1135.out) | exact HB.out))⟩)
     rintro gb1135 w85 ⟨hS_, h0_, h1_, h2_, h3_, h4_, h5_, h6_, h7_, h8_, h9_, h10_, h11_, h12_, h13_, h14_, h15_, h16_, h17_, h18_⟩
     have n0_ : Aside0 (w85.heap[gb1111]? = some (.cells #[.int .i64 t1114, .int .i64 t1115] 23 (0, 0))) := ⟨h0_⟩
     have n1_ : Aside0 (w85.heap[gb1112]? = some (.cells #[.int .i64 a1_0, .int .i64 a1_1] 23 (0, 0))) := ⟨h1_⟩
     have n2_ : Aside0 (w85.heap[gb1113]? = some (.cells #[.int .i64 0, .int .i64 0] 23 (0, 0))) := ⟨h2_⟩
     have n3_ : Aside0 (w85.heap[gb1120]? = some (.cells #[.int .i64 t1118, .int .i64 t1119] 23 (0, 0))) := ⟨h3_⟩
     have n4_ : Aside0 (w85.heap[gb1125]? = some (.cells #[.int .i64 t1123, .int .i64 t1124] 23 (0, 0))) := ⟨h4_⟩
     have n5_ : Aside0 (w85.heap[gb1135]? = some (.cells #[.int .i64 0, .int .i64 0] 23 (0, 0))) := ⟨h5_⟩
     have n6_ : Aside0 (w.heap.size ≤ gb1135) := ⟨h6_⟩
     have n7_ : Aside0 (w.heap.size ≤ gb1135) := ⟨h7_⟩
     have n8_ : Aside0 (gb1111 ≠ gb1135) := ⟨h8_⟩
     have n9_ : Aside0 (gb1135 ≠ gb1111) := ⟨h9_⟩
     have n10_ : Aside0 (gb1112 ≠ gb1135) := ⟨h10_⟩
     have n11_ : Aside0 (gb1135 ≠ gb1112) := ⟨h11_⟩
     have n12_ : Aside0 (gb1113 ≠ gb1135) := ⟨h12_⟩
     have n13_ : Aside0 (gb1135 ≠ gb1113) := ⟨h13_⟩
     have n14_ : Aside0 (gb1120 ≠ gb1135) := ⟨h14_⟩
     have n15_ : Aside0 (gb1135 ≠ gb1120) := ⟨h15_⟩
     have n16_ : Aside0 (gb1125 ≠ gb1135) := ⟨h16_⟩
     have n17_ : Aside0 (gb1135 ≠ gb1125) := ⟨h17_⟩
     have n18_ : Aside0 (Below w.heap.size w w85) := ⟨h18_⟩
     clear BK1111
     clear BK1112
     clear BK1113
     clear BK1120
     clear BK1125
     clear HB
     clear h0_ h1_ h2_ h3_ h4_ h5_ h6_ h7_ h8_ h9_ h10_ h11_ h12_ h13_ h14_ h15_ h16_ h17_ h18_
     have BK1111 := n0_
     have BK1112 := n1_
     have BK1113 := n2_
     have BK1120 := n3_
     have BK1125 := n4_
     have BK1135 := n5_
     have GW1135 := n6_
     have GE1135 := n7_
     have NB1111_1135 := n8_
     have NB1135_1111 := n9_
     have NB1112_1135 := n10_
     have NB1135_1112 := n11_
     have NB1113_1135 := n12_
     have NB1135_1113 := n13_
     have NB1120_1135 := n14_
     have NB1135_1120 := n15_
     have NB1125_1135 := n16_
     have NB1135_1125 := n17_
     have HB := n18_
     clear n0_ n1_ n2_ n3_ n4_ n5_ n6_ n7_ n8_ n9_ n10_ n11_ n12_ n13_ n14_ n15_ n16_ n17_ n18_
     have hHeld : w85.cell? ⟨gb1120, 0, none⟩ = some (.int .i64 t1118) ∧ w85.cell? ⟨gb1120, 1, none⟩ = some (.int .i64 t1119) ∧ w85.cell? ⟨gb1125, 0, none⟩ = some (.int .i64 t1123) ∧ w85.cell? ⟨gb1125, 1, none⟩ = some (.int .i64 t1124) := hS_
     refine norm_ (a' := ?_) ?_ ?_
     rotate_left
     ·
      simp only [putAll, Act.put, List.setIfInBounds_toArray, List.set_cons_zero, List.set_cons_succ]
      rfl
     refine one_ (i := 5) (N := none) #[true, true, true, true, true, true] rfl rfl (by kernel_rfl) (by decide) (fun K hK => ?_)
     have hs86 : w85.cell? ⟨gb1135, 0, none⟩ = some (.int .i64 0) := hcz BK1135 0
     have hfs86 := blk_frozen BK1135.out 0
     have hns86_0 := NB1111_1135.out
     have hns86_1 := NB1112_1135.out
     have hns86_2 := NB1113_1135.out
     have hns86_3 := NB1120_1135.out
     have hns86_4 := NB1125_1135.out
     have hms86_0 := NB1135_1111.out
     have hms86_1 := NB1135_1112.out
     have hms86_2 := NB1135_1113.out
     have hms86_3 := NB1135_1120.out
     have hms86_4 := NB1135_1125.out
     have hs87 : w85.cell? ⟨gb1135, 1, none⟩ = some (.int .i64 0) := hcz BK1135 1
     have hfs87 := blk_frozen BK1135.out 1
     have hns87_0 := NB1111_1135.out
     have hns87_1 := NB1112_1135.out
     have hns87_2 := NB1113_1135.out
     have hns87_3 := NB1120_1135.out
     have hns87_4 := NB1125_1135.out
     have hms87_0 := NB1135_1111.out
     have hms87_1 := NB1135_1112.out
     have hms87_2 := NB1135_1113.out
     have hms87_3 := NB1135_1120.out
     have hms87_4 := NB1135_1125.out
     refine skip_ (w1 := ?_) (by rfl) rfl ?_ ?_
     rotate_left
     ·
      go_simp
      rfl
     refine hK.out _ _ ⟨((cell_far (p := ⟨gb1135, _, none⟩) NB1120_1135.out _).trans (((cell_far (p := ⟨gb1135, _, none⟩) NB1120_1135.out _).trans (hHeld.1)))), ((cell_far (p := ⟨gb1135, _, none⟩) NB1120_1135.out _).trans (((cell_far (p := ⟨gb1135, _, none⟩) NB1120_1135.out _).trans (hHeld.2.1)))), ((cell_far (p := ⟨gb1135, _, none⟩) NB1125_1135.out _).trans (((cell_far (p := ⟨gb1135, _, none⟩) NB1125_1135.out _).trans (hHeld.2.2.1)))), ((cell_far (p := ⟨gb1135, _, none⟩) NB1125_1135.out _).trans (((cell_far (p := ⟨gb1135, _, none⟩) NB1125_1135.out _).trans (hHeld.2.2.2))))⟩ (fun hHeld => ?_)
     clear hK K
     refine done_ (by kernel_rfl) ?_
     have hnb88 := NB1135_1111.out
     have hnc88 := NB1111_1135.out
     have hnb89 := NB1135_1112.out
     have hnc89 := NB1112_1135.out
     have hnb90 := NB1135_1113.out
     have hnc90 := NB1113_1135.out
     have hnb91 := NB1135_1120.out
     have hnc91 := NB1120_1135.out
     have hnb92 := NB1135_1125.out
     have hnc92 := NB1125_1135.out
     have hcz93_0 := hcz BK1135 0
     have hcz93_1 := hcz BK1135 1
     have hfz93_0 := blk_frozen BK1135.out 0
     have hfz93_1 := blk_frozen BK1135.out 1
     go_upto_region 9 with (fail)
     go_cut [47] (fun v47 wc => ∃ (kq : Nat) (x47_79 : Bool), v47 = .bool x47_79 ∧ Aside0 (gimbalref02_Mod.j1 kq t1133 t1134 x47_79 t1114 t1115 t1118 t1119 t1123 t1124 = some (r1, r2)) ∧ Aside0 (kq ≤ kj7) ∧ Aside0 (wc.heap[gb1111]? = some (.cells #[.int .i64 t1114, .int .i64 t1115] 23 (0, 0))) ∧ Aside0 (wc.heap[gb1112]? = some (.cells #[.int .i64 a1_0, .int .i64 a1_1] 23 (0, 0))) ∧ Aside0 (wc.heap[gb1113]? = some (.cells #[.int .i64 0, .int .i64 0] 23 (0, 0))) ∧ Aside0 (wc.heap[gb1120]? = some (.cells #[.int .i64 t1118, .int .i64 t1119] 23 (0, 0))) ∧ Aside0 (wc.heap[gb1125]? = some (.cells #[.int .i64 t1123, .int .i64 t1124] 23 (0, 0))) ∧ Aside0 (wc.heap[gb1135]? = some (.cells #[.int .i64 t1133, .int .i64 t1134] 23 (0, 0))) ∧ Aside0 (Below w.heap.size w wc))
     case first =>
      have H := HC80.out
      clear HC80
      replace H := Option.bind_eq_some_iff.mp H
      obtain ⟨t1136, A940, H⟩ := H
      replace H : (if t1136 = true then (gimbalref02_Mod.j1 kj7 t1133 t1134 false t1114 t1115 t1118 t1119 t1123 t1124) else ((gimbalref02_None.f t1123 t1124).bind fun t1137 => (gimbalref02_Mod.j1 kj7 t1133 t1134 (!t1137) t1114 t1115 t1118 t1119 t1123 t1124))) = some (r1, r2) := H
      have A94 := Aside0.mk A940
      clear A940
      by_cases c95 : t1136 = true
      ·
       subst c95
       have H1 : (gimbalref02_Mod.j1 kj7 t1133 t1134 false t1114 t1115 t1118 t1119 t1123 t1124) = some (r1, r2) := by rw [if_pos rfl] at H; exact H
       clear H
       have H := H1
       clear H1
       have H' := Aside0.mk H
       clear H
       have hnb96 := NB1120_1111.out
       have hnc96 := NB1111_1120.out
       have hnb97 := NB1120_1112.out
       have hnc97 := NB1112_1120.out
       have hnb98 := NB1120_1113.out
       have hnc98 := NB1113_1120.out
       have hnb99 := NB1120_1125.out
       have hnc99 := NB1125_1120.out
       have hnb100 := NB1120_1135.out
       have hnc100 := NB1135_1120.out
       have hcz101_0 := hcz BK1120 0
       have hcz101_1 := hcz BK1120 1
       have hfz101_0 := blk_frozen BK1120.out 0
       have hfz101_1 := blk_frozen BK1120.out 1
       go_wp2_with (first | ((with_reducible refine gate_callee (f := 61) rfl ?_); refine goesL_ (some 41) rfl rfl Try.func61 (by kernel_rfl) rfl #[.agg #[.int .i64 t1118, .int .i64 t1119]] rfl (by (try simp only [List.map_toArray, List.map_cons, List.map_nil]); first | done | rfl | (simp only [List.length_drop, List.length_take]; rfl)) ?_; (with_reducible refine (gimbalref02_None.calls t1118 t1119 true _ A94.out).mono ?_); rintro e w102 ⟨rfl, hb⟩; refine ⟨_, rfl, ?_⟩; have n0_ := Aside0.mk (blk_below (g := gb1111) (o := .cells #[.int .i64 t1114, .int .i64 t1115] 23 (0, 0)) (by refine pkB ?_; refine blk_far ?_ NB1111_1135.out _; refine pkB ?_; refine blk_far ?_ NB1111_1135.out _; refine pkB ?_; exact BK1111.out) hb); have n1_ := Aside0.mk (blk_below (g := gb1112) (o := .cells #[.int .i64 a1_0, .int .i64 a1_1] 23 (0, 0)) (by refine pkB ?_; refine blk_far ?_ NB1112_1135.out _; refine pkB ?_; refine blk_far ?_ NB1112_1135.out _; refine pkB ?_; exact BK1112.out) hb); have n2_ := Aside0.mk (blk_below (g := gb1113) (o := .cells #[.int .i64 0, .int .i64 0] 23 (0, 0)) (by refine pkB ?_; refine blk_far ?_ NB1113_1135.out _; refine pkB ?_; refine blk_far ?_ NB1113_1135.out _; refine pkB ?_; exact BK1113.out) hb); have n3_ := Aside0.mk (blk_below (g := gb1120) (o := .cells #[.int .i64 t1118, .int .i64 t1119] 23 (0, 0)) (by refine pkB ?_; refine blk_far ?_ NB1120_1135.out _; refine pkB ?_; refine blk_far ?_ NB1120_1135.out _; refine pkB ?_; exact BK1120.out) hb); have n4_ := Aside0.mk (blk_below (g := gb1125) (o := .cells #[.int .i64 t1123, .int .i64 t1124] 23 (0, 0)) (by refine pkB ?_; refine blk_far ?_ NB1125_1135.out _; refine pkB ?_; refine blk_far ?_ NB1125_1135.out _; refine pkB ?_; exact BK1125.out) hb); have n5_ := Aside0.mk (blk_below (g := gb1135) (o := .cells #[.int .i64 t1133, .int .i64 t1134] 23 (0, 0)) (by refine pkB ?_; refine blk_put (cs := #[.int .i64 t1133, .int .i64 0]) ?_ 1 _ (by first | rfl | (subst_vars; rfl)); refine pkB ?_; refine blk_put (cs := #[.int .i64 0, .int .i64 0]) ?_ 0 _ (by first | rfl | (subst_vars; rfl)); refine pkB ?_; exact BK1135.out) hb); have n6_ := bst HB hb; clear BK1111; clear BK1112; clear BK1113; clear BK1120; clear BK1125; clear BK1135; clear HB; have BK1111 := n0_; have BK1112 := n1_; have BK1113 := n2_; have BK1120 := n3_; have BK1125 := n4_; have BK1135 := n5_; have HB := n6_; clear n0_ n1_ n2_ n3_ n4_ n5_ n6_; (try clear hb); (try clear hb2); (try clear hk); (try clear hi)))
       go_meet
       case rel => exact ⟨_, (false), (by first | rfl | (simp; done) | (simp [*]; done)), H', ⟨by have := HJ7.out; first | omega | exact Nat.le_refl _⟩, pkA BK1111, pkA BK1112, pkA BK1113, pkA BK1120, pkA BK1125, pkA BK1135, bpk HB⟩
      ·
       replace c95 := Bool.eq_false_iff.mpr c95
       subst c95
       have H1 : ((gimbalref02_None.f t1123 t1124).bind fun t1137 => (gimbalref02_Mod.j1 kj7 t1133 t1134 (!t1137) t1114 t1115 t1118 t1119 t1123 t1124)) = some (r1, r2) := by rw [if_neg (show ¬ (false = true) by decide)] at H; exact H
       clear H
       have H := H1
       clear H1
       replace H := Option.bind_eq_some_iff.mp H
       obtain ⟨t1137, A1030, H⟩ := H
       replace H : (gimbalref02_Mod.j1 kj7 t1133 t1134 (!t1137) t1114 t1115 t1118 t1119 t1123 t1124) = some (r1, r2) := H
       have A103 := Aside0.mk A1030
       clear A1030
       have H' := Aside0.mk H
       clear H
       have hnb104 := NB1120_1111.out
       have hnc104 := NB1111_1120.out
       have hnb105 := NB1120_1112.out
       have hnc105 := NB1112_1120.out
       have hnb106 := NB1120_1113.out
       have hnc106 := NB1113_1120.out
       have hnb107 := NB1120_1125.out
       have hnc107 := NB1125_1120.out
       have hnb108 := NB1120_1135.out
       have hnc108 := NB1135_1120.out
       have hcz109_0 := hcz BK1120 0
       have hcz109_1 := hcz BK1120 1
       have hfz109_0 := blk_frozen BK1120.out 0
       have hfz109_1 := blk_frozen BK1120.out 1
       go_wp2_with (first | ((with_reducible refine gate_callee (f := 61) rfl ?_); refine goesL_ (some 41) rfl rfl Try.func61 (by kernel_rfl) rfl #[.agg #[.int .i64 t1118, .int .i64 t1119]] rfl (by (try simp only [List.map_toArray, List.map_cons, List.map_nil]); first | done | rfl | (simp only [List.length_drop, List.length_take]; rfl)) ?_; (with_reducible refine (gimbalref02_None.calls t1118 t1119 false _ A94.out).mono ?_); rintro e w110 ⟨rfl, hb⟩; refine ⟨_, rfl, ?_⟩; have n0_ := Aside0.mk (blk_below (g := gb1111) (o := .cells #[.int .i64 t1114, .int .i64 t1115] 23 (0, 0)) (by refine pkB ?_; refine blk_far ?_ NB1111_1135.out _; refine pkB ?_; refine blk_far ?_ NB1111_1135.out _; refine pkB ?_; exact BK1111.out) hb); have n1_ := Aside0.mk (blk_below (g := gb1112) (o := .cells #[.int .i64 a1_0, .int .i64 a1_1] 23 (0, 0)) (by refine pkB ?_; refine blk_far ?_ NB1112_1135.out _; refine pkB ?_; refine blk_far ?_ NB1112_1135.out _; refine pkB ?_; exact BK1112.out) hb); have n2_ := Aside0.mk (blk_below (g := gb1113) (o := .cells #[.int .i64 0, .int .i64 0] 23 (0, 0)) (by refine pkB ?_; refine blk_far ?_ NB1113_1135.out _; refine pkB ?_; refine blk_far ?_ NB1113_1135.out _; refine pkB ?_; exact BK1113.out) hb); have n3_ := Aside0.mk (blk_below (g := gb1120) (o := .cells #[.int .i64 t1118, .int .i64 t1119] 23 (0, 0)) (by refine pkB ?_; refine blk_far ?_ NB1120_1135.out _; refine pkB ?_; refine blk_far ?_ NB1120_1135.out _; refine pkB ?_; exact BK1120.out) hb); have n4_ := Aside0.mk (blk_below (g := gb1125) (o := .cells #[.int .i64 t1123, .int .i64 t1124] 23 (0, 0)) (by refine pkB ?_; refine blk_far ?_ NB1125_1135.out _; refine pkB ?_; refine blk_far ?_ NB1125_1135.out _; refine pkB ?_; exact BK1125.out) hb); have n5_ := Aside0.mk (blk_below (g := gb1135) (o := .cells #[.int .i64 t1133, .int .i64 t1134] 23 (0, 0)) (by refine pkB ?_; refine blk_put (cs := #[.int .i64 t1133, .int .i64 0]) ?_ 1 _ (by first | rfl | (subst_vars; rfl)); refine pkB ?_; refine blk_put (cs := #[.int .i64 0, .int .i64 0]) ?_ 0 _ (by first | rfl | (subst_vars; rfl)); refine pkB ?_; exact BK1135.out) hb); have n6_ := bst HB hb; clear BK1111; clear BK1112; clear BK1113; clear BK1120; clear BK1125; clear BK1135; clear HB; have BK1111 := n0_; have BK1112 := n1_; have BK1113 := n2_; have BK1120 := n3_; have BK1125 := n4_; have BK1135 := n5_; have HB := n6_; clear n0_ n1_ n2_ n3_ n4_ n5_ n6_; (try clear hb); (try clear hb2); (try clear hk); (try clear hi); have hnb111 := NB1125_1111.out; have hnc111 := NB1111_1125.out; have hnb112 := NB1125_1112.out; have hnc112 := NB1112_1125.out; have hnb113 := NB1125_1113.out; have hnc113 := NB1113_1125.out; have hnb114 := NB1125_1135.out; have hnc114 := NB1135_1125.out; have hcz115_0 := hcz BK1125 0; have hcz115_1 := hcz BK1125 1; have hfz115_0 := blk_frozen BK1125.out 0; have hfz115_1 := blk_frozen BK1125.out 1) | (go_at_call 61; (with_reducible refine (gimbalref02_None.calls t1123 t1124 t1137 _ A103.out).mono ?_); rintro e w116 ⟨rfl, hb⟩; have n0_ := bst HB hb; replace BK1111 := bbw BK1111 hb; replace BK1112 := bbw BK1112 hb; replace BK1113 := bbw BK1113 hb; replace BK1120 := bbw BK1120 hb; replace BK1125 := bbw BK1125 hb; replace BK1135 := bbw BK1135 hb; clear HB; have HB := n0_; clear n0_; (try clear hb); (try clear hb2); (try clear hk); (try clear hi)))
       go_meet
       case rel => exact ⟨_, (!t1137), (by first | rfl | (simp; done) | (simp [*]; done)), H', ⟨by have := HJ7.out; first | omega | exact Nat.le_refl _⟩, pkA BK1111, pkA BK1112, pkA BK1113, pkA BK1120, pkA BK1125, pkA BK1135, bpk HB⟩
     case rest =>
      clear HC80
      try clear c1
      try clear c2
      try clear p2
      try clear c3
      try clear c4
      try clear c5
      try clear c6
      try clear c7
      try clear c8
      try clear c9
      try clear c10
      try clear c11
      try clear c14
      try clear c16
      try clear c27
      try clear c29
      try clear c34
      try clear c35
      try clear c36
      try clear c37
      try clear c38
      try clear c42
      try clear c44
      try clear c45
      try clear c46
      try clear c47
      try clear c50
      try clear c51
      try clear c52
      try clear c55
      try clear c56
      try clear c59
      try clear c60
      try clear c61
      try clear c62
      try clear c65
      try clear c66
      try clear c67
      try clear c70
      try clear c73
      try clear c74
      try clear c75
      try clear c76
      try clear c88
      try clear c89
      try clear c90
      try clear c91
      try clear c92
      try clear c95
      try clear c96
      try clear c97
      try clear c98
      try clear c99
      try clear c100
      try clear c104
      try clear c105
      try clear c106
      try clear c107
      try clear c108
      try clear c111
      try clear c112
      try clear c113
      try clear c114
      try clear hcz101_0
      try clear hcz101_1
      try clear hcz109_0
      try clear hcz109_1
      try clear hcz115_0
      try clear hcz115_1
      try clear hcz39_0
      try clear hcz39_1
      try clear hcz48_0
      try clear hcz48_1
      try clear hcz53_0
      try clear hcz53_1
      try clear hcz57_0
      try clear hcz57_1
      try clear hcz63_0
      try clear hcz63_1
      try clear hcz68_0
      try clear hcz68_1
      try clear hcz77_0
      try clear hcz77_1
      try clear hcz93_0
      try clear hcz93_1
      try clear hfz101_0
      try clear hfz101_1
      try clear hfz109_0
      try clear hfz109_1
      try clear hfz115_0
      try clear hfz115_1
      try clear hfz39_0
      try clear hfz39_1
      try clear hfz48_0
      try clear hfz48_1
      try clear hfz53_0
      try clear hfz53_1
      try clear hfz57_0
      try clear hfz57_1
      try clear hfz63_0
      try clear hfz63_1
      try clear hfz68_0
      try clear hfz68_1
      try clear hfz77_0
      try clear hfz77_1
      try clear hfz93_0
      try clear hfz93_1
      try clear p2
      obtain ⟨kq, x47_79, rfl, HA, HJ79, BK1111, BK1112, BK1113, BK1120, BK1125, BK1135, HB⟩ := hcut
      cases kq with
      | zero => exact absurd HA.out (by simp [gimbalref02_Mod.j1])
      | succ kj79 =>
       have H := HA.out
       clear HA
       simp only [gimbalref02_Mod.j1] at H
       have HC117 := Aside0.mk H
       clear H
       go_upto_if 47 with (fail)
       go_cut [8, 9] (fun v8 v9 wc => ∃ (kq : Nat) (x8_116 : Int) (x9_116 : Int), v8 = .int .i64 x8_116 ∧ v9 = .int .i64 x9_116 ∧ Aside0 (gimbalref02_Mod.j2 kq x8_116 x9_116 t1114 t1115 t1118 t1119 t1123 t1124 = some (r1, r2)) ∧ Aside0 (kq ≤ kj79) ∧ Aside0 (wc.heap[gb1111]? = some (.cells #[.int .i64 t1114, .int .i64 t1115] 23 (0, 0))) ∧ Aside0 (wc.heap[gb1112]? = some (.cells #[.int .i64 a1_0, .int .i64 a1_1] 23 (0, 0))) ∧ Aside0 (wc.heap[gb1113]? = some (.cells #[.int .i64 0, .int .i64 0] 23 (0, 0))) ∧ Aside0 (wc.heap[gb1120]? = some (.cells #[.int .i64 t1118, .int .i64 t1119] 23 (0, 0))) ∧ Aside0 (wc.heap[gb1125]? = some (.cells #[.int .i64 t1123, .int .i64 t1124] 23 (0, 0))) ∧ Aside0 (wc.heap[gb1135]? = some (.cells #[.int .i64 t1133, .int .i64 t1134] 23 (0, 0))) ∧ Aside0 (Below w.heap.size w wc))
       case first =>
        have H := HC117.out
        clear HC117
        by_cases c118 : x47_79 = true
        ·
         subst c118
         have H1 : ((gimbalref02_less.f (wrap64 (-t1119)) t1123).bind fun t1138 => ((gimbalref02_more.f (wrap64 (-t1118)) t1124).bind fun t1139 => (gimbalref02_Mod.j2 kj79 t1138 t1139 t1114 t1115 t1118 t1119 t1123 t1124))) = some (r1, r2) := by rw [if_pos rfl] at H; exact H
         clear H
         have H := H1
         clear H1
         replace H := Option.bind_eq_some_iff.mp H
         obtain ⟨t1138, A1190, H⟩ := H
         replace H : ((gimbalref02_more.f (wrap64 (-t1118)) t1124).bind fun t1139 => (gimbalref02_Mod.j2 kj79 t1138 t1139 t1114 t1115 t1118 t1119 t1123 t1124)) = some (r1, r2) := H
         have A119 := Aside0.mk A1190
         clear A1190
         replace H := Option.bind_eq_some_iff.mp H
         obtain ⟨t1139, A1200, H⟩ := H
         replace H : (gimbalref02_Mod.j2 kj79 t1138 t1139 t1114 t1115 t1118 t1119 t1123 t1124) = some (r1, r2) := H
         have A120 := Aside0.mk A1200
         clear A1200
         have H' := Aside0.mk H
         clear H
         have hnb121 := NB1120_1111.out
         have hnc121 := NB1111_1120.out
         have hnb122 := NB1120_1112.out
         have hnc122 := NB1112_1120.out
         have hnb123 := NB1120_1113.out
         have hnc123 := NB1113_1120.out
         have hnb124 := NB1120_1125.out
         have hnc124 := NB1125_1120.out
         have hnb125 := NB1120_1135.out
         have hnc125 := NB1135_1120.out
         have hcz126_0 := hcz BK1120 0
         have hcz126_1 := hcz BK1120 1
         have hfz126_0 := blk_frozen BK1120.out 0
         have hfz126_1 := blk_frozen BK1120.out 1
         have hnb127 := NB1125_1111.out
         have hnc127 := NB1111_1125.out
         have hnb128 := NB1125_1112.out
         have hnc128 := NB1112_1125.out
         have hnb129 := NB1125_1113.out
         have hnc129 := NB1113_1125.out
         have hnb130 := NB1125_1135.out
         have hnc130 := NB1135_1125.out
         have hcz131_0 := hcz BK1125 0
         have hcz131_1 := hcz BK1125 1
         have hfz131_0 := blk_frozen BK1125.out 0
         have hfz131_1 := blk_frozen BK1125.out 1
         go_wp2_with (first | ((with_reducible refine gate_callee (f := 62) rfl ?_); refine goesL_ (some 53) rfl rfl Try.func62 (by kernel_rfl) rfl #[.int .i64 (wrap64 (-t1119)), .int .i64 t1123] rfl (by (try simp only [List.map_toArray, List.map_cons, List.map_nil]); first | done | rfl | (simp only [List.length_drop, List.length_take]; rfl)) ?_; (with_reducible refine (gimbalref02_less.calls (wrap64 (-t1119)) t1123 t1138 _ A119.out).mono ?_); rintro e w' ⟨rfl, ⟨nd, rfl⟩⟩; refine ⟨_, rfl, ?_⟩) | ((with_reducible refine gate_callee (f := 63) rfl ?_); refine goesL_ (some 59) rfl rfl Try.func63 (by kernel_rfl) rfl #[.int .i64 (wrap64 (-t1118)), .int .i64 t1124] rfl (by (try simp only [List.map_toArray, List.map_cons, List.map_nil]); first | done | rfl | (simp only [List.length_drop, List.length_take]; rfl)) ?_; (with_reducible refine (gimbalref02_more.calls (wrap64 (-t1118)) t1124 t1139 _ A120.out).mono ?_); rintro e w' ⟨rfl, ⟨nd, rfl⟩⟩; refine ⟨_, rfl, ?_⟩))
         go_meet
         case rel => exact ⟨_, (t1138), (t1139), (by first | rfl | (simp; done) | (simp [*]; done)), (by first | rfl | (simp; done) | (simp [*]; done)), H', ⟨by have := HJ7.out; have := HJ79.out; first | omega | exact Nat.le_refl _⟩, pkA BK1111, pkA BK1112, pkA BK1113, pkA BK1120, pkA BK1125, pkA BK1135, bpk HB⟩
        ·
         replace c118 := Bool.eq_false_iff.mpr c118
         subst c118
         have H1 : (gimbalref02_Mod.j2 kj79 t1133 t1134 t1114 t1115 t1118 t1119 t1123 t1124) = some (r1, r2) := by rw [if_neg (show ¬ (false = true) by decide)] at H; exact H
         clear H
         have H := H1
         clear H1
         have H' := Aside0.mk H
         clear H
         go_wp2
         go_meet
         case rel => exact ⟨_, (t1133), (t1134), (by first | rfl | (simp; done) | (simp [*]; done)), (by first | rfl | (simp; done) | (simp [*]; done)), H', ⟨by have := HJ7.out; have := HJ79.out; first | omega | exact Nat.le_refl _⟩, pkA BK1111, pkA BK1112, pkA BK1113, pkA BK1120, pkA BK1125, pkA BK1135, bpk HB⟩
       case rest =>
        clear HC117
        try clear c1
        try clear c2
        try clear p2
        try clear c3
        try clear c4
        try clear c5
        try clear c6
        try clear p6
        try clear c7
        try clear c8
        try clear c9
        try clear c10
        try clear c11
        try clear c12
        try clear c13
        try clear c14
        try clear c16
        try clear c27
        try clear c29
        try clear c34
        try clear c35
        try clear c36
        try clear c37
        try clear c38
        try clear c42
        try clear c44
        try clear c45
        try clear c46
        try clear c47
        try clear c50
        try clear c51
        try clear c52
        try clear c55
        try clear c56
        try clear c59
        try clear c60
        try clear c61
        try clear c62
        try clear c63
        try clear p64
        try clear c65
        try clear c66
        try clear c67
        try clear c70
        try clear c73
        try clear c74
        try clear c75
        try clear c76
        try clear c88
        try clear c89
        try clear c90
        try clear c91
        try clear c92
        try clear c95
        try clear c96
        try clear c97
        try clear c98
        try clear c99
        try clear c100
        try clear c104
        try clear c105
        try clear c106
        try clear c107
        try clear c108
        try clear c111
        try clear c112
        try clear c113
        try clear c114
        try clear c118
        try clear c121
        try clear c122
        try clear c123
        try clear c124
        try clear c125
        try clear c127
        try clear c128
        try clear c129
        try clear c130
        try clear hcz101_0
        try clear hcz101_1
        try clear hcz109_0
        try clear hcz109_1
        try clear hcz115_0
        try clear hcz115_1
        try clear hcz126_0
        try clear hcz126_1
        try clear hcz131_0
        try clear hcz131_1
        try clear hcz39_0
        try clear hcz39_1
        try clear hcz48_0
        try clear hcz48_1
        try clear hcz53_0
        try clear hcz53_1
        try clear hcz57_0
        try clear hcz57_1
        try clear hcz63_0
        try clear hcz63_1
        try clear hcz68_0
        try clear hcz68_1
        try clear hcz77_0
        try clear hcz77_1
        try clear hcz93_0
        try clear hcz93_1
        try clear hfz101_0
        try clear hfz101_1
        try clear hfz109_0
        try clear hfz109_1
        try clear hfz115_0
        try clear hfz115_1
        try clear hfz126_0
        try clear hfz126_1
        try clear hfz131_0
        try clear hfz131_1
        try clear hfz39_0
        try clear hfz39_1
        try clear hfz48_0
        try clear hfz48_1
        try clear hfz53_0
        try clear hfz53_1
        try clear hfz57_0
        try clear hfz57_1
        try clear hfz63_0
        try clear hfz63_1
        try clear hfz68_0
        try clear hfz68_1
        try clear hfz77_0
        try clear hfz77_1
        try clear hfz93_0
        try clear hfz93_1
        try clear p2
        obtain ⟨kq, x8_116, x9_116, rfl, rfl, HA, HJ116, BK1111, BK1112, BK1113, BK1120, BK1125, BK1135, HB⟩ := hcut
        cases kq with
        | zero => exact absurd HA.out (by simp [gimbalref02_Mod.j2])
        | succ kj116 =>
         have H := HA.out
         clear HA
         simp only [gimbalref02_Mod.j2] at H
         have HC132 := Aside0.mk H
         clear H
         go_upto_region 12 with (fail)
         go_cut [70] (fun v70 wc => ∃ (kq : Nat) (x70_131 : Bool), v70 = .bool x70_131 ∧ Aside0 (gimbalref02_Mod.j3 kq x8_116 x9_116 x70_131 t1114 t1115 t1118 t1119 t1123 t1124 = some (r1, r2)) ∧ Aside0 (kq ≤ kj116) ∧ Aside0 (wc.heap[gb1111]? = some (.cells #[.int .i64 t1114, .int .i64 t1115] 23 (0, 0))) ∧ Aside0 (wc.heap[gb1112]? = some (.cells #[.int .i64 a1_0, .int .i64 a1_1] 23 (0, 0))) ∧ Aside0 (wc.heap[gb1113]? = some (.cells #[.int .i64 0, .int .i64 0] 23 (0, 0))) ∧ Aside0 (wc.heap[gb1120]? = some (.cells #[.int .i64 t1118, .int .i64 t1119] 23 (0, 0))) ∧ Aside0 (wc.heap[gb1125]? = some (.cells #[.int .i64 t1123, .int .i64 t1124] 23 (0, 0))) ∧ Aside0 (wc.heap[gb1135]? = some (.cells #[.int .i64 t1133, .int .i64 t1134] 23 (0, 0))) ∧ Aside0 (Below w.heap.size w wc))
         case first =>
          have H := HC132.out
          clear HC132
          by_cases c133 : t1114 > (wrap64 (-x8_116))
          ·
           rw [if_pos c133] at H
           have c133b0 : decide ((wrap64 (-x8_116)) < t1114) = true := decide_eq_true c133
           clear c133
           (first | rw [c133b0] | (simp only [i64_w, i32_w]; rw [c133b0]) | skip)
           have H' := Aside0.mk H
           clear H
           have hnb134 := NB1111_1112.out
           have hnc134 := NB1112_1111.out
           have hnb135 := NB1111_1113.out
           have hnc135 := NB1113_1111.out
           have hnb136 := NB1111_1120.out
           have hnc136 := NB1120_1111.out
           have hnb137 := NB1111_1125.out
           have hnc137 := NB1125_1111.out
           have hnb138 := NB1111_1135.out
           have hnc138 := NB1135_1111.out
           have hcz139_0 := hcz BK1111 0
           have hcz139_1 := hcz BK1111 1
           have hfz139_0 := blk_frozen BK1111.out 0
           have hfz139_1 := blk_frozen BK1111.out 1
           go_wp2
           go_meet
           case rel => exact ⟨_, (decide (t1115 < x8_116)), (by first | rfl | (simp; done) | (simp [*]; done)), H', ⟨by have := HJ7.out; have := HJ79.out; have := HJ116.out; first | omega | exact Nat.le_refl _⟩, pkA BK1111, pkA BK1112, pkA BK1113, pkA BK1120, pkA BK1125, pkA BK1135, bpk HB⟩
          ·
           rw [if_neg c133] at H
           have c133b0 : decide ((wrap64 (-x8_116)) < t1114) = false := decide_eq_false c133
           clear c133
           (first | rw [c133b0] | (simp only [i64_w, i32_w]; rw [c133b0]) | skip)
           have H' := Aside0.mk H
           clear H
           have hnb140 := NB1111_1112.out
           have hnc140 := NB1112_1111.out
           have hnb141 := NB1111_1113.out
           have hnc141 := NB1113_1111.out
           have hnb142 := NB1111_1120.out
           have hnc142 := NB1120_1111.out
           have hnb143 := NB1111_1125.out
           have hnc143 := NB1125_1111.out
           have hnb144 := NB1111_1135.out
           have hnc144 := NB1135_1111.out
           have hcz145_0 := hcz BK1111 0
           have hcz145_1 := hcz BK1111 1
           have hfz145_0 := blk_frozen BK1111.out 0
           have hfz145_1 := blk_frozen BK1111.out 1
           go_wp2
           go_meet
           case rel => exact ⟨_, (false), (by first | rfl | (simp; done) | (simp [*]; done)), H', ⟨by have := HJ7.out; have := HJ79.out; have := HJ116.out; first | omega | exact Nat.le_refl _⟩, pkA BK1111, pkA BK1112, pkA BK1113, pkA BK1120, pkA BK1125, pkA BK1135, bpk HB⟩
         case rest =>
          clear HC132
          try clear c1
          try clear c2
          try clear p2
          try clear c3
          try clear c4
          try clear c5
          try clear c6
          try clear p6
          try clear c7
          try clear c8
          try clear c9
          try clear c10
          try clear c11
          try clear c12
          try clear c13
          try clear c14
          try clear c16
          try clear c27
          try clear c29
          try clear c34
          try clear c35
          try clear c36
          try clear c37
          try clear c38
          try clear c42
          try clear c44
          try clear c45
          try clear c46
          try clear c47
          try clear c50
          try clear c51
          try clear c52
          try clear c55
          try clear c56
          try clear c59
          try clear c60
          try clear c61
          try clear c62
          try clear c63
          try clear p64
          try clear c65
          try clear c66
          try clear c67
          try clear c70
          try clear c73
          try clear c74
          try clear c75
          try clear c76
          try clear c88
          try clear c89
          try clear c90
          try clear c91
          try clear c92
          try clear c95
          try clear c96
          try clear c97
          try clear c98
          try clear c99
          try clear c100
          try clear c104
          try clear c105
          try clear c106
          try clear c107
          try clear c108
          try clear c111
          try clear c112
          try clear c113
          try clear c114
          try clear c118
          try clear c121
          try clear c122
          try clear c123
          try clear c124
          try clear c125
          try clear c127
          try clear c128
          try clear c129
          try clear c130
          try clear c133
          try clear c133b0
          try clear c134
          try clear c135
          try clear c136
          try clear c137
          try clear c138
          try clear c140
          try clear c141
          try clear c142
          try clear c143
          try clear c144
          try clear hcz101_0
          try clear hcz101_1
          try clear hcz109_0
          try clear hcz109_1
          try clear hcz115_0
          try clear hcz115_1
          try clear hcz126_0
          try clear hcz126_1
          try clear hcz131_0
          try clear hcz131_1
          try clear hcz139_0
          try clear hcz139_1
          try clear hcz145_0
          try clear hcz145_1
          try clear hcz39_0
          try clear hcz39_1
          try clear hcz48_0
          try clear hcz48_1
          try clear hcz53_0
          try clear hcz53_1
          try clear hcz57_0
          try clear hcz57_1
          try clear hcz63_0
          try clear hcz63_1
          try clear hcz68_0
          try clear hcz68_1
          try clear hcz77_0
          try clear hcz77_1
          try clear hcz93_0
          try clear hcz93_1
          try clear hfz101_0
          try clear hfz101_1
          try clear hfz109_0
          try clear hfz109_1
          try clear hfz115_0
          try clear hfz115_1
          try clear hfz126_0
          try clear hfz126_1
          try clear hfz131_0
          try clear hfz131_1
          try clear hfz139_0
          try clear hfz139_1
          try clear hfz145_0
          try clear hfz145_1
          try clear hfz39_0
          try clear hfz39_1
          try clear hfz48_0
          try clear hfz48_1
          try clear hfz53_0
          try clear hfz53_1
          try clear hfz57_0
          try clear hfz57_1
          try clear hfz63_0
          try clear hfz63_1
          try clear hfz68_0
          try clear hfz68_1
          try clear hfz77_0
          try clear hfz77_1
          try clear hfz93_0
          try clear hfz93_1
          try clear p2
          try clear p6
          try clear p64
          obtain ⟨kq, x70_131, rfl, HA, HJ131, BK1111, BK1112, BK1113, BK1120, BK1125, BK1135, HB⟩ := hcut
          cases kq with
          | zero => exact absurd HA.out (by simp [gimbalref02_Mod.j3])
          | succ kj131 =>
           have H := HA.out
           clear HA
           simp only [gimbalref02_Mod.j3] at H
           by_cases c146 : x70_131 = true
           ·
            subst c146
            have H1 : (some (t1114, t1115)) = some (r1, r2) := by rw [if_pos rfl] at H; exact H
            clear H
            have H := H1
            clear H1
            simp only [Option.some.injEq, Prod.mk.injEq] at H
            obtain ⟨rfl, rfl⟩ := H
            have hnb147 := NB1111_1112.out
            have hnc147 := NB1112_1111.out
            have hnb148 := NB1111_1113.out
            have hnc148 := NB1113_1111.out
            have hnb149 := NB1111_1120.out
            have hnc149 := NB1120_1111.out
            have hnb150 := NB1111_1125.out
            have hnc150 := NB1125_1111.out
            have hnb151 := NB1111_1135.out
            have hnc151 := NB1135_1111.out
            have hcz152_0 := hcz BK1111 0
            have hcz152_1 := hcz BK1111 1
            have hfz152_0 := blk_frozen BK1111.out 0
            have hfz152_1 := blk_frozen BK1111.out 1
            have hnb153 := NB1113_1112.out
            have hnc153 := NB1112_1113.out
            have hnb154 := NB1113_1120.out
            have hnc154 := NB1120_1113.out
            have hnb155 := NB1113_1125.out
            have hnc155 := NB1125_1113.out
            have hnb156 := NB1113_1135.out
            have hnc156 := NB1135_1113.out
            have hcz157_0 := hcz BK1113 0
            have hcz157_1 := hcz BK1113 1
            have hfz157_0 := blk_frozen BK1113.out 0
            have hfz157_1 := blk_frozen BK1113.out 1
            go_wp2
            refine bodyPost_ret (results_cell_row rfl _ _ gb1113 23 #[.int .i64 t1114, .int .i64 t1115] (0, 0) _ rfl (by refine pkB ?_; refine blk_put (cs := #[.int .i64 t1114, .int .i64 0]) ?_ 1 _ (by first | rfl | (subst_vars; rfl)); refine pkB ?_; refine blk_put (cs := #[.int .i64 0, .int .i64 0]) ?_ 0 _ (by first | rfl | (subst_vars; rfl)); refine pkB ?_; exact BK1113.out) Try.underlying23 rfl (by kernel_rfl)) rfl ?_
            exact ⟨by first | rfl | (simp [errW_none, errW_some] <;> rfl) | (simp [*, errW_none, errW_some] <;> rfl) | kernel_rfl, by repeat (first | (with_reducible first | exact HB.out | apply below_alloc | apply pw_below_drewN | apply below_drew1 | refine below_set ?_ GE1111.out | refine below_set ?_ GE1112.out | refine below_set ?_ GE1113.out | refine below_set ?_ GE1120.out | refine below_set ?_ GE1125.out | refine below_set ?_ GE1135.out) | exact HB.out)⟩
           ·
            replace c146 := Bool.eq_false_iff.mpr c146
            subst c146
            have H1 : ((gimbalref02_None.f t1118 t1119).bind fun t1140 => (if t1140 = true then (if x8_116 = x9_116 then (if t1114 > (-4611686018427387904) then (if t1115 < 4611686018427387904 then (if x8_116 = 0 then (none) else (gimbalref02_Mod.j4 kj131 x8_116 x9_116 ((wrap64 (Int.tdiv t1114 x8_116)) == (wrap64 (Int.tdiv t1115 x8_116))) t1114 t1115)) else (gimbalref02_Mod.j4 kj131 x8_116 x9_116 false t1114 t1115)) else (gimbalref02_Mod.j4 kj131 x8_116 x9_116 false t1114 t1115)) else (gimbalref02_Mod.j4 kj131 x8_116 x9_116 false t1114 t1115)) else ((gimbalref02_None.f t1123 t1124).bind fun t1141 => (if t1141 = true then (if x8_116 = x9_116 then (if t1114 > (-4611686018427387904) then (if t1115 < 4611686018427387904 then (if x8_116 = 0 then (none) else (gimbalref02_Mod.j4 kj131 x8_116 x9_116 ((wrap64 (Int.tdiv t1114 x8_116)) == (wrap64 (Int.tdiv t1115 x8_116))) t1114 t1115)) else (gimbalref02_Mod.j4 kj131 x8_116 x9_116 false t1114 t1115)) else (gimbalref02_Mod.j4 kj131 x8_116 x9_116 false t1114 t1115)) else (gimbalref02_Mod.j4 kj131 x8_116 x9_116 false t1114 t1115)) else (gimbalref02_Mod.j4 kj131 x8_116 x9_116 false t1114 t1115))))) = some (r1, r2) := by rw [if_neg (show ¬ (false = true) by decide)] at H; exact H
            clear H
            have H := H1
            clear H1
            have HC158 := Aside0.mk H
            clear H
            go_upto_region 14 with (fail)
            go_cut [103] (fun v103 wc => ∃ (kq : Nat) (x103_157 : Bool), v103 = .bool x103_157 ∧ Aside0 (gimbalref02_Mod.j4 kq x8_116 x9_116 x103_157 t1114 t1115 = some (r1, r2)) ∧ Aside0 (kq ≤ kj131) ∧ Aside0 (wc.heap[gb1111]? = some (.cells #[.int .i64 t1114, .int .i64 t1115] 23 (0, 0))) ∧ Aside0 (wc.heap[gb1112]? = some (.cells #[.int .i64 a1_0, .int .i64 a1_1] 23 (0, 0))) ∧ Aside0 (wc.heap[gb1113]? = some (.cells #[.int .i64 0, .int .i64 0] 23 (0, 0))) ∧ Aside0 (wc.heap[gb1120]? = some (.cells #[.int .i64 t1118, .int .i64 t1119] 23 (0, 0))) ∧ Aside0 (wc.heap[gb1125]? = some (.cells #[.int .i64 t1123, .int .i64 t1124] 23 (0, 0))) ∧ Aside0 (wc.heap[gb1135]? = some (.cells #[.int .i64 t1133, .int .i64 t1134] 23 (0, 0))) ∧ Aside0 (Below w.heap.size w wc))
            case first =>
             have H := HC158.out
             clear HC158
             replace H := Option.bind_eq_some_iff.mp H
             obtain ⟨t1140, A1590, H⟩ := H
             replace H : (if t1140 = true then (if x8_116 = x9_116 then (if t1114 > (-4611686018427387904) then (if t1115 < 4611686018427387904 then (if x8_116 = 0 then (none) else (gimbalref02_Mod.j4 kj131 x8_116 x9_116 ((wrap64 (Int.tdiv t1114 x8_116)) == (wrap64 (Int.tdiv t1115 x8_116))) t1114 t1115)) else (gimbalref02_Mod.j4 kj131 x8_116 x9_116 false t1114 t1115)) else (gimbalref02_Mod.j4 kj131 x8_116 x9_116 false t1114 t1115)) else (gimbalref02_Mod.j4 kj131 x8_116 x9_116 false t1114 t1115)) else ((gimbalref02_None.f t1123 t1124).bind fun t1141 => (if t1141 = true then (if x8_116 = x9_116 then (if t1114 > (-4611686018427387904) then (if t1115 < 4611686018427387904 then (if x8_116 = 0 then (none) else (gimbalref02_Mod.j4 kj131 x8_116 x9_116 ((wrap64 (Int.tdiv t1114 x8_116)) == (wrap64 (Int.tdiv t1115 x8_116))) t1114 t1115)) else (gimbalref02_Mod.j4 kj131 x8_116 x9_116 false t1114 t1115)) else (gimbalref02_Mod.j4 kj131 x8_116 x9_116 false t1114 t1115)) else (gimbalref02_Mod.j4 kj131 x8_116 x9_116 false t1114 t1115)) else (gimbalref02_Mod.j4 kj131 x8_116 x9_116 false t1114 t1115)))) = some (r1, r2) := H
             have A159 := Aside0.mk A1590
             clear A1590
             by_cases c160 : t1140 = true
             ·
              subst c160
              have H1 : (if x8_116 = x9_116 then (if t1114 > (-4611686018427387904) then (if t1115 < 4611686018427387904 then (if x8_116 = 0 then (none) else (gimbalref02_Mod.j4 kj131 x8_116 x9_116 ((wrap64 (Int.tdiv t1114 x8_116)) == (wrap64 (Int.tdiv t1115 x8_116))) t1114 t1115)) else (gimbalref02_Mod.j4 kj131 x8_116 x9_116 false t1114 t1115)) else (gimbalref02_Mod.j4 kj131 x8_116 x9_116 false t1114 t1115)) else (gimbalref02_Mod.j4 kj131 x8_116 x9_116 false t1114 t1115)) = some (r1, r2) := by rw [if_pos rfl] at H; exact H
              clear H
              have H := H1
              clear H1
              by_cases c161 : x8_116 = x9_116
              ·
               rw [if_pos c161] at H
               have c161b0 : (x8_116 == x9_116) = true := beq_iff_eq.mpr c161
               have c161b1 : (x8_116 != x9_116) = false := bne_eq_false_iff_eq.mpr c161
               clear c161
               (first | rw [c161b0] | (simp only [i64_w, i32_w]; rw [c161b0]) | skip)
               by_cases c162 : t1114 > (-4611686018427387904)
               ·
                rw [if_pos c162] at H
                have c162b0 : decide ((-4611686018427387904) < t1114) = true := decide_eq_true c162
                clear c162
                by_cases c163 : t1115 < 4611686018427387904
                ·
                 rw [if_pos c163] at H
                 have c163b0 : decide (t1115 < 4611686018427387904) = true := decide_eq_true c163
                 clear c163
                 by_cases c164 : x8_116 = 0
                 ·
                  rw [if_pos c164] at H
                  exact absurd H (by simp)
                 ·
                  rw [if_neg c164] at H
                  have c164b0 : (x8_116 == 0) = false := beq_eq_false_iff_ne.mpr c164
                  have c164b1 : (x8_116 != 0) = true := bne_iff_ne.mpr c164
                  have H' := Aside0.mk H
                  clear H
                  try go_wp2
                  have n0_ := Aside0.mk (blk_drew BK1111.out)
                  have n1_ := Aside0.mk (blk_drew BK1112.out)
                  have n2_ := Aside0.mk (blk_drew BK1113.out)
                  have n3_ := Aside0.mk (blk_drew BK1120.out)
                  have n4_ := Aside0.mk (blk_drew BK1125.out)
                  have n5_ := Aside0.mk (blk_drew BK1135.out)
                  have n6_ := Aside0.mk (below_drew1 HB.out)
                  clear BK1111
                  clear BK1112
                  clear BK1113
                  clear BK1120
                  clear BK1125
                  clear BK1135
                  clear HB
                  have BK1111 := n0_
                  have BK1112 := n1_
                  have BK1113 := n2_
                  have BK1120 := n3_
                  have BK1125 := n4_
                  have BK1135 := n5_
                  have HB := n6_
                  clear n0_ n1_ n2_ n3_ n4_ n5_ n6_
                  refine start_ (n := 32) (S := fun w' => w'.cell? ⟨gb1120, 0, none⟩ = some (.int .i64 t1118) ∧ w'.cell? ⟨gb1120, 1, none⟩ = some (.int .i64 t1119) ∧ w'.cell? ⟨gb1111, 0, none⟩ = some (.int .i64 t1114) ∧ w'.cell? ⟨gb1111, 1, none⟩ = some (.int .i64 t1115)) (ds := []) #[false, false, false, false, false, false, false, false, false, false, false, false, false, false, false, false, false, false, false, false, false, false, false, false, false, false, false, false, false, false, false, false] (by kernel_rfl) rfl rfl ⟨hcz BK1120 0, hcz BK1120 1, hcz BK1111 0, hcz BK1111 1⟩ (fun hHeld => ?_); refine with_tabW gimbalref02_Mod.tab14 gimbalref02_Mod.bits14 (fun HT_ HW_ => ?_)
                  generalize wc.drew = w165 at BK1111 BK1112 BK1113 BK1120 BK1125 BK1135 HB hHeld ⊢
                  refine takeQ 0 72 HT_.out HW_.out hHeld ?_
                  refine oneQ 1 73 HT_.out (fun K hK => ?_)
                  refine goesQ Try.func61 #[.agg #[.int .i64 t1118, .int .i64 t1119]] ?_
                  with_reducible refine (gimbalref02_None.calls t1118 t1119 true _ A159.out).mono ?_
                  rintro e w166 ⟨rfl, hb⟩
                  refine ⟨_, rfl, ?_⟩
                  have n0_ := bst HB hb
                  replace BK1111 := bbw BK1111 hb
                  replace BK1112 := bbw BK1112 hb
                  replace BK1113 := bbw BK1113 hb
                  replace BK1120 := bbw BK1120 hb
                  replace BK1125 := bbw BK1125 hb
                  replace BK1135 := bbw BK1135 hb
                  clear HB
                  have HB := n0_
                  clear n0_
                  (try clear hb)
                  (try clear hb2)
                  (try clear hk)
                  (try clear hi)
                  refine hK.out _ _ ⟨hcz BK1120 0, hcz BK1120 1, hcz BK1111 0, hcz BK1111 1⟩ (fun hHeld => ?_)
                  clear hK K
                  refine normQ (N := 73) ?_
                  refine pureQ 2 74 HT_.out ?_
                  refine pureU 3 75 HT_.out ?_
                  refine pureU 4 76 HT_.out ?_
                  refine pureQ 5 77 HT_.out ?_
                  refine pureQ 6 78 HT_.out ?_
                  refine pureQ 7 79 HT_.out ?_
                  refine pureQ 8 80 HT_.out ?_
                  refine pureQ 9 81 HT_.out ?_
                  refine pureQ 10 82 HT_.out ?_
                  refine pureQ 11 83 HT_.out ?_
                  refine pureQ 12 84 HT_.out ?_
                  refine takeQ 13 85 HT_.out HW_.out hHeld ?_
                  refine pureQ 14 86 HT_.out ?_
                  refine pureQ 15 87 HT_.out ?_
                  refine pureQ 16 88 HT_.out ?_
                  refine pureQ 17 89 HT_.out ?_
                  refine takeQ 18 90 HT_.out HW_.out hHeld ?_
                  refine pureQ 19 91 HT_.out ?_
                  refine pureQ 20 92 HT_.out ?_
                  refine pureQ 21 93 HT_.out ?_
                  refine pureQ 22 94 HT_.out ?_
                  refine pureQ 24 96 HT_.out ?_
                  refine pureQ 26 98 HT_.out ?_
                  refine pureQ 28 100 HT_.out ?_
                  refine takeQ 23 95 HT_.out HW_.out hHeld ?_
                  refine pureQ 25 97 HT_.out ?_
                  refine takeQ 27 99 HT_.out HW_.out hHeld ?_
                  refine pureQ 29 101 HT_.out ?_
                  refine pureQ 30 102 HT_.out ?_
                  refine pureQ 31 103 HT_.out ?_
                  refine done_ (done_of HT_.out (by kernel_rfl)) ?_
                  try go_wp2
                  go_meet
                  case rel => exact ⟨_, (((wrap64 (Int.tdiv t1114 x8_116)) == (wrap64 (Int.tdiv t1115 x8_116)))), (by first | rfl | (simp; done) | (simp [*]; done)), H', ⟨by have := HJ7.out; have := HJ79.out; have := HJ116.out; have := HJ131.out; first | omega | exact Nat.le_refl _⟩, pkA BK1111, pkA BK1112, pkA BK1113, pkA BK1120, pkA BK1125, pkA BK1135, bpk HB⟩
                ·
                 rw [if_neg c163] at H
                 have c163b0 : decide (t1115 < 4611686018427387904) = false := decide_eq_false c163
                 clear c163
                 have H' := Aside0.mk H
                 clear H
                 try go_wp2
                 have n0_ := Aside0.mk (blk_drew BK1111.out)
                 have n1_ := Aside0.mk (blk_drew BK1112.out)
                 have n2_ := Aside0.mk (blk_drew BK1113.out)
                 have n3_ := Aside0.mk (blk_drew BK1120.out)
                 have n4_ := Aside0.mk (blk_drew BK1125.out)
                 have n5_ := Aside0.mk (blk_drew BK1135.out)
                 have n6_ := Aside0.mk (below_drew1 HB.out)
                 clear BK1111
                 clear BK1112
                 clear BK1113
                 clear BK1120
                 clear BK1125
                 clear BK1135
                 clear HB
                 have BK1111 := n0_
                 have BK1112 := n1_
                 have BK1113 := n2_
                 have BK1120 := n3_
                 have BK1125 := n4_
                 have BK1135 := n5_
                 have HB := n6_
                 clear n0_ n1_ n2_ n3_ n4_ n5_ n6_
                 refine start_ (n := 32) (S := fun w' => w'.cell? ⟨gb1120, 0, none⟩ = some (.int .i64 t1118) ∧ w'.cell? ⟨gb1120, 1, none⟩ = some (.int .i64 t1119) ∧ w'.cell? ⟨gb1111, 0, none⟩ = some (.int .i64 t1114) ∧ w'.cell? ⟨gb1111, 1, none⟩ = some (.int .i64 t1115)) (ds := []) #[false, false, false, false, false, false, false, false, false, false, false, false, false, false, false, false, false, false, false, false, false, false, false, false, false, false, false, false, false, false, false, false] (by kernel_rfl) rfl rfl ⟨hcz BK1120 0, hcz BK1120 1, hcz BK1111 0, hcz BK1111 1⟩ (fun hHeld => ?_); refine with_tabW gimbalref02_Mod.tab14 gimbalref02_Mod.bits14 (fun HT_ HW_ => ?_)
                 generalize wc.drew = w167 at BK1111 BK1112 BK1113 BK1120 BK1125 BK1135 HB hHeld ⊢
                 refine takeQ 0 72 HT_.out HW_.out hHeld ?_
                 refine oneQ 1 73 HT_.out (fun K hK => ?_)
                 refine goesQ Try.func61 #[.agg #[.int .i64 t1118, .int .i64 t1119]] ?_
                 with_reducible refine (gimbalref02_None.calls t1118 t1119 true _ A159.out).mono ?_
                 rintro e w168 ⟨rfl, hb⟩
                 refine ⟨_, rfl, ?_⟩
                 have n0_ := bst HB hb
                 replace BK1111 := bbw BK1111 hb
                 replace BK1112 := bbw BK1112 hb
                 replace BK1113 := bbw BK1113 hb
                 replace BK1120 := bbw BK1120 hb
                 replace BK1125 := bbw BK1125 hb
                 replace BK1135 := bbw BK1135 hb
                 clear HB
                 have HB := n0_
                 clear n0_
                 (try clear hb)
                 (try clear hb2)
                 (try clear hk)
                 (try clear hi)
                 refine hK.out _ _ ⟨hcz BK1120 0, hcz BK1120 1, hcz BK1111 0, hcz BK1111 1⟩ (fun hHeld => ?_)
                 clear hK K
                 refine normQ (N := 73) ?_
                 refine pureQ 2 74 HT_.out ?_
                 refine pureU 3 75 HT_.out ?_
                 refine pureU 4 76 HT_.out ?_
                 refine pureQ 5 77 HT_.out ?_
                 refine pureQ 6 78 HT_.out ?_
                 refine pureQ 7 79 HT_.out ?_
                 refine pureQ 8 80 HT_.out ?_
                 refine pureQ 9 81 HT_.out ?_
                 refine pureQ 10 82 HT_.out ?_
                 refine pureQ 11 83 HT_.out ?_
                 refine pureQ 12 84 HT_.out ?_
                 refine takeQ 13 85 HT_.out HW_.out hHeld ?_
                 refine pureQ 14 86 HT_.out ?_
                 refine pureQ 15 87 HT_.out ?_
                 refine pureQ 16 88 HT_.out ?_
                 refine pureQ 17 89 HT_.out ?_
                 refine takeQ 18 90 HT_.out HW_.out hHeld ?_
                 refine pureQ 19 91 HT_.out ?_
                 refine pureQ 20 92 HT_.out ?_
                 refine pureQ 21 93 HT_.out ?_
                 refine pureU 22 94 HT_.out ?_
                 refine pureU 23 95 HT_.out ?_
                 refine pureU 24 96 HT_.out ?_
                 refine pureU 25 97 HT_.out ?_
                 refine pureU 26 98 HT_.out ?_
                 refine pureU 27 99 HT_.out ?_
                 refine pureU 28 100 HT_.out ?_
                 refine pureU 29 101 HT_.out ?_
                 refine pureU 30 102 HT_.out ?_
                 refine pureQ 31 103 HT_.out ?_
                 refine done_ (done_of HT_.out (by kernel_rfl)) ?_
                 try go_wp2
                 go_meet
                 case rel => exact ⟨_, (false), (by first | rfl | (simp; done) | (simp [*]; done)), H', ⟨by have := HJ7.out; have := HJ79.out; have := HJ116.out; have := HJ131.out; first | omega | exact Nat.le_refl _⟩, pkA BK1111, pkA BK1112, pkA BK1113, pkA BK1120, pkA BK1125, pkA BK1135, bpk HB⟩
               ·
                rw [if_neg c162] at H
                have c162b0 : decide ((-4611686018427387904) < t1114) = false := decide_eq_false c162
                clear c162
                have H' := Aside0.mk H
                clear H
                try go_wp2
                have n0_ := Aside0.mk (blk_drew BK1111.out)
                have n1_ := Aside0.mk (blk_drew BK1112.out)
                have n2_ := Aside0.mk (blk_drew BK1113.out)
                have n3_ := Aside0.mk (blk_drew BK1120.out)
                have n4_ := Aside0.mk (blk_drew BK1125.out)
                have n5_ := Aside0.mk (blk_drew BK1135.out)
                have n6_ := Aside0.mk (below_drew1 HB.out)
                clear BK1111
                clear BK1112
                clear BK1113
                clear BK1120
                clear BK1125
                clear BK1135
                clear HB
                have BK1111 := n0_
                have BK1112 := n1_
                have BK1113 := n2_
                have BK1120 := n3_
                have BK1125 := n4_
                have BK1135 := n5_
                have HB := n6_
                clear n0_ n1_ n2_ n3_ n4_ n5_ n6_
                refine start_ (n := 32) (S := fun w' => w'.cell? ⟨gb1120, 0, none⟩ = some (.int .i64 t1118) ∧ w'.cell? ⟨gb1120, 1, none⟩ = some (.int .i64 t1119) ∧ w'.cell? ⟨gb1111, 0, none⟩ = some (.int .i64 t1114) ∧ w'.cell? ⟨gb1111, 1, none⟩ = some (.int .i64 t1115)) (ds := []) #[false, false, false, false, false, false, false, false, false, false, false, false, false, false, false, false, false, false, false, false, false, false, false, false, false, false, false, false, false, false, false, false] (by kernel_rfl) rfl rfl ⟨hcz BK1120 0, hcz BK1120 1, hcz BK1111 0, hcz BK1111 1⟩ (fun hHeld => ?_); refine with_tabW gimbalref02_Mod.tab14 gimbalref02_Mod.bits14 (fun HT_ HW_ => ?_)
                generalize wc.drew = w169 at BK1111 BK1112 BK1113 BK1120 BK1125 BK1135 HB hHeld ⊢
                refine takeQ 0 72 HT_.out HW_.out hHeld ?_
                refine oneQ 1 73 HT_.out (fun K hK => ?_)
                refine goesQ Try.func61 #[.agg #[.int .i64 t1118, .int .i64 t1119]] ?_
                with_reducible refine (gimbalref02_None.calls t1118 t1119 true _ A159.out).mono ?_
                rintro e w170 ⟨rfl, hb⟩
                refine ⟨_, rfl, ?_⟩
                have n0_ := bst HB hb
                replace BK1111 := bbw BK1111 hb
                replace BK1112 := bbw BK1112 hb
                replace BK1113 := bbw BK1113 hb
                replace BK1120 := bbw BK1120 hb
                replace BK1125 := bbw BK1125 hb
                replace BK1135 := bbw BK1135 hb
                clear HB
                have HB := n0_
                clear n0_
                (try clear hb)
                (try clear hb2)
                (try clear hk)
                (try clear hi)
                refine hK.out _ _ ⟨hcz BK1120 0, hcz BK1120 1, hcz BK1111 0, hcz BK1111 1⟩ (fun hHeld => ?_)
                clear hK K
                refine normQ (N := 73) ?_
                refine pureQ 2 74 HT_.out ?_
                refine pureU 3 75 HT_.out ?_
                refine pureU 4 76 HT_.out ?_
                refine pureQ 5 77 HT_.out ?_
                refine pureQ 6 78 HT_.out ?_
                refine pureQ 7 79 HT_.out ?_
                refine pureQ 8 80 HT_.out ?_
                refine pureQ 9 81 HT_.out ?_
                refine pureQ 10 82 HT_.out ?_
                refine pureQ 11 83 HT_.out ?_
                refine pureQ 12 84 HT_.out ?_
                refine takeQ 13 85 HT_.out HW_.out hHeld ?_
                refine pureQ 14 86 HT_.out ?_
                refine pureQ 15 87 HT_.out ?_
                refine pureQ 16 88 HT_.out ?_
                refine pureU 17 89 HT_.out ?_
                refine pureU 18 90 HT_.out ?_
                refine pureU 19 91 HT_.out ?_
                refine pureQ 20 92 HT_.out ?_
                refine pureQ 21 93 HT_.out ?_
                refine pureU 22 94 HT_.out ?_
                refine pureU 23 95 HT_.out ?_
                refine pureU 24 96 HT_.out ?_
                refine pureU 25 97 HT_.out ?_
                refine pureU 26 98 HT_.out ?_
                refine pureU 27 99 HT_.out ?_
                refine pureU 28 100 HT_.out ?_
                refine pureU 29 101 HT_.out ?_
                refine pureU 30 102 HT_.out ?_
                refine pureQ 31 103 HT_.out ?_
                refine done_ (done_of HT_.out (by kernel_rfl)) ?_
                try go_wp2
                go_meet
                case rel => exact ⟨_, (false), (by first | rfl | (simp; done) | (simp [*]; done)), H', ⟨by have := HJ7.out; have := HJ79.out; have := HJ116.out; have := HJ131.out; first | omega | exact Nat.le_refl _⟩, pkA BK1111, pkA BK1112, pkA BK1113, pkA BK1120, pkA BK1125, pkA BK1135, bpk HB⟩
              ·
               rw [if_neg c161] at H
               have c161b0 : (x8_116 == x9_116) = false := beq_eq_false_iff_ne.mpr c161
               have c161b1 : (x8_116 != x9_116) = true := bne_iff_ne.mpr c161
               (first | rw [c161b0] | (simp only [i64_w, i32_w]; rw [c161b0]) | skip)
               have H' := Aside0.mk H
               clear H
               try go_wp2
               have n0_ := Aside0.mk (blk_drew BK1111.out)
               have n1_ := Aside0.mk (blk_drew BK1112.out)
               have n2_ := Aside0.mk (blk_drew BK1113.out)
               have n3_ := Aside0.mk (blk_drew BK1120.out)
               have n4_ := Aside0.mk (blk_drew BK1125.out)
               have n5_ := Aside0.mk (blk_drew BK1135.out)
               have n6_ := Aside0.mk (below_drew1 HB.out)
               clear BK1111
               clear BK1112
               clear BK1113
               clear BK1120
               clear BK1125
               clear BK1135
               clear HB
               have BK1111 := n0_
               have BK1112 := n1_
               have BK1113 := n2_
               have BK1120 := n3_
               have BK1125 := n4_
               have BK1135 := n5_
               have HB := n6_
               clear n0_ n1_ n2_ n3_ n4_ n5_ n6_
               refine start_ (n := 32) (S := fun w' => w'.cell? ⟨gb1120, 0, none⟩ = some (.int .i64 t1118) ∧ w'.cell? ⟨gb1120, 1, none⟩ = some (.int .i64 t1119)) (ds := []) #[false, false, false, false, false, false, false, false, false, false, false, false, false, false, false, false, false, false, false, false, false, false, false, false, false, false, false, false, false, false, false, false] (by kernel_rfl) rfl rfl ⟨hcz BK1120 0, hcz BK1120 1⟩ (fun hHeld => ?_); refine with_tabW gimbalref02_Mod.tab14 gimbalref02_Mod.bits14 (fun HT_ HW_ => ?_)
               generalize wc.drew = w171 at BK1111 BK1112 BK1113 BK1120 BK1125 BK1135 HB hHeld ⊢
               refine takeQ 0 72 HT_.out HW_.out hHeld ?_
               refine oneQ 1 73 HT_.out (fun K hK => ?_)
               refine goesQ Try.func61 #[.agg #[.int .i64 t1118, .int .i64 t1119]] ?_
               with_reducible refine (gimbalref02_None.calls t1118 t1119 true _ A159.out).mono ?_
               rintro e w172 ⟨rfl, hb⟩
               refine ⟨_, rfl, ?_⟩
               have n0_ := bst HB hb
               replace BK1111 := bbw BK1111 hb
               replace BK1112 := bbw BK1112 hb
               replace BK1113 := bbw BK1113 hb
               replace BK1120 := bbw BK1120 hb
               replace BK1125 := bbw BK1125 hb
               replace BK1135 := bbw BK1135 hb
               clear HB
               have HB := n0_
               clear n0_
               (try clear hb)
               (try clear hb2)
               (try clear hk)
               (try clear hi)
               refine hK.out _ _ ⟨hcz BK1120 0, hcz BK1120 1⟩ (fun hHeld => ?_)
               clear hK K
               refine normQ (N := 73) ?_
               refine pureQ 2 74 HT_.out ?_
               refine pureU 3 75 HT_.out ?_
               refine pureU 4 76 HT_.out ?_
               refine pureQ 5 77 HT_.out ?_
               refine pureQ 6 78 HT_.out ?_
               refine pureQ 7 79 HT_.out ?_
               refine pureQ 8 80 HT_.out ?_
               refine pureQ 9 81 HT_.out ?_
               refine pureQ 10 82 HT_.out ?_
               refine pureQ 11 83 HT_.out ?_
               refine pureU 12 84 HT_.out ?_
               refine pureU 13 85 HT_.out ?_
               refine pureU 14 86 HT_.out ?_
               refine pureQ 15 87 HT_.out ?_
               refine pureQ 16 88 HT_.out ?_
               refine pureU 17 89 HT_.out ?_
               refine pureU 18 90 HT_.out ?_
               refine pureU 19 91 HT_.out ?_
               refine pureQ 20 92 HT_.out ?_
               refine pureQ 21 93 HT_.out ?_
               refine pureU 22 94 HT_.out ?_
               refine pureU 23 95 HT_.out ?_
               refine pureU 24 96 HT_.out ?_
               refine pureU 25 97 HT_.out ?_
               refine pureU 26 98 HT_.out ?_
               refine pureU 27 99 HT_.out ?_
               refine pureU 28 100 HT_.out ?_
               refine pureU 29 101 HT_.out ?_
               refine pureU 30 102 HT_.out ?_
               refine pureQ 31 103 HT_.out ?_
               refine done_ (done_of HT_.out (by kernel_rfl)) ?_
               try go_wp2
               go_meet
               case rel => exact ⟨_, (false), (by first | rfl | (simp; done) | (simp [*]; done)), H', ⟨by have := HJ7.out; have := HJ79.out; have := HJ116.out; have := HJ131.out; first | omega | exact Nat.le_refl _⟩, pkA BK1111, pkA BK1112, pkA BK1113, pkA BK1120, pkA BK1125, pkA BK1135, bpk HB⟩
             ·
              replace c160 := Bool.eq_false_iff.mpr c160
              subst c160
              have H1 : ((gimbalref02_None.f t1123 t1124).bind fun t1141 => (if t1141 = true then (if x8_116 = x9_116 then (if t1114 > (-4611686018427387904) then (if t1115 < 4611686018427387904 then (if x8_116 = 0 then (none) else (gimbalref02_Mod.j4 kj131 x8_116 x9_116 ((wrap64 (Int.tdiv t1114 x8_116)) == (wrap64 (Int.tdiv t1115 x8_116))) t1114 t1115)) else (gimbalref02_Mod.j4 kj131 x8_116 x9_116 false t1114 t1115)) else (gimbalref02_Mod.j4 kj131 x8_116 x9_116 false t1114 t1115)) else (gimbalref02_Mod.j4 kj131 x8_116 x9_116 false t1114 t1115)) else (gimbalref02_Mod.j4 kj131 x8_116 x9_116 false t1114 t1115))) = some (r1, r2) := by rw [if_neg (show ¬ (false = true) by decide)] at H; exact H
              clear H
              have H := H1
              clear H1
              replace H := Option.bind_eq_some_iff.mp H
              obtain ⟨t1141, A1730, H⟩ := H
              replace H : (if t1141 = true then (if x8_116 = x9_116 then (if t1114 > (-4611686018427387904) then (if t1115 < 4611686018427387904 then (if x8_116 = 0 then (none) else (gimbalref02_Mod.j4 kj131 x8_116 x9_116 ((wrap64 (Int.tdiv t1114 x8_116)) == (wrap64 (Int.tdiv t1115 x8_116))) t1114 t1115)) else (gimbalref02_Mod.j4 kj131 x8_116 x9_116 false t1114 t1115)) else (gimbalref02_Mod.j4 kj131 x8_116 x9_116 false t1114 t1115)) else (gimbalref02_Mod.j4 kj131 x8_116 x9_116 false t1114 t1115)) else (gimbalref02_Mod.j4 kj131 x8_116 x9_116 false t1114 t1115)) = some (r1, r2) := H
              have A173 := Aside0.mk A1730
              clear A1730
              by_cases c174 : t1141 = true
              ·
               subst c174
               have H1 : (if x8_116 = x9_116 then (if t1114 > (-4611686018427387904) then (if t1115 < 4611686018427387904 then (if x8_116 = 0 then (none) else (gimbalref02_Mod.j4 kj131 x8_116 x9_116 ((wrap64 (Int.tdiv t1114 x8_116)) == (wrap64 (Int.tdiv t1115 x8_116))) t1114 t1115)) else (gimbalref02_Mod.j4 kj131 x8_116 x9_116 false t1114 t1115)) else (gimbalref02_Mod.j4 kj131 x8_116 x9_116 false t1114 t1115)) else (gimbalref02_Mod.j4 kj131 x8_116 x9_116 false t1114 t1115)) = some (r1, r2) := by rw [if_pos rfl] at H; exact H
               clear H
               have H := H1
               clear H1
               by_cases c175 : x8_116 = x9_116
               ·
                rw [if_pos c175] at H
                have c175b0 : (x8_116 == x9_116) = true := beq_iff_eq.mpr c175
                have c175b1 : (x8_116 != x9_116) = false := bne_eq_false_iff_eq.mpr c175
                clear c175
                by_cases c176 : t1114 > (-4611686018427387904)
                ·
                 rw [if_pos c176] at H
                 have c176b0 : decide ((-4611686018427387904) < t1114) = true := decide_eq_true c176
                 clear c176
                 by_cases c177 : t1115 < 4611686018427387904
                 ·
                  rw [if_pos c177] at H
                  have c177b0 : decide (t1115 < 4611686018427387904) = true := decide_eq_true c177
                  clear c177
                  by_cases c178 : x8_116 = 0
                  ·
                   rw [if_pos c178] at H
                   exact absurd H (by simp)
                  ·
                   rw [if_neg c178] at H
                   have c178b0 : (x8_116 == 0) = false := beq_eq_false_iff_ne.mpr c178
                   have c178b1 : (x8_116 != 0) = true := bne_iff_ne.mpr c178
                   have H' := Aside0.mk H
                   clear H
                   try go_wp2
                   have n0_ := Aside0.mk (blk_drew BK1111.out)
                   have n1_ := Aside0.mk (blk_drew BK1112.out)
                   have n2_ := Aside0.mk (blk_drew BK1113.out)
                   have n3_ := Aside0.mk (blk_drew BK1120.out)
                   have n4_ := Aside0.mk (blk_drew BK1125.out)
                   have n5_ := Aside0.mk (blk_drew BK1135.out)
                   have n6_ := Aside0.mk (below_drew1 HB.out)
                   clear BK1111
                   clear BK1112
                   clear BK1113
                   clear BK1120
                   clear BK1125
                   clear BK1135
                   clear HB
                   have BK1111 := n0_
                   have BK1112 := n1_
                   have BK1113 := n2_
                   have BK1120 := n3_
                   have BK1125 := n4_
                   have BK1135 := n5_
                   have HB := n6_
                   clear n0_ n1_ n2_ n3_ n4_ n5_ n6_
                   refine start_ (n := 32) (S := fun w' => w'.cell? ⟨gb1120, 0, none⟩ = some (.int .i64 t1118) ∧ w'.cell? ⟨gb1120, 1, none⟩ = some (.int .i64 t1119) ∧ w'.cell? ⟨gb1125, 0, none⟩ = some (.int .i64 t1123) ∧ w'.cell? ⟨gb1125, 1, none⟩ = some (.int .i64 t1124) ∧ w'.cell? ⟨gb1111, 0, none⟩ = some (.int .i64 t1114) ∧ w'.cell? ⟨gb1111, 1, none⟩ = some (.int .i64 t1115)) (ds := []) #[false, false, false, false, false, false, false, false, false, false, false, false, false, false, false, false, false, false, false, false, false, false, false, false, false, false, false, false, false, false, false, false] (by kernel_rfl) rfl rfl ⟨hcz BK1120 0, hcz BK1120 1, hcz BK1125 0, hcz BK1125 1, hcz BK1111 0, hcz BK1111 1⟩ (fun hHeld => ?_); refine with_tabW gimbalref02_Mod.tab14 gimbalref02_Mod.bits14 (fun HT_ HW_ => ?_)
                   generalize wc.drew = w179 at BK1111 BK1112 BK1113 BK1120 BK1125 BK1135 HB hHeld ⊢
                   refine takeQ 0 72 HT_.out HW_.out hHeld ?_
                   refine oneQ 1 73 HT_.out (fun K hK => ?_)
                   refine goesQ Try.func61 #[.agg #[.int .i64 t1118, .int .i64 t1119]] ?_
                   with_reducible refine (gimbalref02_None.calls t1118 t1119 false _ A159.out).mono ?_
                   rintro e w180 ⟨rfl, hb⟩
                   refine ⟨_, rfl, ?_⟩
                   have n0_ := bst HB hb
                   replace BK1111 := bbw BK1111 hb
                   replace BK1112 := bbw BK1112 hb
                   replace BK1113 := bbw BK1113 hb
                   replace BK1120 := bbw BK1120 hb
                   replace BK1125 := bbw BK1125 hb
                   replace BK1135 := bbw BK1135 hb
                   clear HB
                   have HB := n0_
                   clear n0_
                   (try clear hb)
                   (try clear hb2)
                   (try clear hk)
                   (try clear hi)
                   refine hK.out _ _ ⟨hcz BK1120 0, hcz BK1120 1, hcz BK1125 0, hcz BK1125 1, hcz BK1111 0, hcz BK1111 1⟩ (fun hHeld => ?_)
                   clear hK K
                   refine normQ (N := 73) ?_
                   refine pureQ 2 74 HT_.out ?_
                   refine takeQ 3 75 HT_.out HW_.out hHeld ?_
                   refine oneQ 4 76 HT_.out (fun K hK => ?_)
                   refine goesQ Try.func61 #[.agg #[.int .i64 t1123, .int .i64 t1124]] ?_
                   with_reducible refine (gimbalref02_None.calls t1123 t1124 true _ A173.out).mono ?_
                   rintro e w181 ⟨rfl, hb⟩
                   refine ⟨_, rfl, ?_⟩
                   have n0_ := bst HB hb
                   replace BK1111 := bbw BK1111 hb
                   replace BK1112 := bbw BK1112 hb
                   replace BK1113 := bbw BK1113 hb
                   replace BK1120 := bbw BK1120 hb
                   replace BK1125 := bbw BK1125 hb
                   replace BK1135 := bbw BK1135 hb
                   clear HB
                   have HB := n0_
                   clear n0_
                   (try clear hb)
                   (try clear hb2)
                   (try clear hk)
                   (try clear hi)
                   refine hK.out _ _ ⟨hcz BK1120 0, hcz BK1120 1, hcz BK1125 0, hcz BK1125 1, hcz BK1111 0, hcz BK1111 1⟩ (fun hHeld => ?_)
                   clear hK K
                   refine normQ (N := 76) ?_
                   refine pureQ 5 77 HT_.out ?_
                   refine pureQ 6 78 HT_.out ?_
                   refine pureQ 7 79 HT_.out ?_
                   refine pureQ 8 80 HT_.out ?_
                   refine pureQ 9 81 HT_.out ?_
                   refine pureQ 10 82 HT_.out ?_
                   refine pureQ 11 83 HT_.out ?_
                   refine pureQ 12 84 HT_.out ?_
                   refine takeQ 13 85 HT_.out HW_.out hHeld ?_
                   refine pureQ 14 86 HT_.out ?_
                   refine pureQ 15 87 HT_.out ?_
                   refine pureQ 16 88 HT_.out ?_
                   refine pureQ 17 89 HT_.out ?_
                   refine takeQ 18 90 HT_.out HW_.out hHeld ?_
                   refine pureQ 19 91 HT_.out ?_
                   refine pureQ 20 92 HT_.out ?_
                   refine pureQ 21 93 HT_.out ?_
                   refine pureQ 22 94 HT_.out ?_
                   refine pureQ 24 96 HT_.out ?_
                   refine pureQ 26 98 HT_.out ?_
                   refine pureQ 28 100 HT_.out ?_
                   refine takeQ 23 95 HT_.out HW_.out hHeld ?_
                   refine pureQ 25 97 HT_.out ?_
                   refine takeQ 27 99 HT_.out HW_.out hHeld ?_
                   refine pureQ 29 101 HT_.out ?_
                   refine pureQ 30 102 HT_.out ?_
                   refine pureQ 31 103 HT_.out ?_
                   refine done_ (done_of HT_.out (by kernel_rfl)) ?_
                   try go_wp2
                   go_meet
                   case rel => exact ⟨_, (((wrap64 (Int.tdiv t1114 x8_116)) == (wrap64 (Int.tdiv t1115 x8_116)))), (by first | rfl | (simp; done) | (simp [*]; done)), H', ⟨by have := HJ7.out; have := HJ79.out; have := HJ116.out; have := HJ131.out; first | omega | exact Nat.le_refl _⟩, pkA BK1111, pkA BK1112, pkA BK1113, pkA BK1120, pkA BK1125, pkA BK1135, bpk HB⟩
                 ·
                  rw [if_neg c177] at H
                  have c177b0 : decide (t1115 < 4611686018427387904) = false := decide_eq_false c177
                  clear c177
                  have H' := Aside0.mk H
                  clear H
                  try go_wp2
                  have n0_ := Aside0.mk (blk_drew BK1111.out)
                  have n1_ := Aside0.mk (blk_drew BK1112.out)
                  have n2_ := Aside0.mk (blk_drew BK1113.out)
                  have n3_ := Aside0.mk (blk_drew BK1120.out)
                  have n4_ := Aside0.mk (blk_drew BK1125.out)
                  have n5_ := Aside0.mk (blk_drew BK1135.out)
                  have n6_ := Aside0.mk (below_drew1 HB.out)
                  clear BK1111
                  clear BK1112
                  clear BK1113
                  clear BK1120
                  clear BK1125
                  clear BK1135
                  clear HB
                  have BK1111 := n0_
                  have BK1112 := n1_
                  have BK1113 := n2_
                  have BK1120 := n3_
                  have BK1125 := n4_
                  have BK1135 := n5_
                  have HB := n6_
                  clear n0_ n1_ n2_ n3_ n4_ n5_ n6_
                  refine start_ (n := 32) (S := fun w' => w'.cell? ⟨gb1120, 0, none⟩ = some (.int .i64 t1118) ∧ w'.cell? ⟨gb1120, 1, none⟩ = some (.int .i64 t1119) ∧ w'.cell? ⟨gb1125, 0, none⟩ = some (.int .i64 t1123) ∧ w'.cell? ⟨gb1125, 1, none⟩ = some (.int .i64 t1124) ∧ w'.cell? ⟨gb1111, 0, none⟩ = some (.int .i64 t1114) ∧ w'.cell? ⟨gb1111, 1, none⟩ = some (.int .i64 t1115)) (ds := []) #[false, false, false, false, false, false, false, false, false, false, false, false, false, false, false, false, false, false, false, false, false, false, false, false, false, false, false, false, false, false, false, false] (by kernel_rfl) rfl rfl ⟨hcz BK1120 0, hcz BK1120 1, hcz BK1125 0, hcz BK1125 1, hcz BK1111 0, hcz BK1111 1⟩ (fun hHeld => ?_); refine with_tabW gimbalref02_Mod.tab14 gimbalref02_Mod.bits14 (fun HT_ HW_ => ?_)
                  generalize wc.drew = w182 at BK1111 BK1112 BK1113 BK1120 BK1125 BK1135 HB hHeld ⊢
                  refine takeQ 0 72 HT_.out HW_.out hHeld ?_
                  refine oneQ 1 73 HT_.out (fun K hK => ?_)
                  refine goesQ Try.func61 #[.agg #[.int .i64 t1118, .int .i64 t1119]] ?_
                  with_reducible refine (gimbalref02_None.calls t1118 t1119 false _ A159.out).mono ?_
                  rintro e w183 ⟨rfl, hb⟩
                  refine ⟨_, rfl, ?_⟩
                  have n0_ := bst HB hb
                  replace BK1111 := bbw BK1111 hb
                  replace BK1112 := bbw BK1112 hb
                  replace BK1113 := bbw BK1113 hb
                  replace BK1120 := bbw BK1120 hb
                  replace BK1125 := bbw BK1125 hb
                  replace BK1135 := bbw BK1135 hb
                  clear HB
                  have HB := n0_
                  clear n0_
                  (try clear hb)
                  (try clear hb2)
                  (try clear hk)
                  (try clear hi)
                  refine hK.out _ _ ⟨hcz BK1120 0, hcz BK1120 1, hcz BK1125 0, hcz BK1125 1, hcz BK1111 0, hcz BK1111 1⟩ (fun hHeld => ?_)
                  clear hK K
                  refine normQ (N := 73) ?_
                  refine pureQ 2 74 HT_.out ?_
                  refine takeQ 3 75 HT_.out HW_.out hHeld ?_
                  refine oneQ 4 76 HT_.out (fun K hK => ?_)
                  refine goesQ Try.func61 #[.agg #[.int .i64 t1123, .int .i64 t1124]] ?_
                  with_reducible refine (gimbalref02_None.calls t1123 t1124 true _ A173.out).mono ?_
                  rintro e w184 ⟨rfl, hb⟩
                  refine ⟨_, rfl, ?_⟩
                  have n0_ := bst HB hb
                  replace BK1111 := bbw BK1111 hb
                  replace BK1112 := bbw BK1112 hb
                  replace BK1113 := bbw BK1113 hb
                  replace BK1120 := bbw BK1120 hb
                  replace BK1125 := bbw BK1125 hb
                  replace BK1135 := bbw BK1135 hb
                  clear HB
                  have HB := n0_
                  clear n0_
                  (try clear hb)
                  (try clear hb2)
                  (try clear hk)
                  (try clear hi)
                  refine hK.out _ _ ⟨hcz BK1120 0, hcz BK1120 1, hcz BK1125 0, hcz BK1125 1, hcz BK1111 0, hcz BK1111 1⟩ (fun hHeld => ?_)
                  clear hK K
                  refine normQ (N := 76) ?_
                  refine pureQ 5 77 HT_.out ?_
                  refine pureQ 6 78 HT_.out ?_
                  refine pureQ 7 79 HT_.out ?_
                  refine pureQ 8 80 HT_.out ?_
                  refine pureQ 9 81 HT_.out ?_
                  refine pureQ 10 82 HT_.out ?_
                  refine pureQ 11 83 HT_.out ?_
                  refine pureQ 12 84 HT_.out ?_
                  refine takeQ 13 85 HT_.out HW_.out hHeld ?_
                  refine pureQ 14 86 HT_.out ?_
                  refine pureQ 15 87 HT_.out ?_
                  refine pureQ 16 88 HT_.out ?_
                  refine pureQ 17 89 HT_.out ?_
                  refine takeQ 18 90 HT_.out HW_.out hHeld ?_
                  refine pureQ 19 91 HT_.out ?_
                  refine pureQ 20 92 HT_.out ?_
                  refine pureQ 21 93 HT_.out ?_
                  refine pureU 22 94 HT_.out ?_
                  refine pureU 23 95 HT_.out ?_
                  refine pureU 24 96 HT_.out ?_
                  refine pureU 25 97 HT_.out ?_
                  refine pureU 26 98 HT_.out ?_
                  refine pureU 27 99 HT_.out ?_
                  refine pureU 28 100 HT_.out ?_
                  refine pureU 29 101 HT_.out ?_
                  refine pureU 30 102 HT_.out ?_
                  refine pureQ 31 103 HT_.out ?_
                  refine done_ (done_of HT_.out (by kernel_rfl)) ?_
                  try go_wp2
                  go_meet
                  case rel => exact ⟨_, (false), (by first | rfl | (simp; done) | (simp [*]; done)), H', ⟨by have := HJ7.out; have := HJ79.out; have := HJ116.out; have := HJ131.out; first | omega | exact Nat.le_refl _⟩, pkA BK1111, pkA BK1112, pkA BK1113, pkA BK1120, pkA BK1125, pkA BK1135, bpk HB⟩
                ·
                 rw [if_neg c176] at H
                 have c176b0 : decide ((-4611686018427387904) < t1114) = false := decide_eq_false c176
                 clear c176
                 have H' := Aside0.mk H
                 clear H
                 try go_wp2
                 have n0_ := Aside0.mk (blk_drew BK1111.out)
                 have n1_ := Aside0.mk (blk_drew BK1112.out)
                 have n2_ := Aside0.mk (blk_drew BK1113.out)
                 have n3_ := Aside0.mk (blk_drew BK1120.out)
                 have n4_ := Aside0.mk (blk_drew BK1125.out)
                 have n5_ := Aside0.mk (blk_drew BK1135.out)
                 have n6_ := Aside0.mk (below_drew1 HB.out)
                 clear BK1111
                 clear BK1112
                 clear BK1113
                 clear BK1120
                 clear BK1125
                 clear BK1135
                 clear HB
                 have BK1111 := n0_
                 have BK1112 := n1_
                 have BK1113 := n2_
                 have BK1120 := n3_
                 have BK1125 := n4_
                 have BK1135 := n5_
                 have HB := n6_
                 clear n0_ n1_ n2_ n3_ n4_ n5_ n6_
                 refine start_ (n := 32) (S := fun w' => w'.cell? ⟨gb1120, 0, none⟩ = some (.int .i64 t1118) ∧ w'.cell? ⟨gb1120, 1, none⟩ = some (.int .i64 t1119) ∧ w'.cell? ⟨gb1125, 0, none⟩ = some (.int .i64 t1123) ∧ w'.cell? ⟨gb1125, 1, none⟩ = some (.int .i64 t1124) ∧ w'.cell? ⟨gb1111, 0, none⟩ = some (.int .i64 t1114) ∧ w'.cell? ⟨gb1111, 1, none⟩ = some (.int .i64 t1115)) (ds := []) #[false, false, false, false, false, false, false, false, false, false, false, false, false, false, false, false, false, false, false, false, false, false, false, false, false, false, false, false, false, false, false, false] (by kernel_rfl) rfl rfl ⟨hcz BK1120 0, hcz BK1120 1, hcz BK1125 0, hcz BK1125 1, hcz BK1111 0, hcz BK1111 1⟩ (fun hHeld => ?_); refine with_tabW gimbalref02_Mod.tab14 gimbalref02_Mod.bits14 (fun HT_ HW_ => ?_)
                 generalize wc.drew = w185 at BK1111 BK1112 BK1113 BK1120 BK1125 BK1135 HB hHeld ⊢
                 refine takeQ 0 72 HT_.out HW_.out hHeld ?_
                 refine oneQ 1 73 HT_.out (fun K hK => ?_)
                 refine goesQ Try.func61 #[.agg #[.int .i64 t1118, .int .i64 t1119]] ?_
                 with_reducible refine (gimbalref02_None.calls t1118 t1119 false _ A159.out).mono ?_
                 rintro e w186 ⟨rfl, hb⟩
                 refine ⟨_, rfl, ?_⟩
                 have n0_ := bst HB hb
                 replace BK1111 := bbw BK1111 hb
                 replace BK1112 := bbw BK1112 hb
                 replace BK1113 := bbw BK1113 hb
                 replace BK1120 := bbw BK1120 hb
                 replace BK1125 := bbw BK1125 hb
                 replace BK1135 := bbw BK1135 hb
                 clear HB
                 have HB := n0_
                 clear n0_
                 (try clear hb)
                 (try clear hb2)
                 (try clear hk)
                 (try clear hi)
                 refine hK.out _ _ ⟨hcz BK1120 0, hcz BK1120 1, hcz BK1125 0, hcz BK1125 1, hcz BK1111 0, hcz BK1111 1⟩ (fun hHeld => ?_)
                 clear hK K
                 refine normQ (N := 73) ?_
                 refine pureQ 2 74 HT_.out ?_
                 refine takeQ 3 75 HT_.out HW_.out hHeld ?_
                 refine oneQ 4 76 HT_.out (fun K hK => ?_)
                 refine goesQ Try.func61 #[.agg #[.int .i64 t1123, .int .i64 t1124]] ?_
                 with_reducible refine (gimbalref02_None.calls t1123 t1124 true _ A173.out).mono ?_
                 rintro e w187 ⟨rfl, hb⟩
                 refine ⟨_, rfl, ?_⟩
                 have n0_ := bst HB hb
                 replace BK1111 := bbw BK1111 hb
                 replace BK1112 := bbw BK1112 hb
                 replace BK1113 := bbw BK1113 hb
                 replace BK1120 := bbw BK1120 hb
                 replace BK1125 := bbw BK1125 hb
                 replace BK1135 := bbw BK1135 hb
                 clear HB
                 have HB := n0_
                 clear n0_
                 (try clear hb)
                 (try clear hb2)
                 (try clear hk)
                 (try clear hi)
                 refine hK.out _ _ ⟨hcz BK1120 0, hcz BK1120 1, hcz BK1125 0, hcz BK1125 1, hcz BK1111 0, hcz BK1111 1⟩ (fun hHeld => ?_)
                 clear hK K
                 refine normQ (N := 76) ?_
                 refine pureQ 5 77 HT_.out ?_
                 refine pureQ 6 78 HT_.out ?_
                 refine pureQ 7 79 HT_.out ?_
                 refine pureQ 8 80 HT_.out ?_
                 refine pureQ 9 81 HT_.out ?_
                 refine pureQ 10 82 HT_.out ?_
                 refine pureQ 11 83 HT_.out ?_
                 refine pureQ 12 84 HT_.out ?_
                 refine takeQ 13 85 HT_.out HW_.out hHeld ?_
                 refine pureQ 14 86 HT_.out ?_
                 refine pureQ 15 87 HT_.out ?_
                 refine pureQ 16 88 HT_.out ?_
                 refine pureU 17 89 HT_.out ?_
                 refine pureU 18 90 HT_.out ?_
                 refine pureU 19 91 HT_.out ?_
                 refine pureQ 20 92 HT_.out ?_
                 refine pureQ 21 93 HT_.out ?_
                 refine pureU 22 94 HT_.out ?_
                 refine pureU 23 95 HT_.out ?_
                 refine pureU 24 96 HT_.out ?_
                 refine pureU 25 97 HT_.out ?_
                 refine pureU 26 98 HT_.out ?_
                 refine pureU 27 99 HT_.out ?_
                 refine pureU 28 100 HT_.out ?_
                 refine pureU 29 101 HT_.out ?_
                 refine pureU 30 102 HT_.out ?_
                 refine pureQ 31 103 HT_.out ?_
                 refine done_ (done_of HT_.out (by kernel_rfl)) ?_
                 try go_wp2
                 go_meet
                 case rel => exact ⟨_, (false), (by first | rfl | (simp; done) | (simp [*]; done)), H', ⟨by have := HJ7.out; have := HJ79.out; have := HJ116.out; have := HJ131.out; first | omega | exact Nat.le_refl _⟩, pkA BK1111, pkA BK1112, pkA BK1113, pkA BK1120, pkA BK1125, pkA BK1135, bpk HB⟩
               ·
                rw [if_neg c175] at H
                have c175b0 : (x8_116 == x9_116) = false := beq_eq_false_iff_ne.mpr c175
                have c175b1 : (x8_116 != x9_116) = true := bne_iff_ne.mpr c175
                have H' := Aside0.mk H
                clear H
                try go_wp2
                have n0_ := Aside0.mk (blk_drew BK1111.out)
                have n1_ := Aside0.mk (blk_drew BK1112.out)
                have n2_ := Aside0.mk (blk_drew BK1113.out)
                have n3_ := Aside0.mk (blk_drew BK1120.out)
                have n4_ := Aside0.mk (blk_drew BK1125.out)
                have n5_ := Aside0.mk (blk_drew BK1135.out)
                have n6_ := Aside0.mk (below_drew1 HB.out)
                clear BK1111
                clear BK1112
                clear BK1113
                clear BK1120
                clear BK1125
                clear BK1135
                clear HB
                have BK1111 := n0_
                have BK1112 := n1_
                have BK1113 := n2_
                have BK1120 := n3_
                have BK1125 := n4_
                have BK1135 := n5_
                have HB := n6_
                clear n0_ n1_ n2_ n3_ n4_ n5_ n6_
                refine start_ (n := 32) (S := fun w' => w'.cell? ⟨gb1120, 0, none⟩ = some (.int .i64 t1118) ∧ w'.cell? ⟨gb1120, 1, none⟩ = some (.int .i64 t1119) ∧ w'.cell? ⟨gb1125, 0, none⟩ = some (.int .i64 t1123) ∧ w'.cell? ⟨gb1125, 1, none⟩ = some (.int .i64 t1124)) (ds := []) #[false, false, false, false, false, false, false, false, false, false, false, false, false, false, false, false, false, false, false, false, false, false, false, false, false, false, false, false, false, false, false, false] (by kernel_rfl) rfl rfl ⟨hcz BK1120 0, hcz BK1120 1, hcz BK1125 0, hcz BK1125 1⟩ (fun hHeld => ?_); refine with_tabW gimbalref02_Mod.tab14 gimbalref02_Mod.bits14 (fun HT_ HW_ => ?_)
                generalize wc.drew = w188 at BK1111 BK1112 BK1113 BK1120 BK1125 BK1135 HB hHeld ⊢
                refine takeQ 0 72 HT_.out HW_.out hHeld ?_
                refine oneQ 1 73 HT_.out (fun K hK => ?_)
                refine goesQ Try.func61 #[.agg #[.int .i64 t1118, .int .i64 t1119]] ?_
                with_reducible refine (gimbalref02_None.calls t1118 t1119 false _ A159.out).mono ?_
                rintro e w189 ⟨rfl, hb⟩
                refine ⟨_, rfl, ?_⟩
                have n0_ := bst HB hb
                replace BK1111 := bbw BK1111 hb
                replace BK1112 := bbw BK1112 hb
                replace BK1113 := bbw BK1113 hb
                replace BK1120 := bbw BK1120 hb
                replace BK1125 := bbw BK1125 hb
                replace BK1135 := bbw BK1135 hb
                clear HB
                have HB := n0_
                clear n0_
                (try clear hb)
                (try clear hb2)
                (try clear hk)
                (try clear hi)
                refine hK.out _ _ ⟨hcz BK1120 0, hcz BK1120 1, hcz BK1125 0, hcz BK1125 1⟩ (fun hHeld => ?_)
                clear hK K
                refine normQ (N := 73) ?_
                refine pureQ 2 74 HT_.out ?_
                refine takeQ 3 75 HT_.out HW_.out hHeld ?_
                refine oneQ 4 76 HT_.out (fun K hK => ?_)
                refine goesQ Try.func61 #[.agg #[.int .i64 t1123, .int .i64 t1124]] ?_
                with_reducible refine (gimbalref02_None.calls t1123 t1124 true _ A173.out).mono ?_
                rintro e w190 ⟨rfl, hb⟩
                refine ⟨_, rfl, ?_⟩
                have n0_ := bst HB hb
                replace BK1111 := bbw BK1111 hb
                replace BK1112 := bbw BK1112 hb
                replace BK1113 := bbw BK1113 hb
                replace BK1120 := bbw BK1120 hb
                replace BK1125 := bbw BK1125 hb
                replace BK1135 := bbw BK1135 hb
                clear HB
                have HB := n0_
                clear n0_
                (try clear hb)
                (try clear hb2)
                (try clear hk)
                (try clear hi)
                refine hK.out _ _ ⟨hcz BK1120 0, hcz BK1120 1, hcz BK1125 0, hcz BK1125 1⟩ (fun hHeld => ?_)
                clear hK K
                refine normQ (N := 76) ?_
                refine pureQ 5 77 HT_.out ?_
                refine pureQ 6 78 HT_.out ?_
                refine pureQ 7 79 HT_.out ?_
                refine pureQ 8 80 HT_.out ?_
                refine pureQ 9 81 HT_.out ?_
                refine pureQ 10 82 HT_.out ?_
                refine pureQ 11 83 HT_.out ?_
                refine pureU 12 84 HT_.out ?_
                refine pureU 13 85 HT_.out ?_
                refine pureU 14 86 HT_.out ?_
                refine pureQ 15 87 HT_.out ?_
                refine pureQ 16 88 HT_.out ?_
                refine pureU 17 89 HT_.out ?_
                refine pureU 18 90 HT_.out ?_
                refine pureU 19 91 HT_.out ?_
                refine pureQ 20 92 HT_.out ?_
                refine pureQ 21 93 HT_.out ?_
                refine pureU 22 94 HT_.out ?_
                refine pureU 23 95 HT_.out ?_
                refine pureU 24 96 HT_.out ?_
                refine pureU 25 97 HT_.out ?_
                refine pureU 26 98 HT_.out ?_
                refine pureU 27 99 HT_.out ?_
                refine pureU 28 100 HT_.out ?_
                refine pureU 29 101 HT_.out ?_
                refine pureU 30 102 HT_.out ?_
                refine pureQ 31 103 HT_.out ?_
                refine done_ (done_of HT_.out (by kernel_rfl)) ?_
                try go_wp2
                go_meet
                case rel => exact ⟨_, (false), (by first | rfl | (simp; done) | (simp [*]; done)), H', ⟨by have := HJ7.out; have := HJ79.out; have := HJ116.out; have := HJ131.out; first | omega | exact Nat.le_refl _⟩, pkA BK1111, pkA BK1112, pkA BK1113, pkA BK1120, pkA BK1125, pkA BK1135, bpk HB⟩
              ·
               replace c174 := Bool.eq_false_iff.mpr c174
               subst c174
               have H1 : (gimbalref02_Mod.j4 kj131 x8_116 x9_116 false t1114 t1115) = some (r1, r2) := by rw [if_neg (show ¬ (false = true) by decide)] at H; exact H
               clear H
               have H := H1
               clear H1
               have H' := Aside0.mk H
               clear H
               try go_wp2
               have n0_ := Aside0.mk (blk_drew BK1111.out)
               have n1_ := Aside0.mk (blk_drew BK1112.out)
               have n2_ := Aside0.mk (blk_drew BK1113.out)
               have n3_ := Aside0.mk (blk_drew BK1120.out)
               have n4_ := Aside0.mk (blk_drew BK1125.out)
               have n5_ := Aside0.mk (blk_drew BK1135.out)
               have n6_ := Aside0.mk (below_drew1 HB.out)
               clear BK1111
               clear BK1112
               clear BK1113
               clear BK1120
               clear BK1125
               clear BK1135
               clear HB
               have BK1111 := n0_
               have BK1112 := n1_
               have BK1113 := n2_
               have BK1120 := n3_
               have BK1125 := n4_
               have BK1135 := n5_
               have HB := n6_
               clear n0_ n1_ n2_ n3_ n4_ n5_ n6_
               refine start_ (n := 32) (S := fun w' => w'.cell? ⟨gb1120, 0, none⟩ = some (.int .i64 t1118) ∧ w'.cell? ⟨gb1120, 1, none⟩ = some (.int .i64 t1119) ∧ w'.cell? ⟨gb1125, 0, none⟩ = some (.int .i64 t1123) ∧ w'.cell? ⟨gb1125, 1, none⟩ = some (.int .i64 t1124)) (ds := []) #[false, false, false, false, false, false, false, false, false, false, false, false, false, false, false, false, false, false, false, false, false, false, false, false, false, false, false, false, false, false, false, false] (by kernel_rfl) rfl rfl ⟨hcz BK1120 0, hcz BK1120 1, hcz BK1125 0, hcz BK1125 1⟩ (fun hHeld => ?_); refine with_tabW gimbalref02_Mod.tab14 gimbalref02_Mod.bits14 (fun HT_ HW_ => ?_)
               generalize wc.drew = w191 at BK1111 BK1112 BK1113 BK1120 BK1125 BK1135 HB hHeld ⊢
               refine takeQ 0 72 HT_.out HW_.out hHeld ?_
               refine oneQ 1 73 HT_.out (fun K hK => ?_)
               refine goesQ Try.func61 #[.agg #[.int .i64 t1118, .int .i64 t1119]] ?_
               with_reducible refine (gimbalref02_None.calls t1118 t1119 false _ A159.out).mono ?_
               rintro e w192 ⟨rfl, hb⟩
               refine ⟨_, rfl, ?_⟩
               have n0_ := bst HB hb
               replace BK1111 := bbw BK1111 hb
               replace BK1112 := bbw BK1112 hb
               replace BK1113 := bbw BK1113 hb
               replace BK1120 := bbw BK1120 hb
               replace BK1125 := bbw BK1125 hb
               replace BK1135 := bbw BK1135 hb
               clear HB
               have HB := n0_
               clear n0_
               (try clear hb)
               (try clear hb2)
               (try clear hk)
               (try clear hi)
               refine hK.out _ _ ⟨hcz BK1120 0, hcz BK1120 1, hcz BK1125 0, hcz BK1125 1⟩ (fun hHeld => ?_)
               clear hK K
               refine normQ (N := 73) ?_
               refine pureQ 2 74 HT_.out ?_
               refine takeQ 3 75 HT_.out HW_.out hHeld ?_
               refine oneQ 4 76 HT_.out (fun K hK => ?_)
               refine goesQ Try.func61 #[.agg #[.int .i64 t1123, .int .i64 t1124]] ?_
               with_reducible refine (gimbalref02_None.calls t1123 t1124 false _ A173.out).mono ?_
               rintro e w193 ⟨rfl, hb⟩
               refine ⟨_, rfl, ?_⟩
               have n0_ := bst HB hb
               replace BK1111 := bbw BK1111 hb
               replace BK1112 := bbw BK1112 hb
               replace BK1113 := bbw BK1113 hb
               replace BK1120 := bbw BK1120 hb
               replace BK1125 := bbw BK1125 hb
               replace BK1135 := bbw BK1135 hb
               clear HB
               have HB := n0_
               clear n0_
               (try clear hb)
               (try clear hb2)
               (try clear hk)
               (try clear hi)
               refine hK.out _ _ ⟨hcz BK1120 0, hcz BK1120 1, hcz BK1125 0, hcz BK1125 1⟩ (fun hHeld => ?_)
               clear hK K
               refine normQ (N := 76) ?_
               refine pureQ 5 77 HT_.out ?_
               refine pureQ 6 78 HT_.out ?_
               refine pureU 7 79 HT_.out ?_
               refine pureU 8 80 HT_.out ?_
               refine pureU 9 81 HT_.out ?_
               refine pureQ 10 82 HT_.out ?_
               refine pureQ 11 83 HT_.out ?_
               refine pureU 12 84 HT_.out ?_
               refine pureU 13 85 HT_.out ?_
               refine pureU 14 86 HT_.out ?_
               refine pureQ 15 87 HT_.out ?_
               refine pureQ 16 88 HT_.out ?_
               refine pureU 17 89 HT_.out ?_
               refine pureU 18 90 HT_.out ?_
               refine pureU 19 91 HT_.out ?_
               refine pureQ 20 92 HT_.out ?_
               refine pureQ 21 93 HT_.out ?_
               refine pureU 22 94 HT_.out ?_
               refine pureU 23 95 HT_.out ?_
               refine pureU 24 96 HT_.out ?_
               refine pureU 25 97 HT_.out ?_
               refine pureU 26 98 HT_.out ?_
               refine pureU 27 99 HT_.out ?_
               refine pureU 28 100 HT_.out ?_
               refine pureU 29 101 HT_.out ?_
               refine pureU 30 102 HT_.out ?_
               refine pureQ 31 103 HT_.out ?_
               refine done_ (done_of HT_.out (by kernel_rfl)) ?_
               try go_wp2
               go_meet
               case rel => exact ⟨_, (false), (by first | rfl | (simp; done) | (simp [*]; done)), H', ⟨by have := HJ7.out; have := HJ79.out; have := HJ116.out; have := HJ131.out; first | omega | exact Nat.le_refl _⟩, pkA BK1111, pkA BK1112, pkA BK1113, pkA BK1120, pkA BK1125, pkA BK1135, bpk HB⟩
            case rest =>
             clear HC158
             try clear c1
             try clear p2
             try clear c6
             try clear c17
             try clear c61
             try clear c174
             obtain ⟨kq, x103_157, rfl, HA, HJ157, BK1111, BK1112, BK1113, BK1120, BK1125, BK1135, HB⟩ := hcut
             cases kq with
             | zero => exact absurd HA.out (by simp [gimbalref02_Mod.j4])
             | succ kj157 =>
              have H := HA.out
              clear HA
              simp only [gimbalref02_Mod.j4] at H
              by_cases c194 : x103_157 = true
              ·
               subst c194
               have H1 : (if x8_116 = 0 then (none) else ((gimbalref02_Of.f kj157 (Int.tmod t1114 x8_116) (Int.tmod t1115 x8_116)).bind fun bt1142 => (some (bt1142.1, bt1142.2)))) = some (r1, r2) := by rw [if_pos rfl] at H; exact H
               clear H
               have H := H1
               clear H1
               by_cases c195 : x8_116 = 0
               ·
                rw [if_pos c195] at H
                exact absurd H (by simp)
               ·
                rw [if_neg c195] at H
                have c195b0 : (x8_116 == 0) = false := beq_eq_false_iff_ne.mpr c195
                have c195b1 : (x8_116 != 0) = true := bne_iff_ne.mpr c195
                replace H := Option.bind_eq_some_iff.mp H
                obtain ⟨⟨t1142, t1143⟩, A1960, H⟩ := H
                replace H : (some (t1142, t1143)) = some (r1, r2) := H
                have A196 := Aside0.mk A1960
                clear A1960
                simp only [Option.some.injEq, Prod.mk.injEq] at H
                obtain ⟨rfl, rfl⟩ := H
                try go_wp2
                have n0_ := Aside0.mk (blk_drew BK1111.out)
                have n1_ := Aside0.mk (blk_drew BK1112.out)
                have n2_ := Aside0.mk (blk_drew BK1113.out)
                have n3_ := Aside0.mk (blk_drew BK1120.out)
                have n4_ := Aside0.mk (blk_drew BK1125.out)
                have n5_ := Aside0.mk (blk_drew BK1135.out)
                have n6_ := Aside0.mk (below_drew1 HB.out)
                clear BK1111
                clear BK1112
                clear BK1113
                clear BK1120
                clear BK1125
                clear BK1135
                clear HB
                have BK1111 := n0_
                have BK1112 := n1_
                have BK1113 := n2_
                have BK1120 := n3_
                have BK1125 := n4_
                have BK1135 := n5_
                have HB := n6_
                clear n0_ n1_ n2_ n3_ n4_ n5_ n6_
                refine start_ (n := 10) (S := fun w' => w'.cell? ⟨gb1111, 0, none⟩ = some (.int .i64 t1114) ∧ w'.cell? ⟨gb1111, 1, none⟩ = some (.int .i64 t1115)) (ds := []) #[false, false, false, false, false, false, false, false, false, false] (by kernel_rfl) rfl rfl ⟨hcz BK1111 0, hcz BK1111 1⟩ (fun hHeld => ?_); refine with_tabW gimbalref02_Mod.tab15 gimbalref02_Mod.bits15 (fun HT_ HW_ => ?_)
                generalize wc.drew = w197 at BK1111 BK1112 BK1113 BK1120 BK1125 BK1135 HB hHeld ⊢
                refine pureQ 0 104 HT_.out ?_
                refine pureQ 2 106 HT_.out ?_
                refine pureQ 4 108 HT_.out ?_
                refine pureQ 6 110 HT_.out ?_
                refine takeQ 1 105 HT_.out HW_.out hHeld ?_
                refine pureQ 3 107 HT_.out ?_
                refine takeQ 5 109 HT_.out HW_.out hHeld ?_
                refine pureQ 7 111 HT_.out ?_
                refine oneQ 8 112 HT_.out (fun K hK => ?_)
                refine goesQ Try.func14 #[.int .i64 (Int.tmod t1114 x8_116), .int .i64 (Int.tmod t1115 x8_116)] ?_
                with_reducible refine (gimbalref02_Of.calls kj157 (Int.tmod t1114 x8_116) (Int.tmod t1115 x8_116) t1142 t1143 _ A196.out).mono ?_
                rintro e w198 ⟨rfl, hb⟩
                refine ⟨_, rfl, ?_⟩
                have n0_ := bst HB hb
                replace BK1111 := bbw BK1111 hb
                replace BK1112 := bbw BK1112 hb
                replace BK1113 := bbw BK1113 hb
                replace BK1120 := bbw BK1120 hb
                replace BK1125 := bbw BK1125 hb
                replace BK1135 := bbw BK1135 hb
                clear HB
                have HB := n0_
                clear n0_
                (try clear hb)
                (try clear hb2)
                (try clear hk)
                (try clear hi)
                refine hK.out _ _ ⟨hcz BK1111 0, hcz BK1111 1⟩ (fun hHeld => ?_)
                clear hK K
                refine normQ (N := 112) ?_
                refine one_ (i := 9) (N := none) #[true, true, true, true, true, true, true, true, true, true] rfl rfl (one_of HT_.out (by kernel_rfl)) (by decide) (fun K hK => ?_)
                have hs199 : w198.cell? ⟨gb1113, 0, none⟩ = some (.int .i64 0) := hcz BK1113 0
                have hfs199 := blk_frozen BK1113.out 0
                have hns199_0 := NB1111_1113.out
                have hns199_1 := NB1112_1113.out
                have hns199_3 := NB1120_1113.out
                have hns199_4 := NB1125_1113.out
                have hns199_5 := NB1135_1113.out
                have hms199_0 := NB1113_1111.out
                have hms199_1 := NB1113_1112.out
                have hms199_3 := NB1113_1120.out
                have hms199_4 := NB1113_1125.out
                have hms199_5 := NB1113_1135.out
                have hs200 : w198.cell? ⟨gb1113, 1, none⟩ = some (.int .i64 0) := hcz BK1113 1
                have hfs200 := blk_frozen BK1113.out 1
                have hns200_0 := NB1111_1113.out
                have hns200_1 := NB1112_1113.out
                have hns200_3 := NB1120_1113.out
                have hns200_4 := NB1125_1113.out
                have hns200_5 := NB1135_1113.out
                have hms200_0 := NB1113_1111.out
                have hms200_1 := NB1113_1112.out
                have hms200_3 := NB1113_1120.out
                have hms200_4 := NB1113_1125.out
                have hms200_5 := NB1113_1135.out
                refine skip_ (w1 := ?_) (by rfl) rfl ?_ ?_
                rotate_left
                ·
                 go_simp
                 rfl
                refine hK.out _ _ ⟨((cell_far (p := ⟨gb1113, _, none⟩) NB1111_1113.out _).trans (((cell_far (p := ⟨gb1113, _, none⟩) NB1111_1113.out _).trans (hHeld.1)))), ((cell_far (p := ⟨gb1113, _, none⟩) NB1111_1113.out _).trans (((cell_far (p := ⟨gb1113, _, none⟩) NB1111_1113.out _).trans (hHeld.2))))⟩ (fun hHeld => ?_)
                clear hK K
                refine done_ (done_of HT_.out (by kernel_rfl)) ?_
                try go_wp2
                refine bodyPost_ret (results_cell_row rfl _ _ gb1113 23 #[.int .i64 t1142, .int .i64 t1143] (0, 0) _ rfl (by refine pkB ?_; refine blk_put (cs := #[.int .i64 t1142, .int .i64 0]) ?_ 1 _ (by first | rfl | (subst_vars; rfl)); refine pkB ?_; refine blk_put (cs := #[.int .i64 0, .int .i64 0]) ?_ 0 _ (by first | rfl | (subst_vars; rfl)); refine pkB ?_; exact BK1113.out) Try.underlying23 rfl (by kernel_rfl)) rfl ?_
                exact ⟨by first | rfl | (simp [errW_none, errW_some] <;> rfl) | (simp [*, errW_none, errW_some] <;> rfl) | kernel_rfl, by repeat (first | (with_reducible first | exact HB.out | apply below_alloc | apply pw_below_drewN | apply below_drew1 | refine below_set ?_ GE1111.out | refine below_set ?_ GE1112.out | refine below_set ?_ GE1113.out | refine below_set ?_ GE1120.out | refine below_set ?_ GE1125.out | refine below_set ?_ GE1135.out) | exact HB.out)⟩
              ·
               replace c194 := Bool.eq_false_iff.mpr c194
               subst c194
               have H1 : (if x9_116 < 4611686018427387904 then (gimbalref02_Mod.j5 kj157 0 0 (wrap64 (x9_116 - 1)) t1114 t1115) else (gimbalref02_Mod.j5 kj157 0 0 x9_116 t1114 t1115)) = some (r1, r2) := by rw [if_neg (show ¬ (false = true) by decide)] at H; exact H
               clear H
               have H := H1
               clear H1
               have HC201 := Aside0.mk H
               clear H
               go_upto_if 115 with (fail)
               go_cut [12] (fun v12 wc => ∃ (kq : Nat) (x12_200 : Int), v12 = .int .i64 x12_200 ∧ Aside0 (gimbalref02_Mod.j5 kq 0 0 x12_200 t1114 t1115 = some (r1, r2)) ∧ Aside0 (kq ≤ kj157) ∧ Aside0 (wc.heap[gb1111]? = some (.cells #[.int .i64 t1114, .int .i64 t1115] 23 (0, 0))) ∧ Aside0 (wc.heap[gb1112]? = some (.cells #[.int .i64 a1_0, .int .i64 a1_1] 23 (0, 0))) ∧ Aside0 (wc.heap[gb1113]? = some (.cells #[.int .i64 0, .int .i64 0] 23 (0, 0))) ∧ Aside0 (wc.heap[gb1120]? = some (.cells #[.int .i64 t1118, .int .i64 t1119] 23 (0, 0))) ∧ Aside0 (wc.heap[gb1125]? = some (.cells #[.int .i64 t1123, .int .i64 t1124] 23 (0, 0))) ∧ Aside0 (wc.heap[gb1135]? = some (.cells #[.int .i64 t1133, .int .i64 t1134] 23 (0, 0))) ∧ Aside0 (Below w.heap.size w wc))
               case first =>
                have H := HC201.out
                clear HC201
                by_cases c202 : x9_116 < 4611686018427387904
                ·
                 rw [if_pos c202] at H
                 have c202b0 : decide (x9_116 < 4611686018427387904) = true := decide_eq_true c202
                 clear c202
                 (first | rw [c202b0] | (simp only [i64_w, i32_w]; rw [c202b0]) | skip)
                 have H' := Aside0.mk H
                 clear H
                 go_wp2
                 go_meet
                 case rel => exact ⟨_, (wrap64 (x9_116 - 1)), (by first | rfl | (simp; done) | (simp [*]; done)), H', ⟨by have := HJ7.out; have := HJ79.out; have := HJ116.out; have := HJ131.out; have := HJ157.out; first | omega | exact Nat.le_refl _⟩, pkA BK1111, pkA BK1112, pkA BK1113, pkA BK1120, pkA BK1125, pkA BK1135, bpk HB⟩
                ·
                 rw [if_neg c202] at H
                 have c202b0 : decide (x9_116 < 4611686018427387904) = false := decide_eq_false c202
                 clear c202
                 (first | rw [c202b0] | (simp only [i64_w, i32_w]; rw [c202b0]) | skip)
                 have H' := Aside0.mk H
                 clear H
                 go_wp2
                 go_meet
                 case rel => exact ⟨_, (x9_116), (by first | rfl | (simp; done) | (simp [*]; done)), H', ⟨by have := HJ7.out; have := HJ79.out; have := HJ116.out; have := HJ131.out; have := HJ157.out; first | omega | exact Nat.le_refl _⟩, pkA BK1111, pkA BK1112, pkA BK1113, pkA BK1120, pkA BK1125, pkA BK1135, bpk HB⟩
               case rest =>
                clear HC201
                try clear c1
                try clear c2
                try clear p2
                try clear c6
                try clear p6
                try clear c14
                try clear c17
                try clear c19
                try clear c20
                try clear c61
                try clear p64
                try clear c174
                try clear c194
                try clear c195
                try clear c195b0
                try clear c195b1
                try clear c202
                try clear c202b0
                try clear p2
                obtain ⟨kq, x12_200, rfl, HA, HJ200, BK1111, BK1112, BK1113, BK1120, BK1125, BK1135, HB⟩ := hcut
                cases kq with
                | zero => exact absurd HA.out (by simp [gimbalref02_Mod.j5])
                | succ kj200 =>
                 have H := HA.out
                 clear HA
                 simp only [gimbalref02_Mod.j5] at H
                 have HC203 := Aside0.mk H
                 clear H
                 have hnb204 := NB1111_1112.out
                 have hnc204 := NB1112_1111.out
                 have hnb205 := NB1111_1113.out
                 have hnc205 := NB1113_1111.out
                 have hnb206 := NB1111_1120.out
                 have hnc206 := NB1120_1111.out
                 have hnb207 := NB1111_1125.out
                 have hnc207 := NB1125_1111.out
                 have hnb208 := NB1111_1135.out
                 have hnc208 := NB1135_1111.out
                 have hcz209_0 := hcz BK1111 0
                 have hcz209_1 := hcz BK1111 1
                 have hfz209_0 := blk_frozen BK1111.out 0
                 have hfz209_1 := blk_frozen BK1111.out 1
                 go_upto_if 120 with (fail)
                 go_cut [10] (fun v10 wc => ∃ (kq : Nat) (x10_202 : Int), v10 = .int .i64 x10_202 ∧ Aside0 (gimbalref02_Mod.j6 kq x10_202 0 x12_200 t1114 t1115 = some (r1, r2)) ∧ Aside0 (kq ≤ kj200) ∧ Aside0 (wc.heap[gb1111]? = some (.cells #[.int .i64 t1114, .int .i64 t1115] 23 (0, 0))) ∧ Aside0 (wc.heap[gb1112]? = some (.cells #[.int .i64 a1_0, .int .i64 a1_1] 23 (0, 0))) ∧ Aside0 (wc.heap[gb1113]? = some (.cells #[.int .i64 0, .int .i64 0] 23 (0, 0))) ∧ Aside0 (wc.heap[gb1120]? = some (.cells #[.int .i64 t1118, .int .i64 t1119] 23 (0, 0))) ∧ Aside0 (wc.heap[gb1125]? = some (.cells #[.int .i64 t1123, .int .i64 t1124] 23 (0, 0))) ∧ Aside0 (wc.heap[gb1135]? = some (.cells #[.int .i64 t1133, .int .i64 t1134] 23 (0, 0))) ∧ Aside0 (Below w.heap.size w wc))
                 case first =>
                  have H := HC203.out
                  clear HC203
                  by_cases c210 : t1114 < 0
                  ·
                   rw [if_pos c210] at H
                   have c210b0 : decide (t1114 < 0) = true := decide_eq_true c210
                   clear c210
                   (first | rw [c210b0] | (simp only [i64_w, i32_w]; rw [c210b0]) | skip)
                   replace H := Option.bind_eq_some_iff.mp H
                   obtain ⟨t1144, A2110, H⟩ := H
                   replace H : (gimbalref02_Mod.j6 kj200 t1144 0 x12_200 t1114 t1115) = some (r1, r2) := H
                   have A211 := Aside0.mk A2110
                   clear A2110
                   have H' := Aside0.mk H
                   clear H
                   have hnb212 := NB1111_1112.out
                   have hnc212 := NB1112_1111.out
                   have hnb213 := NB1111_1113.out
                   have hnc213 := NB1113_1111.out
                   have hnb214 := NB1111_1120.out
                   have hnc214 := NB1120_1111.out
                   have hnb215 := NB1111_1125.out
                   have hnc215 := NB1125_1111.out
                   have hnb216 := NB1111_1135.out
                   have hnc216 := NB1135_1111.out
                   have hcz217_0 := hcz BK1111 0
                   have hcz217_1 := hcz BK1111 1
                   have hfz217_0 := blk_frozen BK1111.out 0
                   have hfz217_1 := blk_frozen BK1111.out 1
                   go_wp2_with (first | ((with_reducible refine gate_callee (f := 63) rfl ?_); refine goesL_ (some 125) rfl rfl Try.func63 (by kernel_rfl) rfl #[.int .i64 t1114, .int .i64 (wrap64 (-x12_200))] rfl (by (try simp only [List.map_toArray, List.map_cons, List.map_nil]); first | done | rfl | (simp only [List.length_drop, List.length_take]; rfl)) ?_; (with_reducible refine (gimbalref02_more.calls t1114 (wrap64 (-x12_200)) t1144 _ A211.out).mono ?_); rintro e w' ⟨rfl, ⟨nd, rfl⟩⟩; refine ⟨_, rfl, ?_⟩))
                   go_meet
                   case rel => exact ⟨_, (t1144), (by first | rfl | (simp; done) | (simp [*]; done)), H', ⟨by have := HJ7.out; have := HJ79.out; have := HJ116.out; have := HJ131.out; have := HJ157.out; have := HJ200.out; first | omega | exact Nat.le_refl _⟩, pkA BK1111, pkA BK1112, pkA BK1113, pkA BK1120, pkA BK1125, pkA BK1135, bpk HB⟩
                  ·
                   rw [if_neg c210] at H
                   have c210b0 : decide (t1114 < 0) = false := decide_eq_false c210
                   clear c210
                   (first | rw [c210b0] | (simp only [i64_w, i32_w]; rw [c210b0]) | skip)
                   have H' := Aside0.mk H
                   clear H
                   go_wp2
                   go_meet
                   case rel => exact ⟨_, (0), (by first | rfl | (simp; done) | (simp [*]; done)), H', ⟨by have := HJ7.out; have := HJ79.out; have := HJ116.out; have := HJ131.out; have := HJ157.out; have := HJ200.out; first | omega | exact Nat.le_refl _⟩, pkA BK1111, pkA BK1112, pkA BK1113, pkA BK1120, pkA BK1125, pkA BK1135, bpk HB⟩
                 case rest =>
                  clear HC203
                  try clear c1
                  try clear c2
                  try clear p2
                  try clear c6
                  try clear p6
                  try clear c14
                  try clear c17
                  try clear c19
                  try clear c20
                  try clear c21
                  try clear c61
                  try clear c63
                  try clear p64
                  try clear c174
                  try clear c194
                  try clear c195
                  try clear c195b0
                  try clear c195b1
                  try clear c202
                  try clear c202b0
                  try clear c204
                  try clear c205
                  try clear c206
                  try clear c207
                  try clear c208
                  try clear c210
                  try clear c210b0
                  try clear c212
                  try clear c213
                  try clear c214
                  try clear c215
                  try clear c216
                  try clear hcz209_0
                  try clear hcz209_1
                  try clear hcz217_0
                  try clear hcz217_1
                  try clear hfz209_0
                  try clear hfz209_1
                  try clear hfz217_0
                  try clear hfz217_1
                  try clear p2
                  try clear p6
                  try clear p64
                  obtain ⟨kq, x10_202, rfl, HA, HJ202, BK1111, BK1112, BK1113, BK1120, BK1125, BK1135, HB⟩ := hcut
                  cases kq with
                  | zero => exact absurd HA.out (by simp [gimbalref02_Mod.j6])
                  | succ kj202 =>
                   have H := HA.out
                   clear HA
                   simp only [gimbalref02_Mod.j6] at H
                   by_cases c218 : t1115 > 0
                   ·
                    rw [if_pos c218] at H
                    have c218b0 : decide (0 < t1115) = true := decide_eq_true c218
                    clear c218
                    replace H := Option.bind_eq_some_iff.mp H
                    obtain ⟨t1145, A2190, H⟩ := H
                    replace H : ((gimbalref02_Of.f kj202 x10_202 t1145).bind fun bt1146 => (some (bt1146.1, bt1146.2))) = some (r1, r2) := H
                    have A219 := Aside0.mk A2190
                    clear A2190
                    replace H := Option.bind_eq_some_iff.mp H
                    obtain ⟨⟨t1146, t1147⟩, A2200, H⟩ := H
                    replace H : (some (t1146, t1147)) = some (r1, r2) := H
                    have A220 := Aside0.mk A2200
                    clear A2200
                    simp only [Option.some.injEq, Prod.mk.injEq] at H
                    obtain ⟨rfl, rfl⟩ := H
                    have hnb221 := NB1111_1112.out
                    have hnc221 := NB1112_1111.out
                    have hnb222 := NB1111_1113.out
                    have hnc222 := NB1113_1111.out
                    have hnb223 := NB1111_1120.out
                    have hnc223 := NB1120_1111.out
                    have hnb224 := NB1111_1125.out
                    have hnc224 := NB1125_1111.out
                    have hnb225 := NB1111_1135.out
                    have hnc225 := NB1135_1111.out
                    have hcz226_0 := hcz BK1111 0
                    have hcz226_1 := hcz BK1111 1
                    have hfz226_0 := blk_frozen BK1111.out 0
                    have hfz226_1 := blk_frozen BK1111.out 1
                    go_wp2_with (first | ((with_reducible refine gate_callee (f := 62) rfl ?_); refine goesL_ (some 132) rfl rfl Try.func62 (by kernel_rfl) rfl #[.int .i64 t1115, .int .i64 x12_200] rfl (by (try simp only [List.map_toArray, List.map_cons, List.map_nil]); first | done | rfl | (simp only [List.length_drop, List.length_take]; rfl)) ?_; (with_reducible refine (gimbalref02_less.calls t1115 x12_200 t1145 _ A219.out).mono ?_); rintro e w' ⟨rfl, ⟨nd, rfl⟩⟩; refine ⟨_, rfl, ?_⟩; (try (rw [drewN_self wc]; generalize hq_ : World.drewN wc _ = wc; have n0_ : Aside0 (wc.heap[gb1111]? = some (.cells #[.int .i64 t1114, .int .i64 t1115] 23 (0, 0))) := ⟨by rw [← hq_]; exact (pk BK1111.out)⟩; have n1_ : Aside0 (wc.heap[gb1112]? = some (.cells #[.int .i64 a1_0, .int .i64 a1_1] 23 (0, 0))) := ⟨by rw [← hq_]; exact (pk BK1112.out)⟩; have n2_ : Aside0 (wc.heap[gb1113]? = some (.cells #[.int .i64 0, .int .i64 0] 23 (0, 0))) := ⟨by rw [← hq_]; exact (pk BK1113.out)⟩; have n3_ : Aside0 (wc.heap[gb1120]? = some (.cells #[.int .i64 t1118, .int .i64 t1119] 23 (0, 0))) := ⟨by rw [← hq_]; exact (pk BK1120.out)⟩; have n4_ : Aside0 (wc.heap[gb1125]? = some (.cells #[.int .i64 t1123, .int .i64 t1124] 23 (0, 0))) := ⟨by rw [← hq_]; exact (pk BK1125.out)⟩; have n5_ : Aside0 (wc.heap[gb1135]? = some (.cells #[.int .i64 t1133, .int .i64 t1134] 23 (0, 0))) := ⟨by rw [← hq_]; exact (pk BK1135.out)⟩; have n6_ : Aside0 (Below w.heap.size w wc) := ⟨by rw [← hq_]; exact (by repeat (first | (with_reducible first | exact HB.out | apply below_alloc | apply pw_below_drewN | apply below_drew1 | refine below_set ?_ GE1111.out | refine below_set ?_ GE1112.out | refine below_set ?_ GE1113.out | refine below_set ?_ GE1120.out | refine below_set ?_ GE1125.out | refine below_set ?_ GE1135.out) | exact HB.out))⟩; clear BK1111 BK1112 BK1113 BK1120 BK1125 BK1135 HB hq_; have BK1111 := n0_; have BK1112 := n1_; have BK1113 := n2_; have BK1120 := n3_; have BK1125 := n4_; have BK1135 := n5_; have HB := n6_; clear n0_ n1_ n2_ n3_ n4_ n5_ n6_))) | ((with_reducible refine gate_callee (f := 14) rfl ?_); refine goesL_ (some 135) rfl rfl Try.func14 (by kernel_rfl) rfl #[.int .i64 x10_202, .int .i64 t1145] rfl (by (try simp only [List.map_toArray, List.map_cons, List.map_nil]); first | done | rfl | (simp only [List.length_drop, List.length_take]; rfl)) ?_; (with_reducible refine (gimbalref02_Of.calls kj202 x10_202 t1145 t1146 t1147 _ A220.out).mono ?_); rintro e w227 ⟨rfl, hb⟩; refine ⟨_, rfl, ?_⟩; have n0_ := bst HB hb; replace BK1111 := bbw BK1111 hb; replace BK1112 := bbw BK1112 hb; replace BK1113 := bbw BK1113 hb; replace BK1120 := bbw BK1120 hb; replace BK1125 := bbw BK1125 hb; replace BK1135 := bbw BK1135 hb; clear HB; have HB := n0_; clear n0_; (try clear hb); (try clear hb2); (try clear hk); (try clear hi); have hnb228 := NB1113_1112.out; have hnc228 := NB1112_1113.out; have hnb229 := NB1113_1120.out; have hnc229 := NB1120_1113.out; have hnb230 := NB1113_1125.out; have hnc230 := NB1125_1113.out; have hnb231 := NB1113_1135.out; have hnc231 := NB1135_1113.out; have hcz232_0 := hcz BK1113 0; have hcz232_1 := hcz BK1113 1; have hfz232_0 := blk_frozen BK1113.out 0; have hfz232_1 := blk_frozen BK1113.out 1))
                    refine bodyPost_ret (results_cell_row rfl _ _ gb1113 23 #[.int .i64 t1146, .int .i64 t1147] (0, 0) _ rfl (by refine pkB ?_; refine blk_put (cs := #[.int .i64 t1146, .int .i64 0]) ?_ 1 _ (by first | rfl | (subst_vars; rfl)); refine pkB ?_; refine blk_put (cs := #[.int .i64 0, .int .i64 0]) ?_ 0 _ (by first | rfl | (subst_vars; rfl)); refine pkB ?_; exact BK1113.out) Try.underlying23 rfl (by kernel_rfl)) rfl ?_
                    exact ⟨by first | rfl | (simp [errW_none, errW_some] <;> rfl) | (simp [*, errW_none, errW_some] <;> rfl) | kernel_rfl, by repeat (first | (with_reducible first | exact HB.out | apply below_alloc | apply pw_below_drewN | apply below_drew1 | refine below_set ?_ GE1111.out | refine below_set ?_ GE1112.out | refine below_set ?_ GE1113.out | refine below_set ?_ GE1120.out | refine below_set ?_ GE1125.out | refine below_set ?_ GE1135.out) | exact HB.out)⟩
                   ·
                    rw [if_neg c218] at H
                    have c218b0 : decide (0 < t1115) = false := decide_eq_false c218
                    clear c218
                    replace H := Option.bind_eq_some_iff.mp H
                    obtain ⟨⟨t1148, t1149⟩, A2330, H⟩ := H
                    replace H : (some (t1148, t1149)) = some (r1, r2) := H
                    have A233 := Aside0.mk A2330
                    clear A2330
                    simp only [Option.some.injEq, Prod.mk.injEq] at H
                    obtain ⟨rfl, rfl⟩ := H
                    have hnb234 := NB1111_1112.out
                    have hnc234 := NB1112_1111.out
                    have hnb235 := NB1111_1113.out
                    have hnc235 := NB1113_1111.out
                    have hnb236 := NB1111_1120.out
                    have hnc236 := NB1120_1111.out
                    have hnb237 := NB1111_1125.out
                    have hnc237 := NB1125_1111.out
                    have hnb238 := NB1111_1135.out
                    have hnc238 := NB1135_1111.out
                    have hcz239_0 := hcz BK1111 0
                    have hcz239_1 := hcz BK1111 1
                    have hfz239_0 := blk_frozen BK1111.out 0
                    have hfz239_1 := blk_frozen BK1111.out 1
                    go_wp2_with (first | ((with_reducible refine gate_callee (f := 14) rfl ?_); refine goesL_ (some 135) rfl rfl Try.func14 (by kernel_rfl) rfl #[.int .i64 x10_202, .int .i64 0] rfl (by (try simp only [List.map_toArray, List.map_cons, List.map_nil]); first | done | rfl | (simp only [List.length_drop, List.length_take]; rfl)) ?_; (with_reducible refine (gimbalref02_Of.calls kj202 x10_202 0 t1148 t1149 _ A233.out).mono ?_); rintro e w240 ⟨rfl, hb⟩; refine ⟨_, rfl, ?_⟩; have n0_ := bst HB hb; replace BK1111 := bbw BK1111 hb; replace BK1112 := bbw BK1112 hb; replace BK1113 := bbw BK1113 hb; replace BK1120 := bbw BK1120 hb; replace BK1125 := bbw BK1125 hb; replace BK1135 := bbw BK1135 hb; clear HB; have HB := n0_; clear n0_; (try clear hb); (try clear hb2); (try clear hk); (try clear hi); have hnb241 := NB1113_1112.out; have hnc241 := NB1112_1113.out; have hnb242 := NB1113_1120.out; have hnc242 := NB1120_1113.out; have hnb243 := NB1113_1125.out; have hnc243 := NB1125_1113.out; have hnb244 := NB1113_1135.out; have hnc244 := NB1135_1113.out; have hcz245_0 := hcz BK1113 0; have hcz245_1 := hcz BK1113 1; have hfz245_0 := blk_frozen BK1113.out 0; have hfz245_1 := blk_frozen BK1113.out 1))
                    refine bodyPost_ret (results_cell_row rfl _ _ gb1113 23 #[.int .i64 t1148, .int .i64 t1149] (0, 0) _ rfl (by refine pkB ?_; refine blk_put (cs := #[.int .i64 t1148, .int .i64 0]) ?_ 1 _ (by first | rfl | (subst_vars; rfl)); refine pkB ?_; refine blk_put (cs := #[.int .i64 0, .int .i64 0]) ?_ 0 _ (by first | rfl | (subst_vars; rfl)); refine pkB ?_; exact BK1113.out) Try.underlying23 rfl (by kernel_rfl)) rfl ?_
                    exact ⟨by first | rfl | (simp [errW_none, errW_some] <;> rfl) | (simp [*, errW_none, errW_some] <;> rfl) | kernel_rfl, by repeat (first | (with_reducible first | exact HB.out | apply below_alloc | apply pw_below_drewN | apply below_drew1 | refine below_set ?_ GE1111.out | refine below_set ?_ GE1112.out | refine below_set ?_ GE1113.out | refine below_set ?_ GE1120.out | refine below_set ?_ GE1125.out | refine below_set ?_ GE1135.out) | exact HB.out)⟩
end Go.Proofs.Ytbbnpipmjadpoaa.P
