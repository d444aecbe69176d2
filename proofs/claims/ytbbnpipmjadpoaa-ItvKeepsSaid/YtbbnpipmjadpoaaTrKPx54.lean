/- What the law's proof needs of Px54. -/
import Derived.Test.YtbbnpipmjadpoaaTrKU2
import Derived.Test.YtbbnpipmjadpoaaTrKU
import Derived.Test.YtbbnpipmjadpoaaTrKPx0
import Derived.Test.YtbbnpipmjadpoaaTrKPx3
import Derived.Test.YtbbnpipmjadpoaaTrKPx8
import Derived.Test.YtbbnpipmjadpoaaTrKPx13
import Derived.Test.YtbbnpipmjadpoaaTrKPx15
import Derived.Test.YtbbnpipmjadpoaaTrKPx16
import Derived.Test.YtbbnpipmjadpoaaTrKPx18
import Derived.Test.YtbbnpipmjadpoaaTrKPx25
import Derived.Test.YtbbnpipmjadpoaaTrKPx26
import Derived.Test.YtbbnpipmjadpoaaTrKPx29
import Derived.Test.YtbbnpipmjadpoaaTrKPx34
import Derived.Test.YtbbnpipmjadpoaaTrKPx35
import Derived.Test.YtbbnpipmjadpoaaTrKPx50
import Derived.Test.YtbbnpipmjadpoaaTrKPx53
-- PRINTED by print.py (a twelfth state) out of the translation. Not trusted: Lean checks it.
namespace Go.Proofs.Ytbbnpipmjadpoaa.P
open Go.RowKit Go.Proofs.YtbbnpipmjadpoaaW.PrintWords Go.Proofs.YtbbnpipmjadpoaaW.PrintLast Go.Proofs.YtbbnpipmjadpoaaW.PrintMore Go.Proofs.YtbbnpipmjadpoaaO
attribute [local go_sem] max2_int min2_int max_two min_two max_three min_three max_four min_four   -- for this text's walks alone
set_option linter.unusedVariables false
set_option linter.unusedSimpArgs false
mutual
def gimballaw02_ItvKeeps.j0 : Nat → Int → Int → Int → Bool → Int → Int → Int → Int → Option (Bool)
  | 0, _, _, _, _, _, _, _, _ => none
  | k + 1, x4, x11, x13, x37, x1166000, x1166001, x1167000, x1167001 => if x37 = true then ((itv_Add.f k x1166000 x1166001 x1167000 x1167001).bind fun bt1171 => ((itv_None.f bt1171.1 bt1171.2).bind fun t1173 => (if t1173 = true then ((itv_Mul.f k x1166000 x1166001 x1167000 x1167001).bind fun bt1174 => ((itv_None.f bt1174.1 bt1174.2).bind fun t1176 => (if t1176 = true then ((gimballaw02_awake.f k).bind fun t1177 => (some t1177)) else (some false)))) else (some false)))) else ((itv_Has.f x1166000 x1166001 x11).bind fun t1178 => (if t1178 = true then ((itv_Has.f x1167000 x1167001 x13).bind fun t1179 => (if t1179 = true then ((itv_Join.f x1166000 x1166001 x1167000 x1167001).bind fun bt1180 => ((itv_Has.f bt1180.1 bt1180.2 x11).bind fun t1182 => (if t1182 = true then ((itv_Join.f x1166000 x1166001 x1167000 x1167001).bind fun bt1183 => ((itv_Has.f bt1183.1 bt1183.2 x13).bind fun t1185 => (gimballaw02_ItvKeeps.j1 k x4 x11 x13 (!t1185) x1166000 x1166001 x1167000 x1167001))) else (gimballaw02_ItvKeeps.j1 k x4 x11 x13 true x1166000 x1166001 x1167000 x1167001)))) else (gimballaw02_ItvKeeps.j1 k x4 x11 x13 true x1166000 x1166001 x1167000 x1167001))) else (gimballaw02_ItvKeeps.j1 k x4 x11 x13 true x1166000 x1166001 x1167000 x1167001)))
def gimballaw02_ItvKeeps.j1 : Nat → Int → Int → Int → Bool → Int → Int → Int → Int → Option (Bool)
  | 0, _, _, _, _, _, _, _, _ => none
  | k + 1, x4, x11, x13, x76, x1166000, x1166001, x1167000, x1167001 => if x76 = true then (some false) else ((gimballaw02_size.f x11).bind fun t1186 => (if t1186 > 2147483648 then (gimballaw02_ItvKeeps.j2 k x4 x11 x13 true x1166000 x1166001 x1167000 x1167001) else ((gimballaw02_size.f x13).bind fun t1187 => (gimballaw02_ItvKeeps.j2 k x4 x11 x13 (decide (t1187 > 2147483648)) x1166000 x1166001 x1167000 x1167001))))
def gimballaw02_ItvKeeps.j2 : Nat → Int → Int → Int → Bool → Int → Int → Int → Int → Option (Bool)
  | 0, _, _, _, _, _, _, _, _ => none
  | k + 1, x4, x11, x13, x84, x1166000, x1166001, x1167000, x1167001 => if x84 = true then ((gimballaw02_awake.f k).bind fun t1188 => (some t1188)) else ((itv_Test.f k (wrap64 (14 + (wrap64 (Int.tmod (IntKind.u64.wrap (x4)) 6)))) x1166000 x1166001 x1167000 x1167001).bind fun bt1189 => ((itv_Holds.f k (wrap64 (14 + (wrap64 (Int.tmod (IntKind.u64.wrap (x4)) 6)))) x1166000 x1166001 x1167000 x1167001).bind fun bt1195 => ((gimballaw02_holds.f (wrap64 (14 + (wrap64 (Int.tmod (IntKind.u64.wrap (x4)) 6)))) x11 x13).bind fun t1197 => (if t1197 = true then ((itv_Has.f bt1189.1 bt1189.2.1 x11).bind fun t1198 => (if t1198 = true then ((itv_Has.f bt1189.2.2.1 bt1189.2.2.2 x13).bind fun t1199 => (if t1199 = true then (if bt1195.1 = true then ((gimballaw02_holds.f (wrap64 (14 + (wrap64 (Int.tmod (IntKind.u64.wrap (x4)) 6)))) x11 x13).bind fun t1200 => (if t1200 = true then (gimballaw02_ItvKeeps.j3 k x11 x13 false x1166000 x1166001 x1167000 x1167001) else (gimballaw02_ItvKeeps.j3 k x11 x13 (!bt1195.2) x1166000 x1166001 x1167000 x1167001))) else (gimballaw02_ItvKeeps.j3 k x11 x13 true x1166000 x1166001 x1167000 x1167001)) else (gimballaw02_ItvKeeps.j3 k x11 x13 true x1166000 x1166001 x1167000 x1167001))) else (gimballaw02_ItvKeeps.j3 k x11 x13 true x1166000 x1166001 x1167000 x1167001))) else ((gimballaw02_holds.f (wrap64 (14 + (wrap64 (Int.tmod (IntKind.u64.wrap (x4)) 6)))) x11 x13).bind fun t1201 => (if t1201 = true then (gimballaw02_ItvKeeps.j3 k x11 x13 false x1166000 x1166001 x1167000 x1167001) else (gimballaw02_ItvKeeps.j3 k x11 x13 (!bt1195.2) x1166000 x1166001 x1167000 x1167001)))))))
def gimballaw02_ItvKeeps.j3 : Nat → Int → Int → Bool → Int → Int → Int → Int → Option (Bool)
  | 0, _, _, _, _, _, _, _ => none
  | k + 1, x11, x13, x135, x1166000, x1166001, x1167000, x1167001 => if x135 = true then (some false) else (if x13 = 0 then (gimballaw02_ItvKeeps.j4 k x11 x13 false x1166000 x1166001 x1167000 x1167001) else ((itv_Div.f k x1166000 x1166001 x1167000 x1167001).bind fun bt1202 => ((itv_Has.f bt1202.1 bt1202.2 (wrap64 (Int.tdiv x11 x13))).bind fun t1204 => (if t1204 = true then ((itv_Mod.f k x1166000 x1166001 x1167000 x1167001).bind fun bt1205 => ((itv_Has.f bt1205.1 bt1205.2 (Int.tmod x11 x13)).bind fun t1207 => (gimballaw02_ItvKeeps.j4 k x11 x13 (!t1207) x1166000 x1166001 x1167000 x1167001))) else (gimballaw02_ItvKeeps.j4 k x11 x13 true x1166000 x1166001 x1167000 x1167001)))))
def gimballaw02_ItvKeeps.j4 : Nat → Int → Int → Bool → Int → Int → Int → Int → Option (Bool)
  | 0, _, _, _, _, _, _, _ => none
  | k + 1, x11, x13, x157, x1166000, x1166001, x1167000, x1167001 => if x157 = true then (some false) else ((itv_Add.f k x1166000 x1166001 x1167000 x1167001).bind fun bt1208 => ((itv_Has.f bt1208.1 bt1208.2 (wrap64 (x11 + x13))).bind fun t1210 => (if t1210 = true then ((itv_Sub.f k x1166000 x1166001 x1167000 x1167001).bind fun bt1211 => ((itv_Has.f bt1211.1 bt1211.2 (wrap64 (x11 - x13))).bind fun t1213 => (if t1213 = true then ((itv_Mul.f k x1166000 x1166001 x1167000 x1167001).bind fun bt1214 => ((itv_Has.f bt1214.1 bt1214.2 (wrap64 (x11 * x13))).bind fun t1216 => (if t1216 = true then ((itv_Neg.f x1166000 x1166001).bind fun bt1217 => ((itv_Has.f bt1217.1 bt1217.2 (wrap64 (-x11))).bind fun t1219 => (if t1219 = true then ((itv_Abs.f k x1166000 x1166001).bind fun bt1220 => ((gimballaw02_size.f x11).bind fun t1222 => ((itv_Has.f bt1220.1 bt1220.2 t1222).bind fun t1223 => (if t1223 = true then ((gimballaw02_awake.f k).bind fun t1224 => (some t1224)) else (some false))))) else (some false)))) else (some false)))) else (some false)))) else (some false))))
end
def gimballaw02_ItvKeeps.f (k : Nat) (a0_0 : Int) (a0_1 : Int) (a1_0 : Int) (a1_1 : Int) (a2 : Int) (a3 : Int) (a4 : Int) : Option (Bool) := (gimballaw02_near.f k a0_0 a0_1 a2).bind fun bt1167 => ((gimballaw02_near.f k a1_0 a1_1 a3).bind fun bt1169 => (if bt1167.2 = true then (gimballaw02_ItvKeeps.j0 k a4 bt1167.1 bt1169.1 (!bt1169.2) a0_0 a0_1 a1_0 a1_1) else (gimballaw02_ItvKeeps.j0 k a4 bt1167.1 bt1169.1 true a0_0 a0_1 a1_0 a1_1)))
def gimballaw02_ItvKeeps.T14 : Bool × List (List Nat × List Nat) := (true, [([], []), ([0], [0]), ([1], [1]), ([2], [2]), ([2], [2]), ([3, 4, 2, 2], [2, 3, 4]), ([2], [2]), ([2], [2]), ([6, 7, 2], [2, 6, 7]), ([5, 8, 5, 2], [2, 5, 8]), ([9, 2], [2, 9]), ([10, 9, 2], [2, 10]), ([11], [11]), ([11], [11]), ([12, 13, 11, 11], [11, 12, 13]), ([11], [11]), ([11], [11]), ([15, 16, 11], [11, 15, 16]), ([14, 17, 14, 11], [11, 14, 17]), ([18, 11], [11, 18]), ([11, 19, 2], [2, 11, 19]), ([2, 20], [2, 20])])
def gimballaw02_ItvKeeps.B14 : List Nat := [0, 1, 3, 7, 7, 31, 7, 7, 199, 511, 1023, 2047, 4095, 4095, 16383, 4095, 4095, 102399, 262143, 524287, 1048575, 2097151]
theorem gimballaw02_ItvKeeps.tab14 : rtab .any (opsOf Try.f11 14) = gimballaw02_ItvKeeps.T14 := by kernel_rfl
theorem gimballaw02_ItvKeeps.bits14 : waitsOk gimballaw02_ItvKeeps.T14.2 gimballaw02_ItvKeeps.B14 = true := by kernel_rfl
set_option maxHeartbeats 8000000 in
set_option maxRecDepth 100000 in
theorem gimballaw02_ItvKeeps.calls (k : Nat) (a0_0 : Int) (a0_1 : Int) (a1_0 : Int) (a1_1 : Int) (a2 : Int) (a3 : Int) (a4 : Int) (w : World) (h : gimballaw02_ItvKeeps.f k a0_0 a0_1 a1_0 a1_1 a2 a3 a4 = some true) :
    Calls Try.prog 11 #[.agg #[.int .i64 a0_0, .int .i64 a0_1], .agg #[.int .i64 a1_0, .int .i64 a1_1], .int .i64 a2, .int .i64 a3, .int .i64 a4] w fun e w' => e = .returned (.bool true) ∧ Below w.heap.size w w' := by
  have hu23 := Try.underlying23
  have HB := Aside0.mk (Below.refl w.heap.size w)
  have H : ((gimballaw02_near.f k a0_0 a0_1 a2).bind fun bt1167 => ((gimballaw02_near.f k a1_0 a1_1 a3).bind fun bt1169 => (if bt1167.2 = true then (gimballaw02_ItvKeeps.j0 k a4 bt1167.1 bt1169.1 (!bt1169.2) a0_0 a0_1 a1_0 a1_1) else (gimballaw02_ItvKeeps.j0 k a4 bt1167.1 bt1169.1 true a0_0 a0_1 a1_0 a1_1)))) = some true := h
  clear h
  replace H := Option.bind_eq_some_iff.mp H
  obtain ⟨⟨t1167, t1168⟩, A60, H⟩ := H
  replace H : ((gimballaw02_near.f k a1_0 a1_1 a3).bind fun bt1169 => (if t1168 = true then (gimballaw02_ItvKeeps.j0 k a4 t1167 bt1169.1 (!bt1169.2) a0_0 a0_1 a1_0 a1_1) else (gimballaw02_ItvKeeps.j0 k a4 t1167 bt1169.1 true a0_0 a0_1 a1_0 a1_1))) = some true := H
  have A6 := Aside0.mk A60
  clear A60
  replace H := Option.bind_eq_some_iff.mp H
  obtain ⟨⟨t1169, t1170⟩, A70, H⟩ := H
  replace H : (if t1168 = true then (gimballaw02_ItvKeeps.j0 k a4 t1167 t1169 (!t1170) a0_0 a0_1 a1_0 a1_1) else (gimballaw02_ItvKeeps.j0 k a4 t1167 t1169 true a0_0 a0_1 a1_0 a1_1)) = some true := H
  have A7 := Aside0.mk A70
  clear A70
  have HC8 := Aside0.mk H
  clear H
  go_enter Try.func11, Try.ntmps11
  go_upto_region 3 with (first | ((with_reducible refine gate_dst (N := 5) rfl ?_); refine box_event ?hg (N := 5) ?hd (cs := #[.int .i64 a0_0, .int .i64 a0_1]) (t := 23) ?hr ?_; (case hd => rfl); (case hg => rfl); (case hr => first | (go_simp; done) | (go_simp; rfl)); intro gb1165 hg w9 hbox hb; have n0_ := bst HB hb; have n1_ := Aside0.mk (hbox); have n2_ := bsz HB hg; have n3_ := bsz HB hg; clear HB; have HB := n0_; have BK1165 := n1_; have GW1165 := n2_; have GE1165 := n3_; clear n0_ n1_ n2_ n3_; clear hb hbox hg) | ((with_reducible refine gate_dst (N := 6) rfl ?_); refine box_event ?hg (N := 6) ?hd (cs := #[.int .i64 a1_0, .int .i64 a1_1]) (t := 23) ?hr ?_; (case hd => rfl); (case hg => rfl); (case hr => first | (go_simp; done) | (go_simp; rfl)); intro gb1166 hg w10 hbox hb; have n0_ := bst HB hb; have n1_ := Aside0.mk (hbox); have n2_ := bsz HB hg; have n3_ := bsz HB hg; have n4_ := bn1 BK1165 hg; have n5_ := bn2 BK1165 hg; replace BK1165 := bbw BK1165 hb; clear HB; have HB := n0_; have BK1166 := n1_; have GW1166 := n2_; have GE1166 := n3_; have NB1165_1166 := n4_; have NB1166_1165 := n5_; clear n0_ n1_ n2_ n3_ n4_ n5_; clear hb hbox hg; have hnb11 := NB1165_1166.out; have hnc11 := NB1166_1165.out; have hcz12_0 := hcz BK1165 0; have hcz12_1 := hcz BK1165 1; have hfz12_0 := blk_frozen BK1165.out 0; have hfz12_1 := blk_frozen BK1165.out 1) | ((with_reducible refine gate_callee (f := 58) rfl ?_); refine goesL_ (some 23) rfl rfl Try.func58 (by kernel_rfl) rfl #[.agg #[.int .i64 a0_0, .int .i64 a0_1], .int .i64 a2] rfl (by (try simp only [List.map_toArray, List.map_cons, List.map_nil]); first | done | rfl | (simp only [List.length_drop, List.length_take]; rfl)) ?_; (with_reducible refine (gimballaw02_near.calls k a0_0 a0_1 a2 t1167 t1168 _ A6.out).mono ?_); rintro e w13 ⟨rfl, hb⟩; refine ⟨_, rfl, ?_⟩; have n0_ := bst HB hb; replace BK1165 := bbw BK1165 hb; replace BK1166 := bbw BK1166 hb; clear HB; have HB := n0_; clear n0_; (try clear hb); (try clear hb2); (try clear hk); (try clear hi); have hcz14_0 := hcz BK1166 0; have hcz14_1 := hcz BK1166 1; have hfz14_0 := blk_frozen BK1166.out 0; have hfz14_1 := blk_frozen BK1166.out 1) | ((with_reducible refine gate_callee (f := 58) rfl ?_); refine goesL_ (some 29) rfl rfl Try.func58 (by kernel_rfl) rfl #[.agg #[.int .i64 a1_0, .int .i64 a1_1], .int .i64 a3] rfl (by (try simp only [List.map_toArray, List.map_cons, List.map_nil]); first | done | rfl | (simp only [List.length_drop, List.length_take]; rfl)) ?_; (with_reducible refine (gimballaw02_near.calls k a1_0 a1_1 a3 t1169 t1170 _ A7.out).mono ?_); rintro e w15 ⟨rfl, hb⟩; refine ⟨_, rfl, ?_⟩; have n0_ := bst HB hb; replace BK1165 := bbw BK1165 hb; replace BK1166 := bbw BK1166 hb; clear HB; have HB := n0_; clear n0_; (try clear hb); (try clear hb2); (try clear hk); (try clear hi)))
  (try simp only [Act.put, List.setIfInBounds_toArray, List.set_cons_zero, List.set_cons_succ])
  go_cut [37] (fun v37 wc => ∃ (kq : Nat) (x37_7 : Bool), v37 = .bool x37_7 ∧ Aside0 (gimballaw02_ItvKeeps.j0 kq a4 t1167 t1169 x37_7 a0_0 a0_1 a1_0 a1_1 = some true) ∧ Aside0 (kq ≤ k) ∧ Aside0 (wc.heap[gb1165]? = some (.cells #[.int .i64 a0_0, .int .i64 a0_1] 23 (0, 0))) ∧ Aside0 (wc.heap[gb1166]? = some (.cells #[.int .i64 a1_0, .int .i64 a1_1] 23 (0, 0))) ∧ Aside0 (Below w.heap.size w wc))
  case first => as_aux_lemma =>
   have H := HC8.out
   clear HC8
   by_cases c16 : t1168 = true
   ·
    subst c16
    have H1 : (gimballaw02_ItvKeeps.j0 k a4 t1167 t1169 (!t1170) a0_0 a0_1 a1_0 a1_1) = some true := by rw [if_pos rfl] at H; exact H
    clear H
    have H := H1
    clear H1
    have H' := Aside0.mk H
    clear H
    go_wp2
    go_meet
    case rel => exact ⟨_, (!t1170), (by first | rfl | (simp; done) | (simp [*]; done)), H', ⟨by first | omega | exact Nat.le_refl _⟩, pkA BK1165, pkA BK1166, bpk HB⟩
   ·
    replace c16 := Bool.eq_false_iff.mpr c16
    subst c16
    have H1 : (gimballaw02_ItvKeeps.j0 k a4 t1167 t1169 true a0_0 a0_1 a1_0 a1_1) = some true := by rw [if_neg (show ¬ (false = true) by decide)] at H; exact H
    clear H
    have H := H1
    clear H1
    have H' := Aside0.mk H
    clear H
    go_wp2
    go_meet
    case rel => exact ⟨_, (true), (by first | rfl | (simp; done) | (simp [*]; done)), H', ⟨by first | omega | exact Nat.le_refl _⟩, pkA BK1165, pkA BK1166, bpk HB⟩
  case rest => as_aux_lemma =>
   clear HC8
   try clear c1
   try clear p2
   try clear c5
   try clear c11
   try clear c16
   try clear hcz12_0
   try clear hcz12_1
   try clear hcz14_0
   try clear hcz14_1
   try clear hfz12_0
   try clear hfz12_1
   try clear hfz14_0
   try clear hfz14_1
   obtain ⟨kq, x37_7, rfl, HA, HJ7, BK1165, BK1166, HB⟩ := hcut
   cases kq with
   | zero => exact absurd HA.out (by simp [gimballaw02_ItvKeeps.j0])
   | succ kj7 =>
    have H := HA.out
    clear HA
    simp only [gimballaw02_ItvKeeps.j0] at H
    by_cases c17 : x37_7 = true
    ·
     subst c17
     have H1 : ((itv_Add.f kj7 a0_0 a0_1 a1_0 a1_1).bind fun bt1171 => ((itv_None.f bt1171.1 bt1171.2).bind fun t1173 => (if t1173 = true then ((itv_Mul.f kj7 a0_0 a0_1 a1_0 a1_1).bind fun bt1174 => ((itv_None.f bt1174.1 bt1174.2).bind fun t1176 => (if t1176 = true then ((gimballaw02_awake.f kj7).bind fun t1177 => (some t1177)) else (some false)))) else (some false)))) = some true := by rw [if_pos rfl] at H; exact H
     clear H
     have H := H1
     clear H1
     replace H := Option.bind_eq_some_iff.mp H
     obtain ⟨⟨t1171, t1172⟩, A180, H⟩ := H
     replace H : ((itv_None.f t1171 t1172).bind fun t1173 => (if t1173 = true then ((itv_Mul.f kj7 a0_0 a0_1 a1_0 a1_1).bind fun bt1174 => ((itv_None.f bt1174.1 bt1174.2).bind fun t1176 => (if t1176 = true then ((gimballaw02_awake.f kj7).bind fun t1177 => (some t1177)) else (some false)))) else (some false))) = some true := H
     have A18 := Aside0.mk A180
     clear A180
     replace H := Option.bind_eq_some_iff.mp H
     obtain ⟨t1173, A190, H⟩ := H
     replace H : (if t1173 = true then ((itv_Mul.f kj7 a0_0 a0_1 a1_0 a1_1).bind fun bt1174 => ((itv_None.f bt1174.1 bt1174.2).bind fun t1176 => (if t1176 = true then ((gimballaw02_awake.f kj7).bind fun t1177 => (some t1177)) else (some false)))) else (some false)) = some true := H
     have A19 := Aside0.mk A190
     clear A190
     by_cases c20 : t1173 = true
     ·
      subst c20
      have H1 : ((itv_Mul.f kj7 a0_0 a0_1 a1_0 a1_1).bind fun bt1174 => ((itv_None.f bt1174.1 bt1174.2).bind fun t1176 => (if t1176 = true then ((gimballaw02_awake.f kj7).bind fun t1177 => (some t1177)) else (some false)))) = some true := by rw [if_pos rfl] at H; exact H
      clear H
      have H := H1
      clear H1
      replace H := Option.bind_eq_some_iff.mp H
      obtain ⟨⟨t1174, t1175⟩, A210, H⟩ := H
      replace H : ((itv_None.f t1174 t1175).bind fun t1176 => (if t1176 = true then ((gimballaw02_awake.f kj7).bind fun t1177 => (some t1177)) else (some false))) = some true := H
      have A21 := Aside0.mk A210
      clear A210
      replace H := Option.bind_eq_some_iff.mp H
      obtain ⟨t1176, A220, H⟩ := H
      replace H : (if t1176 = true then ((gimballaw02_awake.f kj7).bind fun t1177 => (some t1177)) else (some false)) = some true := H
      have A22 := Aside0.mk A220
      clear A220
      by_cases c23 : t1176 = true
      ·
       subst c23
       have H1 : ((gimballaw02_awake.f kj7).bind fun t1177 => (some t1177)) = some true := by rw [if_pos rfl] at H; exact H
       clear H
       have H := H1
       clear H1
       replace H := Option.bind_eq_some_iff.mp H
       obtain ⟨t1177, A240, H⟩ := H
       replace H : (some t1177) = some true := H
       have A24 := Aside0.mk A240
       clear A240
       have hret_ := Option.some.inj H
       clear H
       have hnb25 := NB1165_1166.out
       have hnc25 := NB1166_1165.out
       have hcz26_0 := hcz BK1165 0
       have hcz26_1 := hcz BK1165 1
       have hfz26_0 := blk_frozen BK1165.out 0
       have hfz26_1 := blk_frozen BK1165.out 1
       have hcz27_0 := hcz BK1166 0
       have hcz27_1 := hcz BK1166 1
       have hfz27_0 := blk_frozen BK1166.out 0
       have hfz27_1 := blk_frozen BK1166.out 1
       go_wp2_with (first | ((with_reducible refine gate_callee (f := 40) rfl ?_); refine goesL_ (some 40) rfl rfl Try.func40 (by kernel_rfl) rfl #[.agg #[.int .i64 a0_0, .int .i64 a0_1], .agg #[.int .i64 a1_0, .int .i64 a1_1]] rfl (by (try simp only [List.map_toArray, List.map_cons, List.map_nil]); first | done | rfl | (simp only [List.length_drop, List.length_take]; rfl)) ?_; (with_reducible refine (itv_Add.calls kj7 a0_0 a0_1 a1_0 a1_1 t1171 t1172 _ A18.out).mono ?_); rintro e w28 ⟨rfl, hb⟩; refine ⟨_, rfl, ?_⟩; have n0_ := bst HB hb; replace BK1165 := bbw BK1165 hb; replace BK1166 := bbw BK1166 hb; clear HB; have HB := n0_; clear n0_; (try clear hb); (try clear hb2); (try clear hk); (try clear hi)) | ((with_reducible refine gate_callee (f := 21) rfl ?_); refine goesL_ (some 41) rfl rfl Try.func21 (by kernel_rfl) rfl #[.agg #[.int .i64 t1171, .int .i64 t1172]] rfl (by (try simp only [List.map_toArray, List.map_cons, List.map_nil]); first | done | rfl | (simp only [List.length_drop, List.length_take]; rfl)) ?_; (with_reducible refine (itv_None.calls t1171 t1172 true _ A19.out).mono ?_); rintro e w29 ⟨rfl, hb⟩; refine ⟨_, rfl, ?_⟩; have n0_ := bst HB hb; replace BK1165 := bbw BK1165 hb; replace BK1166 := bbw BK1166 hb; clear HB; have HB := n0_; clear n0_; (try clear hb); (try clear hb2); (try clear hk); (try clear hi); have hcz30_0 := hcz BK1165 0; have hcz30_1 := hcz BK1165 1; have hfz30_0 := blk_frozen BK1165.out 0; have hfz30_1 := blk_frozen BK1165.out 1; have hcz31_0 := hcz BK1166 0; have hcz31_1 := hcz BK1166 1; have hfz31_0 := blk_frozen BK1166.out 0; have hfz31_1 := blk_frozen BK1166.out 1) | (go_at_call 42; (with_reducible refine (itv_Mul.calls kj7 a0_0 a0_1 a1_0 a1_1 t1174 t1175 _ A21.out).mono ?_); rintro e w32 ⟨rfl, hb⟩; have n0_ := bst HB hb; replace BK1165 := bbw BK1165 hb; replace BK1166 := bbw BK1166 hb; clear HB; have HB := n0_; clear n0_; (try clear hb); (try clear hb2); (try clear hk); (try clear hi)) | (go_at_call 21; (with_reducible refine (itv_None.calls t1174 t1175 true _ A22.out).mono ?_); rintro e w33 ⟨rfl, hb⟩; have n0_ := bst HB hb; replace BK1165 := bbw BK1165 hb; replace BK1166 := bbw BK1166 hb; clear HB; have HB := n0_; clear n0_; (try clear hb); (try clear hb2); (try clear hk); (try clear hi)) | (go_at_call 36; (with_reducible refine (gimballaw02_awake.calls kj7  t1177 _ A24.out).mono ?_); rintro e w34 ⟨rfl, hb⟩; have n0_ := bst HB hb; replace BK1165 := bbw BK1165 hb; replace BK1166 := bbw BK1166 hb; clear HB; have HB := n0_; clear n0_; (try clear hb); (try clear hb2); (try clear hk); (try clear hi)))
       go_ret
       exact ⟨by first | rfl | (simp [errW_none, errW_some] <;> rfl) | (simp [*, errW_none, errW_some] <;> rfl) | kernel_rfl, by repeat (first | (with_reducible first | exact HB.out | apply below_alloc | apply pw_below_drewN | apply below_drew1 | refine below_set ?_ GE1165.out | refine below_set ?_ GE1166.out) | exact HB.out)⟩
      ·
       replace c23 := Bool.eq_false_iff.mpr c23
       subst c23
       have H1 : (some false) = some true := by rw [if_neg (show ¬ (false = true) by decide)] at H; exact H
       clear H
       have H := H1
       clear H1
       exact absurd H (by simp)
     ·
      replace c20 := Bool.eq_false_iff.mpr c20
      subst c20
      have H1 : (some false) = some true := by rw [if_neg (show ¬ (false = true) by decide)] at H; exact H
      clear H
      have H := H1
      clear H1
      exact absurd H (by simp)
    ·
     replace c17 := Bool.eq_false_iff.mpr c17
     subst c17
     have H1 : ((itv_Has.f a0_0 a0_1 t1167).bind fun t1178 => (if t1178 = true then ((itv_Has.f a1_0 a1_1 t1169).bind fun t1179 => (if t1179 = true then ((itv_Join.f a0_0 a0_1 a1_0 a1_1).bind fun bt1180 => ((itv_Has.f bt1180.1 bt1180.2 t1167).bind fun t1182 => (if t1182 = true then ((itv_Join.f a0_0 a0_1 a1_0 a1_1).bind fun bt1183 => ((itv_Has.f bt1183.1 bt1183.2 t1169).bind fun t1185 => (gimballaw02_ItvKeeps.j1 kj7 a4 t1167 t1169 (!t1185) a0_0 a0_1 a1_0 a1_1))) else (gimballaw02_ItvKeeps.j1 kj7 a4 t1167 t1169 true a0_0 a0_1 a1_0 a1_1)))) else (gimballaw02_ItvKeeps.j1 kj7 a4 t1167 t1169 true a0_0 a0_1 a1_0 a1_1))) else (gimballaw02_ItvKeeps.j1 kj7 a4 t1167 t1169 true a0_0 a0_1 a1_0 a1_1))) = some true := by rw [if_neg (show ¬ (false = true) by decide)] at H; exact H
     clear H
     have H := H1
     clear H1
     have HC35 := Aside0.mk H
     clear H
     go_upto_region 5 with (fail)
     go_cut [76] (fun v76 wc => ∃ (kq : Nat) (x76_34 : Bool), v76 = .bool x76_34 ∧ Aside0 (gimballaw02_ItvKeeps.j1 kq a4 t1167 t1169 x76_34 a0_0 a0_1 a1_0 a1_1 = some true) ∧ Aside0 (kq ≤ kj7) ∧ Aside0 (wc.heap[gb1165]? = some (.cells #[.int .i64 a0_0, .int .i64 a0_1] 23 (0, 0))) ∧ Aside0 (wc.heap[gb1166]? = some (.cells #[.int .i64 a1_0, .int .i64 a1_1] 23 (0, 0))) ∧ Aside0 (Below w.heap.size w wc))
     case first => as_aux_lemma =>
      have H := HC35.out
      clear HC35
      replace H := Option.bind_eq_some_iff.mp H
      obtain ⟨t1178, A360, H⟩ := H
      replace H : (if t1178 = true then ((itv_Has.f a1_0 a1_1 t1169).bind fun t1179 => (if t1179 = true then ((itv_Join.f a0_0 a0_1 a1_0 a1_1).bind fun bt1180 => ((itv_Has.f bt1180.1 bt1180.2 t1167).bind fun t1182 => (if t1182 = true then ((itv_Join.f a0_0 a0_1 a1_0 a1_1).bind fun bt1183 => ((itv_Has.f bt1183.1 bt1183.2 t1169).bind fun t1185 => (gimballaw02_ItvKeeps.j1 kj7 a4 t1167 t1169 (!t1185) a0_0 a0_1 a1_0 a1_1))) else (gimballaw02_ItvKeeps.j1 kj7 a4 t1167 t1169 true a0_0 a0_1 a1_0 a1_1)))) else (gimballaw02_ItvKeeps.j1 kj7 a4 t1167 t1169 true a0_0 a0_1 a1_0 a1_1))) else (gimballaw02_ItvKeeps.j1 kj7 a4 t1167 t1169 true a0_0 a0_1 a1_0 a1_1)) = some true := H
      have A36 := Aside0.mk A360
      clear A360
      by_cases c37 : t1178 = true
      ·
       subst c37
       have H1 : ((itv_Has.f a1_0 a1_1 t1169).bind fun t1179 => (if t1179 = true then ((itv_Join.f a0_0 a0_1 a1_0 a1_1).bind fun bt1180 => ((itv_Has.f bt1180.1 bt1180.2 t1167).bind fun t1182 => (if t1182 = true then ((itv_Join.f a0_0 a0_1 a1_0 a1_1).bind fun bt1183 => ((itv_Has.f bt1183.1 bt1183.2 t1169).bind fun t1185 => (gimballaw02_ItvKeeps.j1 kj7 a4 t1167 t1169 (!t1185) a0_0 a0_1 a1_0 a1_1))) else (gimballaw02_ItvKeeps.j1 kj7 a4 t1167 t1169 true a0_0 a0_1 a1_0 a1_1)))) else (gimballaw02_ItvKeeps.j1 kj7 a4 t1167 t1169 true a0_0 a0_1 a1_0 a1_1))) = some true := by rw [if_pos rfl] at H; exact H
       clear H
       have H := H1
       clear H1
       replace H := Option.bind_eq_some_iff.mp H
       obtain ⟨t1179, A380, H⟩ := H
       replace H : (if t1179 = true then ((itv_Join.f a0_0 a0_1 a1_0 a1_1).bind fun bt1180 => ((itv_Has.f bt1180.1 bt1180.2 t1167).bind fun t1182 => (if t1182 = true then ((itv_Join.f a0_0 a0_1 a1_0 a1_1).bind fun bt1183 => ((itv_Has.f bt1183.1 bt1183.2 t1169).bind fun t1185 => (gimballaw02_ItvKeeps.j1 kj7 a4 t1167 t1169 (!t1185) a0_0 a0_1 a1_0 a1_1))) else (gimballaw02_ItvKeeps.j1 kj7 a4 t1167 t1169 true a0_0 a0_1 a1_0 a1_1)))) else (gimballaw02_ItvKeeps.j1 kj7 a4 t1167 t1169 true a0_0 a0_1 a1_0 a1_1)) = some true := H
       have A38 := Aside0.mk A380
       clear A380
       by_cases c39 : t1179 = true
       ·
        subst c39
        have H1 : ((itv_Join.f a0_0 a0_1 a1_0 a1_1).bind fun bt1180 => ((itv_Has.f bt1180.1 bt1180.2 t1167).bind fun t1182 => (if t1182 = true then ((itv_Join.f a0_0 a0_1 a1_0 a1_1).bind fun bt1183 => ((itv_Has.f bt1183.1 bt1183.2 t1169).bind fun t1185 => (gimballaw02_ItvKeeps.j1 kj7 a4 t1167 t1169 (!t1185) a0_0 a0_1 a1_0 a1_1))) else (gimballaw02_ItvKeeps.j1 kj7 a4 t1167 t1169 true a0_0 a0_1 a1_0 a1_1)))) = some true := by rw [if_pos rfl] at H; exact H
        clear H
        have H := H1
        clear H1
        replace H := Option.bind_eq_some_iff.mp H
        obtain ⟨⟨t1180, t1181⟩, A400, H⟩ := H
        replace H : ((itv_Has.f t1180 t1181 t1167).bind fun t1182 => (if t1182 = true then ((itv_Join.f a0_0 a0_1 a1_0 a1_1).bind fun bt1183 => ((itv_Has.f bt1183.1 bt1183.2 t1169).bind fun t1185 => (gimballaw02_ItvKeeps.j1 kj7 a4 t1167 t1169 (!t1185) a0_0 a0_1 a1_0 a1_1))) else (gimballaw02_ItvKeeps.j1 kj7 a4 t1167 t1169 true a0_0 a0_1 a1_0 a1_1))) = some true := H
        have A40 := Aside0.mk A400
        clear A400
        replace H := Option.bind_eq_some_iff.mp H
        obtain ⟨t1182, A410, H⟩ := H
        replace H : (if t1182 = true then ((itv_Join.f a0_0 a0_1 a1_0 a1_1).bind fun bt1183 => ((itv_Has.f bt1183.1 bt1183.2 t1169).bind fun t1185 => (gimballaw02_ItvKeeps.j1 kj7 a4 t1167 t1169 (!t1185) a0_0 a0_1 a1_0 a1_1))) else (gimballaw02_ItvKeeps.j1 kj7 a4 t1167 t1169 true a0_0 a0_1 a1_0 a1_1)) = some true := H
        have A41 := Aside0.mk A410
        clear A410
        by_cases c42 : t1182 = true
        ·
         subst c42
         have H1 : ((itv_Join.f a0_0 a0_1 a1_0 a1_1).bind fun bt1183 => ((itv_Has.f bt1183.1 bt1183.2 t1169).bind fun t1185 => (gimballaw02_ItvKeeps.j1 kj7 a4 t1167 t1169 (!t1185) a0_0 a0_1 a1_0 a1_1))) = some true := by rw [if_pos rfl] at H; exact H
         clear H
         have H := H1
         clear H1
         replace H := Option.bind_eq_some_iff.mp H
         obtain ⟨⟨t1183, t1184⟩, A430, H⟩ := H
         replace H : ((itv_Has.f t1183 t1184 t1169).bind fun t1185 => (gimballaw02_ItvKeeps.j1 kj7 a4 t1167 t1169 (!t1185) a0_0 a0_1 a1_0 a1_1)) = some true := H
         have A43 := Aside0.mk A430
         clear A430
         replace H := Option.bind_eq_some_iff.mp H
         obtain ⟨t1185, A440, H⟩ := H
         replace H : (gimballaw02_ItvKeeps.j1 kj7 a4 t1167 t1169 (!t1185) a0_0 a0_1 a1_0 a1_1) = some true := H
         have A44 := Aside0.mk A440
         clear A440
         have H' := Aside0.mk H
         clear H
         have hnb45 := NB1165_1166.out
         have hnc45 := NB1166_1165.out
         have hcz46_0 := hcz BK1165 0
         have hcz46_1 := hcz BK1165 1
         have hfz46_0 := blk_frozen BK1165.out 0
         have hfz46_1 := blk_frozen BK1165.out 1
         obtain ⟨e0_, e1_⟩ : t1180 = t1183 ∧ t1181 = t1184 := by have h_ := A40.out.symm.trans A43.out; simpa only [Option.some.injEq, Prod.mk.injEq] using h_
         subst e0_; subst e1_
         go_wp2_with (first | ((with_reducible refine gate_callee (f := 22) rfl ?_); refine goesL_ (some 53) rfl rfl Try.func22 (by kernel_rfl) rfl #[.agg #[.int .i64 a0_0, .int .i64 a0_1], .int .i64 t1167] rfl (by (try simp only [List.map_toArray, List.map_cons, List.map_nil]); first | done | rfl | (simp only [List.length_drop, List.length_take]; rfl)) ?_; (with_reducible refine (itv_Has.calls a0_0 a0_1 t1167 true _ A36.out).mono ?_); rintro e w47 ⟨rfl, hb⟩; refine ⟨_, rfl, ?_⟩; have n0_ := bst HB hb; replace BK1165 := bbw BK1165 hb; replace BK1166 := bbw BK1166 hb; clear HB; have HB := n0_; clear n0_; (try clear hb); (try clear hb2); (try clear hk); (try clear hi); have hcz48_0 := hcz BK1166 0; have hcz48_1 := hcz BK1166 1; have hfz48_0 := blk_frozen BK1166.out 0; have hfz48_1 := blk_frozen BK1166.out 1) | (go_at_call 22; (with_reducible refine (itv_Has.calls a1_0 a1_1 t1169 true _ A38.out).mono ?_); rintro e w49 ⟨rfl, hb⟩; have n0_ := bst HB hb; replace BK1165 := bbw BK1165 hb; replace BK1166 := bbw BK1166 hb; clear HB; have HB := n0_; clear n0_; (try clear hb); (try clear hb2); (try clear hk); (try clear hi); have hcz50_0 := hcz BK1165 0; have hcz50_1 := hcz BK1165 1; have hfz50_0 := blk_frozen BK1165.out 0; have hfz50_1 := blk_frozen BK1165.out 1; have hcz51_0 := hcz BK1166 0; have hcz51_1 := hcz BK1166 1; have hfz51_0 := blk_frozen BK1166.out 0; have hfz51_1 := blk_frozen BK1166.out 1) | (go_at_call 26; (with_reducible refine (itv_Join.calls a0_0 a0_1 a1_0 a1_1 t1180 t1181 _ A40.out).mono ?_); rintro e w52 ⟨rfl, hb⟩; have n0_ := bst HB hb; replace BK1165 := bbw BK1165 hb; replace BK1166 := bbw BK1166 hb; clear HB; have HB := n0_; clear n0_; (try clear hb); (try clear hb2); (try clear hk); (try clear hi)) | (go_at_call 22; (with_reducible refine (itv_Has.calls t1180 t1181 t1167 true _ A41.out).mono ?_); rintro e w53 ⟨rfl, hb⟩; have n0_ := bst HB hb; replace BK1165 := bbw BK1165 hb; replace BK1166 := bbw BK1166 hb; clear HB; have HB := n0_; clear n0_; (try clear hb); (try clear hb2); (try clear hk); (try clear hi); have hcz54_0 := hcz BK1165 0; have hcz54_1 := hcz BK1165 1; have hfz54_0 := blk_frozen BK1165.out 0; have hfz54_1 := blk_frozen BK1165.out 1; have hcz55_0 := hcz BK1166 0; have hcz55_1 := hcz BK1166 1; have hfz55_0 := blk_frozen BK1166.out 0; have hfz55_1 := blk_frozen BK1166.out 1) | (go_at_call 26; (with_reducible refine (itv_Join.calls a0_0 a0_1 a1_0 a1_1 t1180 t1181 _ A43.out).mono ?_); rintro e w56 ⟨rfl, hb⟩; have n0_ := bst HB hb; replace BK1165 := bbw BK1165 hb; replace BK1166 := bbw BK1166 hb; clear HB; have HB := n0_; clear n0_; (try clear hb); (try clear hb2); (try clear hk); (try clear hi)) | (go_at_call 22; (with_reducible refine (itv_Has.calls t1180 t1181 t1169 t1185 _ A44.out).mono ?_); rintro e w57 ⟨rfl, hb⟩; have n0_ := bst HB hb; replace BK1165 := bbw BK1165 hb; replace BK1166 := bbw BK1166 hb; clear HB; have HB := n0_; clear n0_; (try clear hb); (try clear hb2); (try clear hk); (try clear hi)))
         go_meet
         case rel => exact ⟨_, (!t1185), (by first | rfl | (simp; done) | (simp [*]; done)), H', ⟨by have := HJ7.out; first | omega | exact Nat.le_refl _⟩, pkA BK1165, pkA BK1166, bpk HB⟩
        ·
         replace c42 := Bool.eq_false_iff.mpr c42
         subst c42
         have H1 : (gimballaw02_ItvKeeps.j1 kj7 a4 t1167 t1169 true a0_0 a0_1 a1_0 a1_1) = some true := by rw [if_neg (show ¬ (false = true) by decide)] at H; exact H
         clear H
         have H := H1
         clear H1
         have H' := Aside0.mk H
         clear H
         have hnb58 := NB1165_1166.out
         have hnc58 := NB1166_1165.out
         have hcz59_0 := hcz BK1165 0
         have hcz59_1 := hcz BK1165 1
         have hfz59_0 := blk_frozen BK1165.out 0
         have hfz59_1 := blk_frozen BK1165.out 1
         go_wp2_with (first | ((with_reducible refine gate_callee (f := 22) rfl ?_); refine goesL_ (some 53) rfl rfl Try.func22 (by kernel_rfl) rfl #[.agg #[.int .i64 a0_0, .int .i64 a0_1], .int .i64 t1167] rfl (by (try simp only [List.map_toArray, List.map_cons, List.map_nil]); first | done | rfl | (simp only [List.length_drop, List.length_take]; rfl)) ?_; (with_reducible refine (itv_Has.calls a0_0 a0_1 t1167 true _ A36.out).mono ?_); rintro e w60 ⟨rfl, hb⟩; refine ⟨_, rfl, ?_⟩; have n0_ := bst HB hb; replace BK1165 := bbw BK1165 hb; replace BK1166 := bbw BK1166 hb; clear HB; have HB := n0_; clear n0_; (try clear hb); (try clear hb2); (try clear hk); (try clear hi); have hcz61_0 := hcz BK1166 0; have hcz61_1 := hcz BK1166 1; have hfz61_0 := blk_frozen BK1166.out 0; have hfz61_1 := blk_frozen BK1166.out 1) | (go_at_call 22; (with_reducible refine (itv_Has.calls a1_0 a1_1 t1169 true _ A38.out).mono ?_); rintro e w62 ⟨rfl, hb⟩; have n0_ := bst HB hb; replace BK1165 := bbw BK1165 hb; replace BK1166 := bbw BK1166 hb; clear HB; have HB := n0_; clear n0_; (try clear hb); (try clear hb2); (try clear hk); (try clear hi); have hcz63_0 := hcz BK1165 0; have hcz63_1 := hcz BK1165 1; have hfz63_0 := blk_frozen BK1165.out 0; have hfz63_1 := blk_frozen BK1165.out 1; have hcz64_0 := hcz BK1166 0; have hcz64_1 := hcz BK1166 1; have hfz64_0 := blk_frozen BK1166.out 0; have hfz64_1 := blk_frozen BK1166.out 1) | (go_at_call 26; (with_reducible refine (itv_Join.calls a0_0 a0_1 a1_0 a1_1 t1180 t1181 _ A40.out).mono ?_); rintro e w65 ⟨rfl, hb⟩; have n0_ := bst HB hb; replace BK1165 := bbw BK1165 hb; replace BK1166 := bbw BK1166 hb; clear HB; have HB := n0_; clear n0_; (try clear hb); (try clear hb2); (try clear hk); (try clear hi)) | (go_at_call 22; (with_reducible refine (itv_Has.calls t1180 t1181 t1167 false _ A41.out).mono ?_); rintro e w66 ⟨rfl, hb⟩; have n0_ := bst HB hb; replace BK1165 := bbw BK1165 hb; replace BK1166 := bbw BK1166 hb; clear HB; have HB := n0_; clear n0_; (try clear hb); (try clear hb2); (try clear hk); (try clear hi)))
         go_meet
         case rel => exact ⟨_, (true), (by first | rfl | (simp; done) | (simp [*]; done)), H', ⟨by have := HJ7.out; first | omega | exact Nat.le_refl _⟩, pkA BK1165, pkA BK1166, bpk HB⟩
       ·
        replace c39 := Bool.eq_false_iff.mpr c39
        subst c39
        have H1 : (gimballaw02_ItvKeeps.j1 kj7 a4 t1167 t1169 true a0_0 a0_1 a1_0 a1_1) = some true := by rw [if_neg (show ¬ (false = true) by decide)] at H; exact H
        clear H
        have H := H1
        clear H1
        have H' := Aside0.mk H
        clear H
        have hnb67 := NB1165_1166.out
        have hnc67 := NB1166_1165.out
        have hcz68_0 := hcz BK1165 0
        have hcz68_1 := hcz BK1165 1
        have hfz68_0 := blk_frozen BK1165.out 0
        have hfz68_1 := blk_frozen BK1165.out 1
        go_wp2_with (first | ((with_reducible refine gate_callee (f := 22) rfl ?_); refine goesL_ (some 53) rfl rfl Try.func22 (by kernel_rfl) rfl #[.agg #[.int .i64 a0_0, .int .i64 a0_1], .int .i64 t1167] rfl (by (try simp only [List.map_toArray, List.map_cons, List.map_nil]); first | done | rfl | (simp only [List.length_drop, List.length_take]; rfl)) ?_; (with_reducible refine (itv_Has.calls a0_0 a0_1 t1167 true _ A36.out).mono ?_); rintro e w69 ⟨rfl, hb⟩; refine ⟨_, rfl, ?_⟩; have n0_ := bst HB hb; replace BK1165 := bbw BK1165 hb; replace BK1166 := bbw BK1166 hb; clear HB; have HB := n0_; clear n0_; (try clear hb); (try clear hb2); (try clear hk); (try clear hi); have hcz70_0 := hcz BK1166 0; have hcz70_1 := hcz BK1166 1; have hfz70_0 := blk_frozen BK1166.out 0; have hfz70_1 := blk_frozen BK1166.out 1) | (go_at_call 22; (with_reducible refine (itv_Has.calls a1_0 a1_1 t1169 false _ A38.out).mono ?_); rintro e w71 ⟨rfl, hb⟩; have n0_ := bst HB hb; replace BK1165 := bbw BK1165 hb; replace BK1166 := bbw BK1166 hb; clear HB; have HB := n0_; clear n0_; (try clear hb); (try clear hb2); (try clear hk); (try clear hi)))
        go_meet
        case rel => exact ⟨_, (true), (by first | rfl | (simp; done) | (simp [*]; done)), H', ⟨by have := HJ7.out; first | omega | exact Nat.le_refl _⟩, pkA BK1165, pkA BK1166, bpk HB⟩
      ·
       replace c37 := Bool.eq_false_iff.mpr c37
       subst c37
       have H1 : (gimballaw02_ItvKeeps.j1 kj7 a4 t1167 t1169 true a0_0 a0_1 a1_0 a1_1) = some true := by rw [if_neg (show ¬ (false = true) by decide)] at H; exact H
       clear H
       have H := H1
       clear H1
       have H' := Aside0.mk H
       clear H
       have hnb72 := NB1165_1166.out
       have hnc72 := NB1166_1165.out
       have hcz73_0 := hcz BK1165 0
       have hcz73_1 := hcz BK1165 1
       have hfz73_0 := blk_frozen BK1165.out 0
       have hfz73_1 := blk_frozen BK1165.out 1
       go_wp2_with (first | ((with_reducible refine gate_callee (f := 22) rfl ?_); refine goesL_ (some 53) rfl rfl Try.func22 (by kernel_rfl) rfl #[.agg #[.int .i64 a0_0, .int .i64 a0_1], .int .i64 t1167] rfl (by (try simp only [List.map_toArray, List.map_cons, List.map_nil]); first | done | rfl | (simp only [List.length_drop, List.length_take]; rfl)) ?_; (with_reducible refine (itv_Has.calls a0_0 a0_1 t1167 false _ A36.out).mono ?_); rintro e w74 ⟨rfl, hb⟩; refine ⟨_, rfl, ?_⟩; have n0_ := bst HB hb; replace BK1165 := bbw BK1165 hb; replace BK1166 := bbw BK1166 hb; clear HB; have HB := n0_; clear n0_; (try clear hb); (try clear hb2); (try clear hk); (try clear hi)))
       go_meet
       case rel => exact ⟨_, (true), (by first | rfl | (simp; done) | (simp [*]; done)), H', ⟨by have := HJ7.out; first | omega | exact Nat.le_refl _⟩, pkA BK1165, pkA BK1166, bpk HB⟩
     case rest => as_aux_lemma =>
      clear HC35
      try clear c1
      try clear c2
      try clear p2
      try clear c3
      try clear c4
      try clear c5
      try clear c6
      try clear c7
      try clear c11
      try clear c16
      try clear c17
      try clear c20
      try clear c21
      try clear c22
      try clear c23
      try clear c25
      try clear c37
      try clear c39
      try clear c40
      try clear c42
      try clear c45
      try clear c58
      try clear c67
      try clear c72
      try clear hcz12_0
      try clear hcz12_1
      try clear hcz14_0
      try clear hcz14_1
      try clear hcz26_0
      try clear hcz26_1
      try clear hcz27_0
      try clear hcz27_1
      try clear hcz30_0
      try clear hcz30_1
      try clear hcz31_0
      try clear hcz31_1
      try clear hcz46_0
      try clear hcz46_1
      try clear hcz48_0
      try clear hcz48_1
      try clear hcz50_0
      try clear hcz50_1
      try clear hcz51_0
      try clear hcz51_1
      try clear hcz54_0
      try clear hcz54_1
      try clear hcz55_0
      try clear hcz55_1
      try clear hcz59_0
      try clear hcz59_1
      try clear hcz61_0
      try clear hcz61_1
      try clear hcz63_0
      try clear hcz63_1
      try clear hcz64_0
      try clear hcz64_1
      try clear hcz68_0
      try clear hcz68_1
      try clear hcz70_0
      try clear hcz70_1
      try clear hcz73_0
      try clear hcz73_1
      try clear hfz12_0
      try clear hfz12_1
      try clear hfz14_0
      try clear hfz14_1
      try clear hfz26_0
      try clear hfz26_1
      try clear hfz27_0
      try clear hfz27_1
      try clear hfz30_0
      try clear hfz30_1
      try clear hfz31_0
      try clear hfz31_1
      try clear hfz46_0
      try clear hfz46_1
      try clear hfz48_0
      try clear hfz48_1
      try clear hfz50_0
      try clear hfz50_1
      try clear hfz51_0
      try clear hfz51_1
      try clear hfz54_0
      try clear hfz54_1
      try clear hfz55_0
      try clear hfz55_1
      try clear hfz59_0
      try clear hfz59_1
      try clear hfz61_0
      try clear hfz61_1
      try clear hfz63_0
      try clear hfz63_1
      try clear hfz64_0
      try clear hfz64_1
      try clear hfz68_0
      try clear hfz68_1
      try clear hfz70_0
      try clear hfz70_1
      try clear hfz73_0
      try clear hfz73_1
      try clear p2
      obtain ⟨kq, x76_34, rfl, HA, HJ34, BK1165, BK1166, HB⟩ := hcut
      cases kq with
      | zero => exact absurd HA.out (by simp [gimballaw02_ItvKeeps.j1])
      | succ kj34 =>
       have H := HA.out
       clear HA
       simp only [gimballaw02_ItvKeeps.j1] at H
       by_cases c75 : x76_34 = true
       ·
        subst c75
        have H1 : (some false) = some true := by rw [if_pos rfl] at H; exact H
        clear H
        have H := H1
        clear H1
        exact absurd H (by simp)
       ·
        replace c75 := Bool.eq_false_iff.mpr c75
        subst c75
        have H1 : ((gimballaw02_size.f t1167).bind fun t1186 => (if t1186 > 2147483648 then (gimballaw02_ItvKeeps.j2 kj34 a4 t1167 t1169 true a0_0 a0_1 a1_0 a1_1) else ((gimballaw02_size.f t1169).bind fun t1187 => (gimballaw02_ItvKeeps.j2 kj34 a4 t1167 t1169 (decide (t1187 > 2147483648)) a0_0 a0_1 a1_0 a1_1)))) = some true := by rw [if_neg (show ¬ (false = true) by decide)] at H; exact H
        clear H
        have H := H1
        clear H1
        have HC76 := Aside0.mk H
        clear H
        go_upto_region 7 with (fail)
        go_cut [84] (fun v84 wc => ∃ (kq : Nat) (x84_75 : Bool), v84 = .bool x84_75 ∧ Aside0 (gimballaw02_ItvKeeps.j2 kq a4 t1167 t1169 x84_75 a0_0 a0_1 a1_0 a1_1 = some true) ∧ Aside0 (kq ≤ kj34) ∧ Aside0 (wc.heap[gb1165]? = some (.cells #[.int .i64 a0_0, .int .i64 a0_1] 23 (0, 0))) ∧ Aside0 (wc.heap[gb1166]? = some (.cells #[.int .i64 a1_0, .int .i64 a1_1] 23 (0, 0))) ∧ Aside0 (Below w.heap.size w wc))
        case first => as_aux_lemma =>
         have H := HC76.out
         clear HC76
         replace H := Option.bind_eq_some_iff.mp H
         obtain ⟨t1186, A770, H⟩ := H
         replace H : (if t1186 > 2147483648 then (gimballaw02_ItvKeeps.j2 kj34 a4 t1167 t1169 true a0_0 a0_1 a1_0 a1_1) else ((gimballaw02_size.f t1169).bind fun t1187 => (gimballaw02_ItvKeeps.j2 kj34 a4 t1167 t1169 (decide (t1187 > 2147483648)) a0_0 a0_1 a1_0 a1_1))) = some true := H
         have A77 := Aside0.mk A770
         clear A770
         by_cases c78 : t1186 > 2147483648
         ·
          rw [if_pos c78] at H
          have c78b0 : decide (2147483648 < t1186) = true := decide_eq_true c78
          clear c78
          (first | rw [c78b0] | (simp only [i64_w, i32_w]; rw [c78b0]) | skip)
          have H' := Aside0.mk H
          clear H
          go_wp2_with (first | ((with_reducible refine gate_callee (f := 39) rfl ?_); refine goesL_ (some 78) rfl rfl Try.func39 (by kernel_rfl) rfl #[.int .i64 t1167] rfl (by (try simp only [List.map_toArray, List.map_cons, List.map_nil]); first | done | rfl | (simp only [List.length_drop, List.length_take]; rfl)) ?_; (with_reducible refine (gimballaw02_size.calls t1167 t1186 _ A77.out).mono ?_); rintro e w' ⟨rfl, ⟨nd, rfl⟩⟩; refine ⟨_, rfl, ?_⟩))
          go_meet
          case rel => exact ⟨_, (true), (by first | rfl | (simp; done) | (simp [*]; done)), H', ⟨by have := HJ7.out; have := HJ34.out; first | omega | exact Nat.le_refl _⟩, pkA BK1165, pkA BK1166, bpk HB⟩
         ·
          rw [if_neg c78] at H
          have c78b0 : decide (2147483648 < t1186) = false := decide_eq_false c78
          clear c78
          (first | rw [c78b0] | (simp only [i64_w, i32_w]; rw [c78b0]) | skip)
          replace H := Option.bind_eq_some_iff.mp H
          obtain ⟨t1187, A790, H⟩ := H
          replace H : (gimballaw02_ItvKeeps.j2 kj34 a4 t1167 t1169 (decide (t1187 > 2147483648)) a0_0 a0_1 a1_0 a1_1) = some true := H
          have A79 := Aside0.mk A790
          clear A790
          have H' := Aside0.mk H
          clear H
          go_wp2_with (first | ((with_reducible refine gate_callee (f := 39) rfl ?_); refine goesL_ (some 78) rfl rfl Try.func39 (by kernel_rfl) rfl #[.int .i64 t1167] rfl (by (try simp only [List.map_toArray, List.map_cons, List.map_nil]); first | done | rfl | (simp only [List.length_drop, List.length_take]; rfl)) ?_; (with_reducible refine (gimballaw02_size.calls t1167 t1186 _ A77.out).mono ?_); rintro e w' ⟨rfl, ⟨nd, rfl⟩⟩; refine ⟨_, rfl, ?_⟩) | (go_at_call 39; (with_reducible refine (gimballaw02_size.calls t1169 t1187 _ A79.out).mono ?_); rintro e w' ⟨rfl, ⟨nd, rfl⟩⟩))
          go_meet
          case rel => exact ⟨_, (decide (t1187 > 2147483648)), (by first | rfl | (simp; done) | (simp [*]; done)), H', ⟨by have := HJ7.out; have := HJ34.out; first | omega | exact Nat.le_refl _⟩, pkA BK1165, pkA BK1166, bpk HB⟩
        case rest => as_aux_lemma =>
         clear HC76
         try clear c1
         try clear c2
         try clear p2
         try clear c3
         try clear c4
         try clear c5
         try clear c6
         try clear c7
         try clear c11
         try clear c16
         try clear c17
         try clear c20
         try clear c21
         try clear c22
         try clear c23
         try clear c25
         try clear c37
         try clear c39
         try clear c40
         try clear c42
         try clear c45
         try clear c58
         try clear c67
         try clear c72
         try clear c75
         try clear c78
         try clear c78b0
         try clear hcz12_0
         try clear hcz12_1
         try clear hcz14_0
         try clear hcz14_1
         try clear hcz26_0
         try clear hcz26_1
         try clear hcz27_0
         try clear hcz27_1
         try clear hcz30_0
         try clear hcz30_1
         try clear hcz31_0
         try clear hcz31_1
         try clear hcz46_0
         try clear hcz46_1
         try clear hcz48_0
         try clear hcz48_1
         try clear hcz50_0
         try clear hcz50_1
         try clear hcz51_0
         try clear hcz51_1
         try clear hcz54_0
         try clear hcz54_1
         try clear hcz55_0
         try clear hcz55_1
         try clear hcz59_0
         try clear hcz59_1
         try clear hcz61_0
         try clear hcz61_1
         try clear hcz63_0
         try clear hcz63_1
         try clear hcz64_0
         try clear hcz64_1
         try clear hcz68_0
         try clear hcz68_1
         try clear hcz70_0
         try clear hcz70_1
         try clear hcz73_0
         try clear hcz73_1
         try clear hfz12_0
         try clear hfz12_1
         try clear hfz14_0
         try clear hfz14_1
         try clear hfz26_0
         try clear hfz26_1
         try clear hfz27_0
         try clear hfz27_1
         try clear hfz30_0
         try clear hfz30_1
         try clear hfz31_0
         try clear hfz31_1
         try clear hfz46_0
         try clear hfz46_1
         try clear hfz48_0
         try clear hfz48_1
         try clear hfz50_0
         try clear hfz50_1
         try clear hfz51_0
         try clear hfz51_1
         try clear hfz54_0
         try clear hfz54_1
         try clear hfz55_0
         try clear hfz55_1
         try clear hfz59_0
         try clear hfz59_1
         try clear hfz61_0
         try clear hfz61_1
         try clear hfz63_0
         try clear hfz63_1
         try clear hfz64_0
         try clear hfz64_1
         try clear hfz68_0
         try clear hfz68_1
         try clear hfz70_0
         try clear hfz70_1
         try clear hfz73_0
         try clear hfz73_1
         try clear p2
         obtain ⟨kq, x84_75, rfl, HA, HJ75, BK1165, BK1166, HB⟩ := hcut
         cases kq with
         | zero => exact absurd HA.out (by simp [gimballaw02_ItvKeeps.j2])
         | succ kj75 =>
          have H := HA.out
          clear HA
          simp only [gimballaw02_ItvKeeps.j2] at H
          by_cases c80 : x84_75 = true
          ·
           subst c80
           have H1 : ((gimballaw02_awake.f kj75).bind fun t1188 => (some t1188)) = some true := by rw [if_pos rfl] at H; exact H
           clear H
           have H := H1
           clear H1
           replace H := Option.bind_eq_some_iff.mp H
           obtain ⟨t1188, A810, H⟩ := H
           replace H : (some t1188) = some true := H
           have A81 := Aside0.mk A810
           clear A810
           have hret_ := Option.some.inj H
           clear H
           go_wp2_with (first | ((with_reducible refine gate_callee (f := 36) rfl ?_); refine goesL_ (some 85) rfl rfl Try.func36 (by kernel_rfl) rfl #[] rfl (by (try simp only [List.map_toArray, List.map_cons, List.map_nil]); first | done | rfl | (simp only [List.length_drop, List.length_take]; rfl)) ?_; (with_reducible refine (gimballaw02_awake.calls kj75  t1188 _ A81.out).mono ?_); rintro e w82 ⟨rfl, hb⟩; refine ⟨_, rfl, ?_⟩; have n0_ := bst HB hb; replace BK1165 := bbw BK1165 hb; replace BK1166 := bbw BK1166 hb; clear HB; have HB := n0_; clear n0_; (try clear hb); (try clear hb2); (try clear hk); (try clear hi)))
           go_ret
           exact ⟨by first | rfl | (simp [errW_none, errW_some] <;> rfl) | (simp [*, errW_none, errW_some] <;> rfl) | kernel_rfl, by repeat (first | (with_reducible first | exact HB.out | apply below_alloc | apply pw_below_drewN | apply below_drew1 | refine below_set ?_ GE1165.out | refine below_set ?_ GE1166.out) | exact HB.out)⟩
          ·
           replace c80 := Bool.eq_false_iff.mpr c80
           subst c80
           have H1 : ((itv_Test.f kj75 (wrap64 (14 + (wrap64 (Int.tmod (IntKind.u64.wrap (a4)) 6)))) a0_0 a0_1 a1_0 a1_1).bind fun bt1189 => ((itv_Holds.f kj75 (wrap64 (14 + (wrap64 (Int.tmod (IntKind.u64.wrap (a4)) 6)))) a0_0 a0_1 a1_0 a1_1).bind fun bt1195 => ((gimballaw02_holds.f (wrap64 (14 + (wrap64 (Int.tmod (IntKind.u64.wrap (a4)) 6)))) t1167 t1169).bind fun t1197 => (if t1197 = true then ((itv_Has.f bt1189.1 bt1189.2.1 t1167).bind fun t1198 => (if t1198 = true then ((itv_Has.f bt1189.2.2.1 bt1189.2.2.2 t1169).bind fun t1199 => (if t1199 = true then (if bt1195.1 = true then ((gimballaw02_holds.f (wrap64 (14 + (wrap64 (Int.tmod (IntKind.u64.wrap (a4)) 6)))) t1167 t1169).bind fun t1200 => (if t1200 = true then (gimballaw02_ItvKeeps.j3 kj75 t1167 t1169 false a0_0 a0_1 a1_0 a1_1) else (gimballaw02_ItvKeeps.j3 kj75 t1167 t1169 (!bt1195.2) a0_0 a0_1 a1_0 a1_1))) else (gimballaw02_ItvKeeps.j3 kj75 t1167 t1169 true a0_0 a0_1 a1_0 a1_1)) else (gimballaw02_ItvKeeps.j3 kj75 t1167 t1169 true a0_0 a0_1 a1_0 a1_1))) else (gimballaw02_ItvKeeps.j3 kj75 t1167 t1169 true a0_0 a0_1 a1_0 a1_1))) else ((gimballaw02_holds.f (wrap64 (14 + (wrap64 (Int.tmod (IntKind.u64.wrap (a4)) 6)))) t1167 t1169).bind fun t1201 => (if t1201 = true then (gimballaw02_ItvKeeps.j3 kj75 t1167 t1169 false a0_0 a0_1 a1_0 a1_1) else (gimballaw02_ItvKeeps.j3 kj75 t1167 t1169 (!bt1195.2) a0_0 a0_1 a1_0 a1_1))))))) = some true := by rw [if_neg (show ¬ (false = true) by decide)] at H; exact H
           clear H
           have H := H1
           clear H1
           replace H := Option.bind_eq_some_iff.mp H
           obtain ⟨⟨t1189, t1190, t1191, t1192⟩, A830, H⟩ := H
           replace H : ((itv_Holds.f kj75 (wrap64 (14 + (wrap64 (Int.tmod (IntKind.u64.wrap (a4)) 6)))) a0_0 a0_1 a1_0 a1_1).bind fun bt1195 => ((gimballaw02_holds.f (wrap64 (14 + (wrap64 (Int.tmod (IntKind.u64.wrap (a4)) 6)))) t1167 t1169).bind fun t1197 => (if t1197 = true then ((itv_Has.f t1189 t1190 t1167).bind fun t1198 => (if t1198 = true then ((itv_Has.f t1191 t1192 t1169).bind fun t1199 => (if t1199 = true then (if bt1195.1 = true then ((gimballaw02_holds.f (wrap64 (14 + (wrap64 (Int.tmod (IntKind.u64.wrap (a4)) 6)))) t1167 t1169).bind fun t1200 => (if t1200 = true then (gimballaw02_ItvKeeps.j3 kj75 t1167 t1169 false a0_0 a0_1 a1_0 a1_1) else (gimballaw02_ItvKeeps.j3 kj75 t1167 t1169 (!bt1195.2) a0_0 a0_1 a1_0 a1_1))) else (gimballaw02_ItvKeeps.j3 kj75 t1167 t1169 true a0_0 a0_1 a1_0 a1_1)) else (gimballaw02_ItvKeeps.j3 kj75 t1167 t1169 true a0_0 a0_1 a1_0 a1_1))) else (gimballaw02_ItvKeeps.j3 kj75 t1167 t1169 true a0_0 a0_1 a1_0 a1_1))) else ((gimballaw02_holds.f (wrap64 (14 + (wrap64 (Int.tmod (IntKind.u64.wrap (a4)) 6)))) t1167 t1169).bind fun t1201 => (if t1201 = true then (gimballaw02_ItvKeeps.j3 kj75 t1167 t1169 false a0_0 a0_1 a1_0 a1_1) else (gimballaw02_ItvKeeps.j3 kj75 t1167 t1169 (!bt1195.2) a0_0 a0_1 a1_0 a1_1)))))) = some true := H
           have A83 := Aside0.mk A830
           clear A830
           replace H := Option.bind_eq_some_iff.mp H
           obtain ⟨⟨t1195, t1196⟩, A840, H⟩ := H
           replace H : ((gimballaw02_holds.f (wrap64 (14 + (wrap64 (Int.tmod (IntKind.u64.wrap (a4)) 6)))) t1167 t1169).bind fun t1197 => (if t1197 = true then ((itv_Has.f t1189 t1190 t1167).bind fun t1198 => (if t1198 = true then ((itv_Has.f t1191 t1192 t1169).bind fun t1199 => (if t1199 = true then (if t1195 = true then ((gimballaw02_holds.f (wrap64 (14 + (wrap64 (Int.tmod (IntKind.u64.wrap (a4)) 6)))) t1167 t1169).bind fun t1200 => (if t1200 = true then (gimballaw02_ItvKeeps.j3 kj75 t1167 t1169 false a0_0 a0_1 a1_0 a1_1) else (gimballaw02_ItvKeeps.j3 kj75 t1167 t1169 (!t1196) a0_0 a0_1 a1_0 a1_1))) else (gimballaw02_ItvKeeps.j3 kj75 t1167 t1169 true a0_0 a0_1 a1_0 a1_1)) else (gimballaw02_ItvKeeps.j3 kj75 t1167 t1169 true a0_0 a0_1 a1_0 a1_1))) else (gimballaw02_ItvKeeps.j3 kj75 t1167 t1169 true a0_0 a0_1 a1_0 a1_1))) else ((gimballaw02_holds.f (wrap64 (14 + (wrap64 (Int.tmod (IntKind.u64.wrap (a4)) 6)))) t1167 t1169).bind fun t1201 => (if t1201 = true then (gimballaw02_ItvKeeps.j3 kj75 t1167 t1169 false a0_0 a0_1 a1_0 a1_1) else (gimballaw02_ItvKeeps.j3 kj75 t1167 t1169 (!t1196) a0_0 a0_1 a1_0 a1_1))))) = some true := H
           have A84 := Aside0.mk A840
           clear A840
           have HC85 := Aside0.mk H
           clear H
           have hnb86 := NB1165_1166.out
           have hnc86 := NB1166_1165.out
           have hcz87_0 := hcz BK1165 0
           have hcz87_1 := hcz BK1165 1
           have hfz87_0 := blk_frozen BK1165.out 0
           have hfz87_1 := blk_frozen BK1165.out 1
           have hcz88_0 := hcz BK1166 0
           have hcz88_1 := hcz BK1166 1
           have hfz88_0 := blk_frozen BK1166.out 0
           have hfz88_1 := blk_frozen BK1166.out 1
           go_upto_region 12 with (first | ((with_reducible refine gate_callee (f := 33) rfl ?_); refine goesL_ (some 95) rfl rfl Try.func33 (by kernel_rfl) rfl #[.int .i64 (wrap64 (14 + (wrap64 (Int.tmod (IntKind.u64.wrap (a4)) 6)))), .agg #[.int .i64 a0_0, .int .i64 a0_1], .agg #[.int .i64 a1_0, .int .i64 a1_1]] rfl (by (try simp only [List.map_toArray, List.map_cons, List.map_nil]); first | done | rfl | (simp only [List.length_drop, List.length_take]; rfl)) ?_; (with_reducible refine (itv_Test.calls kj75 (wrap64 (14 + (wrap64 (Int.tmod (IntKind.u64.wrap (a4)) 6)))) a0_0 a0_1 a1_0 a1_1 t1189 t1190 t1191 t1192 _ A83.out).mono ?_); rintro e w89 ⟨rfl, hb⟩; refine ⟨_, rfl, ?_⟩; have n0_ := bst HB hb; replace BK1165 := bbw BK1165 hb; replace BK1166 := bbw BK1166 hb; clear HB; have HB := n0_; clear n0_; (try clear hb); (try clear hb2); (try clear hk); (try clear hi)) | ((with_reducible refine gate_dst (N := 16) rfl ?_); refine box_event ?hg (N := 16) ?hd (cs := #[.int .i64 0, .int .i64 0]) (t := 23) ?hr ?_; (case hd => rfl); (case hg => rfl); (case hr => first | (go_simp; done) | (go_simp; rfl)); intro gb1193 hg w90 hbox hb; have n0_ := bst HB hb; have n1_ := Aside0.mk (hbox); have n2_ := bsz HB hg; have n3_ := bsz HB hg; have n4_ := bn1 BK1165 hg; have n5_ := bn2 BK1165 hg; have n6_ := bn1 BK1166 hg; have n7_ := bn2 BK1166 hg; replace BK1165 := bbw BK1165 hb; replace BK1166 := bbw BK1166 hb; clear HB; have HB := n0_; have BK1193 := n1_; have GW1193 := n2_; have GE1193 := n3_; have NB1165_1193 := n4_; have NB1193_1165 := n5_; have NB1166_1193 := n6_; have NB1193_1166 := n7_; clear n0_ n1_ n2_ n3_ n4_ n5_ n6_ n7_; clear hb hbox hg) | ((with_reducible refine gate_dst (N := 17) rfl ?_); refine box_event ?hg (N := 17) ?hd (cs := #[.int .i64 0, .int .i64 0]) (t := 23) ?hr ?_; (case hd => rfl); (case hg => rfl); (case hr => first | (go_simp; done) | (go_simp; rfl)); intro gb1194 hg w91 hbox hb; have n0_ := bst HB hb; have n1_ := Aside0.mk (hbox); have n2_ := bsz HB hg; have n3_ := bsz HB hg; have n4_ := bn1 BK1165 hg; have n5_ := bn2 BK1165 hg; have n6_ := bn1 BK1166 hg; have n7_ := bn2 BK1166 hg; have n8_ := bn1 BK1193 hg; have n9_ := bn2 BK1193 hg; replace BK1165 := bbw BK1165 hb; replace BK1166 := bbw BK1166 hb; replace BK1193 := bbw BK1193 hb; clear HB; have HB := n0_; have BK1194 := n1_; have GW1194 := n2_; have GE1194 := n3_; have NB1165_1194 := n4_; have NB1194_1165 := n5_; have NB1166_1194 := n6_; have NB1194_1166 := n7_; have NB1193_1194 := n8_; have NB1194_1193 := n9_; clear n0_ n1_ n2_ n3_ n4_ n5_ n6_ n7_ n8_ n9_; clear hb hbox hg; have hnb92 := NB1193_1165.out; have hnc92 := NB1165_1193.out; have hnb93 := NB1193_1166.out; have hnc93 := NB1166_1193.out; have hnb94 := NB1193_1194.out; have hnc94 := NB1194_1193.out; have hcz95_0 := hcz BK1193 0; have hcz95_1 := hcz BK1193 1; have hfz95_0 := blk_frozen BK1193.out 0; have hfz95_1 := blk_frozen BK1193.out 1; have hnb96 := NB1194_1165.out; have hnc96 := NB1165_1194.out; have hnb97 := NB1194_1166.out; have hnc97 := NB1166_1194.out; have hcz98_0 := hcz BK1194 0; have hcz98_1 := hcz BK1194 1; have hfz98_0 := blk_frozen BK1194.out 0; have hfz98_1 := blk_frozen BK1194.out 1; have hcz99_0 := hcz BK1165 0; have hcz99_1 := hcz BK1165 1; have hfz99_0 := blk_frozen BK1165.out 0; have hfz99_1 := blk_frozen BK1165.out 1; have hcz100_0 := hcz BK1166 0; have hcz100_1 := hcz BK1166 1; have hfz100_0 := blk_frozen BK1166.out 0; have hfz100_1 := blk_frozen BK1166.out 1) | ((with_reducible refine gate_callee (f := 34) rfl ?_); refine goesL_ (some 102) rfl rfl Try.func34 (by kernel_rfl) rfl #[.int .i64 (wrap64 (14 + (wrap64 (Int.tmod (IntKind.u64.wrap (a4)) 6)))), .agg #[.int .i64 a0_0, .int .i64 a0_1], .agg #[.int .i64 a1_0, .int .i64 a1_1]] rfl (by (try simp only [List.map_toArray, List.map_cons, List.map_nil]); first | done | rfl | (simp only [List.length_drop, List.length_take]; rfl)) ?_; (with_reducible refine (itv_Holds.calls kj75 (wrap64 (14 + (wrap64 (Int.tmod (IntKind.u64.wrap (a4)) 6)))) a0_0 a0_1 a1_0 a1_1 t1195 t1196 _ A84.out).mono ?_); rintro e w101 ⟨rfl, hb⟩; refine ⟨_, rfl, ?_⟩; have n0_ := Aside0.mk (blk_below (g := gb1165) (o := .cells #[.int .i64 a0_0, .int .i64 a0_1] 23 (0, 0)) (by refine pkB ?_; refine blk_far ?_ NB1165_1194.out _; refine pkB ?_; refine blk_far ?_ NB1165_1194.out _; refine pkB ?_; refine blk_far ?_ NB1165_1193.out _; refine pkB ?_; refine blk_far ?_ NB1165_1193.out _; refine pkB ?_; exact BK1165.out) hb); have n1_ := Aside0.mk (blk_below (g := gb1166) (o := .cells #[.int .i64 a1_0, .int .i64 a1_1] 23 (0, 0)) (by refine pkB ?_; refine blk_far ?_ NB1166_1194.out _; refine pkB ?_; refine blk_far ?_ NB1166_1194.out _; refine pkB ?_; refine blk_far ?_ NB1166_1193.out _; refine pkB ?_; refine blk_far ?_ NB1166_1193.out _; refine pkB ?_; exact BK1166.out) hb); have n2_ := Aside0.mk (blk_below (g := gb1193) (o := .cells #[.int .i64 t1189, .int .i64 t1190] 23 (0, 0)) (by refine pkB ?_; refine blk_far ?_ NB1193_1194.out _; refine pkB ?_; refine blk_far ?_ NB1193_1194.out _; refine pkB ?_; refine blk_put (cs := #[.int .i64 t1189, .int .i64 0]) ?_ 1 _ (by first | rfl | (subst_vars; rfl)); refine pkB ?_; refine blk_put (cs := #[.int .i64 0, .int .i64 0]) ?_ 0 _ (by first | rfl | (subst_vars; rfl)); refine pkB ?_; exact BK1193.out) hb); have n3_ := Aside0.mk (blk_below (g := gb1194) (o := .cells #[.int .i64 t1191, .int .i64 t1192] 23 (0, 0)) (by refine pkB ?_; refine blk_put (cs := #[.int .i64 t1191, .int .i64 0]) ?_ 1 _ (by first | rfl | (subst_vars; rfl)); refine pkB ?_; refine blk_put (cs := #[.int .i64 0, .int .i64 0]) ?_ 0 _ (by first | rfl | (subst_vars; rfl)); refine pkB ?_; refine blk_far ?_ NB1194_1193.out _; refine pkB ?_; refine blk_far ?_ NB1194_1193.out _; refine pkB ?_; exact BK1194.out) hb); have n4_ := bst HB hb; clear BK1165; clear BK1166; clear BK1193; clear BK1194; clear HB; have BK1165 := n0_; have BK1166 := n1_; have BK1193 := n2_; have BK1194 := n3_; have HB := n4_; clear n0_ n1_ n2_ n3_ n4_; (try clear hb); (try clear hb2); (try clear hk); (try clear hi)))
           (try simp only [Act.put, List.setIfInBounds_toArray, List.set_cons_zero, List.set_cons_succ])
           go_cut [135] (fun v135 wc => ∃ (kq : Nat) (x135_84 : Bool), v135 = .bool x135_84 ∧ Aside0 (gimballaw02_ItvKeeps.j3 kq t1167 t1169 x135_84 a0_0 a0_1 a1_0 a1_1 = some true) ∧ Aside0 (kq ≤ kj75) ∧ Aside0 (wc.heap[gb1165]? = some (.cells #[.int .i64 a0_0, .int .i64 a0_1] 23 (0, 0))) ∧ Aside0 (wc.heap[gb1166]? = some (.cells #[.int .i64 a1_0, .int .i64 a1_1] 23 (0, 0))) ∧ Aside0 (wc.heap[gb1193]? = some (.cells #[.int .i64 t1189, .int .i64 t1190] 23 (0, 0))) ∧ Aside0 (wc.heap[gb1194]? = some (.cells #[.int .i64 t1191, .int .i64 t1192] 23 (0, 0))) ∧ Aside0 (Below w.heap.size w wc))
           case first => as_aux_lemma =>
            have H := HC85.out
            clear HC85
            replace H := Option.bind_eq_some_iff.mp H
            obtain ⟨t1197, A1020, H⟩ := H
            replace H : (if t1197 = true then ((itv_Has.f t1189 t1190 t1167).bind fun t1198 => (if t1198 = true then ((itv_Has.f t1191 t1192 t1169).bind fun t1199 => (if t1199 = true then (if t1195 = true then ((gimballaw02_holds.f (wrap64 (14 + (wrap64 (Int.tmod (IntKind.u64.wrap (a4)) 6)))) t1167 t1169).bind fun t1200 => (if t1200 = true then (gimballaw02_ItvKeeps.j3 kj75 t1167 t1169 false a0_0 a0_1 a1_0 a1_1) else (gimballaw02_ItvKeeps.j3 kj75 t1167 t1169 (!t1196) a0_0 a0_1 a1_0 a1_1))) else (gimballaw02_ItvKeeps.j3 kj75 t1167 t1169 true a0_0 a0_1 a1_0 a1_1)) else (gimballaw02_ItvKeeps.j3 kj75 t1167 t1169 true a0_0 a0_1 a1_0 a1_1))) else (gimballaw02_ItvKeeps.j3 kj75 t1167 t1169 true a0_0 a0_1 a1_0 a1_1))) else ((gimballaw02_holds.f (wrap64 (14 + (wrap64 (Int.tmod (IntKind.u64.wrap (a4)) 6)))) t1167 t1169).bind fun t1201 => (if t1201 = true then (gimballaw02_ItvKeeps.j3 kj75 t1167 t1169 false a0_0 a0_1 a1_0 a1_1) else (gimballaw02_ItvKeeps.j3 kj75 t1167 t1169 (!t1196) a0_0 a0_1 a1_0 a1_1)))) = some true := H
            have A102 := Aside0.mk A1020
            clear A1020
            by_cases c103 : t1197 = true
            ·
             subst c103
             have H1 : ((itv_Has.f t1189 t1190 t1167).bind fun t1198 => (if t1198 = true then ((itv_Has.f t1191 t1192 t1169).bind fun t1199 => (if t1199 = true then (if t1195 = true then ((gimballaw02_holds.f (wrap64 (14 + (wrap64 (Int.tmod (IntKind.u64.wrap (a4)) 6)))) t1167 t1169).bind fun t1200 => (if t1200 = true then (gimballaw02_ItvKeeps.j3 kj75 t1167 t1169 false a0_0 a0_1 a1_0 a1_1) else (gimballaw02_ItvKeeps.j3 kj75 t1167 t1169 (!t1196) a0_0 a0_1 a1_0 a1_1))) else (gimballaw02_ItvKeeps.j3 kj75 t1167 t1169 true a0_0 a0_1 a1_0 a1_1)) else (gimballaw02_ItvKeeps.j3 kj75 t1167 t1169 true a0_0 a0_1 a1_0 a1_1))) else (gimballaw02_ItvKeeps.j3 kj75 t1167 t1169 true a0_0 a0_1 a1_0 a1_1))) = some true := by rw [if_pos rfl] at H; exact H
             clear H
             have H := H1
             clear H1
             replace H := Option.bind_eq_some_iff.mp H
             obtain ⟨t1198, A1040, H⟩ := H
             replace H : (if t1198 = true then ((itv_Has.f t1191 t1192 t1169).bind fun t1199 => (if t1199 = true then (if t1195 = true then ((gimballaw02_holds.f (wrap64 (14 + (wrap64 (Int.tmod (IntKind.u64.wrap (a4)) 6)))) t1167 t1169).bind fun t1200 => (if t1200 = true then (gimballaw02_ItvKeeps.j3 kj75 t1167 t1169 false a0_0 a0_1 a1_0 a1_1) else (gimballaw02_ItvKeeps.j3 kj75 t1167 t1169 (!t1196) a0_0 a0_1 a1_0 a1_1))) else (gimballaw02_ItvKeeps.j3 kj75 t1167 t1169 true a0_0 a0_1 a1_0 a1_1)) else (gimballaw02_ItvKeeps.j3 kj75 t1167 t1169 true a0_0 a0_1 a1_0 a1_1))) else (gimballaw02_ItvKeeps.j3 kj75 t1167 t1169 true a0_0 a0_1 a1_0 a1_1)) = some true := H
             have A104 := Aside0.mk A1040
             clear A1040
             by_cases c105 : t1198 = true
             ·
              subst c105
              have H1 : ((itv_Has.f t1191 t1192 t1169).bind fun t1199 => (if t1199 = true then (if t1195 = true then ((gimballaw02_holds.f (wrap64 (14 + (wrap64 (Int.tmod (IntKind.u64.wrap (a4)) 6)))) t1167 t1169).bind fun t1200 => (if t1200 = true then (gimballaw02_ItvKeeps.j3 kj75 t1167 t1169 false a0_0 a0_1 a1_0 a1_1) else (gimballaw02_ItvKeeps.j3 kj75 t1167 t1169 (!t1196) a0_0 a0_1 a1_0 a1_1))) else (gimballaw02_ItvKeeps.j3 kj75 t1167 t1169 true a0_0 a0_1 a1_0 a1_1)) else (gimballaw02_ItvKeeps.j3 kj75 t1167 t1169 true a0_0 a0_1 a1_0 a1_1))) = some true := by rw [if_pos rfl] at H; exact H
              clear H
              have H := H1
              clear H1
              replace H := Option.bind_eq_some_iff.mp H
              obtain ⟨t1199, A1060, H⟩ := H
              replace H : (if t1199 = true then (if t1195 = true then ((gimballaw02_holds.f (wrap64 (14 + (wrap64 (Int.tmod (IntKind.u64.wrap (a4)) 6)))) t1167 t1169).bind fun t1200 => (if t1200 = true then (gimballaw02_ItvKeeps.j3 kj75 t1167 t1169 false a0_0 a0_1 a1_0 a1_1) else (gimballaw02_ItvKeeps.j3 kj75 t1167 t1169 (!t1196) a0_0 a0_1 a1_0 a1_1))) else (gimballaw02_ItvKeeps.j3 kj75 t1167 t1169 true a0_0 a0_1 a1_0 a1_1)) else (gimballaw02_ItvKeeps.j3 kj75 t1167 t1169 true a0_0 a0_1 a1_0 a1_1)) = some true := H
              have A106 := Aside0.mk A1060
              clear A1060
              by_cases c107 : t1199 = true
              ·
               subst c107
               have H1 : (if t1195 = true then ((gimballaw02_holds.f (wrap64 (14 + (wrap64 (Int.tmod (IntKind.u64.wrap (a4)) 6)))) t1167 t1169).bind fun t1200 => (if t1200 = true then (gimballaw02_ItvKeeps.j3 kj75 t1167 t1169 false a0_0 a0_1 a1_0 a1_1) else (gimballaw02_ItvKeeps.j3 kj75 t1167 t1169 (!t1196) a0_0 a0_1 a1_0 a1_1))) else (gimballaw02_ItvKeeps.j3 kj75 t1167 t1169 true a0_0 a0_1 a1_0 a1_1)) = some true := by rw [if_pos rfl] at H; exact H
               clear H
               have H := H1
               clear H1
               by_cases c108 : t1195 = true
               ·
                subst c108
                have H1 : ((gimballaw02_holds.f (wrap64 (14 + (wrap64 (Int.tmod (IntKind.u64.wrap (a4)) 6)))) t1167 t1169).bind fun t1200 => (if t1200 = true then (gimballaw02_ItvKeeps.j3 kj75 t1167 t1169 false a0_0 a0_1 a1_0 a1_1) else (gimballaw02_ItvKeeps.j3 kj75 t1167 t1169 (!t1196) a0_0 a0_1 a1_0 a1_1))) = some true := by rw [if_pos rfl] at H; exact H
                clear H
                have H := H1
                clear H1
                replace H := Option.bind_eq_some_iff.mp H
                obtain ⟨t1200, A1090, H⟩ := H
                replace H : (if t1200 = true then (gimballaw02_ItvKeeps.j3 kj75 t1167 t1169 false a0_0 a0_1 a1_0 a1_1) else (gimballaw02_ItvKeeps.j3 kj75 t1167 t1169 (!t1196) a0_0 a0_1 a1_0 a1_1)) = some true := H
                have A109 := Aside0.mk A1090
                clear A1090
                by_cases c110 : t1200 = true
                ·
                 subst c110
                 have H1 : (gimballaw02_ItvKeeps.j3 kj75 t1167 t1169 false a0_0 a0_1 a1_0 a1_1) = some true := by rw [if_pos rfl] at H; exact H
                 clear H
                 have H := H1
                 clear H1
                 have H' := Aside0.mk H
                 clear H
                 go_wp2_with (first | ((with_reducible refine gate_callee (f := 31) rfl ?_); refine goesL_ (some 108) rfl rfl Try.func31 (by kernel_rfl) rfl #[.int .i64 (wrap64 (14 + (wrap64 (Int.tmod (IntKind.u64.wrap (a4)) 6)))), .int .i64 t1167, .int .i64 t1169] rfl (by (try simp only [List.map_toArray, List.map_cons, List.map_nil]); first | done | rfl | (simp only [List.length_drop, List.length_take]; rfl)) ?_; (with_reducible refine (gimballaw02_holds.calls (wrap64 (14 + (wrap64 (Int.tmod (IntKind.u64.wrap (a4)) 6)))) t1167 t1169 true _ A102.out).mono ?_); rintro e w' ⟨rfl, ⟨nd, rfl⟩⟩; refine ⟨_, rfl, ?_⟩; have hnb111 := NB1193_1165.out; have hnc111 := NB1165_1193.out; have hnb112 := NB1193_1166.out; have hnc112 := NB1166_1193.out; have hnb113 := NB1193_1194.out; have hnc113 := NB1194_1193.out; have hcz114_0 := hcz BK1193 0; have hcz114_1 := hcz BK1193 1; have hfz114_0 := blk_frozen BK1193.out 0; have hfz114_1 := blk_frozen BK1193.out 1) | (go_at_call 22; (with_reducible refine (itv_Has.calls t1189 t1190 t1167 true _ A104.out).mono ?_); rintro e w115 ⟨rfl, hb⟩; have n0_ := bst HB hb; replace BK1165 := bbw BK1165 hb; replace BK1166 := bbw BK1166 hb; replace BK1193 := bbw BK1193 hb; replace BK1194 := bbw BK1194 hb; clear HB; have HB := n0_; clear n0_; (try clear hb); (try clear hb2); (try clear hk); (try clear hi); have hnb116 := NB1194_1165.out; have hnc116 := NB1165_1194.out; have hnb117 := NB1194_1166.out; have hnc117 := NB1166_1194.out; have hcz118_0 := hcz BK1194 0; have hcz118_1 := hcz BK1194 1; have hfz118_0 := blk_frozen BK1194.out 0; have hfz118_1 := blk_frozen BK1194.out 1) | (go_at_call 22; (with_reducible refine (itv_Has.calls t1191 t1192 t1169 true _ A106.out).mono ?_); rintro e w119 ⟨rfl, hb⟩; have n0_ := bst HB hb; replace BK1165 := bbw BK1165 hb; replace BK1166 := bbw BK1166 hb; replace BK1193 := bbw BK1193 hb; replace BK1194 := bbw BK1194 hb; clear HB; have HB := n0_; clear n0_; (try clear hb); (try clear hb2); (try clear hk); (try clear hi)) | (go_at_call 31; (with_reducible refine (gimballaw02_holds.calls (wrap64 (14 + (wrap64 (Int.tmod (IntKind.u64.wrap (a4)) 6)))) t1167 t1169 true _ A109.out).mono ?_); rintro e w' ⟨rfl, ⟨nd, rfl⟩⟩))
                 go_meet
                 case rel => exact ⟨_, (false), (by first | rfl | (simp; done) | (simp [*]; done)), H', ⟨by have := HJ7.out; have := HJ34.out; have := HJ75.out; first | omega | exact Nat.le_refl _⟩, pkA BK1165, pkA BK1166, pkA BK1193, pkA BK1194, bpk HB⟩
                ·
                 replace c110 := Bool.eq_false_iff.mpr c110
                 subst c110
                 have H1 : (gimballaw02_ItvKeeps.j3 kj75 t1167 t1169 (!t1196) a0_0 a0_1 a1_0 a1_1) = some true := by rw [if_neg (show ¬ (false = true) by decide)] at H; exact H
                 clear H
                 have H := H1
                 clear H1
                 have H' := Aside0.mk H
                 clear H
                 go_wp2_with (first | ((with_reducible refine gate_callee (f := 31) rfl ?_); refine goesL_ (some 108) rfl rfl Try.func31 (by kernel_rfl) rfl #[.int .i64 (wrap64 (14 + (wrap64 (Int.tmod (IntKind.u64.wrap (a4)) 6)))), .int .i64 t1167, .int .i64 t1169] rfl (by (try simp only [List.map_toArray, List.map_cons, List.map_nil]); first | done | rfl | (simp only [List.length_drop, List.length_take]; rfl)) ?_; (with_reducible refine (gimballaw02_holds.calls (wrap64 (14 + (wrap64 (Int.tmod (IntKind.u64.wrap (a4)) 6)))) t1167 t1169 true _ A102.out).mono ?_); rintro e w' ⟨rfl, ⟨nd, rfl⟩⟩; refine ⟨_, rfl, ?_⟩; have hnb120 := NB1193_1165.out; have hnc120 := NB1165_1193.out; have hnb121 := NB1193_1166.out; have hnc121 := NB1166_1193.out; have hnb122 := NB1193_1194.out; have hnc122 := NB1194_1193.out; have hcz123_0 := hcz BK1193 0; have hcz123_1 := hcz BK1193 1; have hfz123_0 := blk_frozen BK1193.out 0; have hfz123_1 := blk_frozen BK1193.out 1) | (go_at_call 22; (with_reducible refine (itv_Has.calls t1189 t1190 t1167 true _ A104.out).mono ?_); rintro e w124 ⟨rfl, hb⟩; have n0_ := bst HB hb; replace BK1165 := bbw BK1165 hb; replace BK1166 := bbw BK1166 hb; replace BK1193 := bbw BK1193 hb; replace BK1194 := bbw BK1194 hb; clear HB; have HB := n0_; clear n0_; (try clear hb); (try clear hb2); (try clear hk); (try clear hi); have hnb125 := NB1194_1165.out; have hnc125 := NB1165_1194.out; have hnb126 := NB1194_1166.out; have hnc126 := NB1166_1194.out; have hcz127_0 := hcz BK1194 0; have hcz127_1 := hcz BK1194 1; have hfz127_0 := blk_frozen BK1194.out 0; have hfz127_1 := blk_frozen BK1194.out 1) | (go_at_call 22; (with_reducible refine (itv_Has.calls t1191 t1192 t1169 true _ A106.out).mono ?_); rintro e w128 ⟨rfl, hb⟩; have n0_ := bst HB hb; replace BK1165 := bbw BK1165 hb; replace BK1166 := bbw BK1166 hb; replace BK1193 := bbw BK1193 hb; replace BK1194 := bbw BK1194 hb; clear HB; have HB := n0_; clear n0_; (try clear hb); (try clear hb2); (try clear hk); (try clear hi)) | (go_at_call 31; (with_reducible refine (gimballaw02_holds.calls (wrap64 (14 + (wrap64 (Int.tmod (IntKind.u64.wrap (a4)) 6)))) t1167 t1169 false _ A109.out).mono ?_); rintro e w' ⟨rfl, ⟨nd, rfl⟩⟩))
                 go_meet
                 case rel => exact ⟨_, (!t1196), (by first | rfl | (simp; done) | (simp [*]; done)), H', ⟨by have := HJ7.out; have := HJ34.out; have := HJ75.out; first | omega | exact Nat.le_refl _⟩, pkA BK1165, pkA BK1166, pkA BK1193, pkA BK1194, bpk HB⟩
               ·
                replace c108 := Bool.eq_false_iff.mpr c108
                subst c108
                have H1 : (gimballaw02_ItvKeeps.j3 kj75 t1167 t1169 true a0_0 a0_1 a1_0 a1_1) = some true := by rw [if_neg (show ¬ (false = true) by decide)] at H; exact H
                clear H
                have H := H1
                clear H1
                have H' := Aside0.mk H
                clear H
                go_wp2_with (first | ((with_reducible refine gate_callee (f := 31) rfl ?_); refine goesL_ (some 108) rfl rfl Try.func31 (by kernel_rfl) rfl #[.int .i64 (wrap64 (14 + (wrap64 (Int.tmod (IntKind.u64.wrap (a4)) 6)))), .int .i64 t1167, .int .i64 t1169] rfl (by (try simp only [List.map_toArray, List.map_cons, List.map_nil]); first | done | rfl | (simp only [List.length_drop, List.length_take]; rfl)) ?_; (with_reducible refine (gimballaw02_holds.calls (wrap64 (14 + (wrap64 (Int.tmod (IntKind.u64.wrap (a4)) 6)))) t1167 t1169 true _ A102.out).mono ?_); rintro e w' ⟨rfl, ⟨nd, rfl⟩⟩; refine ⟨_, rfl, ?_⟩; have hnb129 := NB1193_1165.out; have hnc129 := NB1165_1193.out; have hnb130 := NB1193_1166.out; have hnc130 := NB1166_1193.out; have hnb131 := NB1193_1194.out; have hnc131 := NB1194_1193.out; have hcz132_0 := hcz BK1193 0; have hcz132_1 := hcz BK1193 1; have hfz132_0 := blk_frozen BK1193.out 0; have hfz132_1 := blk_frozen BK1193.out 1) | (go_at_call 22; (with_reducible refine (itv_Has.calls t1189 t1190 t1167 true _ A104.out).mono ?_); rintro e w133 ⟨rfl, hb⟩; have n0_ := bst HB hb; replace BK1165 := bbw BK1165 hb; replace BK1166 := bbw BK1166 hb; replace BK1193 := bbw BK1193 hb; replace BK1194 := bbw BK1194 hb; clear HB; have HB := n0_; clear n0_; (try clear hb); (try clear hb2); (try clear hk); (try clear hi); have hnb134 := NB1194_1165.out; have hnc134 := NB1165_1194.out; have hnb135 := NB1194_1166.out; have hnc135 := NB1166_1194.out; have hcz136_0 := hcz BK1194 0; have hcz136_1 := hcz BK1194 1; have hfz136_0 := blk_frozen BK1194.out 0; have hfz136_1 := blk_frozen BK1194.out 1) | (go_at_call 22; (with_reducible refine (itv_Has.calls t1191 t1192 t1169 true _ A106.out).mono ?_); rintro e w137 ⟨rfl, hb⟩; have n0_ := bst HB hb; replace BK1165 := bbw BK1165 hb; replace BK1166 := bbw BK1166 hb; replace BK1193 := bbw BK1193 hb; replace BK1194 := bbw BK1194 hb; clear HB; have HB := n0_; clear n0_; (try clear hb); (try clear hb2); (try clear hk); (try clear hi)))
                go_meet
                case rel => exact ⟨_, (true), (by first | rfl | (simp; done) | (simp [*]; done)), H', ⟨by have := HJ7.out; have := HJ34.out; have := HJ75.out; first | omega | exact Nat.le_refl _⟩, pkA BK1165, pkA BK1166, pkA BK1193, pkA BK1194, bpk HB⟩
              ·
               replace c107 := Bool.eq_false_iff.mpr c107
               subst c107
               have H1 : (gimballaw02_ItvKeeps.j3 kj75 t1167 t1169 true a0_0 a0_1 a1_0 a1_1) = some true := by rw [if_neg (show ¬ (false = true) by decide)] at H; exact H
               clear H
               have H := H1
               clear H1
               have H' := Aside0.mk H
               clear H
               go_wp2_with (first | ((with_reducible refine gate_callee (f := 31) rfl ?_); refine goesL_ (some 108) rfl rfl Try.func31 (by kernel_rfl) rfl #[.int .i64 (wrap64 (14 + (wrap64 (Int.tmod (IntKind.u64.wrap (a4)) 6)))), .int .i64 t1167, .int .i64 t1169] rfl (by (try simp only [List.map_toArray, List.map_cons, List.map_nil]); first | done | rfl | (simp only [List.length_drop, List.length_take]; rfl)) ?_; (with_reducible refine (gimballaw02_holds.calls (wrap64 (14 + (wrap64 (Int.tmod (IntKind.u64.wrap (a4)) 6)))) t1167 t1169 true _ A102.out).mono ?_); rintro e w' ⟨rfl, ⟨nd, rfl⟩⟩; refine ⟨_, rfl, ?_⟩; have hnb138 := NB1193_1165.out; have hnc138 := NB1165_1193.out; have hnb139 := NB1193_1166.out; have hnc139 := NB1166_1193.out; have hnb140 := NB1193_1194.out; have hnc140 := NB1194_1193.out; have hcz141_0 := hcz BK1193 0; have hcz141_1 := hcz BK1193 1; have hfz141_0 := blk_frozen BK1193.out 0; have hfz141_1 := blk_frozen BK1193.out 1) | (go_at_call 22; (with_reducible refine (itv_Has.calls t1189 t1190 t1167 true _ A104.out).mono ?_); rintro e w142 ⟨rfl, hb⟩; have n0_ := bst HB hb; replace BK1165 := bbw BK1165 hb; replace BK1166 := bbw BK1166 hb; replace BK1193 := bbw BK1193 hb; replace BK1194 := bbw BK1194 hb; clear HB; have HB := n0_; clear n0_; (try clear hb); (try clear hb2); (try clear hk); (try clear hi); have hnb143 := NB1194_1165.out; have hnc143 := NB1165_1194.out; have hnb144 := NB1194_1166.out; have hnc144 := NB1166_1194.out; have hcz145_0 := hcz BK1194 0; have hcz145_1 := hcz BK1194 1; have hfz145_0 := blk_frozen BK1194.out 0; have hfz145_1 := blk_frozen BK1194.out 1) | (go_at_call 22; (with_reducible refine (itv_Has.calls t1191 t1192 t1169 false _ A106.out).mono ?_); rintro e w146 ⟨rfl, hb⟩; have n0_ := bst HB hb; replace BK1165 := bbw BK1165 hb; replace BK1166 := bbw BK1166 hb; replace BK1193 := bbw BK1193 hb; replace BK1194 := bbw BK1194 hb; clear HB; have HB := n0_; clear n0_; (try clear hb); (try clear hb2); (try clear hk); (try clear hi)))
               go_meet
               case rel => exact ⟨_, (true), (by first | rfl | (simp; done) | (simp [*]; done)), H', ⟨by have := HJ7.out; have := HJ34.out; have := HJ75.out; first | omega | exact Nat.le_refl _⟩, pkA BK1165, pkA BK1166, pkA BK1193, pkA BK1194, bpk HB⟩
             ·
              replace c105 := Bool.eq_false_iff.mpr c105
              subst c105
              have H1 : (gimballaw02_ItvKeeps.j3 kj75 t1167 t1169 true a0_0 a0_1 a1_0 a1_1) = some true := by rw [if_neg (show ¬ (false = true) by decide)] at H; exact H
              clear H
              have H := H1
              clear H1
              have H' := Aside0.mk H
              clear H
              go_wp2_with (first | ((with_reducible refine gate_callee (f := 31) rfl ?_); refine goesL_ (some 108) rfl rfl Try.func31 (by kernel_rfl) rfl #[.int .i64 (wrap64 (14 + (wrap64 (Int.tmod (IntKind.u64.wrap (a4)) 6)))), .int .i64 t1167, .int .i64 t1169] rfl (by (try simp only [List.map_toArray, List.map_cons, List.map_nil]); first | done | rfl | (simp only [List.length_drop, List.length_take]; rfl)) ?_; (with_reducible refine (gimballaw02_holds.calls (wrap64 (14 + (wrap64 (Int.tmod (IntKind.u64.wrap (a4)) 6)))) t1167 t1169 true _ A102.out).mono ?_); rintro e w' ⟨rfl, ⟨nd, rfl⟩⟩; refine ⟨_, rfl, ?_⟩; have hnb147 := NB1193_1165.out; have hnc147 := NB1165_1193.out; have hnb148 := NB1193_1166.out; have hnc148 := NB1166_1193.out; have hnb149 := NB1193_1194.out; have hnc149 := NB1194_1193.out; have hcz150_0 := hcz BK1193 0; have hcz150_1 := hcz BK1193 1; have hfz150_0 := blk_frozen BK1193.out 0; have hfz150_1 := blk_frozen BK1193.out 1) | (go_at_call 22; (with_reducible refine (itv_Has.calls t1189 t1190 t1167 false _ A104.out).mono ?_); rintro e w151 ⟨rfl, hb⟩; have n0_ := bst HB hb; replace BK1165 := bbw BK1165 hb; replace BK1166 := bbw BK1166 hb; replace BK1193 := bbw BK1193 hb; replace BK1194 := bbw BK1194 hb; clear HB; have HB := n0_; clear n0_; (try clear hb); (try clear hb2); (try clear hk); (try clear hi)))
              go_meet
              case rel => exact ⟨_, (true), (by first | rfl | (simp; done) | (simp [*]; done)), H', ⟨by have := HJ7.out; have := HJ34.out; have := HJ75.out; first | omega | exact Nat.le_refl _⟩, pkA BK1165, pkA BK1166, pkA BK1193, pkA BK1194, bpk HB⟩
            ·
             replace c103 := Bool.eq_false_iff.mpr c103
             subst c103
             have H1 : ((gimballaw02_holds.f (wrap64 (14 + (wrap64 (Int.tmod (IntKind.u64.wrap (a4)) 6)))) t1167 t1169).bind fun t1201 => (if t1201 = true then (gimballaw02_ItvKeeps.j3 kj75 t1167 t1169 false a0_0 a0_1 a1_0 a1_1) else (gimballaw02_ItvKeeps.j3 kj75 t1167 t1169 (!t1196) a0_0 a0_1 a1_0 a1_1))) = some true := by rw [if_neg (show ¬ (false = true) by decide)] at H; exact H
             clear H
             have H := H1
             clear H1
             replace H := Option.bind_eq_some_iff.mp H
             obtain ⟨t1201, A1520, H⟩ := H
             replace H : (if t1201 = true then (gimballaw02_ItvKeeps.j3 kj75 t1167 t1169 false a0_0 a0_1 a1_0 a1_1) else (gimballaw02_ItvKeeps.j3 kj75 t1167 t1169 (!t1196) a0_0 a0_1 a1_0 a1_1)) = some true := H
             have A152 := Aside0.mk A1520
             clear A1520
             by_cases c153 : t1201 = true
             ·
              subst c153
              have H1 : (gimballaw02_ItvKeeps.j3 kj75 t1167 t1169 false a0_0 a0_1 a1_0 a1_1) = some true := by rw [if_pos rfl] at H; exact H
              clear H
              have H := H1
              clear H1
              have H' := Aside0.mk H
              clear H
              go_wp2_with (first | ((with_reducible refine gate_callee (f := 31) rfl ?_); refine goesL_ (some 108) rfl rfl Try.func31 (by kernel_rfl) rfl #[.int .i64 (wrap64 (14 + (wrap64 (Int.tmod (IntKind.u64.wrap (a4)) 6)))), .int .i64 t1167, .int .i64 t1169] rfl (by (try simp only [List.map_toArray, List.map_cons, List.map_nil]); first | done | rfl | (simp only [List.length_drop, List.length_take]; rfl)) ?_; (with_reducible refine (gimballaw02_holds.calls (wrap64 (14 + (wrap64 (Int.tmod (IntKind.u64.wrap (a4)) 6)))) t1167 t1169 false _ A102.out).mono ?_); rintro e w' ⟨rfl, ⟨nd, rfl⟩⟩; refine ⟨_, rfl, ?_⟩) | (go_at_call 31; (with_reducible refine (gimballaw02_holds.calls (wrap64 (14 + (wrap64 (Int.tmod (IntKind.u64.wrap (a4)) 6)))) t1167 t1169 true _ A152.out).mono ?_); rintro e w' ⟨rfl, ⟨nd, rfl⟩⟩))
              go_meet
              case rel => exact ⟨_, (false), (by first | rfl | (simp; done) | (simp [*]; done)), H', ⟨by have := HJ7.out; have := HJ34.out; have := HJ75.out; first | omega | exact Nat.le_refl _⟩, pkA BK1165, pkA BK1166, pkA BK1193, pkA BK1194, bpk HB⟩
             ·
              replace c153 := Bool.eq_false_iff.mpr c153
              subst c153
              have H1 : (gimballaw02_ItvKeeps.j3 kj75 t1167 t1169 (!t1196) a0_0 a0_1 a1_0 a1_1) = some true := by rw [if_neg (show ¬ (false = true) by decide)] at H; exact H
              clear H
              have H := H1
              clear H1
              have H' := Aside0.mk H
              clear H
              go_wp2_with (first | ((with_reducible refine gate_callee (f := 31) rfl ?_); refine goesL_ (some 108) rfl rfl Try.func31 (by kernel_rfl) rfl #[.int .i64 (wrap64 (14 + (wrap64 (Int.tmod (IntKind.u64.wrap (a4)) 6)))), .int .i64 t1167, .int .i64 t1169] rfl (by (try simp only [List.map_toArray, List.map_cons, List.map_nil]); first | done | rfl | (simp only [List.length_drop, List.length_take]; rfl)) ?_; (with_reducible refine (gimballaw02_holds.calls (wrap64 (14 + (wrap64 (Int.tmod (IntKind.u64.wrap (a4)) 6)))) t1167 t1169 false _ A102.out).mono ?_); rintro e w' ⟨rfl, ⟨nd, rfl⟩⟩; refine ⟨_, rfl, ?_⟩) | (go_at_call 31; (with_reducible refine (gimballaw02_holds.calls (wrap64 (14 + (wrap64 (Int.tmod (IntKind.u64.wrap (a4)) 6)))) t1167 t1169 false _ A152.out).mono ?_); rintro e w' ⟨rfl, ⟨nd, rfl⟩⟩))
              go_meet
              case rel => exact ⟨_, (!t1196), (by first | rfl | (simp; done) | (simp [*]; done)), H', ⟨by have := HJ7.out; have := HJ34.out; have := HJ75.out; first | omega | exact Nat.le_refl _⟩, pkA BK1165, pkA BK1166, pkA BK1193, pkA BK1194, bpk HB⟩
           case rest => as_aux_lemma =>
            clear HC85
            try clear c1
            try clear c2
            try clear p2
            try clear c3
            try clear c4
            try clear c5
            try clear c6
            try clear p6
            try clear c7
            try clear c8
            try clear c9
            try clear c10
            try clear c11
            try clear c12
            try clear c13
            try clear c14
            try clear c15
            try clear c16
            try clear c17
            try clear c20
            try clear c21
            try clear c22
            try clear c23
            try clear c25
            try clear c31
            try clear c33
            try clear c34
            try clear c36
            try clear c37
            try clear c39
            try clear c40
            try clear c42
            try clear c45
            try clear c58
            try clear p64
            try clear c67
            try clear c72
            try clear c75
            try clear c78
            try clear c78b0
            try clear c80
            try clear c86
            try clear c92
            try clear c93
            try clear c94
            try clear c96
            try clear c97
            try clear c103
            try clear c105
            try clear c107
            try clear c108
            try clear c110
            try clear c111
            try clear c112
            try clear c113
            try clear c116
            try clear c117
            try clear c120
            try clear c121
            try clear c122
            try clear c125
            try clear c126
            try clear c129
            try clear c130
            try clear c131
            try clear c134
            try clear c135
            try clear c138
            try clear c139
            try clear c140
            try clear c143
            try clear c144
            try clear c147
            try clear c148
            try clear c149
            try clear c153
            try clear hcz100_0
            try clear hcz100_1
            try clear hcz114_0
            try clear hcz114_1
            try clear hcz118_0
            try clear hcz118_1
            try clear hcz123_0
            try clear hcz123_1
            try clear hcz127_0
            try clear hcz127_1
            try clear hcz12_0
            try clear hcz12_1
            try clear hcz132_0
            try clear hcz132_1
            try clear hcz136_0
            try clear hcz136_1
            try clear hcz141_0
            try clear hcz141_1
            try clear hcz145_0
            try clear hcz145_1
            try clear hcz14_0
            try clear hcz14_1
            try clear hcz150_0
            try clear hcz150_1
            try clear hcz26_0
            try clear hcz26_1
            try clear hcz27_0
            try clear hcz27_1
            try clear hcz30_0
            try clear hcz30_1
            try clear hcz31_0
            try clear hcz31_1
            try clear hcz46_0
            try clear hcz46_1
            try clear hcz48_0
            try clear hcz48_1
            try clear hcz50_0
            try clear hcz50_1
            try clear hcz51_0
            try clear hcz51_1
            try clear hcz54_0
            try clear hcz54_1
            try clear hcz55_0
            try clear hcz55_1
            try clear hcz59_0
            try clear hcz59_1
            try clear hcz61_0
            try clear hcz61_1
            try clear hcz63_0
            try clear hcz63_1
            try clear hcz64_0
            try clear hcz64_1
            try clear hcz68_0
            try clear hcz68_1
            try clear hcz70_0
            try clear hcz70_1
            try clear hcz73_0
            try clear hcz73_1
            try clear hcz87_0
            try clear hcz87_1
            try clear hcz88_0
            try clear hcz88_1
            try clear hcz95_0
            try clear hcz95_1
            try clear hcz98_0
            try clear hcz98_1
            try clear hcz99_0
            try clear hcz99_1
            try clear hfz100_0
            try clear hfz100_1
            try clear hfz114_0
            try clear hfz114_1
            try clear hfz118_0
            try clear hfz118_1
            try clear hfz123_0
            try clear hfz123_1
            try clear hfz127_0
            try clear hfz127_1
            try clear hfz12_0
            try clear hfz12_1
            try clear hfz132_0
            try clear hfz132_1
            try clear hfz136_0
            try clear hfz136_1
            try clear hfz141_0
            try clear hfz141_1
            try clear hfz145_0
            try clear hfz145_1
            try clear hfz14_0
            try clear hfz14_1
            try clear hfz150_0
            try clear hfz150_1
            try clear hfz26_0
            try clear hfz26_1
            try clear hfz27_0
            try clear hfz27_1
            try clear hfz30_0
            try clear hfz30_1
            try clear hfz31_0
            try clear hfz31_1
            try clear hfz46_0
            try clear hfz46_1
            try clear hfz48_0
            try clear hfz48_1
            try clear hfz50_0
            try clear hfz50_1
            try clear hfz51_0
            try clear hfz51_1
            try clear hfz54_0
            try clear hfz54_1
            try clear hfz55_0
            try clear hfz55_1
            try clear hfz59_0
            try clear hfz59_1
            try clear hfz61_0
            try clear hfz61_1
            try clear hfz63_0
            try clear hfz63_1
            try clear hfz64_0
            try clear hfz64_1
            try clear hfz68_0
            try clear hfz68_1
            try clear hfz70_0
            try clear hfz70_1
            try clear hfz73_0
            try clear hfz73_1
            try clear hfz87_0
            try clear hfz87_1
            try clear hfz88_0
            try clear hfz88_1
            try clear hfz95_0
            try clear hfz95_1
            try clear hfz98_0
            try clear hfz98_1
            try clear hfz99_0
            try clear hfz99_1
            try clear p2
            obtain ⟨kq, x135_84, rfl, HA, HJ84, BK1165, BK1166, BK1193, BK1194, HB⟩ := hcut
            cases kq with
            | zero => exact absurd HA.out (by simp [gimballaw02_ItvKeeps.j3])
            | succ kj84 =>
             have H := HA.out
             clear HA
             simp only [gimballaw02_ItvKeeps.j3] at H
             by_cases c154 : x135_84 = true
             ·
              subst c154
              have H1 : (some false) = some true := by rw [if_pos rfl] at H; exact H
              clear H
              have H := H1
              clear H1
              exact absurd H (by simp)
             ·
              replace c154 := Bool.eq_false_iff.mpr c154
              subst c154
              have H1 : (if t1169 = 0 then (gimballaw02_ItvKeeps.j4 kj84 t1167 t1169 false a0_0 a0_1 a1_0 a1_1) else ((itv_Div.f kj84 a0_0 a0_1 a1_0 a1_1).bind fun bt1202 => ((itv_Has.f bt1202.1 bt1202.2 (wrap64 (Int.tdiv t1167 t1169))).bind fun t1204 => (if t1204 = true then ((itv_Mod.f kj84 a0_0 a0_1 a1_0 a1_1).bind fun bt1205 => ((itv_Has.f bt1205.1 bt1205.2 (Int.tmod t1167 t1169)).bind fun t1207 => (gimballaw02_ItvKeeps.j4 kj84 t1167 t1169 (!t1207) a0_0 a0_1 a1_0 a1_1))) else (gimballaw02_ItvKeeps.j4 kj84 t1167 t1169 true a0_0 a0_1 a1_0 a1_1))))) = some true := by rw [if_neg (show ¬ (false = true) by decide)] at H; exact H
              clear H
              have H := H1
              clear H1
              have HC155 := Aside0.mk H
              clear H
              go_upto_region 14 with (fail)
              go_cut [157] (fun v157 wc => ∃ (kq : Nat) (x157_154 : Bool), v157 = .bool x157_154 ∧ Aside0 (gimballaw02_ItvKeeps.j4 kq t1167 t1169 x157_154 a0_0 a0_1 a1_0 a1_1 = some true) ∧ Aside0 (kq ≤ kj84) ∧ Aside0 (wc.heap[gb1165]? = some (.cells #[.int .i64 a0_0, .int .i64 a0_1] 23 (0, 0))) ∧ Aside0 (wc.heap[gb1166]? = some (.cells #[.int .i64 a1_0, .int .i64 a1_1] 23 (0, 0))) ∧ Aside0 (wc.heap[gb1193]? = some (.cells #[.int .i64 t1189, .int .i64 t1190] 23 (0, 0))) ∧ Aside0 (wc.heap[gb1194]? = some (.cells #[.int .i64 t1191, .int .i64 t1192] 23 (0, 0))) ∧ Aside0 (Below w.heap.size w wc))
              case first => as_aux_lemma =>
               have H := HC155.out
               clear HC155
               by_cases c156 : t1169 = 0
               ·
                rw [if_pos c156] at H
                have c156b0 : (t1169 == 0) = true := beq_iff_eq.mpr c156
                have c156b1 : (t1169 != 0) = false := bne_eq_false_iff_eq.mpr c156
                clear c156
                (first | rw [c156b0] | (simp only [i64_w, i32_w]; rw [c156b0]) | skip)
                have H' := Aside0.mk H
                clear H
                try go_wp2
                have n0_ := Aside0.mk (blk_drew BK1165.out)
                have n1_ := Aside0.mk (blk_drew BK1166.out)
                have n2_ := Aside0.mk (blk_drew BK1193.out)
                have n3_ := Aside0.mk (blk_drew BK1194.out)
                have n4_ := Aside0.mk (below_drew1 HB.out)
                clear BK1165
                clear BK1166
                clear BK1193
                clear BK1194
                clear HB
                have BK1165 := n0_
                have BK1166 := n1_
                have BK1193 := n2_
                have BK1194 := n3_
                have HB := n4_
                clear n0_ n1_ n2_ n3_ n4_
                refine start_ (n := 22) (S := fun w' => True) (ds := []) #[false, false, false, false, false, false, false, false, false, false, false, false, false, false, false, false, false, false, false, false, false, false] (by kernel_rfl) rfl rfl trivial (fun hHeld => ?_); refine with_tabW gimballaw02_ItvKeeps.tab14 gimballaw02_ItvKeeps.bits14 (fun HT_ HW_ => ?_)
                generalize wc.drew = w157 at BK1165 BK1166 BK1193 BK1194 HB hHeld ⊢
                refine pureQ 0 136 HT_.out ?_
                refine pureQ 1 137 HT_.out ?_
                refine pureQ 2 138 HT_.out ?_
                refine pureU 3 139 HT_.out ?_
                refine pureU 4 140 HT_.out ?_
                refine pureU 5 141 HT_.out ?_
                refine pureU 6 142 HT_.out ?_
                refine pureU 7 143 HT_.out ?_
                refine pureU 8 144 HT_.out ?_
                refine pureU 9 145 HT_.out ?_
                refine pureU 10 146 HT_.out ?_
                refine pureU 11 147 HT_.out ?_
                refine pureU 12 148 HT_.out ?_
                refine pureU 13 149 HT_.out ?_
                refine pureU 14 150 HT_.out ?_
                refine pureU 15 151 HT_.out ?_
                refine pureU 16 152 HT_.out ?_
                refine pureU 17 153 HT_.out ?_
                refine pureU 18 154 HT_.out ?_
                refine pureU 19 155 HT_.out ?_
                refine pureU 20 156 HT_.out ?_
                refine pureQ 21 157 HT_.out ?_
                refine done_ (done_of HT_.out (by kernel_rfl)) ?_
                try go_wp2
                go_meet
                case rel => exact ⟨_, (false), (by first | rfl | (simp; done) | (simp [*]; done)), H', ⟨by have := HJ7.out; have := HJ34.out; have := HJ75.out; have := HJ84.out; first | omega | exact Nat.le_refl _⟩, pkA BK1165, pkA BK1166, pkA BK1193, pkA BK1194, bpk HB⟩
               ·
                rw [if_neg c156] at H
                have c156b0 : (t1169 == 0) = false := beq_eq_false_iff_ne.mpr c156
                have c156b1 : (t1169 != 0) = true := bne_iff_ne.mpr c156
                (first | rw [c156b0] | (simp only [i64_w, i32_w]; rw [c156b0]) | skip)
                replace H := Option.bind_eq_some_iff.mp H
                obtain ⟨⟨t1202, t1203⟩, A1580, H⟩ := H
                replace H : ((itv_Has.f t1202 t1203 (wrap64 (Int.tdiv t1167 t1169))).bind fun t1204 => (if t1204 = true then ((itv_Mod.f kj84 a0_0 a0_1 a1_0 a1_1).bind fun bt1205 => ((itv_Has.f bt1205.1 bt1205.2 (Int.tmod t1167 t1169)).bind fun t1207 => (gimballaw02_ItvKeeps.j4 kj84 t1167 t1169 (!t1207) a0_0 a0_1 a1_0 a1_1))) else (gimballaw02_ItvKeeps.j4 kj84 t1167 t1169 true a0_0 a0_1 a1_0 a1_1))) = some true := H
                have A158 := Aside0.mk A1580
                clear A1580
                replace H := Option.bind_eq_some_iff.mp H
                obtain ⟨t1204, A1590, H⟩ := H
                replace H : (if t1204 = true then ((itv_Mod.f kj84 a0_0 a0_1 a1_0 a1_1).bind fun bt1205 => ((itv_Has.f bt1205.1 bt1205.2 (Int.tmod t1167 t1169)).bind fun t1207 => (gimballaw02_ItvKeeps.j4 kj84 t1167 t1169 (!t1207) a0_0 a0_1 a1_0 a1_1))) else (gimballaw02_ItvKeeps.j4 kj84 t1167 t1169 true a0_0 a0_1 a1_0 a1_1)) = some true := H
                have A159 := Aside0.mk A1590
                clear A1590
                by_cases c160 : t1204 = true
                ·
                 subst c160
                 have H1 : ((itv_Mod.f kj84 a0_0 a0_1 a1_0 a1_1).bind fun bt1205 => ((itv_Has.f bt1205.1 bt1205.2 (Int.tmod t1167 t1169)).bind fun t1207 => (gimballaw02_ItvKeeps.j4 kj84 t1167 t1169 (!t1207) a0_0 a0_1 a1_0 a1_1))) = some true := by rw [if_pos rfl] at H; exact H
                 clear H
                 have H := H1
                 clear H1
                 replace H := Option.bind_eq_some_iff.mp H
                 obtain ⟨⟨t1205, t1206⟩, A1610, H⟩ := H
                 replace H : ((itv_Has.f t1205 t1206 (Int.tmod t1167 t1169)).bind fun t1207 => (gimballaw02_ItvKeeps.j4 kj84 t1167 t1169 (!t1207) a0_0 a0_1 a1_0 a1_1)) = some true := H
                 have A161 := Aside0.mk A1610
                 clear A1610
                 replace H := Option.bind_eq_some_iff.mp H
                 obtain ⟨t1207, A1620, H⟩ := H
                 replace H : (gimballaw02_ItvKeeps.j4 kj84 t1167 t1169 (!t1207) a0_0 a0_1 a1_0 a1_1) = some true := H
                 have A162 := Aside0.mk A1620
                 clear A1620
                 have H' := Aside0.mk H
                 clear H
                 try go_wp2
                 have n0_ := Aside0.mk (blk_drew BK1165.out)
                 have n1_ := Aside0.mk (blk_drew BK1166.out)
                 have n2_ := Aside0.mk (blk_drew BK1193.out)
                 have n3_ := Aside0.mk (blk_drew BK1194.out)
                 have n4_ := Aside0.mk (below_drew1 HB.out)
                 clear BK1165
                 clear BK1166
                 clear BK1193
                 clear BK1194
                 clear HB
                 have BK1165 := n0_
                 have BK1166 := n1_
                 have BK1193 := n2_
                 have BK1194 := n3_
                 have HB := n4_
                 clear n0_ n1_ n2_ n3_ n4_
                 refine start_ (n := 22) (S := fun w' => w'.cell? ⟨gb1165, 0, none⟩ = some (.int .i64 a0_0) ∧ w'.cell? ⟨gb1165, 1, none⟩ = some (.int .i64 a0_1) ∧ w'.cell? ⟨gb1166, 0, none⟩ = some (.int .i64 a1_0) ∧ w'.cell? ⟨gb1166, 1, none⟩ = some (.int .i64 a1_1)) (ds := []) #[false, false, false, false, false, false, false, false, false, false, false, false, false, false, false, false, false, false, false, false, false, false] (by kernel_rfl) rfl rfl ⟨hcz BK1165 0, hcz BK1165 1, hcz BK1166 0, hcz BK1166 1⟩ (fun hHeld => ?_); refine with_tabW gimballaw02_ItvKeeps.tab14 gimballaw02_ItvKeeps.bits14 (fun HT_ HW_ => ?_)
                 generalize wc.drew = w163 at BK1165 BK1166 BK1193 BK1194 HB hHeld ⊢
                 refine pureQ 0 136 HT_.out ?_
                 refine pureQ 1 137 HT_.out ?_
                 refine pureQ 2 138 HT_.out ?_
                 refine pureQ 6 142 HT_.out ?_
                 refine pureQ 7 143 HT_.out ?_
                 refine pureQ 8 144 HT_.out ?_
                 refine takeQ 3 139 HT_.out HW_.out hHeld ?_
                 refine takeQ 4 140 HT_.out HW_.out hHeld ?_
                 refine oneQ 5 141 HT_.out (fun K hK => ?_)
                 refine goesQ Try.func45 #[.agg #[.int .i64 a0_0, .int .i64 a0_1], .agg #[.int .i64 a1_0, .int .i64 a1_1]] ?_
                 with_reducible refine (itv_Div.calls kj84 a0_0 a0_1 a1_0 a1_1 t1202 t1203 _ A158.out).mono ?_
                 rintro e w164 ⟨rfl, hb⟩
                 refine ⟨_, rfl, ?_⟩
                 have n0_ := bst HB hb
                 replace BK1165 := bbw BK1165 hb
                 replace BK1166 := bbw BK1166 hb
                 replace BK1193 := bbw BK1193 hb
                 replace BK1194 := bbw BK1194 hb
                 clear HB
                 have HB := n0_
                 clear n0_
                 (try clear hb)
                 (try clear hb2)
                 (try clear hk)
                 (try clear hi)
                 refine hK.out _ _ ⟨hcz BK1165 0, hcz BK1165 1, hcz BK1166 0, hcz BK1166 1⟩ (fun hHeld => ?_)
                 clear hK K
                 refine normQ (N := 141) ?_
                 refine oneQ 9 145 HT_.out (fun K hK => ?_)
                 refine goesQ Try.func22 #[.agg #[.int .i64 t1202, .int .i64 t1203], .int .i64 (wrap64 (Int.tdiv t1167 t1169))] ?_
                 with_reducible refine (itv_Has.calls t1202 t1203 (wrap64 (Int.tdiv t1167 t1169)) true _ A159.out).mono ?_
                 rintro e w165 ⟨rfl, hb⟩
                 refine ⟨_, rfl, ?_⟩
                 have n0_ := bst HB hb
                 replace BK1165 := bbw BK1165 hb
                 replace BK1166 := bbw BK1166 hb
                 replace BK1193 := bbw BK1193 hb
                 replace BK1194 := bbw BK1194 hb
                 clear HB
                 have HB := n0_
                 clear n0_
                 (try clear hb)
                 (try clear hb2)
                 (try clear hk)
                 (try clear hi)
                 refine hK.out _ _ ⟨hcz BK1165 0, hcz BK1165 1, hcz BK1166 0, hcz BK1166 1⟩ (fun hHeld => ?_)
                 clear hK K
                 refine normQ (N := 145) ?_
                 refine pureQ 10 146 HT_.out ?_
                 refine pureQ 11 147 HT_.out ?_
                 refine pureQ 15 151 HT_.out ?_
                 refine pureQ 16 152 HT_.out ?_
                 refine pureQ 17 153 HT_.out ?_
                 refine takeQ 12 148 HT_.out HW_.out hHeld ?_
                 refine takeQ 13 149 HT_.out HW_.out hHeld ?_
                 refine oneQ 14 150 HT_.out (fun K hK => ?_)
                 refine goesQ Try.func56 #[.agg #[.int .i64 a0_0, .int .i64 a0_1], .agg #[.int .i64 a1_0, .int .i64 a1_1]] ?_
                 with_reducible refine (itv_Mod.calls kj84 a0_0 a0_1 a1_0 a1_1 t1205 t1206 _ A161.out).mono ?_
                 rintro e w166 ⟨rfl, hb⟩
                 refine ⟨_, rfl, ?_⟩
                 have n0_ := bst HB hb
                 replace BK1165 := bbw BK1165 hb
                 replace BK1166 := bbw BK1166 hb
                 replace BK1193 := bbw BK1193 hb
                 replace BK1194 := bbw BK1194 hb
                 clear HB
                 have HB := n0_
                 clear n0_
                 (try clear hb)
                 (try clear hb2)
                 (try clear hk)
                 (try clear hi)
                 refine hK.out _ _ ⟨hcz BK1165 0, hcz BK1165 1, hcz BK1166 0, hcz BK1166 1⟩ (fun hHeld => ?_)
                 clear hK K
                 refine normQ (N := 150) ?_
                 refine oneQ 18 154 HT_.out (fun K hK => ?_)
                 refine goesQ Try.func22 #[.agg #[.int .i64 t1205, .int .i64 t1206], .int .i64 (Int.tmod t1167 t1169)] ?_
                 with_reducible refine (itv_Has.calls t1205 t1206 (Int.tmod t1167 t1169) t1207 _ A162.out).mono ?_
                 rintro e w167 ⟨rfl, hb⟩
                 refine ⟨_, rfl, ?_⟩
                 have n0_ := bst HB hb
                 replace BK1165 := bbw BK1165 hb
                 replace BK1166 := bbw BK1166 hb
                 replace BK1193 := bbw BK1193 hb
                 replace BK1194 := bbw BK1194 hb
                 clear HB
                 have HB := n0_
                 clear n0_
                 (try clear hb)
                 (try clear hb2)
                 (try clear hk)
                 (try clear hi)
                 refine hK.out _ _ ⟨hcz BK1165 0, hcz BK1165 1, hcz BK1166 0, hcz BK1166 1⟩ (fun hHeld => ?_)
                 clear hK K
                 refine normQ (N := 154) ?_
                 refine pureQ 19 155 HT_.out ?_
                 refine pureQ 20 156 HT_.out ?_
                 refine pureQ 21 157 HT_.out ?_
                 refine done_ (done_of HT_.out (by kernel_rfl)) ?_
                 try go_wp2
                 go_meet
                 case rel => exact ⟨_, (!t1207), (by first | rfl | (simp; done) | (simp [*]; done)), H', ⟨by have := HJ7.out; have := HJ34.out; have := HJ75.out; have := HJ84.out; first | omega | exact Nat.le_refl _⟩, pkA BK1165, pkA BK1166, pkA BK1193, pkA BK1194, bpk HB⟩
                ·
                 replace c160 := Bool.eq_false_iff.mpr c160
                 subst c160
                 have H1 : (gimballaw02_ItvKeeps.j4 kj84 t1167 t1169 true a0_0 a0_1 a1_0 a1_1) = some true := by rw [if_neg (show ¬ (false = true) by decide)] at H; exact H
                 clear H
                 have H := H1
                 clear H1
                 have H' := Aside0.mk H
                 clear H
                 try go_wp2
                 have n0_ := Aside0.mk (blk_drew BK1165.out)
                 have n1_ := Aside0.mk (blk_drew BK1166.out)
                 have n2_ := Aside0.mk (blk_drew BK1193.out)
                 have n3_ := Aside0.mk (blk_drew BK1194.out)
                 have n4_ := Aside0.mk (below_drew1 HB.out)
                 clear BK1165
                 clear BK1166
                 clear BK1193
                 clear BK1194
                 clear HB
                 have BK1165 := n0_
                 have BK1166 := n1_
                 have BK1193 := n2_
                 have BK1194 := n3_
                 have HB := n4_
                 clear n0_ n1_ n2_ n3_ n4_
                 refine start_ (n := 22) (S := fun w' => w'.cell? ⟨gb1165, 0, none⟩ = some (.int .i64 a0_0) ∧ w'.cell? ⟨gb1165, 1, none⟩ = some (.int .i64 a0_1) ∧ w'.cell? ⟨gb1166, 0, none⟩ = some (.int .i64 a1_0) ∧ w'.cell? ⟨gb1166, 1, none⟩ = some (.int .i64 a1_1)) (ds := []) #[false, false, false, false, false, false, false, false, false, false, false, false, false, false, false, false, false, false, false, false, false, false] (by kernel_rfl) rfl rfl ⟨hcz BK1165 0, hcz BK1165 1, hcz BK1166 0, hcz BK1166 1⟩ (fun hHeld => ?_); refine with_tabW gimballaw02_ItvKeeps.tab14 gimballaw02_ItvKeeps.bits14 (fun HT_ HW_ => ?_)
                 generalize wc.drew = w168 at BK1165 BK1166 BK1193 BK1194 HB hHeld ⊢
                 refine pureQ 0 136 HT_.out ?_
                 refine pureQ 1 137 HT_.out ?_
                 refine pureQ 2 138 HT_.out ?_
                 refine pureQ 6 142 HT_.out ?_
                 refine pureQ 7 143 HT_.out ?_
                 refine pureQ 8 144 HT_.out ?_
                 refine takeQ 3 139 HT_.out HW_.out hHeld ?_
                 refine takeQ 4 140 HT_.out HW_.out hHeld ?_
                 refine oneQ 5 141 HT_.out (fun K hK => ?_)
                 refine goesQ Try.func45 #[.agg #[.int .i64 a0_0, .int .i64 a0_1], .agg #[.int .i64 a1_0, .int .i64 a1_1]] ?_
                 with_reducible refine (itv_Div.calls kj84 a0_0 a0_1 a1_0 a1_1 t1202 t1203 _ A158.out).mono ?_
                 rintro e w169 ⟨rfl, hb⟩
                 refine ⟨_, rfl, ?_⟩
                 have n0_ := bst HB hb
                 replace BK1165 := bbw BK1165 hb
                 replace BK1166 := bbw BK1166 hb
                 replace BK1193 := bbw BK1193 hb
                 replace BK1194 := bbw BK1194 hb
                 clear HB
                 have HB := n0_
                 clear n0_
                 (try clear hb)
                 (try clear hb2)
                 (try clear hk)
                 (try clear hi)
                 refine hK.out _ _ ⟨hcz BK1165 0, hcz BK1165 1, hcz BK1166 0, hcz BK1166 1⟩ (fun hHeld => ?_)
                 clear hK K
                 refine normQ (N := 141) ?_
                 refine oneQ 9 145 HT_.out (fun K hK => ?_)
                 refine goesQ Try.func22 #[.agg #[.int .i64 t1202, .int .i64 t1203], .int .i64 (wrap64 (Int.tdiv t1167 t1169))] ?_
                 with_reducible refine (itv_Has.calls t1202 t1203 (wrap64 (Int.tdiv t1167 t1169)) false _ A159.out).mono ?_
                 rintro e w170 ⟨rfl, hb⟩
                 refine ⟨_, rfl, ?_⟩
                 have n0_ := bst HB hb
                 replace BK1165 := bbw BK1165 hb
                 replace BK1166 := bbw BK1166 hb
                 replace BK1193 := bbw BK1193 hb
                 replace BK1194 := bbw BK1194 hb
                 clear HB
                 have HB := n0_
                 clear n0_
                 (try clear hb)
                 (try clear hb2)
                 (try clear hk)
                 (try clear hi)
                 refine hK.out _ _ ⟨hcz BK1165 0, hcz BK1165 1, hcz BK1166 0, hcz BK1166 1⟩ (fun hHeld => ?_)
                 clear hK K
                 refine normQ (N := 145) ?_
                 refine pureQ 10 146 HT_.out ?_
                 refine pureQ 11 147 HT_.out ?_
                 refine pureU 12 148 HT_.out ?_
                 refine pureU 13 149 HT_.out ?_
                 refine pureU 14 150 HT_.out ?_
                 refine pureU 15 151 HT_.out ?_
                 refine pureU 16 152 HT_.out ?_
                 refine pureU 17 153 HT_.out ?_
                 refine pureU 18 154 HT_.out ?_
                 refine pureU 19 155 HT_.out ?_
                 refine pureQ 20 156 HT_.out ?_
                 refine pureQ 21 157 HT_.out ?_
                 refine done_ (done_of HT_.out (by kernel_rfl)) ?_
                 try go_wp2
                 go_meet
                 case rel => exact ⟨_, (true), (by first | rfl | (simp; done) | (simp [*]; done)), H', ⟨by have := HJ7.out; have := HJ34.out; have := HJ75.out; have := HJ84.out; first | omega | exact Nat.le_refl _⟩, pkA BK1165, pkA BK1166, pkA BK1193, pkA BK1194, bpk HB⟩
              case rest => as_aux_lemma =>
               clear HC155
               try clear c1
               try clear c2
               try clear p2
               try clear c4
               try clear c5
               try clear p6
               try clear c15
               try clear c16
               try clear c22
               try clear c45
               try clear c56
               try clear p64
               try clear c156
               try clear c156b0
               try clear c156b1
               try clear c160
               obtain ⟨kq, x157_154, rfl, HA, HJ154, BK1165, BK1166, BK1193, BK1194, HB⟩ := hcut
               cases kq with
               | zero => exact absurd HA.out (by simp [gimballaw02_ItvKeeps.j4])
               | succ kj154 =>
                have H := HA.out
                clear HA
                simp only [gimballaw02_ItvKeeps.j4] at H
                by_cases c171 : x157_154 = true
                ·
                 subst c171
                 have H1 : (some false) = some true := by rw [if_pos rfl] at H; exact H
                 clear H
                 have H := H1
                 clear H1
                 exact absurd H (by simp)
                ·
                 replace c171 := Bool.eq_false_iff.mpr c171
                 subst c171
                 have H1 : ((itv_Add.f kj154 a0_0 a0_1 a1_0 a1_1).bind fun bt1208 => ((itv_Has.f bt1208.1 bt1208.2 (wrap64 (t1167 + t1169))).bind fun t1210 => (if t1210 = true then ((itv_Sub.f kj154 a0_0 a0_1 a1_0 a1_1).bind fun bt1211 => ((itv_Has.f bt1211.1 bt1211.2 (wrap64 (t1167 - t1169))).bind fun t1213 => (if t1213 = true then ((itv_Mul.f kj154 a0_0 a0_1 a1_0 a1_1).bind fun bt1214 => ((itv_Has.f bt1214.1 bt1214.2 (wrap64 (t1167 * t1169))).bind fun t1216 => (if t1216 = true then ((itv_Neg.f a0_0 a0_1).bind fun bt1217 => ((itv_Has.f bt1217.1 bt1217.2 (wrap64 (-t1167))).bind fun t1219 => (if t1219 = true then ((itv_Abs.f kj154 a0_0 a0_1).bind fun bt1220 => ((gimballaw02_size.f t1167).bind fun t1222 => ((itv_Has.f bt1220.1 bt1220.2 t1222).bind fun t1223 => (if t1223 = true then ((gimballaw02_awake.f kj154).bind fun t1224 => (some t1224)) else (some false))))) else (some false)))) else (some false)))) else (some false)))) else (some false)))) = some true := by rw [if_neg (show ¬ (false = true) by decide)] at H; exact H
                 clear H
                 have H := H1
                 clear H1
                 replace H := Option.bind_eq_some_iff.mp H
                 obtain ⟨⟨t1208, t1209⟩, A1720, H⟩ := H
                 replace H : ((itv_Has.f t1208 t1209 (wrap64 (t1167 + t1169))).bind fun t1210 => (if t1210 = true then ((itv_Sub.f kj154 a0_0 a0_1 a1_0 a1_1).bind fun bt1211 => ((itv_Has.f bt1211.1 bt1211.2 (wrap64 (t1167 - t1169))).bind fun t1213 => (if t1213 = true then ((itv_Mul.f kj154 a0_0 a0_1 a1_0 a1_1).bind fun bt1214 => ((itv_Has.f bt1214.1 bt1214.2 (wrap64 (t1167 * t1169))).bind fun t1216 => (if t1216 = true then ((itv_Neg.f a0_0 a0_1).bind fun bt1217 => ((itv_Has.f bt1217.1 bt1217.2 (wrap64 (-t1167))).bind fun t1219 => (if t1219 = true then ((itv_Abs.f kj154 a0_0 a0_1).bind fun bt1220 => ((gimballaw02_size.f t1167).bind fun t1222 => ((itv_Has.f bt1220.1 bt1220.2 t1222).bind fun t1223 => (if t1223 = true then ((gimballaw02_awake.f kj154).bind fun t1224 => (some t1224)) else (some false))))) else (some false)))) else (some false)))) else (some false)))) else (some false))) = some true := H
                 have A172 := Aside0.mk A1720
                 clear A1720
                 replace H := Option.bind_eq_some_iff.mp H
                 obtain ⟨t1210, A1730, H⟩ := H
                 replace H : (if t1210 = true then ((itv_Sub.f kj154 a0_0 a0_1 a1_0 a1_1).bind fun bt1211 => ((itv_Has.f bt1211.1 bt1211.2 (wrap64 (t1167 - t1169))).bind fun t1213 => (if t1213 = true then ((itv_Mul.f kj154 a0_0 a0_1 a1_0 a1_1).bind fun bt1214 => ((itv_Has.f bt1214.1 bt1214.2 (wrap64 (t1167 * t1169))).bind fun t1216 => (if t1216 = true then ((itv_Neg.f a0_0 a0_1).bind fun bt1217 => ((itv_Has.f bt1217.1 bt1217.2 (wrap64 (-t1167))).bind fun t1219 => (if t1219 = true then ((itv_Abs.f kj154 a0_0 a0_1).bind fun bt1220 => ((gimballaw02_size.f t1167).bind fun t1222 => ((itv_Has.f bt1220.1 bt1220.2 t1222).bind fun t1223 => (if t1223 = true then ((gimballaw02_awake.f kj154).bind fun t1224 => (some t1224)) else (some false))))) else (some false)))) else (some false)))) else (some false)))) else (some false)) = some true := H
                 have A173 := Aside0.mk A1730
                 clear A1730
                 by_cases c174 : t1210 = true
                 ·
                  subst c174
                  have H1 : ((itv_Sub.f kj154 a0_0 a0_1 a1_0 a1_1).bind fun bt1211 => ((itv_Has.f bt1211.1 bt1211.2 (wrap64 (t1167 - t1169))).bind fun t1213 => (if t1213 = true then ((itv_Mul.f kj154 a0_0 a0_1 a1_0 a1_1).bind fun bt1214 => ((itv_Has.f bt1214.1 bt1214.2 (wrap64 (t1167 * t1169))).bind fun t1216 => (if t1216 = true then ((itv_Neg.f a0_0 a0_1).bind fun bt1217 => ((itv_Has.f bt1217.1 bt1217.2 (wrap64 (-t1167))).bind fun t1219 => (if t1219 = true then ((itv_Abs.f kj154 a0_0 a0_1).bind fun bt1220 => ((gimballaw02_size.f t1167).bind fun t1222 => ((itv_Has.f bt1220.1 bt1220.2 t1222).bind fun t1223 => (if t1223 = true then ((gimballaw02_awake.f kj154).bind fun t1224 => (some t1224)) else (some false))))) else (some false)))) else (some false)))) else (some false)))) = some true := by rw [if_pos rfl] at H; exact H
                  clear H
                  have H := H1
                  clear H1
                  replace H := Option.bind_eq_some_iff.mp H
                  obtain ⟨⟨t1211, t1212⟩, A1750, H⟩ := H
                  replace H : ((itv_Has.f t1211 t1212 (wrap64 (t1167 - t1169))).bind fun t1213 => (if t1213 = true then ((itv_Mul.f kj154 a0_0 a0_1 a1_0 a1_1).bind fun bt1214 => ((itv_Has.f bt1214.1 bt1214.2 (wrap64 (t1167 * t1169))).bind fun t1216 => (if t1216 = true then ((itv_Neg.f a0_0 a0_1).bind fun bt1217 => ((itv_Has.f bt1217.1 bt1217.2 (wrap64 (-t1167))).bind fun t1219 => (if t1219 = true then ((itv_Abs.f kj154 a0_0 a0_1).bind fun bt1220 => ((gimballaw02_size.f t1167).bind fun t1222 => ((itv_Has.f bt1220.1 bt1220.2 t1222).bind fun t1223 => (if t1223 = true then ((gimballaw02_awake.f kj154).bind fun t1224 => (some t1224)) else (some false))))) else (some false)))) else (some false)))) else (some false))) = some true := H
                  have A175 := Aside0.mk A1750
                  clear A1750
                  replace H := Option.bind_eq_some_iff.mp H
                  obtain ⟨t1213, A1760, H⟩ := H
                  replace H : (if t1213 = true then ((itv_Mul.f kj154 a0_0 a0_1 a1_0 a1_1).bind fun bt1214 => ((itv_Has.f bt1214.1 bt1214.2 (wrap64 (t1167 * t1169))).bind fun t1216 => (if t1216 = true then ((itv_Neg.f a0_0 a0_1).bind fun bt1217 => ((itv_Has.f bt1217.1 bt1217.2 (wrap64 (-t1167))).bind fun t1219 => (if t1219 = true then ((itv_Abs.f kj154 a0_0 a0_1).bind fun bt1220 => ((gimballaw02_size.f t1167).bind fun t1222 => ((itv_Has.f bt1220.1 bt1220.2 t1222).bind fun t1223 => (if t1223 = true then ((gimballaw02_awake.f kj154).bind fun t1224 => (some t1224)) else (some false))))) else (some false)))) else (some false)))) else (some false)) = some true := H
                  have A176 := Aside0.mk A1760
                  clear A1760
                  by_cases c177 : t1213 = true
                  ·
                   subst c177
                   have H1 : ((itv_Mul.f kj154 a0_0 a0_1 a1_0 a1_1).bind fun bt1214 => ((itv_Has.f bt1214.1 bt1214.2 (wrap64 (t1167 * t1169))).bind fun t1216 => (if t1216 = true then ((itv_Neg.f a0_0 a0_1).bind fun bt1217 => ((itv_Has.f bt1217.1 bt1217.2 (wrap64 (-t1167))).bind fun t1219 => (if t1219 = true then ((itv_Abs.f kj154 a0_0 a0_1).bind fun bt1220 => ((gimballaw02_size.f t1167).bind fun t1222 => ((itv_Has.f bt1220.1 bt1220.2 t1222).bind fun t1223 => (if t1223 = true then ((gimballaw02_awake.f kj154).bind fun t1224 => (some t1224)) else (some false))))) else (some false)))) else (some false)))) = some true := by rw [if_pos rfl] at H; exact H
                   clear H
                   have H := H1
                   clear H1
                   replace H := Option.bind_eq_some_iff.mp H
                   obtain ⟨⟨t1214, t1215⟩, A1780, H⟩ := H
                   replace H : ((itv_Has.f t1214 t1215 (wrap64 (t1167 * t1169))).bind fun t1216 => (if t1216 = true then ((itv_Neg.f a0_0 a0_1).bind fun bt1217 => ((itv_Has.f bt1217.1 bt1217.2 (wrap64 (-t1167))).bind fun t1219 => (if t1219 = true then ((itv_Abs.f kj154 a0_0 a0_1).bind fun bt1220 => ((gimballaw02_size.f t1167).bind fun t1222 => ((itv_Has.f bt1220.1 bt1220.2 t1222).bind fun t1223 => (if t1223 = true then ((gimballaw02_awake.f kj154).bind fun t1224 => (some t1224)) else (some false))))) else (some false)))) else (some false))) = some true := H
                   have A178 := Aside0.mk A1780
                   clear A1780
                   replace H := Option.bind_eq_some_iff.mp H
                   obtain ⟨t1216, A1790, H⟩ := H
                   replace H : (if t1216 = true then ((itv_Neg.f a0_0 a0_1).bind fun bt1217 => ((itv_Has.f bt1217.1 bt1217.2 (wrap64 (-t1167))).bind fun t1219 => (if t1219 = true then ((itv_Abs.f kj154 a0_0 a0_1).bind fun bt1220 => ((gimballaw02_size.f t1167).bind fun t1222 => ((itv_Has.f bt1220.1 bt1220.2 t1222).bind fun t1223 => (if t1223 = true then ((gimballaw02_awake.f kj154).bind fun t1224 => (some t1224)) else (some false))))) else (some false)))) else (some false)) = some true := H
                   have A179 := Aside0.mk A1790
                   clear A1790
                   by_cases c180 : t1216 = true
                   ·
                    subst c180
                    have H1 : ((itv_Neg.f a0_0 a0_1).bind fun bt1217 => ((itv_Has.f bt1217.1 bt1217.2 (wrap64 (-t1167))).bind fun t1219 => (if t1219 = true then ((itv_Abs.f kj154 a0_0 a0_1).bind fun bt1220 => ((gimballaw02_size.f t1167).bind fun t1222 => ((itv_Has.f bt1220.1 bt1220.2 t1222).bind fun t1223 => (if t1223 = true then ((gimballaw02_awake.f kj154).bind fun t1224 => (some t1224)) else (some false))))) else (some false)))) = some true := by rw [if_pos rfl] at H; exact H
                    clear H
                    have H := H1
                    clear H1
                    replace H := Option.bind_eq_some_iff.mp H
                    obtain ⟨⟨t1217, t1218⟩, A1810, H⟩ := H
                    replace H : ((itv_Has.f t1217 t1218 (wrap64 (-t1167))).bind fun t1219 => (if t1219 = true then ((itv_Abs.f kj154 a0_0 a0_1).bind fun bt1220 => ((gimballaw02_size.f t1167).bind fun t1222 => ((itv_Has.f bt1220.1 bt1220.2 t1222).bind fun t1223 => (if t1223 = true then ((gimballaw02_awake.f kj154).bind fun t1224 => (some t1224)) else (some false))))) else (some false))) = some true := H
                    have A181 := Aside0.mk A1810
                    clear A1810
                    replace H := Option.bind_eq_some_iff.mp H
                    obtain ⟨t1219, A1820, H⟩ := H
                    replace H : (if t1219 = true then ((itv_Abs.f kj154 a0_0 a0_1).bind fun bt1220 => ((gimballaw02_size.f t1167).bind fun t1222 => ((itv_Has.f bt1220.1 bt1220.2 t1222).bind fun t1223 => (if t1223 = true then ((gimballaw02_awake.f kj154).bind fun t1224 => (some t1224)) else (some false))))) else (some false)) = some true := H
                    have A182 := Aside0.mk A1820
                    clear A1820
                    by_cases c183 : t1219 = true
                    ·
                     subst c183
                     have H1 : ((itv_Abs.f kj154 a0_0 a0_1).bind fun bt1220 => ((gimballaw02_size.f t1167).bind fun t1222 => ((itv_Has.f bt1220.1 bt1220.2 t1222).bind fun t1223 => (if t1223 = true then ((gimballaw02_awake.f kj154).bind fun t1224 => (some t1224)) else (some false))))) = some true := by rw [if_pos rfl] at H; exact H
                     clear H
                     have H := H1
                     clear H1
                     replace H := Option.bind_eq_some_iff.mp H
                     obtain ⟨⟨t1220, t1221⟩, A1840, H⟩ := H
                     replace H : ((gimballaw02_size.f t1167).bind fun t1222 => ((itv_Has.f t1220 t1221 t1222).bind fun t1223 => (if t1223 = true then ((gimballaw02_awake.f kj154).bind fun t1224 => (some t1224)) else (some false)))) = some true := H
                     have A184 := Aside0.mk A1840
                     clear A1840
                     replace H := Option.bind_eq_some_iff.mp H
                     obtain ⟨t1222, A1850, H⟩ := H
                     replace H : ((itv_Has.f t1220 t1221 t1222).bind fun t1223 => (if t1223 = true then ((gimballaw02_awake.f kj154).bind fun t1224 => (some t1224)) else (some false))) = some true := H
                     have A185 := Aside0.mk A1850
                     clear A1850
                     replace H := Option.bind_eq_some_iff.mp H
                     obtain ⟨t1223, A1860, H⟩ := H
                     replace H : (if t1223 = true then ((gimballaw02_awake.f kj154).bind fun t1224 => (some t1224)) else (some false)) = some true := H
                     have A186 := Aside0.mk A1860
                     clear A1860
                     by_cases c187 : t1223 = true
                     ·
                      subst c187
                      have H1 : ((gimballaw02_awake.f kj154).bind fun t1224 => (some t1224)) = some true := by rw [if_pos rfl] at H; exact H
                      clear H
                      have H := H1
                      clear H1
                      replace H := Option.bind_eq_some_iff.mp H
                      obtain ⟨t1224, A1880, H⟩ := H
                      replace H : (some t1224) = some true := H
                      have A188 := Aside0.mk A1880
                      clear A1880
                      have hret_ := Option.some.inj H
                      clear H
                      have hnb189 := NB1165_1166.out
                      have hnc189 := NB1166_1165.out
                      have hnb190 := NB1165_1193.out
                      have hnc190 := NB1193_1165.out
                      have hnb191 := NB1165_1194.out
                      have hnc191 := NB1194_1165.out
                      have hcz192_0 := hcz BK1165 0
                      have hcz192_1 := hcz BK1165 1
                      have hfz192_0 := blk_frozen BK1165.out 0
                      have hfz192_1 := blk_frozen BK1165.out 1
                      have hnb193 := NB1166_1193.out
                      have hnc193 := NB1193_1166.out
                      have hnb194 := NB1166_1194.out
                      have hnc194 := NB1194_1166.out
                      have hcz195_0 := hcz BK1166 0
                      have hcz195_1 := hcz BK1166 1
                      have hfz195_0 := blk_frozen BK1166.out 0
                      have hfz195_1 := blk_frozen BK1166.out 1
                      go_wp2_with (first | ((with_reducible refine gate_callee (f := 40) rfl ?_); refine goesL_ (some 160) rfl rfl Try.func40 (by kernel_rfl) rfl #[.agg #[.int .i64 a0_0, .int .i64 a0_1], .agg #[.int .i64 a1_0, .int .i64 a1_1]] rfl (by (try simp only [List.map_toArray, List.map_cons, List.map_nil]); first | done | rfl | (simp only [List.length_drop, List.length_take]; rfl)) ?_; (with_reducible refine (itv_Add.calls kj154 a0_0 a0_1 a1_0 a1_1 t1208 t1209 _ A172.out).mono ?_); rintro e w196 ⟨rfl, hb⟩; refine ⟨_, rfl, ?_⟩; have n0_ := bst HB hb; replace BK1165 := bbw BK1165 hb; replace BK1166 := bbw BK1166 hb; replace BK1193 := bbw BK1193 hb; replace BK1194 := bbw BK1194 hb; clear HB; have HB := n0_; clear n0_; (try clear hb); (try clear hb2); (try clear hk); (try clear hi)) | ((with_reducible refine gate_callee (f := 22) rfl ?_); refine goesL_ (some 164) rfl rfl Try.func22 (by kernel_rfl) rfl #[.agg #[.int .i64 t1208, .int .i64 t1209], .int .i64 (wrap64 (t1167 + t1169))] rfl (by (try simp only [List.map_toArray, List.map_cons, List.map_nil]); first | done | rfl | (simp only [List.length_drop, List.length_take]; rfl)) ?_; (with_reducible refine (itv_Has.calls t1208 t1209 (wrap64 (t1167 + t1169)) true _ A173.out).mono ?_); rintro e w197 ⟨rfl, hb⟩; refine ⟨_, rfl, ?_⟩; have n0_ := bst HB hb; replace BK1165 := bbw BK1165 hb; replace BK1166 := bbw BK1166 hb; replace BK1193 := bbw BK1193 hb; replace BK1194 := bbw BK1194 hb; clear HB; have HB := n0_; clear n0_; (try clear hb); (try clear hb2); (try clear hk); (try clear hi); have hcz198_0 := hcz BK1165 0; have hcz198_1 := hcz BK1165 1; have hfz198_0 := blk_frozen BK1165.out 0; have hfz198_1 := blk_frozen BK1165.out 1; have hcz199_0 := hcz BK1166 0; have hcz199_1 := hcz BK1166 1; have hfz199_0 := blk_frozen BK1166.out 0; have hfz199_1 := blk_frozen BK1166.out 1) | (go_at_call 41; (with_reducible refine (itv_Sub.calls kj154 a0_0 a0_1 a1_0 a1_1 t1211 t1212 _ A175.out).mono ?_); rintro e w200 ⟨rfl, hb⟩; have n0_ := bst HB hb; replace BK1165 := bbw BK1165 hb; replace BK1166 := bbw BK1166 hb; replace BK1193 := bbw BK1193 hb; replace BK1194 := bbw BK1194 hb; clear HB; have HB := n0_; clear n0_; (try clear hb); (try clear hb2); (try clear hk); (try clear hi)) | (go_at_call 22; (with_reducible refine (itv_Has.calls t1211 t1212 (wrap64 (t1167 - t1169)) true _ A176.out).mono ?_); rintro e w201 ⟨rfl, hb⟩; have n0_ := bst HB hb; replace BK1165 := bbw BK1165 hb; replace BK1166 := bbw BK1166 hb; replace BK1193 := bbw BK1193 hb; replace BK1194 := bbw BK1194 hb; clear HB; have HB := n0_; clear n0_; (try clear hb); (try clear hb2); (try clear hk); (try clear hi); have hcz202_0 := hcz BK1165 0; have hcz202_1 := hcz BK1165 1; have hfz202_0 := blk_frozen BK1165.out 0; have hfz202_1 := blk_frozen BK1165.out 1; have hcz203_0 := hcz BK1166 0; have hcz203_1 := hcz BK1166 1; have hfz203_0 := blk_frozen BK1166.out 0; have hfz203_1 := blk_frozen BK1166.out 1) | (go_at_call 42; (with_reducible refine (itv_Mul.calls kj154 a0_0 a0_1 a1_0 a1_1 t1214 t1215 _ A178.out).mono ?_); rintro e w204 ⟨rfl, hb⟩; have n0_ := bst HB hb; replace BK1165 := bbw BK1165 hb; replace BK1166 := bbw BK1166 hb; replace BK1193 := bbw BK1193 hb; replace BK1194 := bbw BK1194 hb; clear HB; have HB := n0_; clear n0_; (try clear hb); (try clear hb2); (try clear hk); (try clear hi)) | (go_at_call 22; (with_reducible refine (itv_Has.calls t1214 t1215 (wrap64 (t1167 * t1169)) true _ A179.out).mono ?_); rintro e w205 ⟨rfl, hb⟩; have n0_ := bst HB hb; replace BK1165 := bbw BK1165 hb; replace BK1166 := bbw BK1166 hb; replace BK1193 := bbw BK1193 hb; replace BK1194 := bbw BK1194 hb; clear HB; have HB := n0_; clear n0_; (try clear hb); (try clear hb2); (try clear hk); (try clear hi); have hcz206_0 := hcz BK1165 0; have hcz206_1 := hcz BK1165 1; have hfz206_0 := blk_frozen BK1165.out 0; have hfz206_1 := blk_frozen BK1165.out 1) | (go_at_call 46; (with_reducible refine (itv_Neg.calls a0_0 a0_1 t1217 t1218 _ A181.out).mono ?_); rintro e w207 ⟨rfl, hb⟩; have n0_ := bst HB hb; replace BK1165 := bbw BK1165 hb; replace BK1166 := bbw BK1166 hb; replace BK1193 := bbw BK1193 hb; replace BK1194 := bbw BK1194 hb; clear HB; have HB := n0_; clear n0_; (try clear hb); (try clear hb2); (try clear hk); (try clear hi)) | (go_at_call 22; (with_reducible refine (itv_Has.calls t1217 t1218 (wrap64 (-t1167)) true _ A182.out).mono ?_); rintro e w208 ⟨rfl, hb⟩; have n0_ := bst HB hb; replace BK1165 := bbw BK1165 hb; replace BK1166 := bbw BK1166 hb; replace BK1193 := bbw BK1193 hb; replace BK1194 := bbw BK1194 hb; clear HB; have HB := n0_; clear n0_; (try clear hb); (try clear hb2); (try clear hk); (try clear hi); have hcz209_0 := hcz BK1165 0; have hcz209_1 := hcz BK1165 1; have hfz209_0 := blk_frozen BK1165.out 0; have hfz209_1 := blk_frozen BK1165.out 1) | (go_at_call 47; (with_reducible refine (itv_Abs.calls kj154 a0_0 a0_1 t1220 t1221 _ A184.out).mono ?_); rintro e w210 ⟨rfl, hb⟩; have n0_ := bst HB hb; replace BK1165 := bbw BK1165 hb; replace BK1166 := bbw BK1166 hb; replace BK1193 := bbw BK1193 hb; replace BK1194 := bbw BK1194 hb; clear HB; have HB := n0_; clear n0_; (try clear hb); (try clear hb2); (try clear hk); (try clear hi)) | (go_at_call 39; (with_reducible refine (gimballaw02_size.calls t1167 t1222 _ A185.out).mono ?_); rintro e w' ⟨rfl, ⟨nd, rfl⟩⟩) | (go_at_call 22; (with_reducible refine (itv_Has.calls t1220 t1221 t1222 true _ A186.out).mono ?_); rintro e w211 ⟨rfl, hb⟩; have n0_ := bst HB hb; replace BK1165 := bbw BK1165 hb; replace BK1166 := bbw BK1166 hb; replace BK1193 := bbw BK1193 hb; replace BK1194 := bbw BK1194 hb; clear HB; have HB := n0_; clear n0_; (try clear hb); (try clear hb2); (try clear hk); (try clear hi)) | (go_at_call 36; (with_reducible refine (gimballaw02_awake.calls kj154  t1224 _ A188.out).mono ?_); rintro e w212 ⟨rfl, hb⟩; have n0_ := bst HB hb; replace BK1165 := bbw BK1165 hb; replace BK1166 := bbw BK1166 hb; replace BK1193 := bbw BK1193 hb; replace BK1194 := bbw BK1194 hb; clear HB; have HB := n0_; clear n0_; (try clear hb); (try clear hb2); (try clear hk); (try clear hi)))
                      go_ret
                      exact ⟨by first | rfl | (simp [errW_none, errW_some] <;> rfl) | (simp [*, errW_none, errW_some] <;> rfl) | kernel_rfl, by repeat (first | (with_reducible first | exact HB.out | apply below_alloc | apply pw_below_drewN | apply below_drew1 | refine below_set ?_ GE1165.out | refine below_set ?_ GE1166.out | refine below_set ?_ GE1193.out | refine below_set ?_ GE1194.out) | exact HB.out)⟩
                     ·
                      replace c187 := Bool.eq_false_iff.mpr c187
                      subst c187
                      have H1 : (some false) = some true := by rw [if_neg (show ¬ (false = true) by decide)] at H; exact H
                      clear H
                      have H := H1
                      clear H1
                      exact absurd H (by simp)
                    ·
                     replace c183 := Bool.eq_false_iff.mpr c183
                     subst c183
                     have H1 : (some false) = some true := by rw [if_neg (show ¬ (false = true) by decide)] at H; exact H
                     clear H
                     have H := H1
                     clear H1
                     exact absurd H (by simp)
                   ·
                    replace c180 := Bool.eq_false_iff.mpr c180
                    subst c180
                    have H1 : (some false) = some true := by rw [if_neg (show ¬ (false = true) by decide)] at H; exact H
                    clear H
                    have H := H1
                    clear H1
                    exact absurd H (by simp)
                  ·
                   replace c177 := Bool.eq_false_iff.mpr c177
                   subst c177
                   have H1 : (some false) = some true := by rw [if_neg (show ¬ (false = true) by decide)] at H; exact H
                   clear H
                   have H := H1
                   clear H1
                   exact absurd H (by simp)
                 ·
                  replace c174 := Bool.eq_false_iff.mpr c174
                  subst c174
                  have H1 : (some false) = some true := by rw [if_neg (show ¬ (false = true) by decide)] at H; exact H
                  clear H
                  have H := H1
                  clear H1
                  exact absurd H (by simp)
/-- THE ONE PURE STATEMENT of gimballaw02_ItvKeeps: yours. -/
def gimballaw02_ItvKeeps.Pure : Prop := ∀ (a0_0 : Int) (a0_1 : Int) (a1_0 : Int) (a1_1 : Int) (a2 : Int) (a3 : Int) (a4 : Int), (Lit.int .i64 a0_0).wf = true → (Lit.int .i64 a0_1).wf = true → (Lit.int .i64 a1_0).wf = true → (Lit.int .i64 a1_1).wf = true → (Lit.int .i64 a2).wf = true → (Lit.int .i64 a3).wf = true → (Lit.int .i64 a4).wf = true → ∃ k, gimballaw02_ItvKeeps.f k a0_0 a0_1 a1_0 a1_1 a2 a3 a4 = some true
theorem gimballaw02_ItvKeeps.walk (P : gimballaw02_ItvKeeps.Pure) (a0_0 : Int) (a0_1 : Int) (a1_0 : Int) (a1_1 : Int) (a2 : Int) (a3 : Int) (a4 : Int) (w : World) (w0_0 : (Lit.int .i64 a0_0).wf = true) (w0_1 : (Lit.int .i64 a0_1).wf = true) (w1_0 : (Lit.int .i64 a1_0).wf = true) (w1_1 : (Lit.int .i64 a1_1).wf = true) (w2 : (Lit.int .i64 a2).wf = true) (w3 : (Lit.int .i64 a3).wf = true) (w4 : (Lit.int .i64 a4).wf = true) :
    Calls Try.prog 11 #[.agg #[.int .i64 a0_0, .int .i64 a0_1], .agg #[.int .i64 a1_0, .int .i64 a1_1], .int .i64 a2, .int .i64 a3, .int .i64 a4] w fun e w' => e = .returned (.bool true) ∧ Below w.heap.size w w' := by
  obtain ⟨k, h⟩ := P a0_0 a0_1 a1_0 a1_1 a2 a3 a4 w0_0 w0_1 w1_0 w1_1 w2 w3 w4
  refine (gimballaw02_ItvKeeps.calls k a0_0 a0_1 a1_0 a1_1 a2 a3 a4  w h).mono ?_
  rintro e w' ⟨rfl, hd⟩
  exact ⟨rfl, hd⟩
end Go.Proofs.Ytbbnpipmjadpoaa.P
