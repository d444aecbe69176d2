-- PRINTED by print.py (a twelfth state) out of the translation. Not trusted: Lean checks it.
import Derived.Test.YtiemdfdebdmchaaU
import Derived.Test.YtiemdfdebdmchaaPx0
import Derived.Test.YtiemdfdebdmchaaPx16
namespace Go.Proofs.Ytiemdfdebdmchaa.P
open Go.RowKit Go.Proofs.YtiemdfdebdmchaaW.PrintWords Go.Proofs.YtiemdfdebdmchaaW.PrintLast Go.Proofs.YtiemdfdebdmchaaW.PrintMore Go.Proofs.YtiemdfdebdmchaaO
attribute [local go_sem] max2_int min2_int max_two min_two max_three min_three max_four min_four   -- for this text's walks alone
set_option linter.unusedVariables false
set_option linter.unusedSimpArgs false

/-! ### gimbalref33_Part: function 12 -/
mutual
def gimbalref33_Part.l0 : Nat → Int → Int → List Int → Int → Int → Int → Int → Int → List Int → List (List Int) → List (List Int) → Int → List Int → Int → Int → Int → Int → Int → List Int → List (List Int) → List (List Int) → Option (Int × Bool)
  | 0, _, _, _, _, _, _, _, _, _, _, _, _, _, _, _, _, _, _, _, _, _ => none
  | k + 1, x6, x335000, x335001, x335002, x335003, x335004, x335005, x335006, x335007, x335008, x335009, x336000, x336001, x336002, x336003, x336004, x336005, x336006, x336007, x336008, x336009 => if x6 < (x335009.length : Int) then (gimbalref33_Part.j1 k x6 true x335000 x335001 x335002 x335003 x335004 x335005 x335006 x335007 x335008 x335009 x336000 x336001 x336002 x336003 x336004 x336005 x336006 x336007 x336008 x336009) else (gimbalref33_Part.j1 k x6 (decide (x6 < (x336009.length : Int))) x335000 x335001 x335002 x335003 x335004 x335005 x335006 x335007 x335008 x335009 x336000 x336001 x336002 x336003 x336004 x336005 x336006 x336007 x336008 x336009)
def gimbalref33_Part.j1 : Nat → Int → Bool → Int → List Int → Int → Int → Int → Int → Int → List Int → List (List Int) → List (List Int) → Int → List Int → Int → Int → Int → Int → Int → List Int → List (List Int) → List (List Int) → Option (Int × Bool)
  | 0, _, _, _, _, _, _, _, _, _, _, _, _, _, _, _, _, _, _, _, _, _, _ => none
  | k + 1, x6, x20, x335000, x335001, x335002, x335003, x335004, x335005, x335006, x335007, x335008, x335009, x336000, x336001, x336002, x336003, x336004, x336005, x336006, x336007, x336008, x336009 => if x20 = true then (if x6 ≥ (x335009.length : Int) then (some (x6, true)) else (if x6 ≥ (x336009.length : Int) then (some (x6, true)) else (if 0 ≤ x6 then (if x6 < (x335009.length : Int) then (if x6 < (x336009.length : Int) then ((gimbalref33_sameRow.f k (rd_L1 x335009 x6) (rd_L1 x336009 x6)).bind fun t338 => (if t338 = true then (gimbalref33_Part.l0 k (wrap64 (x6 + 1)) x335000 x335001 x335002 x335003 x335004 x335005 x335006 x335007 x335008 x335009 x336000 x336001 x336002 x336003 x336004 x336005 x336006 x336007 x336008 x336009) else (some (x6, true)))) else (none)) else (none)) else (none)))) else (some (0, false))
end
def gimbalref33_Part.f (k : Nat) (a0_0 : Int) (l0_1 : List Int) (a0_2 : Int) (a0_3 : Int) (a0_4 : Int) (a0_5 : Int) (a0_6 : Int) (l0_7 : List Int) (l0_8 : List (List Int)) (l0_9 : List (List Int)) (a1_0 : Int) (l1_1 : List Int) (a1_2 : Int) (a1_3 : Int) (a1_4 : Int) (a1_5 : Int) (a1_6 : Int) (l1_7 : List Int) (l1_8 : List (List Int)) (l1_9 : List (List Int)) : Option (Int × Bool) := gimbalref33_Part.l0 k 0 a0_0 l0_1 a0_2 a0_3 a0_4 a0_5 a0_6 l0_7 l0_8 l0_9 a1_0 l1_1 a1_2 a1_3 a1_4 a1_5 a1_6 l1_7 l1_8 l1_9
theorem gimbalref33_Part.mono_l : ∀ k, (∀ y0 y1 y2 y3 y4 y5 y6 y7 y8 y9 y10 y11 y12 y13 y14 y15 y16 y17 y18 y19 y20, LeO (gimbalref33_Part.l0 k y0 y1 y2 y3 y4 y5 y6 y7 y8 y9 y10 y11 y12 y13 y14 y15 y16 y17 y18 y19 y20) (gimbalref33_Part.l0 (k + 1) y0 y1 y2 y3 y4 y5 y6 y7 y8 y9 y10 y11 y12 y13 y14 y15 y16 y17 y18 y19 y20)) ∧ (∀ y0 y1 y2 y3 y4 y5 y6 y7 y8 y9 y10 y11 y12 y13 y14 y15 y16 y17 y18 y19 y20 y21, LeO (gimbalref33_Part.j1 k y0 y1 y2 y3 y4 y5 y6 y7 y8 y9 y10 y11 y12 y13 y14 y15 y16 y17 y18 y19 y20 y21) (gimbalref33_Part.j1 (k + 1) y0 y1 y2 y3 y4 y5 y6 y7 y8 y9 y10 y11 y12 y13 y14 y15 y16 y17 y18 y19 y20 y21))
  | 0 => ⟨fun _ _ _ _ _ _ _ _ _ _ _ _ _ _ _ _ _ _ _ _ _ r h => by simp [gimbalref33_Part.l0] at h, fun _ _ _ _ _ _ _ _ _ _ _ _ _ _ _ _ _ _ _ _ _ _ r h => by simp [gimbalref33_Part.j1] at h⟩
  | k + 1 => by
    obtain ⟨ih0, ih1⟩ := gimbalref33_Part.mono_l k
    refine ⟨?_, ?_⟩
    · intro y0 y1 y2 y3 y4 y5 y6 y7 y8 y9 y10 y11 y12 y13 y14 y15 y16 y17 y18 y19 y20
      unfold gimbalref33_Part.l0
      repeat' first
      | (with_reducible exact ih0 _ _ _ _ _ _ _ _ _ _ _ _ _ _ _ _ _ _ _ _ _)
      | (with_reducible exact ih1 _ _ _ _ _ _ _ _ _ _ _ _ _ _ _ _ _ _ _ _ _ _)
      | (with_reducible exact gimbalref33_sameRow.mono _ _ _)
      | (with_reducible exact LeO.refl _)
      | (with_reducible exact LeO.none _)
      | (with_reducible refine LeO.ite ?_ ?_)
      | (with_reducible refine LeO.bind ?_ (fun _ => ?_))
      | exact ih0 _ _ _ _ _ _ _ _ _ _ _ _ _ _ _ _ _ _ _ _ _
      | exact ih1 _ _ _ _ _ _ _ _ _ _ _ _ _ _ _ _ _ _ _ _ _ _
      | exact gimbalref33_sameRow.mono _ _ _
      | exact LeO.none _
      | refine LeO.ite ?_ ?_
      | refine LeO.bind ?_ (fun _ => ?_)
    · intro y0 y1 y2 y3 y4 y5 y6 y7 y8 y9 y10 y11 y12 y13 y14 y15 y16 y17 y18 y19 y20 y21
      unfold gimbalref33_Part.j1
      repeat' first
      | (with_reducible exact ih0 _ _ _ _ _ _ _ _ _ _ _ _ _ _ _ _ _ _ _ _ _)
      | (with_reducible exact ih1 _ _ _ _ _ _ _ _ _ _ _ _ _ _ _ _ _ _ _ _ _ _)
      | (with_reducible exact gimbalref33_sameRow.mono _ _ _)
      | (with_reducible exact LeO.refl _)
      | (with_reducible exact LeO.none _)
      | (with_reducible refine LeO.ite ?_ ?_)
      | (with_reducible refine LeO.bind ?_ (fun _ => ?_))
      | exact ih0 _ _ _ _ _ _ _ _ _ _ _ _ _ _ _ _ _ _ _ _ _
      | exact ih1 _ _ _ _ _ _ _ _ _ _ _ _ _ _ _ _ _ _ _ _ _ _
      | exact gimbalref33_sameRow.mono _ _ _
      | exact LeO.none _
      | refine LeO.ite ?_ ?_
      | refine LeO.bind ?_ (fun _ => ?_)
theorem gimbalref33_Part.mono : ∀ a0 a1 a2 a3 a4 a5 a6 a7 a8 a9 a10 a11 a12 a13 a14 a15 a16 a17 a18 a19 k, LeO (gimbalref33_Part.f k a0 a1 a2 a3 a4 a5 a6 a7 a8 a9 a10 a11 a12 a13 a14 a15 a16 a17 a18 a19) (gimbalref33_Part.f (k + 1) a0 a1 a2 a3 a4 a5 a6 a7 a8 a9 a10 a11 a12 a13 a14 a15 a16 a17 a18 a19) := by
  intro a0 a1 a2 a3 a4 a5 a6 a7 a8 a9 a10 a11 a12 a13 a14 a15 a16 a17 a18 a19 k
  obtain ⟨ih0, ih1⟩ := gimbalref33_Part.mono_l k
  unfold gimbalref33_Part.f
  repeat' first
      | (with_reducible exact ih0 _ _ _ _ _ _ _ _ _ _ _ _ _ _ _ _ _ _ _ _ _)
      | (with_reducible exact ih1 _ _ _ _ _ _ _ _ _ _ _ _ _ _ _ _ _ _ _ _ _ _)
      | (with_reducible exact gimbalref33_sameRow.mono _ _ _)
      | (with_reducible exact LeO.refl _)
      | (with_reducible exact LeO.none _)
      | (with_reducible refine LeO.ite ?_ ?_)
      | (with_reducible refine LeO.bind ?_ (fun _ => ?_))
      | exact ih0 _ _ _ _ _ _ _ _ _ _ _ _ _ _ _ _ _ _ _ _ _
      | exact ih1 _ _ _ _ _ _ _ _ _ _ _ _ _ _ _ _ _ _ _ _ _ _
      | exact gimbalref33_sameRow.mono _ _ _
      | exact LeO.none _
      | refine LeO.ite ?_ ?_
      | refine LeO.bind ?_ (fun _ => ?_)
def gimbalref33_Part.T4 : Bool × List (List Nat × List Nat) := (true, [([], []), ([], []), ([1], [1]), ([2], [2]), ([3], [3]), ([0, 4], [0, 4]), ([5], [5]), ([6], [6]), ([6], [6]), ([8, 6], [6, 8]), ([9, 6], [6, 9]), ([10, 6], [6, 10]), ([7, 11, 6], [6, 7, 11]), ([6, 12], [6, 12]), ([13, 6], [13]), ([14], [14]), ([15, 14], [14, 15]), ([16, 14], [14, 16]), ([14], [14]), ([17, 18, 14], [14, 17, 18]), ([19, 14], [14, 19]), ([14], [14]), ([21, 14], [14, 21]), ([22, 14], [14, 22]), ([14], [14]), ([23, 24, 14], [14, 23, 24]), ([25, 14], [14, 25]), ([20, 26, 14, 14], [14, 20, 26]), ([27, 14], [14, 27]), ([14, 28], [14, 28])])
def gimbalref33_Part.B4 : List Nat := [0, 0, 2, 6, 14, 31, 63, 127, 127, 383, 895, 1919, 4095, 8191, 16383, 32767, 65535, 131071, 32767, 524287, 1048575, 32767, 2129919, 6324223, 32767, 31490047, 65044479, 134217727, 268435455, 536870911]
theorem gimbalref33_Part.tab4 : rtab .any (opsOf Try.f12 4) = gimbalref33_Part.T4 := by kernel_rfl
theorem gimbalref33_Part.bits4 : waitsOk gimbalref33_Part.T4.2 gimbalref33_Part.B4 = true := by kernel_rfl
set_option maxHeartbeats 8000000 in
set_option maxRecDepth 100000 in
theorem gimbalref33_Part.calls (k : Nat) (a0_0 : Int) (A0_1 : Option Addr) (c0_1 : Nat) (l0_1 : List Int) (a0_2 : Int) (a0_3 : Int) (a0_4 : Int) (a0_5 : Int) (a0_6 : Int) (A0_7 : Option Addr) (c0_7 : Nat) (l0_7 : List Int) (A0_8 : Option Addr) (c0_8 : Nat) (l0_8 : List (List Int)) (A0_9 : Option Addr) (c0_9 : Nat) (l0_9 : List (List Int)) (a1_0 : Int) (A1_1 : Option Addr) (c1_1 : Nat) (l1_1 : List Int) (a1_2 : Int) (a1_3 : Int) (a1_4 : Int) (a1_5 : Int) (a1_6 : Int) (A1_7 : Option Addr) (c1_7 : Nat) (l1_7 : List Int) (A1_8 : Option Addr) (c1_8 : Nat) (l1_8 : List (List Int)) (A1_9 : Option Addr) (c1_9 : Nat) (l1_9 : List (List Int)) (r1 : Int) (r2 : Bool) (w : World) (hr0_1 : Kd.C (Kd.int .i64) w A0_1 l0_1.length l0_1) (hc0_1 : l0_1.length ≤ c0_1) (hr0_7 : Kd.C (Kd.int .i64) w A0_7 l0_7.length l0_7) (hc0_7 : l0_7.length ≤ c0_7) (hr0_8 : Kd.C (Kd.slice 2 (Kd.int .i64)) w A0_8 l0_8.length l0_8) (hc0_8 : l0_8.length ≤ c0_8) (hr0_9 : Kd.C (Kd.slice 2 (Kd.int .i64)) w A0_9 l0_9.length l0_9) (hc0_9 : l0_9.length ≤ c0_9) (hr1_1 : Kd.C (Kd.int .i64) w A1_1 l1_1.length l1_1) (hc1_1 : l1_1.length ≤ c1_1) (hr1_7 : Kd.C (Kd.int .i64) w A1_7 l1_7.length l1_7) (hc1_7 : l1_7.length ≤ c1_7) (hr1_8 : Kd.C (Kd.slice 2 (Kd.int .i64)) w A1_8 l1_8.length l1_8) (hc1_8 : l1_8.length ≤ c1_8) (hr1_9 : Kd.C (Kd.slice 2 (Kd.int .i64)) w A1_9 l1_9.length l1_9) (hc1_9 : l1_9.length ≤ c1_9) (h : gimbalref33_Part.f k a0_0 l0_1 a0_2 a0_3 a0_4 a0_5 a0_6 l0_7 l0_8 l0_9 a1_0 l1_1 a1_2 a1_3 a1_4 a1_5 a1_6 l1_7 l1_8 l1_9 = some (r1, r2)) :
    Calls Try.prog 12 #[.agg #[.int .i64 a0_0, .slice A0_1 l0_1.length c0_1, .int .i64 a0_2, .int .i64 a0_3, .int .i64 a0_4, .int .i64 a0_5, .int .i64 a0_6, .slice A0_7 l0_7.length c0_7, .slice A0_8 l0_8.length c0_8, .slice A0_9 l0_9.length c0_9], .agg #[.int .i64 a1_0, .slice A1_1 l1_1.length c1_1, .int .i64 a1_2, .int .i64 a1_3, .int .i64 a1_4, .int .i64 a1_5, .int .i64 a1_6, .slice A1_7 l1_7.length c1_7, .slice A1_8 l1_8.length c1_8, .slice A1_9 l1_9.length c1_9]] w fun e w' => e = .returned (.tuple #[.int .i64 r1, .bool r2]) ∧ Below w.heap.size w w' := by
  have hu27 := Try.underlying27
  have HR0_1 := Aside0.mk hr0_1
  have HC0_1 := Aside0.mk hc0_1
  clear hr0_1 hc0_1
  have HR0_7 := Aside0.mk hr0_7
  have HC0_7 := Aside0.mk hc0_7
  clear hr0_7 hc0_7
  have HR0_8 := Aside0.mk hr0_8
  have HC0_8 := Aside0.mk hc0_8
  clear hr0_8 hc0_8
  have HR0_9 := Aside0.mk hr0_9
  have HC0_9 := Aside0.mk hc0_9
  clear hr0_9 hc0_9
  have HR1_1 := Aside0.mk hr1_1
  have HC1_1 := Aside0.mk hc1_1
  clear hr1_1 hc1_1
  have HR1_7 := Aside0.mk hr1_7
  have HC1_7 := Aside0.mk hc1_7
  clear hr1_7 hc1_7
  have HR1_8 := Aside0.mk hr1_8
  have HC1_8 := Aside0.mk hc1_8
  clear hr1_8 hc1_8
  have HR1_9 := Aside0.mk hr1_9
  have HC1_9 := Aside0.mk hc1_9
  clear hr1_9 hc1_9
  have HB := Aside0.mk (Below.refl w.heap.size w)
  have H : (gimbalref33_Part.l0 k 0 a0_0 l0_1 a0_2 a0_3 a0_4 a0_5 a0_6 l0_7 l0_8 l0_9 a1_0 l1_1 a1_2 a1_3 a1_4 a1_5 a1_6 l1_7 l1_8 l1_9) = some (r1, r2) := h
  clear h
  have H' := Aside0.mk H
  clear H
  go_enter Try.func12, Try.ntmps12
  go_wp2_with (first | ((with_reducible refine gate_dst (N := 2) rfl ?_); (try (refine gate_guard (by rfl) ?_; dsimp only)); refine box_event ?hg (N := 2) ?hd (cs := #[.int .i64 a0_0, .slice A0_1 l0_1.length c0_1, .int .i64 a0_2, .int .i64 a0_3, .int .i64 a0_4, .int .i64 a0_5, .int .i64 a0_6, .slice A0_7 l0_7.length c0_7, .slice A0_8 l0_8.length c0_8, .slice A0_9 l0_9.length c0_9]) (t := 27) ?hr ?_; (case hd => rfl); (case hg => rfl); (case hr => first | (go_simp; done) | (go_simp; rfl)); intro gb334 hg w3 hbox hb; have n0_ := bst HB hb; have n1_ := Aside0.mk (hbox); have n2_ := bsz HB hg; have n3_ := bsz HB hg; clear HB; have HB := n0_; have BK334 := n1_; have GW334 := n2_; have GE334 := n3_; clear n0_ n1_ n2_ n3_; clear hb hbox hg) | ((with_reducible refine gate_dst (N := 3) rfl ?_); (try (refine gate_guard (by rfl) ?_; dsimp only)); refine box_event ?hg (N := 3) ?hd (cs := #[.int .i64 a1_0, .slice A1_1 l1_1.length c1_1, .int .i64 a1_2, .int .i64 a1_3, .int .i64 a1_4, .int .i64 a1_5, .int .i64 a1_6, .slice A1_7 l1_7.length c1_7, .slice A1_8 l1_8.length c1_8, .slice A1_9 l1_9.length c1_9]) (t := 27) ?hr ?_; (case hd => rfl); (case hg => rfl); (case hr => first | (go_simp; done) | (go_simp; rfl)); intro gb335 hg w4 hbox hb; have n0_ := bst HB hb; have n1_ := Aside0.mk (hbox); have n2_ := bsz HB hg; have n3_ := bsz HB hg; have n4_ := bn1 BK334 hg; have n5_ := bn2 BK334 hg; replace BK334 := bbw BK334 hb; clear HB; have HB := n0_; have BK335 := n1_; have GW335 := n2_; have GE335 := n3_; have NB334_335 := n4_; have NB335_334 := n5_; clear n0_ n1_ n2_ n3_ n4_ n5_; clear hb hbox hg))
  go_loopg [6] k (fun kq v6 w' => ∃ (x6_1 : Int), v6 = .int .i64 x6_1 ∧ Aside0 (gimbalref33_Part.l0 kq x6_1 a0_0 l0_1 a0_2 a0_3 a0_4 a0_5 a0_6 l0_7 l0_8 l0_9 a1_0 l1_1 a1_2 a1_3 a1_4 a1_5 a1_6 l1_7 l1_8 l1_9 = some (r1, r2)) ∧ Aside0 (kq ≤ k) ∧ Aside0 (w'.heap[gb334]? = some (.cells #[.int .i64 a0_0, (.slice A0_1 l0_1.length c0_1), .int .i64 a0_2, .int .i64 a0_3, .int .i64 a0_4, .int .i64 a0_5, .int .i64 a0_6, (.slice A0_7 l0_7.length c0_7), (.slice A0_8 l0_8.length c0_8), (.slice A0_9 l0_9.length c0_9)] 27 (0, 0))) ∧ Aside0 (w'.heap[gb335]? = some (.cells #[.int .i64 a1_0, (.slice A1_1 l1_1.length c1_1), .int .i64 a1_2, .int .i64 a1_3, .int .i64 a1_4, .int .i64 a1_5, .int .i64 a1_6, (.slice A1_7 l1_7.length c1_7), (.slice A1_8 l1_8.length c1_8), (.slice A1_9 l1_9.length c1_9)] 27 (0, 0))) ∧ Aside0 (Below w.heap.size w w'))
  case atStart => exact ⟨(0), (by first | rfl | (simp; done) | (simp [*]; done)), H', ⟨Nat.le_refl _⟩, pkA BK334, pkA BK335, bpk HB⟩
  case round =>
   clear H'
   try clear c1
   try clear p2
   obtain ⟨x6_1, rfl, HA, HK1, BK334, BK335, HB⟩ := hrel
   cases gk with
   | zero => exact absurd HA.out (by simp [gimbalref33_Part.l0])
   | succ k1 =>
    have H := HA.out
    clear HA
    simp only [gimbalref33_Part.l0] at H
    have HC5 := Aside0.mk H
    clear H
    go_upto_region 2 with (fail)
    go_cut [20] (fun v20 wc => ∃ (kq : Nat) (x20_4 : Bool), v20 = .bool x20_4 ∧ Aside0 (gimbalref33_Part.j1 kq x6_1 x20_4 a0_0 l0_1 a0_2 a0_3 a0_4 a0_5 a0_6 l0_7 l0_8 l0_9 a1_0 l1_1 a1_2 a1_3 a1_4 a1_5 a1_6 l1_7 l1_8 l1_9 = some (r1, r2)) ∧ Aside0 (kq ≤ k1) ∧ Aside0 (wc.heap[gb334]? = some (.cells #[.int .i64 a0_0, (.slice A0_1 l0_1.length c0_1), .int .i64 a0_2, .int .i64 a0_3, .int .i64 a0_4, .int .i64 a0_5, .int .i64 a0_6, (.slice A0_7 l0_7.length c0_7), (.slice A0_8 l0_8.length c0_8), (.slice A0_9 l0_9.length c0_9)] 27 (0, 0))) ∧ Aside0 (wc.heap[gb335]? = some (.cells #[.int .i64 a1_0, (.slice A1_1 l1_1.length c1_1), .int .i64 a1_2, .int .i64 a1_3, .int .i64 a1_4, .int .i64 a1_5, .int .i64 a1_6, (.slice A1_7 l1_7.length c1_7), (.slice A1_8 l1_8.length c1_8), (.slice A1_9 l1_9.length c1_9)] 27 (0, 0))) ∧ Aside0 (Below w.heap.size w wc))
    case first =>
     have H := HC5.out
     clear HC5
     by_cases c6 : x6_1 < (l0_9.length : Int)
     ·
      rw [if_pos c6] at H
      have c6b0 : decide (x6_1 < (l0_9.length : Int)) = true := decide_eq_true c6
      clear c6
      (first | rw [c6b0] | (simp only [i64_w, i32_w]; rw [c6b0]) | skip)
      have H' := Aside0.mk H
      clear H
      have hnb7 := NB334_335.out
      have hnc7 := NB335_334.out
      have hcz8_0 := hcz BK334 0
      have hcz8_1 := hcz BK334 1
      have hcz8_2 := hcz BK334 2
      have hcz8_3 := hcz BK334 3
      have hcz8_4 := hcz BK334 4
      have hcz8_5 := hcz BK334 5
      have hcz8_6 := hcz BK334 6
      have hcz8_7 := hcz BK334 7
      have hcz8_8 := hcz BK334 8
      have hcz8_9 := hcz BK334 9
      have hfz8_0 := blk_frozen BK334.out 0
      have hfz8_1 := blk_frozen BK334.out 1
      have hfz8_2 := blk_frozen BK334.out 2
      have hfz8_3 := blk_frozen BK334.out 3
      have hfz8_4 := blk_frozen BK334.out 4
      have hfz8_5 := blk_frozen BK334.out 5
      have hfz8_6 := blk_frozen BK334.out 6
      have hfz8_7 := blk_frozen BK334.out 7
      have hfz8_8 := blk_frozen BK334.out 8
      have hfz8_9 := blk_frozen BK334.out 9
      go_wp2
      go_meet
      case rel => exact ⟨_, (true), (by first | rfl | (simp; done) | (simp [*]; done)), H', ⟨by have := HK1.out; first | omega | exact Nat.le_refl _⟩, pkA BK334, pkA BK335, bpk HB⟩
     ·
      rw [if_neg c6] at H
      have c6b0 : decide (x6_1 < (l0_9.length : Int)) = false := decide_eq_false c6
      clear c6
      (first | rw [c6b0] | (simp only [i64_w, i32_w]; rw [c6b0]) | skip)
      have H' := Aside0.mk H
      clear H
      have hnb9 := NB334_335.out
      have hnc9 := NB335_334.out
      have hcz10_0 := hcz BK334 0
      have hcz10_1 := hcz BK334 1
      have hcz10_2 := hcz BK334 2
      have hcz10_3 := hcz BK334 3
      have hcz10_4 := hcz BK334 4
      have hcz10_5 := hcz BK334 5
      have hcz10_6 := hcz BK334 6
      have hcz10_7 := hcz BK334 7
      have hcz10_8 := hcz BK334 8
      have hcz10_9 := hcz BK334 9
      have hfz10_0 := blk_frozen BK334.out 0
      have hfz10_1 := blk_frozen BK334.out 1
      have hfz10_2 := blk_frozen BK334.out 2
      have hfz10_3 := blk_frozen BK334.out 3
      have hfz10_4 := blk_frozen BK334.out 4
      have hfz10_5 := blk_frozen BK334.out 5
      have hfz10_6 := blk_frozen BK334.out 6
      have hfz10_7 := blk_frozen BK334.out 7
      have hfz10_8 := blk_frozen BK334.out 8
      have hfz10_9 := blk_frozen BK334.out 9
      have hcz11_0 := hcz BK335 0
      have hcz11_1 := hcz BK335 1
      have hcz11_2 := hcz BK335 2
      have hcz11_3 := hcz BK335 3
      have hcz11_4 := hcz BK335 4
      have hcz11_5 := hcz BK335 5
      have hcz11_6 := hcz BK335 6
      have hcz11_7 := hcz BK335 7
      have hcz11_8 := hcz BK335 8
      have hcz11_9 := hcz BK335 9
      have hfz11_0 := blk_frozen BK335.out 0
      have hfz11_1 := blk_frozen BK335.out 1
      have hfz11_2 := blk_frozen BK335.out 2
      have hfz11_3 := blk_frozen BK335.out 3
      have hfz11_4 := blk_frozen BK335.out 4
      have hfz11_5 := blk_frozen BK335.out 5
      have hfz11_6 := blk_frozen BK335.out 6
      have hfz11_7 := blk_frozen BK335.out 7
      have hfz11_8 := blk_frozen BK335.out 8
      have hfz11_9 := blk_frozen BK335.out 9
      go_wp2
      go_meet
      case rel => exact ⟨_, (decide (x6_1 < (l1_9.length : Int))), (by first | rfl | (simp; done) | (simp [*]; done)), H', ⟨by have := HK1.out; first | omega | exact Nat.le_refl _⟩, pkA BK334, pkA BK335, bpk HB⟩
    case rest =>
     clear HC5
     try clear c1
     try clear p2
     try clear c6
     try clear c6b0
     try clear c7
     try clear c9
     try clear hcz10_0
     try clear hcz10_1
     try clear hcz10_2
     try clear hcz10_3
     try clear hcz10_4
     try clear hcz10_5
     try clear hcz10_6
     try clear hcz10_7
     try clear hcz10_8
     try clear hcz10_9
     try clear hcz11_0
     try clear hcz11_1
     try clear hcz11_2
     try clear hcz11_3
     try clear hcz11_4
     try clear hcz11_5
     try clear hcz11_6
     try clear hcz11_7
     try clear hcz11_8
     try clear hcz11_9
     try clear hcz8_0
     try clear hcz8_1
     try clear hcz8_2
     try clear hcz8_3
     try clear hcz8_4
     try clear hcz8_5
     try clear hcz8_6
     try clear hcz8_7
     try clear hcz8_8
     try clear hcz8_9
     try clear hfz10_0
     try clear hfz10_1
     try clear hfz10_2
     try clear hfz10_3
     try clear hfz10_4
     try clear hfz10_5
     try clear hfz10_6
     try clear hfz10_7
     try clear hfz10_8
     try clear hfz10_9
     try clear hfz11_0
     try clear hfz11_1
     try clear hfz11_2
     try clear hfz11_3
     try clear hfz11_4
     try clear hfz11_5
     try clear hfz11_6
     try clear hfz11_7
     try clear hfz11_8
     try clear hfz11_9
     try clear hfz8_0
     try clear hfz8_1
     try clear hfz8_2
     try clear hfz8_3
     try clear hfz8_4
     try clear hfz8_5
     try clear hfz8_6
     try clear hfz8_7
     try clear hfz8_8
     try clear hfz8_9
     try clear p2
     obtain ⟨kq, x20_4, rfl, HA, HJ4, BK334, BK335, HB⟩ := hcut
     cases kq with
     | zero => exact absurd HA.out (by simp [gimbalref33_Part.j1])
     | succ kj4 =>
      have H := HA.out
      clear HA
      simp only [gimbalref33_Part.j1] at H
      by_cases c12 : x20_4 = true
      ·
       subst c12
       have H1 : (if x6_1 ≥ (l0_9.length : Int) then (some (x6_1, true)) else (if x6_1 ≥ (l1_9.length : Int) then (some (x6_1, true)) else (if 0 ≤ x6_1 then (if x6_1 < (l0_9.length : Int) then (if x6_1 < (l1_9.length : Int) then ((gimbalref33_sameRow.f kj4 (rd_L1 l0_9 x6_1) (rd_L1 l1_9 x6_1)).bind fun t338 => (if t338 = true then (gimbalref33_Part.l0 kj4 (wrap64 (x6_1 + 1)) a0_0 l0_1 a0_2 a0_3 a0_4 a0_5 a0_6 l0_7 l0_8 l0_9 a1_0 l1_1 a1_2 a1_3 a1_4 a1_5 a1_6 l1_7 l1_8 l1_9) else (some (x6_1, true)))) else (none)) else (none)) else (none)))) = some (r1, r2) := by rw [if_pos rfl] at H; exact H
       clear H
       have H := H1
       clear H1
       by_cases c13 : x6_1 ≥ (l0_9.length : Int)
       ·
        rw [if_pos c13] at H
        have c13b0 : decide ((l0_9.length : Int) ≤ x6_1) = true := decide_eq_true c13
        clear c13
        simp only [Option.some.injEq, Prod.mk.injEq] at H
        obtain ⟨rfl, rfl⟩ := H
        try go_wp2
        have n0_ := Aside0.mk (blk_drew BK334.out)
        have n1_ := Aside0.mk (blk_drew BK335.out)
        have n2_ := Aside0.mk (below_drew1 HB.out)
        clear BK334
        clear BK335
        clear HB
        have BK334 := n0_
        have BK335 := n1_
        have HB := n2_
        clear n0_ n1_ n2_
        refine start_ (n := 30) (S := fun w' => w'.cell? ⟨gb334, 0, none⟩ = some (.int .i64 a0_0) ∧ w'.cell? ⟨gb334, 1, none⟩ = some (.slice A0_1 l0_1.length c0_1) ∧ w'.cell? ⟨gb334, 2, none⟩ = some (.int .i64 a0_2) ∧ w'.cell? ⟨gb334, 3, none⟩ = some (.int .i64 a0_3) ∧ w'.cell? ⟨gb334, 4, none⟩ = some (.int .i64 a0_4) ∧ w'.cell? ⟨gb334, 5, none⟩ = some (.int .i64 a0_5) ∧ w'.cell? ⟨gb334, 6, none⟩ = some (.int .i64 a0_6) ∧ w'.cell? ⟨gb334, 7, none⟩ = some (.slice A0_7 l0_7.length c0_7) ∧ w'.cell? ⟨gb334, 8, none⟩ = some (.slice A0_8 l0_8.length c0_8) ∧ w'.cell? ⟨gb334, 9, none⟩ = some (.slice A0_9 l0_9.length c0_9)) (ds := []) #[false, false, false, false, false, false, false, false, false, false, false, false, false, false, false, false, false, false, false, false, false, false, false, false, false, false, false, false, false, false] (by kernel_rfl) rfl rfl ⟨hcz BK334 0, hcz BK334 1, hcz BK334 2, hcz BK334 3, hcz BK334 4, hcz BK334 5, hcz BK334 6, hcz BK334 7, hcz BK334 8, hcz BK334 9⟩ (fun hHeld => ?_); refine with_tabW gimbalref33_Part.tab4 gimbalref33_Part.bits4 (fun HT_ HW_ => ?_)
        generalize wc.drew = w14 at BK334 BK335 HB hHeld ⊢
        refine pureQ 0 23 HT_.out ?_
        refine pureQ 1 24 HT_.out ?_
        refine pureQ 2 25 HT_.out ?_
        refine takeQ 3 26 HT_.out HW_.out hHeld ?_
        refine pureQ 4 27 HT_.out ?_
        refine pureQ 5 28 HT_.out ?_
        refine pureQ 6 29 HT_.out ?_
        refine pureU 7 30 HT_.out ?_
        refine pureU 8 31 HT_.out ?_
        refine pureU 9 32 HT_.out ?_
        refine pureU 10 33 HT_.out ?_
        refine pureU 11 34 HT_.out ?_
        refine pureU 12 35 HT_.out ?_
        refine pureQ 13 36 HT_.out ?_
        refine pureQ 14 37 HT_.out ?_
        refine pureU 15 38 HT_.out ?_
        refine pureU 16 39 HT_.out ?_
        refine pureU 17 40 HT_.out ?_
        refine pureU 18 41 HT_.out ?_
        refine pureU 19 42 HT_.out ?_
        refine pureU 20 43 HT_.out ?_
        refine pureU 21 44 HT_.out ?_
        refine pureU 22 45 HT_.out ?_
        refine pureU 23 46 HT_.out ?_
        refine pureU 24 47 HT_.out ?_
        refine pureU 25 48 HT_.out ?_
        refine pureU 26 49 HT_.out ?_
        refine pureU 27 50 HT_.out ?_
        refine pureU 28 51 HT_.out ?_
        refine pureQ 29 52 HT_.out ?_
        refine done_ (done_of HT_.out (by kernel_rfl)) ?_
        try go_wp2
        go_ret2
        exact ⟨by first | rfl | (simp [errW_none, errW_some] <;> rfl) | (simp [*, errW_none, errW_some] <;> rfl) | kernel_rfl, by repeat (first | (with_reducible first | exact HB.out | apply below_alloc | apply pw_below_drewN | apply below_drew1 | refine below_set ?_ GE334.out | refine below_set ?_ GE335.out) | exact HB.out)⟩
       ·
        rw [if_neg c13] at H
        have c13b0 : decide ((l0_9.length : Int) ≤ x6_1) = false := decide_eq_false c13
        clear c13
        by_cases c15 : x6_1 ≥ (l1_9.length : Int)
        ·
         rw [if_pos c15] at H
         have c15b0 : decide ((l1_9.length : Int) ≤ x6_1) = true := decide_eq_true c15
         clear c15
         simp only [Option.some.injEq, Prod.mk.injEq] at H
         obtain ⟨rfl, rfl⟩ := H
         try go_wp2
         have n0_ := Aside0.mk (blk_drew BK334.out)
         have n1_ := Aside0.mk (blk_drew BK335.out)
         have n2_ := Aside0.mk (below_drew1 HB.out)
         clear BK334
         clear BK335
         clear HB
         have BK334 := n0_
         have BK335 := n1_
         have HB := n2_
         clear n0_ n1_ n2_
         refine start_ (n := 30) (S := fun w' => w'.cell? ⟨gb334, 0, none⟩ = some (.int .i64 a0_0) ∧ w'.cell? ⟨gb334, 1, none⟩ = some (.slice A0_1 l0_1.length c0_1) ∧ w'.cell? ⟨gb334, 2, none⟩ = some (.int .i64 a0_2) ∧ w'.cell? ⟨gb334, 3, none⟩ = some (.int .i64 a0_3) ∧ w'.cell? ⟨gb334, 4, none⟩ = some (.int .i64 a0_4) ∧ w'.cell? ⟨gb334, 5, none⟩ = some (.int .i64 a0_5) ∧ w'.cell? ⟨gb334, 6, none⟩ = some (.int .i64 a0_6) ∧ w'.cell? ⟨gb334, 7, none⟩ = some (.slice A0_7 l0_7.length c0_7) ∧ w'.cell? ⟨gb334, 8, none⟩ = some (.slice A0_8 l0_8.length c0_8) ∧ w'.cell? ⟨gb334, 9, none⟩ = some (.slice A0_9 l0_9.length c0_9) ∧ w'.cell? ⟨gb335, 0, none⟩ = some (.int .i64 a1_0) ∧ w'.cell? ⟨gb335, 1, none⟩ = some (.slice A1_1 l1_1.length c1_1) ∧ w'.cell? ⟨gb335, 2, none⟩ = some (.int .i64 a1_2) ∧ w'.cell? ⟨gb335, 3, none⟩ = some (.int .i64 a1_3) ∧ w'.cell? ⟨gb335, 4, none⟩ = some (.int .i64 a1_4) ∧ w'.cell? ⟨gb335, 5, none⟩ = some (.int .i64 a1_5) ∧ w'.cell? ⟨gb335, 6, none⟩ = some (.int .i64 a1_6) ∧ w'.cell? ⟨gb335, 7, none⟩ = some (.slice A1_7 l1_7.length c1_7) ∧ w'.cell? ⟨gb335, 8, none⟩ = some (.slice A1_8 l1_8.length c1_8) ∧ w'.cell? ⟨gb335, 9, none⟩ = some (.slice A1_9 l1_9.length c1_9)) (ds := []) #[false, false, false, false, false, false, false, false, false, false, false, false, false, false, false, false, false, false, false, false, false, false, false, false, false, false, false, false, false, false] (by kernel_rfl) rfl rfl ⟨hcz BK334 0, hcz BK334 1, hcz BK334 2, hcz BK334 3, hcz BK334 4, hcz BK334 5, hcz BK334 6, hcz BK334 7, hcz BK334 8, hcz BK334 9, hcz BK335 0, hcz BK335 1, hcz BK335 2, hcz BK335 3, hcz BK335 4, hcz BK335 5, hcz BK335 6, hcz BK335 7, hcz BK335 8, hcz BK335 9⟩ (fun hHeld => ?_); refine with_tabW gimbalref33_Part.tab4 gimbalref33_Part.bits4 (fun HT_ HW_ => ?_)
         generalize wc.drew = w16 at BK334 BK335 HB hHeld ⊢
         refine pureQ 0 23 HT_.out ?_
         refine pureQ 1 24 HT_.out ?_
         refine pureQ 2 25 HT_.out ?_
         refine takeQ 3 26 HT_.out HW_.out hHeld ?_
         refine pureQ 4 27 HT_.out ?_
         refine pureQ 5 28 HT_.out ?_
         refine pureQ 6 29 HT_.out ?_
         refine pureQ 7 30 HT_.out ?_
         refine pureQ 8 31 HT_.out ?_
         refine pureQ 9 32 HT_.out ?_
         refine takeQ 10 33 HT_.out HW_.out hHeld ?_
         refine pureQ 11 34 HT_.out ?_
         refine pureQ 12 35 HT_.out ?_
         refine pureQ 13 36 HT_.out ?_
         refine pureQ 14 37 HT_.out ?_
         refine pureU 15 38 HT_.out ?_
         refine pureU 16 39 HT_.out ?_
         refine pureU 17 40 HT_.out ?_
         refine pureU 18 41 HT_.out ?_
         refine pureU 19 42 HT_.out ?_
         refine pureU 20 43 HT_.out ?_
         refine pureU 21 44 HT_.out ?_
         refine pureU 22 45 HT_.out ?_
         refine pureU 23 46 HT_.out ?_
         refine pureU 24 47 HT_.out ?_
         refine pureU 25 48 HT_.out ?_
         refine pureU 26 49 HT_.out ?_
         refine pureU 27 50 HT_.out ?_
         refine pureU 28 51 HT_.out ?_
         refine pureQ 29 52 HT_.out ?_
         refine done_ (done_of HT_.out (by kernel_rfl)) ?_
         try go_wp2
         go_ret2
         exact ⟨by first | rfl | (simp [errW_none, errW_some] <;> rfl) | (simp [*, errW_none, errW_some] <;> rfl) | kernel_rfl, by repeat (first | (with_reducible first | exact HB.out | apply below_alloc | apply pw_below_drewN | apply below_drew1 | refine below_set ?_ GE334.out | refine below_set ?_ GE335.out) | exact HB.out)⟩
        ·
         rw [if_neg c15] at H
         have c15b0 : decide ((l1_9.length : Int) ≤ x6_1) = false := decide_eq_false c15
         clear c15
         by_cases c17 : 0 ≤ x6_1
         ·
          rw [if_pos c17] at H
          have c17b0 : decide (0 ≤ x6_1) = true := decide_eq_true c17
          clear c17
          by_cases c18 : x6_1 < (l0_9.length : Int)
          ·
           rw [if_pos c18] at H
           have c18b0 : decide (x6_1 < (l0_9.length : Int)) = true := decide_eq_true c18
           clear c18
           by_cases c19 : x6_1 < (l1_9.length : Int)
           ·
            rw [if_pos c19] at H
            have c19b0 : decide (x6_1 < (l1_9.length : Int)) = true := decide_eq_true c19
            clear c19
            replace H := Option.bind_eq_some_iff.mp H
            obtain ⟨t338, A200, H⟩ := H
            replace H : (if t338 = true then (gimbalref33_Part.l0 kj4 (wrap64 (x6_1 + 1)) a0_0 l0_1 a0_2 a0_3 a0_4 a0_5 a0_6 l0_7 l0_8 l0_9 a1_0 l1_1 a1_2 a1_3 a1_4 a1_5 a1_6 l1_7 l1_8 l1_9) else (some (x6_1, true))) = some (r1, r2) := H
            have A20 := Aside0.mk A200
            clear A200
            by_cases c21 : t338 = true
            ·
             subst c21
             have H1 : (gimbalref33_Part.l0 kj4 (wrap64 (x6_1 + 1)) a0_0 l0_1 a0_2 a0_3 a0_4 a0_5 a0_6 l0_7 l0_8 l0_9 a1_0 l1_1 a1_2 a1_3 a1_4 a1_5 a1_6 l1_7 l1_8 l1_9) = some (r1, r2) := by rw [if_pos rfl] at H; exact H
             clear H
             have H := H1
             clear H1
             have H' := Aside0.mk H
             clear H
             try go_wp2
             have n0_ := Aside0.mk (blk_drew BK334.out)
             have n1_ := Aside0.mk (blk_drew BK335.out)
             have n2_ := Aside0.mk (below_drew1 HB.out)
             clear BK334
             clear BK335
             clear HB
             have BK334 := n0_
             have BK335 := n1_
             have HB := n2_
             clear n0_ n1_ n2_
             have p336 : 0 ≤ (x6_1 : Int) := of_decide_eq_true (by first | (with_reducible assumption) | assumption)
             have q336 : x6_1 < (l0_9.length : Int) := of_decide_eq_true (by first | (with_reducible assumption) | assumption)
             obtain ⟨ad336, A336_0, c336_0, e336, hx336_0, hl336_0, hi336_0⟩ := at_L1 HR0_9.out x6_1 p336 q336
             have hw336_0 := hx336_0
             cases e336
             replace hx336_0 := (HB.out.cell (World.block_lt_of_cell? w _ hx336_0)).trans hx336_0
             have HR336_0 := Aside0.mk hi336_0
             have HC336_0 := Aside0.mk hl336_0
             clear hi336_0 hl336_0
             replace p336 := eq_true p336
             replace q336 := eq_true q336
             have p337 : 0 ≤ (x6_1 : Int) := of_decide_eq_true (by first | (with_reducible assumption) | assumption)
             have q337 : x6_1 < (l1_9.length : Int) := of_decide_eq_true (by first | (with_reducible assumption) | assumption)
             obtain ⟨ad337, A337_0, c337_0, e337, hx337_0, hl337_0, hi337_0⟩ := at_L1 HR1_9.out x6_1 p337 q337
             have hw337_0 := hx337_0
             cases e337
             replace hx337_0 := (HB.out.cell (World.block_lt_of_cell? w _ hx337_0)).trans hx337_0
             have HR337_0 := Aside0.mk hi337_0
             have HC337_0 := Aside0.mk hl337_0
             clear hi337_0 hl337_0
             replace p337 := eq_true p337
             replace q337 := eq_true q337
             refine start_ (n := 30) (S := fun w' => w'.cell? ⟨gb334, 0, none⟩ = some (.int .i64 a0_0) ∧ w'.cell? ⟨gb334, 1, none⟩ = some (.slice A0_1 l0_1.length c0_1) ∧ w'.cell? ⟨gb334, 2, none⟩ = some (.int .i64 a0_2) ∧ w'.cell? ⟨gb334, 3, none⟩ = some (.int .i64 a0_3) ∧ w'.cell? ⟨gb334, 4, none⟩ = some (.int .i64 a0_4) ∧ w'.cell? ⟨gb334, 5, none⟩ = some (.int .i64 a0_5) ∧ w'.cell? ⟨gb334, 6, none⟩ = some (.int .i64 a0_6) ∧ w'.cell? ⟨gb334, 7, none⟩ = some (.slice A0_7 l0_7.length c0_7) ∧ w'.cell? ⟨gb334, 8, none⟩ = some (.slice A0_8 l0_8.length c0_8) ∧ w'.cell? ⟨gb334, 9, none⟩ = some (.slice (some ad336) l0_9.length c0_9) ∧ w'.cell? ⟨gb335, 0, none⟩ = some (.int .i64 a1_0) ∧ w'.cell? ⟨gb335, 1, none⟩ = some (.slice A1_1 l1_1.length c1_1) ∧ w'.cell? ⟨gb335, 2, none⟩ = some (.int .i64 a1_2) ∧ w'.cell? ⟨gb335, 3, none⟩ = some (.int .i64 a1_3) ∧ w'.cell? ⟨gb335, 4, none⟩ = some (.int .i64 a1_4) ∧ w'.cell? ⟨gb335, 5, none⟩ = some (.int .i64 a1_5) ∧ w'.cell? ⟨gb335, 6, none⟩ = some (.int .i64 a1_6) ∧ w'.cell? ⟨gb335, 7, none⟩ = some (.slice A1_7 l1_7.length c1_7) ∧ w'.cell? ⟨gb335, 8, none⟩ = some (.slice A1_8 l1_8.length c1_8) ∧ w'.cell? ⟨gb335, 9, none⟩ = some (.slice (some ad337) l1_9.length c1_9) ∧ w'.cell? (ad336.add (x6_1).toNat) = some (.slice A336_0 (rd_L1 l0_9 x6_1).length c336_0) ∧ w'.cell? (ad337.add (x6_1).toNat) = some (.slice A337_0 (rd_L1 l1_9 x6_1).length c337_0)) (ds := []) #[false, false, false, false, false, false, false, false, false, false, false, false, false, false, false, false, false, false, false, false, false, false, false, false, false, false, false, false, false, false] (by kernel_rfl) rfl rfl ⟨hcz BK334 0, hcz BK334 1, hcz BK334 2, hcz BK334 3, hcz BK334 4, hcz BK334 5, hcz BK334 6, hcz BK334 7, hcz BK334 8, hcz BK334 9, hcz BK335 0, hcz BK335 1, hcz BK335 2, hcz BK335 3, hcz BK335 4, hcz BK335 5, hcz BK335 6, hcz BK335 7, hcz BK335 8, hcz BK335 9, ((HB.out.cell (World.block_lt_of_cell? w _ hw336_0)).trans hw336_0), ((HB.out.cell (World.block_lt_of_cell? w _ hw337_0)).trans hw337_0)⟩ (fun hHeld => ?_); refine with_tabW gimbalref33_Part.tab4 gimbalref33_Part.bits4 (fun HT_ HW_ => ?_)
             generalize wc.drew = w22 at BK334 BK335 HB HR336_0 HR337_0 hx336_0 hx337_0 hHeld ⊢
             refine pureQ 0 23 HT_.out ?_
             refine pureQ 1 24 HT_.out ?_
             refine pureQ 2 25 HT_.out ?_
             refine takeQ 3 26 HT_.out HW_.out hHeld ?_
             refine pureQ 4 27 HT_.out ?_
             refine pureQ 5 28 HT_.out ?_
             refine pureQ 6 29 HT_.out ?_
             refine pureQ 7 30 HT_.out ?_
             refine pureQ 8 31 HT_.out ?_
             refine pureQ 9 32 HT_.out ?_
             refine takeQ 10 33 HT_.out HW_.out hHeld ?_
             refine pureQ 11 34 HT_.out ?_
             refine pureQ 12 35 HT_.out ?_
             refine pureQ 13 36 HT_.out ?_
             refine pureQ 14 37 HT_.out ?_
             refine pureQ 15 38 HT_.out ?_
             refine pureQ 16 39 HT_.out ?_
             refine pureQ 18 41 HT_.out ?_
             refine pureQ 21 44 HT_.out ?_
             refine pureQ 22 45 HT_.out ?_
             refine pureQ 24 47 HT_.out ?_
             refine takeQ 17 40 HT_.out HW_.out hHeld ?_
             refine pureQ 19 42 HT_.out ?_
             refine takeQ 20 43 HT_.out HW_.out hHeld ?_
             refine takeQ 23 46 HT_.out HW_.out hHeld ?_
             refine pureQ 25 48 HT_.out ?_
             refine takeQ 26 49 HT_.out HW_.out hHeld ?_
             refine oneQ 27 50 HT_.out (fun K hK => ?_)
             refine goesQ Try.func27 #[.slice A336_0 (rd_L1 l0_9 x6_1).length c336_0, .slice A337_0 (rd_L1 l1_9 x6_1).length c337_0] ?_
             with_reducible refine (gimbalref33_sameRow.calls kj4 _ _ (rd_L1 l0_9 x6_1) _ _ (rd_L1 l1_9 x6_1) true _ ?side1 ?side2 ?side3 ?side4 A20.out).mono ?_
             (case side1 => repeat (first | exact (Kd.C_below HR336_0.out HB.out) | (with_reducible refine Kd.C_alloc ?_ _) | (with_reducible refine Kd.C_drewN ?_ _) | (with_reducible refine Kd.C_drew ?_)))
             (case side2 => exact HC336_0.out)
             (case side3 => repeat (first | exact (Kd.C_below HR337_0.out HB.out) | (with_reducible refine Kd.C_alloc ?_ _) | (with_reducible refine Kd.C_drewN ?_ _) | (with_reducible refine Kd.C_drew ?_)))
             (case side4 => exact HC337_0.out)
             rintro e w' ⟨rfl, ⟨nd, rfl⟩⟩
             refine ⟨_, rfl, ?_⟩
             refine hK.out _ _ ⟨hcz BK334 0, hcz BK334 1, hcz BK334 2, hcz BK334 3, hcz BK334 4, hcz BK334 5, hcz BK334 6, hcz BK334 7, hcz BK334 8, hcz BK334 9, hcz BK335 0, hcz BK335 1, hcz BK335 2, hcz BK335 3, hcz BK335 4, hcz BK335 5, hcz BK335 6, hcz BK335 7, hcz BK335 8, hcz BK335 9, ((HB.out.cell (World.block_lt_of_cell? w _ hw336_0)).trans hw336_0), ((HB.out.cell (World.block_lt_of_cell? w _ hw337_0)).trans hw337_0)⟩ (fun hHeld => ?_)
             clear hK K
             refine normQ (N := 50) ?_
             refine pureQ 28 51 HT_.out ?_
             refine pureQ 29 52 HT_.out ?_
             refine done_ (done_of HT_.out (by kernel_rfl)) ?_
             try go_wp2
             go_roundg kj4
             case measure => have := HK1.out; have := HJ4.out; omega
             case rel => exact ⟨(wrap64 (x6_1 + 1)), (by first | rfl | (simp; done) | (simp [*]; done)), H', ⟨by have := HK1.out; have := HJ4.out; omega⟩, pkA BK334, pkA BK335, bpk HB⟩
            ·
             replace c21 := Bool.eq_false_iff.mpr c21
             subst c21
             have H1 : (some (x6_1, true)) = some (r1, r2) := by rw [if_neg (show ¬ (false = true) by decide)] at H; exact H
             clear H
             have H := H1
             clear H1
             simp only [Option.some.injEq, Prod.mk.injEq] at H
             obtain ⟨rfl, rfl⟩ := H
             try go_wp2
             have n0_ := Aside0.mk (blk_drew BK334.out)
             have n1_ := Aside0.mk (blk_drew BK335.out)
             have n2_ := Aside0.mk (below_drew1 HB.out)
             clear BK334
             clear BK335
             clear HB
             have BK334 := n0_
             have BK335 := n1_
             have HB := n2_
             clear n0_ n1_ n2_
             have p336 : 0 ≤ (x6_1 : Int) := of_decide_eq_true (by first | (with_reducible assumption) | assumption)
             have q336 : x6_1 < (l0_9.length : Int) := of_decide_eq_true (by first | (with_reducible assumption) | assumption)
             obtain ⟨ad336, A336_0, c336_0, e336, hx336_0, hl336_0, hi336_0⟩ := at_L1 HR0_9.out x6_1 p336 q336
             have hw336_0 := hx336_0
             cases e336
             replace hx336_0 := (HB.out.cell (World.block_lt_of_cell? w _ hx336_0)).trans hx336_0
             have HR336_0 := Aside0.mk hi336_0
             have HC336_0 := Aside0.mk hl336_0
             clear hi336_0 hl336_0
             replace p336 := eq_true p336
             replace q336 := eq_true q336
             have p337 : 0 ≤ (x6_1 : Int) := of_decide_eq_true (by first | (with_reducible assumption) | assumption)
             have q337 : x6_1 < (l1_9.length : Int) := of_decide_eq_true (by first | (with_reducible assumption) | assumption)
             obtain ⟨ad337, A337_0, c337_0, e337, hx337_0, hl337_0, hi337_0⟩ := at_L1 HR1_9.out x6_1 p337 q337
             have hw337_0 := hx337_0
             cases e337
             replace hx337_0 := (HB.out.cell (World.block_lt_of_cell? w _ hx337_0)).trans hx337_0
             have HR337_0 := Aside0.mk hi337_0
             have HC337_0 := Aside0.mk hl337_0
             clear hi337_0 hl337_0
             replace p337 := eq_true p337
             replace q337 := eq_true q337
             refine start_ (n := 30) (S := fun w' => w'.cell? ⟨gb334, 0, none⟩ = some (.int .i64 a0_0) ∧ w'.cell? ⟨gb334, 1, none⟩ = some (.slice A0_1 l0_1.length c0_1) ∧ w'.cell? ⟨gb334, 2, none⟩ = some (.int .i64 a0_2) ∧ w'.cell? ⟨gb334, 3, none⟩ = some (.int .i64 a0_3) ∧ w'.cell? ⟨gb334, 4, none⟩ = some (.int .i64 a0_4) ∧ w'.cell? ⟨gb334, 5, none⟩ = some (.int .i64 a0_5) ∧ w'.cell? ⟨gb334, 6, none⟩ = some (.int .i64 a0_6) ∧ w'.cell? ⟨gb334, 7, none⟩ = some (.slice A0_7 l0_7.length c0_7) ∧ w'.cell? ⟨gb334, 8, none⟩ = some (.slice A0_8 l0_8.length c0_8) ∧ w'.cell? ⟨gb334, 9, none⟩ = some (.slice (some ad336) l0_9.length c0_9) ∧ w'.cell? ⟨gb335, 0, none⟩ = some (.int .i64 a1_0) ∧ w'.cell? ⟨gb335, 1, none⟩ = some (.slice A1_1 l1_1.length c1_1) ∧ w'.cell? ⟨gb335, 2, none⟩ = some (.int .i64 a1_2) ∧ w'.cell? ⟨gb335, 3, none⟩ = some (.int .i64 a1_3) ∧ w'.cell? ⟨gb335, 4, none⟩ = some (.int .i64 a1_4) ∧ w'.cell? ⟨gb335, 5, none⟩ = some (.int .i64 a1_5) ∧ w'.cell? ⟨gb335, 6, none⟩ = some (.int .i64 a1_6) ∧ w'.cell? ⟨gb335, 7, none⟩ = some (.slice A1_7 l1_7.length c1_7) ∧ w'.cell? ⟨gb335, 8, none⟩ = some (.slice A1_8 l1_8.length c1_8) ∧ w'.cell? ⟨gb335, 9, none⟩ = some (.slice (some ad337) l1_9.length c1_9) ∧ w'.cell? (ad336.add (x6_1).toNat) = some (.slice A336_0 (rd_L1 l0_9 x6_1).length c336_0) ∧ w'.cell? (ad337.add (x6_1).toNat) = some (.slice A337_0 (rd_L1 l1_9 x6_1).length c337_0)) (ds := []) #[false, false, false, false, false, false, false, false, false, false, false, false, false, false, false, false, false, false, false, false, false, false, false, false, false, false, false, false, false, false] (by kernel_rfl) rfl rfl ⟨hcz BK334 0, hcz BK334 1, hcz BK334 2, hcz BK334 3, hcz BK334 4, hcz BK334 5, hcz BK334 6, hcz BK334 7, hcz BK334 8, hcz BK334 9, hcz BK335 0, hcz BK335 1, hcz BK335 2, hcz BK335 3, hcz BK335 4, hcz BK335 5, hcz BK335 6, hcz BK335 7, hcz BK335 8, hcz BK335 9, ((HB.out.cell (World.block_lt_of_cell? w _ hw336_0)).trans hw336_0), ((HB.out.cell (World.block_lt_of_cell? w _ hw337_0)).trans hw337_0)⟩ (fun hHeld => ?_); refine with_tabW gimbalref33_Part.tab4 gimbalref33_Part.bits4 (fun HT_ HW_ => ?_)
             generalize wc.drew = w23 at BK334 BK335 HB HR336_0 HR337_0 hx336_0 hx337_0 hHeld ⊢
             refine pureQ 0 23 HT_.out ?_
             refine pureQ 1 24 HT_.out ?_
             refine pureQ 2 25 HT_.out ?_
             refine takeQ 3 26 HT_.out HW_.out hHeld ?_
             refine pureQ 4 27 HT_.out ?_
             refine pureQ 5 28 HT_.out ?_
             refine pureQ 6 29 HT_.out ?_
             refine pureQ 7 30 HT_.out ?_
             refine pureQ 8 31 HT_.out ?_
             refine pureQ 9 32 HT_.out ?_
             refine takeQ 10 33 HT_.out HW_.out hHeld ?_
             refine pureQ 11 34 HT_.out ?_
             refine pureQ 12 35 HT_.out ?_
             refine pureQ 13 36 HT_.out ?_
             refine pureQ 14 37 HT_.out ?_
             refine pureQ 15 38 HT_.out ?_
             refine pureQ 16 39 HT_.out ?_
             refine pureQ 18 41 HT_.out ?_
             refine pureQ 21 44 HT_.out ?_
             refine pureQ 22 45 HT_.out ?_
             refine pureQ 24 47 HT_.out ?_
             refine takeQ 17 40 HT_.out HW_.out hHeld ?_
             refine pureQ 19 42 HT_.out ?_
             refine takeQ 20 43 HT_.out HW_.out hHeld ?_
             refine takeQ 23 46 HT_.out HW_.out hHeld ?_
             refine pureQ 25 48 HT_.out ?_
             refine takeQ 26 49 HT_.out HW_.out hHeld ?_
             refine oneQ 27 50 HT_.out (fun K hK => ?_)
             refine goesQ Try.func27 #[.slice A336_0 (rd_L1 l0_9 x6_1).length c336_0, .slice A337_0 (rd_L1 l1_9 x6_1).length c337_0] ?_
             with_reducible refine (gimbalref33_sameRow.calls kj4 _ _ (rd_L1 l0_9 x6_1) _ _ (rd_L1 l1_9 x6_1) false _ ?side1 ?side2 ?side3 ?side4 A20.out).mono ?_
             (case side1 => repeat (first | exact (Kd.C_below HR336_0.out HB.out) | (with_reducible refine Kd.C_alloc ?_ _) | (with_reducible refine Kd.C_drewN ?_ _) | (with_reducible refine Kd.C_drew ?_)))
             (case side2 => exact HC336_0.out)
             (case side3 => repeat (first | exact (Kd.C_below HR337_0.out HB.out) | (with_reducible refine Kd.C_alloc ?_ _) | (with_reducible refine Kd.C_drewN ?_ _) | (with_reducible refine Kd.C_drew ?_)))
             (case side4 => exact HC337_0.out)
             rintro e w' ⟨rfl, ⟨nd, rfl⟩⟩
             refine ⟨_, rfl, ?_⟩
             refine hK.out _ _ ⟨hcz BK334 0, hcz BK334 1, hcz BK334 2, hcz BK334 3, hcz BK334 4, hcz BK334 5, hcz BK334 6, hcz BK334 7, hcz BK334 8, hcz BK334 9, hcz BK335 0, hcz BK335 1, hcz BK335 2, hcz BK335 3, hcz BK335 4, hcz BK335 5, hcz BK335 6, hcz BK335 7, hcz BK335 8, hcz BK335 9, ((HB.out.cell (World.block_lt_of_cell? w _ hw336_0)).trans hw336_0), ((HB.out.cell (World.block_lt_of_cell? w _ hw337_0)).trans hw337_0)⟩ (fun hHeld => ?_)
             clear hK K
             refine normQ (N := 50) ?_
             refine pureQ 28 51 HT_.out ?_
             refine pureQ 29 52 HT_.out ?_
             refine done_ (done_of HT_.out (by kernel_rfl)) ?_
             try go_wp2
             go_ret2
             exact ⟨by first | rfl | (simp [errW_none, errW_some] <;> rfl) | (simp [*, errW_none, errW_some] <;> rfl) | kernel_rfl, by repeat (first | (with_reducible first | exact HB.out | apply below_alloc | apply pw_below_drewN | apply below_drew1 | refine below_set ?_ GE334.out | refine below_set ?_ GE335.out) | exact HB.out)⟩
           ·
            rw [if_neg c19] at H
            exact absurd H (by simp)
          ·
           rw [if_neg c18] at H
           exact absurd H (by simp)
         ·
          rw [if_neg c17] at H
          exact absurd H (by simp)
      ·
       replace c12 := Bool.eq_false_iff.mpr c12
       subst c12
       have H1 : (some (0, false)) = some (r1, r2) := by rw [if_neg (show ¬ (false = true) by decide)] at H; exact H
       clear H
       have H := H1
       clear H1
       simp only [Option.some.injEq, Prod.mk.injEq] at H
       obtain ⟨rfl, rfl⟩ := H
       go_wp2
       go_ret2
       exact ⟨by first | rfl | (simp [errW_none, errW_some] <;> rfl) | (simp [*, errW_none, errW_some] <;> rfl) | kernel_rfl, by repeat (first | (with_reducible first | exact HB.out | apply below_alloc | apply pw_below_drewN | apply below_drew1 | refine below_set ?_ GE334.out | refine below_set ?_ GE335.out) | exact HB.out)⟩

end Go.Proofs.Ytiemdfdebdmchaa.P
