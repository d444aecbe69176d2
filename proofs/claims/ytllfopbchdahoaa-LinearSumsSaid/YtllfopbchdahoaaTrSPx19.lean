/- What the law's proof needs of Px19. -/
import Derived.Test.YtllfopbchdahoaaTrSU2
import Derived.Test.YtllfopbchdahoaaTrSU
import Derived.Test.YtllfopbchdahoaaTrSPx0
import Derived.Test.YtllfopbchdahoaaTrSPx4
import Derived.Test.YtllfopbchdahoaaTrSPx5
import Derived.Test.YtllfopbchdahoaaTrSPx9
import Derived.Test.YtllfopbchdahoaaTrSPx10
import Derived.Test.YtllfopbchdahoaaTrSPx12
import Derived.Test.YtllfopbchdahoaaTrSPx18
-- PRINTED by print.py (a twelfth state) out of the translation. Not trusted: Lean checks it.
namespace Go.Proofs.Ytllfopbchdahoaa.P
open Go.RowKit Go.Proofs.YtllfopbchdahoaaW.PrintWords Go.Proofs.YtllfopbchdahoaaW.PrintLast Go.Proofs.YtllfopbchdahoaaW.PrintMore Go.Proofs.YtllfopbchdahoaaO
attribute [local go_sem] max2_int min2_int max_two min_two max_three min_three max_four min_four   -- for this text's walks alone
set_option linter.unusedVariables false
set_option linter.unusedSimpArgs false
mutual
def gimballaw14_LinearSums.l0 : Nat → List Int → List Int → Int → Int → Int → Int → Int → Int → Int → Int → Int → Int → Int → Option (Bool)
  | 0, _, _, _, _, _, _, _, _, _, _, _, _, _ => none
  | k + 1, x2, x7, x8, x336000, x336001, x336002, x336003, x336004, x337000, x337001, x337002, x337003, x337004 => if x8 < (x2.length : Int) then (if 0 ≤ x8 then ((gimballaw14_cut.f (rd x2 x8)).bind fun t338 => (if x7.length < 17592186044416 then (gimballaw14_LinearSums.l0 k x2 (x7 ++ [t338]) (wrap64 (x8 + 1)) x336000 x336001 x336002 x336003 x336004 x337000 x337001 x337002 x337003 x337004) else (none))) else (none)) else ((linear_Fit.f k x336000 x336001 x336002 x336003 x336004).bind fun t342 => (if t342 = true then ((linear_Fit.f k x337000 x337001 x337002 x337003 x337004).bind fun t343 => (if t343 = true then (if x336000 ≥ (x7.length : Int) then (gimballaw14_LinearSums.j1 k x7 true x336000 x336001 x336002 x336003 x336004 x337000 x337001 x337002 x337003 x337004) else (if x336002 ≥ (x7.length : Int) then (gimballaw14_LinearSums.j1 k x7 true x336000 x336001 x336002 x336003 x336004 x337000 x337001 x337002 x337003 x337004) else (if x337000 ≥ (x7.length : Int) then (gimballaw14_LinearSums.j1 k x7 true x336000 x336001 x336002 x336003 x336004 x337000 x337001 x337002 x337003 x337004) else (gimballaw14_LinearSums.j1 k x7 (decide (x337002 ≥ (x7.length : Int))) x336000 x336001 x336002 x336003 x336004 x337000 x337001 x337002 x337003 x337004)))) else (gimballaw14_LinearSums.j1 k x7 true x336000 x336001 x336002 x336003 x336004 x337000 x337001 x337002 x337003 x337004))) else (gimballaw14_LinearSums.j1 k x7 true x336000 x336001 x336002 x336003 x336004 x337000 x337001 x337002 x337003 x337004)))
def gimballaw14_LinearSums.j1 : Nat → List Int → Bool → Int → Int → Int → Int → Int → Int → Int → Int → Int → Int → Option (Bool)
  | 0, _, _, _, _, _, _, _, _, _, _, _, _ => none
  | k + 1, x7, x66, x336000, x336001, x336002, x336003, x336004, x337000, x337001, x337002, x337003, x337004 => if x66 = true then ((gimballaw14_awake.f k).bind fun t344 => (some t344)) else ((linear_Value.f k x336000 x336001 x336002 x336003 x336004 x7).bind fun t345 => ((linear_Value.f k x337000 x337001 x337002 x337003 x337004 x7).bind fun t346 => ((linear_Add.f k x336000 x336001 x336002 x336003 x336004 x337000 x337001 x337002 x337003 x337004).bind fun bt347 => ((linear_Sub.f k x336000 x336001 x336002 x336003 x336004 x337000 x337001 x337002 x337003 x337004).bind fun bt354 => ((linear_Neg.f k x336000 x336001 x336002 x336003 x336004).bind fun bt361 => (if bt347.2.2.2.2.2 = true then ((linear_Fit.f k bt347.1 bt347.2.1 bt347.2.2.1 bt347.2.2.2.1 bt347.2.2.2.2.1).bind fun t368 => (if t368 = true then ((linear_Value.f k bt347.1 bt347.2.1 bt347.2.2.1 bt347.2.2.2.1 bt347.2.2.2.2.1 x7).bind fun t369 => (if t369 = (wrap64 (t345 + t346)) then (if bt354.2.2.2.2.2 = true then ((linear_Fit.f k bt354.1 bt354.2.1 bt354.2.2.1 bt354.2.2.2.1 bt354.2.2.2.2.1).bind fun t370 => (if t370 = true then ((linear_Value.f k bt354.1 bt354.2.1 bt354.2.2.1 bt354.2.2.2.1 bt354.2.2.2.2.1 x7).bind fun t371 => (if t371 = (wrap64 (t345 - t346)) then (if bt361.2.2.2.2.2 = true then ((linear_Fit.f k bt361.1 bt361.2.1 bt361.2.2.1 bt361.2.2.2.1 bt361.2.2.2.2.1).bind fun t372 => (if t372 = true then ((linear_Value.f k bt361.1 bt361.2.1 bt361.2.2.1 bt361.2.2.2.1 bt361.2.2.2.2.1 x7).bind fun t373 => (if t373 = (wrap64 (-t345)) then ((gimballaw14_awake.f k).bind fun t374 => (some t374)) else (some false))) else (some false))) else (some false)) else (some false))) else (some false))) else (if bt361.2.2.2.2.2 = true then ((linear_Fit.f k bt361.1 bt361.2.1 bt361.2.2.1 bt361.2.2.2.1 bt361.2.2.2.2.1).bind fun t375 => (if t375 = true then ((linear_Value.f k bt361.1 bt361.2.1 bt361.2.2.1 bt361.2.2.2.1 bt361.2.2.2.2.1 x7).bind fun t376 => (if t376 = (wrap64 (-t345)) then ((gimballaw14_awake.f k).bind fun t377 => (some t377)) else (some false))) else (some false))) else (some false))) else (some false))) else (some false))) else (if bt354.2.2.2.2.2 = true then ((linear_Fit.f k bt354.1 bt354.2.1 bt354.2.2.1 bt354.2.2.2.1 bt354.2.2.2.2.1).bind fun t378 => (if t378 = true then ((linear_Value.f k bt354.1 bt354.2.1 bt354.2.2.1 bt354.2.2.2.1 bt354.2.2.2.2.1 x7).bind fun t379 => (if t379 = (wrap64 (t345 - t346)) then (if bt361.2.2.2.2.2 = true then ((linear_Fit.f k bt361.1 bt361.2.1 bt361.2.2.1 bt361.2.2.2.1 bt361.2.2.2.2.1).bind fun t380 => (if t380 = true then ((linear_Value.f k bt361.1 bt361.2.1 bt361.2.2.1 bt361.2.2.2.1 bt361.2.2.2.2.1 x7).bind fun t381 => (if t381 = (wrap64 (-t345)) then ((gimballaw14_awake.f k).bind fun t382 => (some t382)) else (some false))) else (some false))) else (some false)) else (some false))) else (some false))) else (if bt361.2.2.2.2.2 = true then ((linear_Fit.f k bt361.1 bt361.2.1 bt361.2.2.1 bt361.2.2.2.1 bt361.2.2.2.2.1).bind fun t383 => (if t383 = true then ((linear_Value.f k bt361.1 bt361.2.1 bt361.2.2.1 bt361.2.2.2.1 bt361.2.2.2.2.1 x7).bind fun t384 => (if t384 = (wrap64 (-t345)) then ((gimballaw14_awake.f k).bind fun t385 => (some t385)) else (some false))) else (some false))) else (some false)))))))))
end
def gimballaw14_LinearSums.f (k : Nat) (a0_0 : Int) (a0_1 : Int) (a0_2 : Int) (a0_3 : Int) (a0_4 : Int) (a1_0 : Int) (a1_1 : Int) (a1_2 : Int) (a1_3 : Int) (a1_4 : Int) (l2 : List Int) : Option (Bool) := gimballaw14_LinearSums.l0 k l2 ([] : List Int) 0 a0_0 a0_1 a0_2 a0_3 a0_4 a1_0 a1_1 a1_2 a1_3 a1_4
set_option maxHeartbeats 8000000 in
set_option maxRecDepth 100000 in
theorem gimballaw14_LinearSums.calls (k : Nat) (a0_0 : Int) (a0_1 : Int) (a0_2 : Int) (a0_3 : Int) (a0_4 : Int) (a1_0 : Int) (a1_1 : Int) (a1_2 : Int) (a1_3 : Int) (a1_4 : Int) (A2 : Option Addr) (c2 : Nat) (l2 : List Int) (w : World) (hr2 : Kd.C (Kd.int .i64) w A2 l2.length l2) (hc2 : l2.length ≤ c2) (h : gimballaw14_LinearSums.f k a0_0 a0_1 a0_2 a0_3 a0_4 a1_0 a1_1 a1_2 a1_3 a1_4 l2 = some true) :
    Calls Try.prog 5 #[.agg #[.int .i64 a0_0, .int .i64 a0_1, .int .i64 a0_2, .int .i64 a0_3, .int .i64 a0_4], .agg #[.int .i64 a1_0, .int .i64 a1_1, .int .i64 a1_2, .int .i64 a1_3, .int .i64 a1_4], .slice A2 l2.length c2] w fun e w' => e = .returned (.bool true) ∧ Below w.heap.size w w' := by
  have hu23 := Try.underlying23
  have HR2 := Aside0.mk hr2
  have HC2 := Aside0.mk hc2
  clear hr2 hc2
  have HB := Aside0.mk (Below.refl w.heap.size w)
  have H : (gimballaw14_LinearSums.l0 k l2 ([] : List Int) 0 a0_0 a0_1 a0_2 a0_3 a0_4 a1_0 a1_1 a1_2 a1_3 a1_4) = some true := h
  clear h
  have H' := Aside0.mk H
  clear H
  go_enter Try.func5, Try.ntmps5
  go_wp2_with (first | ((with_reducible refine gate_dst (N := 3) rfl ?_); (try (refine gate_guard (by rfl) ?_; dsimp only)); refine box_event ?hg (N := 3) ?hd (cs := #[.int .i64 a0_0, .int .i64 a0_1, .int .i64 a0_2, .int .i64 a0_3, .int .i64 a0_4]) (t := 23) ?hr ?_; (case hd => rfl); (case hg => rfl); (case hr => first | (go_simp; done) | (go_simp; rfl)); intro gb335 hg w4 hbox hb; have n0_ := bst HB hb; have n1_ := Aside0.mk (hbox); have n2_ := bsz HB hg; have n3_ := bsz HB hg; clear HB; have HB := n0_; have BK335 := n1_; have GW335 := n2_; have GE335 := n3_; clear n0_ n1_ n2_ n3_; clear hb hbox hg) | ((with_reducible refine gate_dst (N := 4) rfl ?_); (try (refine gate_guard (by rfl) ?_; dsimp only)); refine box_event ?hg (N := 4) ?hd (cs := #[.int .i64 a1_0, .int .i64 a1_1, .int .i64 a1_2, .int .i64 a1_3, .int .i64 a1_4]) (t := 23) ?hr ?_; (case hd => rfl); (case hg => rfl); (case hr => first | (go_simp; done) | (go_simp; rfl)); intro gb336 hg w5 hbox hb; have n0_ := bst HB hb; have n1_ := Aside0.mk (hbox); have n2_ := bsz HB hg; have n3_ := bsz HB hg; have n4_ := bn1 BK335 hg; have n5_ := bn2 BK335 hg; replace BK335 := bbw BK335 hb; clear HB; have HB := n0_; have BK336 := n1_; have GW336 := n2_; have GE336 := n3_; have NB335_336 := n4_; have NB336_335 := n5_; clear n0_ n1_ n2_ n3_ n4_ n5_; clear hb hbox hg))
  go_loopg [7, 8] k (fun kq v7 v8 w' => ∃ (x7_1 : List Int) (x8_1 : Int), v8 = .int .i64 x8_1 ∧ Aside0 (gimballaw14_LinearSums.l0 kq l2 x7_1 x8_1 a0_0 a0_1 a0_2 a0_3 a0_4 a1_0 a1_1 a1_2 a1_3 a1_4 = some true) ∧ Aside0 (kq ≤ k) ∧ Aside0 (Kd.R (Kd.int .i64) 2 w' w.heap.size (fun _ => True) v7 x7_1) ∧ Aside0 (w'.heap[gb335]? = some (.cells #[.int .i64 a0_0, .int .i64 a0_1, .int .i64 a0_2, .int .i64 a0_3, .int .i64 a0_4] 23 (0, 0))) ∧ Aside0 (w'.heap[gb336]? = some (.cells #[.int .i64 a1_0, .int .i64 a1_1, .int .i64 a1_2, .int .i64 a1_3, .int .i64 a1_4] 23 (0, 0))) ∧ Aside0 (Below w.heap.size w w'))
  case atStart => exact ⟨(([] : List Int)), (0), (by first | rfl | (simp; done) | (simp [*]; done)), H', ⟨Nat.le_refl _⟩, ⟨by first | exact Kd.R_nil _ _ _ _ _ | exact Kd.N_nil _ _ _ _ _ | exact Kd.V_nil _ _ _ _ _ | exact Kd.Q_nil _ _ _ _ _ | exact Kd.S_nil _ _ _ _ _⟩, pkA BK335, pkA BK336, bpk HB⟩
  case round =>
   clear H'
   try clear c2
   try clear p2
   try clear c5
   obtain ⟨x7_1, x8_1, rfl, HA, HK1, HO_7, BK335, BK336, HB⟩ := hrel
   cases gk with
   | zero => exact absurd HA.out (by simp [gimballaw14_LinearSums.l0])
   | succ k1 =>
    have H := HA.out
    clear HA
    simp only [gimballaw14_LinearSums.l0] at H
    by_cases c6 : x8_1 < (l2.length : Int)
    ·
     rw [if_pos c6] at H
     have c6b0 : decide (x8_1 < (l2.length : Int)) = true := decide_eq_true c6
     clear c6
     by_cases c7 : 0 ≤ x8_1
     ·
      rw [if_pos c7] at H
      have c7b0 : decide (0 ≤ x8_1) = true := decide_eq_true c7
      clear c7
      replace H := Option.bind_eq_some_iff.mp H
      obtain ⟨t338, A80, H⟩ := H
      replace H : (if x7_1.length < 17592186044416 then (gimballaw14_LinearSums.l0 k1 l2 (x7_1 ++ [t338]) (wrap64 (x8_1 + 1)) a0_0 a0_1 a0_2 a0_3 a0_4 a1_0 a1_1 a1_2 a1_3 a1_4) else (none)) = some true := H
      have A8 := Aside0.mk A80
      clear A80
      by_cases c9 : x7_1.length < 17592186044416
      ·
       rw [if_pos c9] at H
       have LMc9 := Aside0.mk c9
       clear c9
       obtain ⟨y339, hy339⟩ : ∃ y_ : List Int, y_ = (x7_1 ++ [t338]) := ⟨_, rfl⟩
       replace H : (gimballaw14_LinearSums.l0 k1 l2 y339 (wrap64 (x8_1 + 1)) a0_0 a0_1 a0_2 a0_3 a0_4 a1_0 a1_1 a1_2 a1_3 a1_4) = some true := by first | (rw [hy339]; with_reducible exact H) | (have H2_ := (Option.bind_some _ _).symm.trans H; rw [hy339]; with_reducible exact H2_) | (have H2_ := (Option.bind_some _ _).symm.trans H; with_reducible exact H2_) | with_reducible exact H | (rw [hy339]; exact H) | exact H
       have Ny339 := Aside0.mk hy339
       clear hy339
       have H' := Aside0.mk H
       clear H
       have p337 : 0 ≤ (x8_1 : Int) := of_decide_eq_true (by first | (with_reducible assumption) | assumption)
       have q337 : x8_1 < (l2.length : Int) := of_decide_eq_true (by first | (with_reducible assumption) | assumption)
       obtain ⟨ad337, e337, hx337_0⟩ := Kd.at_int HR2.out x8_1 p337 q337
       cases e337
       replace hx337_0 := (HB.out.cell (World.block_lt_of_cell? w _ hx337_0)).trans hx337_0
       replace p337 := eq_true p337
       replace q337 := eq_true q337
       go_wp2_with (first | ((with_reducible refine gate_callee (f := 19) rfl ?_); refine goesL_ (some 28) rfl rfl Try.func19 (by kernel_rfl) rfl #[.int .i64 (rd l2 x8_1)] rfl (by (try simp only [List.map_toArray, List.map_cons, List.map_nil]); first | done | rfl | (simp only [List.length_drop, List.length_take]; rfl)) ?_; (with_reducible refine (gimballaw14_cut.calls (rd l2 x8_1) t338 _ A8.out).mono ?_); rintro e w10 ⟨rfl, hb⟩; refine ⟨_, rfl, ?_⟩; have n0_ := Aside0.mk (Kd.R_below (by (with_reducible repeat (first | apply Kd.R_alloc | apply Kd.R_drewN | apply Kd.R_drew)); exact HO_7.out) hb); have n1_ := bst HB hb; replace BK335 := bbw BK335 hb; replace BK336 := bbw BK336 hb; clear HO_7; clear HB; have HO_7 := n0_; have HB := n1_; clear n0_ n1_; (try clear hb); (try clear hb2); (try clear hk); (try clear hi)) | ((with_reducible refine gate_builtin (b := .append) (xs := #[.tmp 23, .tmp 29]) rfl ?_); (try (refine gate_guard (by rfl) ?_; dsimp only)); at_builtin; refine Kd.R_append (Kd.int .i64) (w0 := w) w.heap.size rfl (.tmp 23) (.tmp 29) 24 2 (.int .i64 0) 8 rfl Try.underlying24 info2 rfl (by decide) (by omega) u7 x7_1 t338 [.int .i64 t338] (fun _ => True) (fun _ => False) rfl rfl ?aP (fun _ hk => hk.elim) ?aF ?aO ?aB ?aS ?aL ?_; (case aP => exact rfl); (case aB => exact (by repeat (first | (with_reducible first | exact HB.out | apply below_alloc | apply pw_below_drewN | apply below_drew1 | refine below_set ?_ GE335.out | refine below_set ?_ GE336.out) | exact HB.out))); (case aF => exact (fun _ _ => trivial)); (case aO => exact (by (with_reducible repeat (first | apply Kd.R_alloc | apply Kd.R_drewN | apply Kd.R_drew)); exact HO_7.out)); (case aS => exact (below_size (by repeat (first | (with_reducible first | exact HB.out | apply below_alloc | apply pw_below_drewN | apply below_drew1 | refine below_set ?_ GE335.out | refine below_set ?_ GE336.out) | exact HB.out)))); (case aL => have := LMc9.out; omega); intro v340 w11 ho hb hg hat; rw [← Ny339.out] at ho; have n0_ := Aside0.mk (blk_grown (g := gb335) (o := .cells #[.int .i64 a0_0, .int .i64 a0_1, .int .i64 a0_2, .int .i64 a0_3, .int .i64 a0_4] 23 (0, 0)) (pk BK335.out) hg (Kd.R_ne HO_7.out BK335.out (by decide))); have n1_ := Aside0.mk (blk_grown (g := gb336) (o := .cells #[.int .i64 a1_0, .int .i64 a1_1, .int .i64 a1_2, .int .i64 a1_3, .int .i64 a1_4] 23 (0, 0)) (pk BK336.out) hg (Kd.R_ne HO_7.out BK336.out (by decide))); have n2_ := Aside0.mk (hb); have n3_ := Aside0.mk (ho); clear BK335; clear BK336; clear HB; clear HO_7; have BK335 := n0_; have BK336 := n1_; have HB := n2_; have HO341 := n3_; clear n0_ n1_ n2_ n3_; clear ho hb hg hat))
       go_roundg k1
       case measure => have := HK1.out; omega
       case rel => exact ⟨(y339), (wrap64 (x8_1 + 1)), (by first | rfl | (simp; done) | (simp [*]; done)), H', ⟨by have := HK1.out; omega⟩, ⟨by (with_reducible repeat (first | apply Kd.R_alloc | apply Kd.R_drewN | apply Kd.R_drew)); exact HO341.out⟩, pkA BK335, pkA BK336, bpk HB⟩
      ·
       rw [if_neg c9] at H
       exact absurd H (by simp)
     ·
      rw [if_neg c7] at H
      exact absurd H (by simp)
    ·
     rw [if_neg c6] at H
     have c6b0 : decide (x8_1 < (l2.length : Int)) = false := decide_eq_false c6
     clear c6
     have HC12 := Aside0.mk H
     clear H
     go_upto_region 6 with (fail)
     go_cut [66] (fun v66 wc => ∃ (kq : Nat) (x66_11 : Bool), v66 = .bool x66_11 ∧ Aside0 (gimballaw14_LinearSums.j1 kq x7_1 x66_11 a0_0 a0_1 a0_2 a0_3 a0_4 a1_0 a1_1 a1_2 a1_3 a1_4 = some true) ∧ Aside0 (kq ≤ k1) ∧ Aside0 (Kd.R (Kd.int .i64) 2 wc w.heap.size (fun _ => True) u7 x7_1) ∧ Aside0 (wc.heap[gb335]? = some (.cells #[.int .i64 a0_0, .int .i64 a0_1, .int .i64 a0_2, .int .i64 a0_3, .int .i64 a0_4] 23 (0, 0))) ∧ Aside0 (wc.heap[gb336]? = some (.cells #[.int .i64 a1_0, .int .i64 a1_1, .int .i64 a1_2, .int .i64 a1_3, .int .i64 a1_4] 23 (0, 0))) ∧ Aside0 (Below w.heap.size w wc))
     case first =>
      have H := HC12.out
      clear HC12
      replace H := Option.bind_eq_some_iff.mp H
      obtain ⟨t342, A130, H⟩ := H
      replace H : (if t342 = true then ((linear_Fit.f k1 a1_0 a1_1 a1_2 a1_3 a1_4).bind fun t343 => (if t343 = true then (if a0_0 ≥ (x7_1.length : Int) then (gimballaw14_LinearSums.j1 k1 x7_1 true a0_0 a0_1 a0_2 a0_3 a0_4 a1_0 a1_1 a1_2 a1_3 a1_4) else (if a0_2 ≥ (x7_1.length : Int) then (gimballaw14_LinearSums.j1 k1 x7_1 true a0_0 a0_1 a0_2 a0_3 a0_4 a1_0 a1_1 a1_2 a1_3 a1_4) else (if a1_0 ≥ (x7_1.length : Int) then (gimballaw14_LinearSums.j1 k1 x7_1 true a0_0 a0_1 a0_2 a0_3 a0_4 a1_0 a1_1 a1_2 a1_3 a1_4) else (gimballaw14_LinearSums.j1 k1 x7_1 (decide (a1_2 ≥ (x7_1.length : Int))) a0_0 a0_1 a0_2 a0_3 a0_4 a1_0 a1_1 a1_2 a1_3 a1_4)))) else (gimballaw14_LinearSums.j1 k1 x7_1 true a0_0 a0_1 a0_2 a0_3 a0_4 a1_0 a1_1 a1_2 a1_3 a1_4))) else (gimballaw14_LinearSums.j1 k1 x7_1 true a0_0 a0_1 a0_2 a0_3 a0_4 a1_0 a1_1 a1_2 a1_3 a1_4)) = some true := H
      have A13 := Aside0.mk A130
      clear A130
      by_cases c14 : t342 = true
      ·
       subst c14
       have H1 : ((linear_Fit.f k1 a1_0 a1_1 a1_2 a1_3 a1_4).bind fun t343 => (if t343 = true then (if a0_0 ≥ (x7_1.length : Int) then (gimballaw14_LinearSums.j1 k1 x7_1 true a0_0 a0_1 a0_2 a0_3 a0_4 a1_0 a1_1 a1_2 a1_3 a1_4) else (if a0_2 ≥ (x7_1.length : Int) then (gimballaw14_LinearSums.j1 k1 x7_1 true a0_0 a0_1 a0_2 a0_3 a0_4 a1_0 a1_1 a1_2 a1_3 a1_4) else (if a1_0 ≥ (x7_1.length : Int) then (gimballaw14_LinearSums.j1 k1 x7_1 true a0_0 a0_1 a0_2 a0_3 a0_4 a1_0 a1_1 a1_2 a1_3 a1_4) else (gimballaw14_LinearSums.j1 k1 x7_1 (decide (a1_2 ≥ (x7_1.length : Int))) a0_0 a0_1 a0_2 a0_3 a0_4 a1_0 a1_1 a1_2 a1_3 a1_4)))) else (gimballaw14_LinearSums.j1 k1 x7_1 true a0_0 a0_1 a0_2 a0_3 a0_4 a1_0 a1_1 a1_2 a1_3 a1_4))) = some true := by rw [if_pos rfl] at H; exact H
       clear H
       have H := H1
       clear H1
       replace H := Option.bind_eq_some_iff.mp H
       obtain ⟨t343, A150, H⟩ := H
       replace H : (if t343 = true then (if a0_0 ≥ (x7_1.length : Int) then (gimballaw14_LinearSums.j1 k1 x7_1 true a0_0 a0_1 a0_2 a0_3 a0_4 a1_0 a1_1 a1_2 a1_3 a1_4) else (if a0_2 ≥ (x7_1.length : Int) then (gimballaw14_LinearSums.j1 k1 x7_1 true a0_0 a0_1 a0_2 a0_3 a0_4 a1_0 a1_1 a1_2 a1_3 a1_4) else (if a1_0 ≥ (x7_1.length : Int) then (gimballaw14_LinearSums.j1 k1 x7_1 true a0_0 a0_1 a0_2 a0_3 a0_4 a1_0 a1_1 a1_2 a1_3 a1_4) else (gimballaw14_LinearSums.j1 k1 x7_1 (decide (a1_2 ≥ (x7_1.length : Int))) a0_0 a0_1 a0_2 a0_3 a0_4 a1_0 a1_1 a1_2 a1_3 a1_4)))) else (gimballaw14_LinearSums.j1 k1 x7_1 true a0_0 a0_1 a0_2 a0_3 a0_4 a1_0 a1_1 a1_2 a1_3 a1_4)) = some true := H
       have A15 := Aside0.mk A150
       clear A150
       by_cases c16 : t343 = true
       ·
        subst c16
        have H1 : (if a0_0 ≥ (x7_1.length : Int) then (gimballaw14_LinearSums.j1 k1 x7_1 true a0_0 a0_1 a0_2 a0_3 a0_4 a1_0 a1_1 a1_2 a1_3 a1_4) else (if a0_2 ≥ (x7_1.length : Int) then (gimballaw14_LinearSums.j1 k1 x7_1 true a0_0 a0_1 a0_2 a0_3 a0_4 a1_0 a1_1 a1_2 a1_3 a1_4) else (if a1_0 ≥ (x7_1.length : Int) then (gimballaw14_LinearSums.j1 k1 x7_1 true a0_0 a0_1 a0_2 a0_3 a0_4 a1_0 a1_1 a1_2 a1_3 a1_4) else (gimballaw14_LinearSums.j1 k1 x7_1 (decide (a1_2 ≥ (x7_1.length : Int))) a0_0 a0_1 a0_2 a0_3 a0_4 a1_0 a1_1 a1_2 a1_3 a1_4)))) = some true := by rw [if_pos rfl] at H; exact H
        clear H
        have H := H1
        clear H1
        by_cases c17 : a0_0 ≥ (x7_1.length : Int)
        ·
         rw [if_pos c17] at H
         have c17b0 : decide ((x7_1.length : Int) ≤ a0_0) = true := decide_eq_true c17
         clear c17
         (first | rw [c17b0] | (simp only [i64_w, i32_w]; rw [c17b0]) | skip)
         have H' := Aside0.mk H
         clear H
         have hnb18 := NB335_336.out
         have hnc18 := NB336_335.out
         have hcz19_0 := hcz BK335 0
         have hcz19_1 := hcz BK335 1
         have hcz19_2 := hcz BK335 2
         have hcz19_3 := hcz BK335 3
         have hcz19_4 := hcz BK335 4
         have hfz19_0 := blk_frozen BK335.out 0
         have hfz19_1 := blk_frozen BK335.out 1
         have hfz19_2 := blk_frozen BK335.out 2
         have hfz19_3 := blk_frozen BK335.out 3
         have hfz19_4 := blk_frozen BK335.out 4
         go_wp2_with (first | ((with_reducible refine gate_callee (f := 17) rfl ?_); refine goesL_ (some 32) rfl rfl Try.func17 (by kernel_rfl) rfl #[.agg #[.int .i64 a0_0, .int .i64 a0_1, .int .i64 a0_2, .int .i64 a0_3, .int .i64 a0_4]] rfl (by (try simp only [List.map_toArray, List.map_cons, List.map_nil]); first | done | rfl | (simp only [List.length_drop, List.length_take]; rfl)) ?_; (with_reducible refine (linear_Fit.calls k1 a0_0 a0_1 a0_2 a0_3 a0_4 true _ A13.out).mono ?_); rintro e w20 ⟨rfl, hb⟩; refine ⟨_, rfl, ?_⟩; have n0_ := Aside0.mk (Kd.R_below (by (with_reducible repeat (first | apply Kd.R_alloc | apply Kd.R_drewN | apply Kd.R_drew)); exact HO_7.out) hb); have n1_ := bst HB hb; replace BK335 := bbw BK335 hb; replace BK336 := bbw BK336 hb; clear HO_7; clear HB; have HO_7 := n0_; have HB := n1_; clear n0_ n1_; (try clear hb); (try clear hb2); (try clear hk); (try clear hi); have hcz21_0 := hcz BK336 0; have hcz21_1 := hcz BK336 1; have hcz21_2 := hcz BK336 2; have hcz21_3 := hcz BK336 3; have hcz21_4 := hcz BK336 4; have hfz21_0 := blk_frozen BK336.out 0; have hfz21_1 := blk_frozen BK336.out 1; have hfz21_2 := blk_frozen BK336.out 2; have hfz21_3 := blk_frozen BK336.out 3; have hfz21_4 := blk_frozen BK336.out 4) | (go_at_call 17; (with_reducible refine (linear_Fit.calls k1 a1_0 a1_1 a1_2 a1_3 a1_4 true _ A15.out).mono ?_); rintro e w22 ⟨rfl, hb⟩; have n0_ := Aside0.mk (Kd.R_below (by (with_reducible repeat (first | apply Kd.R_alloc | apply Kd.R_drewN | apply Kd.R_drew)); exact HO_7.out) hb); have n1_ := bst HB hb; replace BK335 := bbw BK335 hb; replace BK336 := bbw BK336 hb; clear HO_7; clear HB; have HO_7 := n0_; have HB := n1_; clear n0_ n1_; (try clear hb); (try clear hb2); (try clear hk); (try clear hi); have hcz23_0 := hcz BK335 0; have hcz23_1 := hcz BK335 1; have hcz23_2 := hcz BK335 2; have hcz23_3 := hcz BK335 3; have hcz23_4 := hcz BK335 4; have hfz23_0 := blk_frozen BK335.out 0; have hfz23_1 := blk_frozen BK335.out 1; have hfz23_2 := blk_frozen BK335.out 2; have hfz23_3 := blk_frozen BK335.out 3; have hfz23_4 := blk_frozen BK335.out 4; obtain ⟨Ao24, co24, eo24⟩ := Kd.R_slice HO_7.out; subst eo24))
         go_meet
         case rel => exact ⟨_, (true), (by first | rfl | (simp; done) | (simp [*]; done)), H', ⟨by have := HK1.out; first | omega | exact Nat.le_refl _⟩, ⟨by (with_reducible repeat (first | apply Kd.R_alloc | apply Kd.R_drewN | apply Kd.R_drew)); exact HO_7.out⟩, pkA BK335, pkA BK336, bpk HB⟩
        ·
         rw [if_neg c17] at H
         have c17b0 : decide ((x7_1.length : Int) ≤ a0_0) = false := decide_eq_false c17
         clear c17
         (first | rw [c17b0] | (simp only [i64_w, i32_w]; rw [c17b0]) | skip)
         by_cases c25 : a0_2 ≥ (x7_1.length : Int)
         ·
          rw [if_pos c25] at H
          have c25b0 : decide ((x7_1.length : Int) ≤ a0_2) = true := decide_eq_true c25
          clear c25
          have H' := Aside0.mk H
          clear H
          have hnb26 := NB335_336.out
          have hnc26 := NB336_335.out
          have hcz27_0 := hcz BK335 0
          have hcz27_1 := hcz BK335 1
          have hcz27_2 := hcz BK335 2
          have hcz27_3 := hcz BK335 3
          have hcz27_4 := hcz BK335 4
          have hfz27_0 := blk_frozen BK335.out 0
          have hfz27_1 := blk_frozen BK335.out 1
          have hfz27_2 := blk_frozen BK335.out 2
          have hfz27_3 := blk_frozen BK335.out 3
          have hfz27_4 := blk_frozen BK335.out 4
          go_wp2_with (first | ((with_reducible refine gate_callee (f := 17) rfl ?_); refine goesL_ (some 32) rfl rfl Try.func17 (by kernel_rfl) rfl #[.agg #[.int .i64 a0_0, .int .i64 a0_1, .int .i64 a0_2, .int .i64 a0_3, .int .i64 a0_4]] rfl (by (try simp only [List.map_toArray, List.map_cons, List.map_nil]); first | done | rfl | (simp only [List.length_drop, List.length_take]; rfl)) ?_; (with_reducible refine (linear_Fit.calls k1 a0_0 a0_1 a0_2 a0_3 a0_4 true _ A13.out).mono ?_); rintro e w28 ⟨rfl, hb⟩; refine ⟨_, rfl, ?_⟩; have n0_ := Aside0.mk (Kd.R_below (by (with_reducible repeat (first | apply Kd.R_alloc | apply Kd.R_drewN | apply Kd.R_drew)); exact HO_7.out) hb); have n1_ := bst HB hb; replace BK335 := bbw BK335 hb; replace BK336 := bbw BK336 hb; clear HO_7; clear HB; have HO_7 := n0_; have HB := n1_; clear n0_ n1_; (try clear hb); (try clear hb2); (try clear hk); (try clear hi); have hcz29_0 := hcz BK336 0; have hcz29_1 := hcz BK336 1; have hcz29_2 := hcz BK336 2; have hcz29_3 := hcz BK336 3; have hcz29_4 := hcz BK336 4; have hfz29_0 := blk_frozen BK336.out 0; have hfz29_1 := blk_frozen BK336.out 1; have hfz29_2 := blk_frozen BK336.out 2; have hfz29_3 := blk_frozen BK336.out 3; have hfz29_4 := blk_frozen BK336.out 4) | (go_at_call 17; (with_reducible refine (linear_Fit.calls k1 a1_0 a1_1 a1_2 a1_3 a1_4 true _ A15.out).mono ?_); rintro e w30 ⟨rfl, hb⟩; have n0_ := Aside0.mk (Kd.R_below (by (with_reducible repeat (first | apply Kd.R_alloc | apply Kd.R_drewN | apply Kd.R_drew)); exact HO_7.out) hb); have n1_ := bst HB hb; replace BK335 := bbw BK335 hb; replace BK336 := bbw BK336 hb; clear HO_7; clear HB; have HO_7 := n0_; have HB := n1_; clear n0_ n1_; (try clear hb); (try clear hb2); (try clear hk); (try clear hi); have hcz31_0 := hcz BK335 0; have hcz31_1 := hcz BK335 1; have hcz31_2 := hcz BK335 2; have hcz31_3 := hcz BK335 3; have hcz31_4 := hcz BK335 4; have hfz31_0 := blk_frozen BK335.out 0; have hfz31_1 := blk_frozen BK335.out 1; have hfz31_2 := blk_frozen BK335.out 2; have hfz31_3 := blk_frozen BK335.out 3; have hfz31_4 := blk_frozen BK335.out 4; obtain ⟨Ao32, co32, eo32⟩ := Kd.R_slice HO_7.out; subst eo32))
          go_meet
          case rel => exact ⟨_, (true), (by first | rfl | (simp; done) | (simp [*]; done)), H', ⟨by have := HK1.out; first | omega | exact Nat.le_refl _⟩, ⟨by (with_reducible repeat (first | apply Kd.R_alloc | apply Kd.R_drewN | apply Kd.R_drew)); exact HO_7.out⟩, pkA BK335, pkA BK336, bpk HB⟩
         ·
          rw [if_neg c25] at H
          have c25b0 : decide ((x7_1.length : Int) ≤ a0_2) = false := decide_eq_false c25
          clear c25
          by_cases c33 : a1_0 ≥ (x7_1.length : Int)
          ·
           rw [if_pos c33] at H
           have c33b0 : decide ((x7_1.length : Int) ≤ a1_0) = true := decide_eq_true c33
           clear c33
           have H' := Aside0.mk H
           clear H
           have hnb34 := NB335_336.out
           have hnc34 := NB336_335.out
           have hcz35_0 := hcz BK335 0
           have hcz35_1 := hcz BK335 1
           have hcz35_2 := hcz BK335 2
           have hcz35_3 := hcz BK335 3
           have hcz35_4 := hcz BK335 4
           have hfz35_0 := blk_frozen BK335.out 0
           have hfz35_1 := blk_frozen BK335.out 1
           have hfz35_2 := blk_frozen BK335.out 2
           have hfz35_3 := blk_frozen BK335.out 3
           have hfz35_4 := blk_frozen BK335.out 4
           go_wp2_with (first | ((with_reducible refine gate_callee (f := 17) rfl ?_); refine goesL_ (some 32) rfl rfl Try.func17 (by kernel_rfl) rfl #[.agg #[.int .i64 a0_0, .int .i64 a0_1, .int .i64 a0_2, .int .i64 a0_3, .int .i64 a0_4]] rfl (by (try simp only [List.map_toArray, List.map_cons, List.map_nil]); first | done | rfl | (simp only [List.length_drop, List.length_take]; rfl)) ?_; (with_reducible refine (linear_Fit.calls k1 a0_0 a0_1 a0_2 a0_3 a0_4 true _ A13.out).mono ?_); rintro e w36 ⟨rfl, hb⟩; refine ⟨_, rfl, ?_⟩; have n0_ := Aside0.mk (Kd.R_below (by (with_reducible repeat (first | apply Kd.R_alloc | apply Kd.R_drewN | apply Kd.R_drew)); exact HO_7.out) hb); have n1_ := bst HB hb; replace BK335 := bbw BK335 hb; replace BK336 := bbw BK336 hb; clear HO_7; clear HB; have HO_7 := n0_; have HB := n1_; clear n0_ n1_; (try clear hb); (try clear hb2); (try clear hk); (try clear hi); have hcz37_0 := hcz BK336 0; have hcz37_1 := hcz BK336 1; have hcz37_2 := hcz BK336 2; have hcz37_3 := hcz BK336 3; have hcz37_4 := hcz BK336 4; have hfz37_0 := blk_frozen BK336.out 0; have hfz37_1 := blk_frozen BK336.out 1; have hfz37_2 := blk_frozen BK336.out 2; have hfz37_3 := blk_frozen BK336.out 3; have hfz37_4 := blk_frozen BK336.out 4) | (go_at_call 17; (with_reducible refine (linear_Fit.calls k1 a1_0 a1_1 a1_2 a1_3 a1_4 true _ A15.out).mono ?_); rintro e w38 ⟨rfl, hb⟩; have n0_ := Aside0.mk (Kd.R_below (by (with_reducible repeat (first | apply Kd.R_alloc | apply Kd.R_drewN | apply Kd.R_drew)); exact HO_7.out) hb); have n1_ := bst HB hb; replace BK335 := bbw BK335 hb; replace BK336 := bbw BK336 hb; clear HO_7; clear HB; have HO_7 := n0_; have HB := n1_; clear n0_ n1_; (try clear hb); (try clear hb2); (try clear hk); (try clear hi); have hcz39_0 := hcz BK335 0; have hcz39_1 := hcz BK335 1; have hcz39_2 := hcz BK335 2; have hcz39_3 := hcz BK335 3; have hcz39_4 := hcz BK335 4; have hfz39_0 := blk_frozen BK335.out 0; have hfz39_1 := blk_frozen BK335.out 1; have hfz39_2 := blk_frozen BK335.out 2; have hfz39_3 := blk_frozen BK335.out 3; have hfz39_4 := blk_frozen BK335.out 4; obtain ⟨Ao40, co40, eo40⟩ := Kd.R_slice HO_7.out; subst eo40; have hcz41_0 := hcz BK336 0; have hcz41_1 := hcz BK336 1; have hcz41_2 := hcz BK336 2; have hcz41_3 := hcz BK336 3; have hcz41_4 := hcz BK336 4; have hfz41_0 := blk_frozen BK336.out 0; have hfz41_1 := blk_frozen BK336.out 1; have hfz41_2 := blk_frozen BK336.out 2; have hfz41_3 := blk_frozen BK336.out 3; have hfz41_4 := blk_frozen BK336.out 4))
           go_meet
           case rel => exact ⟨_, (true), (by first | rfl | (simp; done) | (simp [*]; done)), H', ⟨by have := HK1.out; first | omega | exact Nat.le_refl _⟩, ⟨by (with_reducible repeat (first | apply Kd.R_alloc | apply Kd.R_drewN | apply Kd.R_drew)); exact HO_7.out⟩, pkA BK335, pkA BK336, bpk HB⟩
          ·
           rw [if_neg c33] at H
           have c33b0 : decide ((x7_1.length : Int) ≤ a1_0) = false := decide_eq_false c33
           clear c33
           have H' := Aside0.mk H
           clear H
           have hnb42 := NB335_336.out
           have hnc42 := NB336_335.out
           have hcz43_0 := hcz BK335 0
           have hcz43_1 := hcz BK335 1
           have hcz43_2 := hcz BK335 2
           have hcz43_3 := hcz BK335 3
           have hcz43_4 := hcz BK335 4
           have hfz43_0 := blk_frozen BK335.out 0
           have hfz43_1 := blk_frozen BK335.out 1
           have hfz43_2 := blk_frozen BK335.out 2
           have hfz43_3 := blk_frozen BK335.out 3
           have hfz43_4 := blk_frozen BK335.out 4
           go_wp2_with (first | ((with_reducible refine gate_callee (f := 17) rfl ?_); refine goesL_ (some 32) rfl rfl Try.func17 (by kernel_rfl) rfl #[.agg #[.int .i64 a0_0, .int .i64 a0_1, .int .i64 a0_2, .int .i64 a0_3, .int .i64 a0_4]] rfl (by (try simp only [List.map_toArray, List.map_cons, List.map_nil]); first | done | rfl | (simp only [List.length_drop, List.length_take]; rfl)) ?_; (with_reducible refine (linear_Fit.calls k1 a0_0 a0_1 a0_2 a0_3 a0_4 true _ A13.out).mono ?_); rintro e w44 ⟨rfl, hb⟩; refine ⟨_, rfl, ?_⟩; have n0_ := Aside0.mk (Kd.R_below (by (with_reducible repeat (first | apply Kd.R_alloc | apply Kd.R_drewN | apply Kd.R_drew)); exact HO_7.out) hb); have n1_ := bst HB hb; replace BK335 := bbw BK335 hb; replace BK336 := bbw BK336 hb; clear HO_7; clear HB; have HO_7 := n0_; have HB := n1_; clear n0_ n1_; (try clear hb); (try clear hb2); (try clear hk); (try clear hi); have hcz45_0 := hcz BK336 0; have hcz45_1 := hcz BK336 1; have hcz45_2 := hcz BK336 2; have hcz45_3 := hcz BK336 3; have hcz45_4 := hcz BK336 4; have hfz45_0 := blk_frozen BK336.out 0; have hfz45_1 := blk_frozen BK336.out 1; have hfz45_2 := blk_frozen BK336.out 2; have hfz45_3 := blk_frozen BK336.out 3; have hfz45_4 := blk_frozen BK336.out 4) | (go_at_call 17; (with_reducible refine (linear_Fit.calls k1 a1_0 a1_1 a1_2 a1_3 a1_4 true _ A15.out).mono ?_); rintro e w46 ⟨rfl, hb⟩; have n0_ := Aside0.mk (Kd.R_below (by (with_reducible repeat (first | apply Kd.R_alloc | apply Kd.R_drewN | apply Kd.R_drew)); exact HO_7.out) hb); have n1_ := bst HB hb; replace BK335 := bbw BK335 hb; replace BK336 := bbw BK336 hb; clear HO_7; clear HB; have HO_7 := n0_; have HB := n1_; clear n0_ n1_; (try clear hb); (try clear hb2); (try clear hk); (try clear hi); have hcz47_0 := hcz BK335 0; have hcz47_1 := hcz BK335 1; have hcz47_2 := hcz BK335 2; have hcz47_3 := hcz BK335 3; have hcz47_4 := hcz BK335 4; have hfz47_0 := blk_frozen BK335.out 0; have hfz47_1 := blk_frozen BK335.out 1; have hfz47_2 := blk_frozen BK335.out 2; have hfz47_3 := blk_frozen BK335.out 3; have hfz47_4 := blk_frozen BK335.out 4; obtain ⟨Ao48, co48, eo48⟩ := Kd.R_slice HO_7.out; subst eo48; have hcz49_0 := hcz BK336 0; have hcz49_1 := hcz BK336 1; have hcz49_2 := hcz BK336 2; have hcz49_3 := hcz BK336 3; have hcz49_4 := hcz BK336 4; have hfz49_0 := blk_frozen BK336.out 0; have hfz49_1 := blk_frozen BK336.out 1; have hfz49_2 := blk_frozen BK336.out 2; have hfz49_3 := blk_frozen BK336.out 3; have hfz49_4 := blk_frozen BK336.out 4))
           go_meet
           case rel => exact ⟨_, (decide (a1_2 ≥ (x7_1.length : Int))), (by first | rfl | (simp; done) | (simp [*]; done)), H', ⟨by have := HK1.out; first | omega | exact Nat.le_refl _⟩, ⟨by (with_reducible repeat (first | apply Kd.R_alloc | apply Kd.R_drewN | apply Kd.R_drew)); exact HO_7.out⟩, pkA BK335, pkA BK336, bpk HB⟩
       ·
        replace c16 := Bool.eq_false_iff.mpr c16
        subst c16
        have H1 : (gimballaw14_LinearSums.j1 k1 x7_1 true a0_0 a0_1 a0_2 a0_3 a0_4 a1_0 a1_1 a1_2 a1_3 a1_4) = some true := by rw [if_neg (show ¬ (false = true) by decide)] at H; exact H
        clear H
        have H := H1
        clear H1
        have H' := Aside0.mk H
        clear H
        have hnb50 := NB335_336.out
        have hnc50 := NB336_335.out
        have hcz51_0 := hcz BK335 0
        have hcz51_1 := hcz BK335 1
        have hcz51_2 := hcz BK335 2
        have hcz51_3 := hcz BK335 3
        have hcz51_4 := hcz BK335 4
        have hfz51_0 := blk_frozen BK335.out 0
        have hfz51_1 := blk_frozen BK335.out 1
        have hfz51_2 := blk_frozen BK335.out 2
        have hfz51_3 := blk_frozen BK335.out 3
        have hfz51_4 := blk_frozen BK335.out 4
        go_wp2_with (first | ((with_reducible refine gate_callee (f := 17) rfl ?_); refine goesL_ (some 32) rfl rfl Try.func17 (by kernel_rfl) rfl #[.agg #[.int .i64 a0_0, .int .i64 a0_1, .int .i64 a0_2, .int .i64 a0_3, .int .i64 a0_4]] rfl (by (try simp only [List.map_toArray, List.map_cons, List.map_nil]); first | done | rfl | (simp only [List.length_drop, List.length_take]; rfl)) ?_; (with_reducible refine (linear_Fit.calls k1 a0_0 a0_1 a0_2 a0_3 a0_4 true _ A13.out).mono ?_); rintro e w52 ⟨rfl, hb⟩; refine ⟨_, rfl, ?_⟩; have n0_ := Aside0.mk (Kd.R_below (by (with_reducible repeat (first | apply Kd.R_alloc | apply Kd.R_drewN | apply Kd.R_drew)); exact HO_7.out) hb); have n1_ := bst HB hb; replace BK335 := bbw BK335 hb; replace BK336 := bbw BK336 hb; clear HO_7; clear HB; have HO_7 := n0_; have HB := n1_; clear n0_ n1_; (try clear hb); (try clear hb2); (try clear hk); (try clear hi); have hcz53_0 := hcz BK336 0; have hcz53_1 := hcz BK336 1; have hcz53_2 := hcz BK336 2; have hcz53_3 := hcz BK336 3; have hcz53_4 := hcz BK336 4; have hfz53_0 := blk_frozen BK336.out 0; have hfz53_1 := blk_frozen BK336.out 1; have hfz53_2 := blk_frozen BK336.out 2; have hfz53_3 := blk_frozen BK336.out 3; have hfz53_4 := blk_frozen BK336.out 4) | (go_at_call 17; (with_reducible refine (linear_Fit.calls k1 a1_0 a1_1 a1_2 a1_3 a1_4 false _ A15.out).mono ?_); rintro e w54 ⟨rfl, hb⟩; have n0_ := Aside0.mk (Kd.R_below (by (with_reducible repeat (first | apply Kd.R_alloc | apply Kd.R_drewN | apply Kd.R_drew)); exact HO_7.out) hb); have n1_ := bst HB hb; replace BK335 := bbw BK335 hb; replace BK336 := bbw BK336 hb; clear HO_7; clear HB; have HO_7 := n0_; have HB := n1_; clear n0_ n1_; (try clear hb); (try clear hb2); (try clear hk); (try clear hi)))
        go_meet
        case rel => exact ⟨_, (true), (by first | rfl | (simp; done) | (simp [*]; done)), H', ⟨by have := HK1.out; first | omega | exact Nat.le_refl _⟩, ⟨by (with_reducible repeat (first | apply Kd.R_alloc | apply Kd.R_drewN | apply Kd.R_drew)); exact HO_7.out⟩, pkA BK335, pkA BK336, bpk HB⟩
      ·
       replace c14 := Bool.eq_false_iff.mpr c14
       subst c14
       have H1 : (gimballaw14_LinearSums.j1 k1 x7_1 true a0_0 a0_1 a0_2 a0_3 a0_4 a1_0 a1_1 a1_2 a1_3 a1_4) = some true := by rw [if_neg (show ¬ (false = true) by decide)] at H; exact H
       clear H
       have H := H1
       clear H1
       have H' := Aside0.mk H
       clear H
       have hnb55 := NB335_336.out
       have hnc55 := NB336_335.out
       have hcz56_0 := hcz BK335 0
       have hcz56_1 := hcz BK335 1
       have hcz56_2 := hcz BK335 2
       have hcz56_3 := hcz BK335 3
       have hcz56_4 := hcz BK335 4
       have hfz56_0 := blk_frozen BK335.out 0
       have hfz56_1 := blk_frozen BK335.out 1
       have hfz56_2 := blk_frozen BK335.out 2
       have hfz56_3 := blk_frozen BK335.out 3
       have hfz56_4 := blk_frozen BK335.out 4
       go_wp2_with (first | ((with_reducible refine gate_callee (f := 17) rfl ?_); refine goesL_ (some 32) rfl rfl Try.func17 (by kernel_rfl) rfl #[.agg #[.int .i64 a0_0, .int .i64 a0_1, .int .i64 a0_2, .int .i64 a0_3, .int .i64 a0_4]] rfl (by (try simp only [List.map_toArray, List.map_cons, List.map_nil]); first | done | rfl | (simp only [List.length_drop, List.length_take]; rfl)) ?_; (with_reducible refine (linear_Fit.calls k1 a0_0 a0_1 a0_2 a0_3 a0_4 false _ A13.out).mono ?_); rintro e w57 ⟨rfl, hb⟩; refine ⟨_, rfl, ?_⟩; have n0_ := Aside0.mk (Kd.R_below (by (with_reducible repeat (first | apply Kd.R_alloc | apply Kd.R_drewN | apply Kd.R_drew)); exact HO_7.out) hb); have n1_ := bst HB hb; replace BK335 := bbw BK335 hb; replace BK336 := bbw BK336 hb; clear HO_7; clear HB; have HO_7 := n0_; have HB := n1_; clear n0_ n1_; (try clear hb); (try clear hb2); (try clear hk); (try clear hi)))
       go_meet
       case rel => exact ⟨_, (true), (by first | rfl | (simp; done) | (simp [*]; done)), H', ⟨by have := HK1.out; first | omega | exact Nat.le_refl _⟩, ⟨by (with_reducible repeat (first | apply Kd.R_alloc | apply Kd.R_drewN | apply Kd.R_drew)); exact HO_7.out⟩, pkA BK335, pkA BK336, bpk HB⟩
     case rest =>
      clear HC12
      try clear c1
      try clear c2
      try clear p2
      try clear c3
      try clear p3
      try clear q3
      try clear hx3
      try clear c4
      try clear c5
      try clear c6
      try clear c6b0
      try clear p6
      try clear c7
      try clear c7b0
      try clear c9
      try clear c14
      try clear c16
      try clear c17
      try clear c17b0
      try clear c18
      try clear c19
      try clear c25
      try clear c25b0
      try clear c26
      try clear c33
      try clear c33b0
      try clear p33
      try clear q33
      try clear hx33
      try clear c34
      try clear c42
      try clear c50
      try clear c55
      try clear hcz19_0
      try clear hcz19_1
      try clear hcz19_2
      try clear hcz19_3
      try clear hcz19_4
      try clear hcz21_0
      try clear hcz21_1
      try clear hcz21_2
      try clear hcz21_3
      try clear hcz21_4
      try clear hcz23_0
      try clear hcz23_1
      try clear hcz23_2
      try clear hcz23_3
      try clear hcz23_4
      try clear hcz27_0
      try clear hcz27_1
      try clear hcz27_2
      try clear hcz27_3
      try clear hcz27_4
      try clear hcz29_0
      try clear hcz29_1
      try clear hcz29_2
      try clear hcz29_3
      try clear hcz29_4
      try clear hcz31_0
      try clear hcz31_1
      try clear hcz31_2
      try clear hcz31_3
      try clear hcz31_4
      try clear hcz35_0
      try clear hcz35_1
      try clear hcz35_2
      try clear hcz35_3
      try clear hcz35_4
      try clear hcz37_0
      try clear hcz37_1
      try clear hcz37_2
      try clear hcz37_3
      try clear hcz37_4
      try clear hcz39_0
      try clear hcz39_1
      try clear hcz39_2
      try clear hcz39_3
      try clear hcz39_4
      try clear hcz41_0
      try clear hcz41_1
      try clear hcz41_2
      try clear hcz41_3
      try clear hcz41_4
      try clear hcz43_0
      try clear hcz43_1
      try clear hcz43_2
      try clear hcz43_3
      try clear hcz43_4
      try clear hcz45_0
      try clear hcz45_1
      try clear hcz45_2
      try clear hcz45_3
      try clear hcz45_4
      try clear hcz47_0
      try clear hcz47_1
      try clear hcz47_2
      try clear hcz47_3
      try clear hcz47_4
      try clear hcz49_0
      try clear hcz49_1
      try clear hcz49_2
      try clear hcz49_3
      try clear hcz49_4
      try clear hcz51_0
      try clear hcz51_1
      try clear hcz51_2
      try clear hcz51_3
      try clear hcz51_4
      try clear hcz53_0
      try clear hcz53_1
      try clear hcz53_2
      try clear hcz53_3
      try clear hcz53_4
      try clear hcz56_0
      try clear hcz56_1
      try clear hcz56_2
      try clear hcz56_3
      try clear hcz56_4
      try clear hfz19_0
      try clear hfz19_1
      try clear hfz19_2
      try clear hfz19_3
      try clear hfz19_4
      try clear hfz21_0
      try clear hfz21_1
      try clear hfz21_2
      try clear hfz21_3
      try clear hfz21_4
      try clear hfz23_0
      try clear hfz23_1
      try clear hfz23_2
      try clear hfz23_3
      try clear hfz23_4
      try clear hfz27_0
      try clear hfz27_1
      try clear hfz27_2
      try clear hfz27_3
      try clear hfz27_4
      try clear hfz29_0
      try clear hfz29_1
      try clear hfz29_2
      try clear hfz29_3
      try clear hfz29_4
      try clear hfz31_0
      try clear hfz31_1
      try clear hfz31_2
      try clear hfz31_3
      try clear hfz31_4
      try clear hfz35_0
      try clear hfz35_1
      try clear hfz35_2
      try clear hfz35_3
      try clear hfz35_4
      try clear hfz37_0
      try clear hfz37_1
      try clear hfz37_2
      try clear hfz37_3
      try clear hfz37_4
      try clear hfz39_0
      try clear hfz39_1
      try clear hfz39_2
      try clear hfz39_3
      try clear hfz39_4
      try clear hfz41_0
      try clear hfz41_1
      try clear hfz41_2
      try clear hfz41_3
      try clear hfz41_4
      try clear hfz43_0
      try clear hfz43_1
      try clear hfz43_2
      try clear hfz43_3
      try clear hfz43_4
      try clear hfz45_0
      try clear hfz45_1
      try clear hfz45_2
      try clear hfz45_3
      try clear hfz45_4
      try clear hfz47_0
      try clear hfz47_1
      try clear hfz47_2
      try clear hfz47_3
      try clear hfz47_4
      try clear hfz49_0
      try clear hfz49_1
      try clear hfz49_2
      try clear hfz49_3
      try clear hfz49_4
      try clear hfz51_0
      try clear hfz51_1
      try clear hfz51_2
      try clear hfz51_3
      try clear hfz51_4
      try clear hfz53_0
      try clear hfz53_1
      try clear hfz53_2
      try clear hfz53_3
      try clear hfz53_4
      try clear hfz56_0
      try clear hfz56_1
      try clear hfz56_2
      try clear hfz56_3
      try clear hfz56_4
      try clear hx337_0
      try clear p2
      try clear p337
      try clear q337
      obtain ⟨kq, x66_11, rfl, HA, HJ11, HO_7, BK335, BK336, HB⟩ := hcut
      cases kq with
      | zero => exact absurd HA.out (by simp [gimballaw14_LinearSums.j1])
      | succ kj11 =>
       have H := HA.out
       clear HA
       simp only [gimballaw14_LinearSums.j1] at H
       by_cases c58 : x66_11 = true
       ·
        subst c58
        have H1 : ((gimballaw14_awake.f kj11).bind fun t344 => (some t344)) = some true := by rw [if_pos rfl] at H; exact H
        clear H
        have H := H1
        clear H1
        replace H := Option.bind_eq_some_iff.mp H
        obtain ⟨t344, A590, H⟩ := H
        replace H : (some t344) = some true := H
        have A59 := Aside0.mk A590
        clear A590
        have hret_ := Option.some.inj H
        clear H
        go_wp2_with (first | ((with_reducible refine gate_callee (f := 10) rfl ?_); refine goesL_ (some 67) rfl rfl Try.func10 (by kernel_rfl) rfl #[] rfl (by (try simp only [List.map_toArray, List.map_cons, List.map_nil]); first | done | rfl | (simp only [List.length_drop, List.length_take]; rfl)) ?_; (with_reducible refine (gimballaw14_awake.calls kj11  t344 _ A59.out).mono ?_); rintro e w60 ⟨rfl, hb⟩; refine ⟨_, rfl, ?_⟩; have n0_ := Aside0.mk (Kd.R_below (by (with_reducible repeat (first | apply Kd.R_alloc | apply Kd.R_drewN | apply Kd.R_drew)); exact HO_7.out) hb); have n1_ := bst HB hb; replace BK335 := bbw BK335 hb; replace BK336 := bbw BK336 hb; clear HO_7; clear HB; have HO_7 := n0_; have HB := n1_; clear n0_ n1_; (try clear hb); (try clear hb2); (try clear hk); (try clear hi)))
        go_ret
        exact ⟨by first | rfl | (simp [errW_none, errW_some] <;> rfl) | (simp [*, errW_none, errW_some] <;> rfl) | kernel_rfl, by repeat (first | (with_reducible first | exact HB.out | apply below_alloc | apply pw_below_drewN | apply below_drew1 | refine below_set ?_ GE335.out | refine below_set ?_ GE336.out) | exact HB.out)⟩
       ·
        replace c58 := Bool.eq_false_iff.mpr c58
        subst c58
        have H1 : ((linear_Value.f kj11 a0_0 a0_1 a0_2 a0_3 a0_4 x7_1).bind fun t345 => ((linear_Value.f kj11 a1_0 a1_1 a1_2 a1_3 a1_4 x7_1).bind fun t346 => ((linear_Add.f kj11 a0_0 a0_1 a0_2 a0_3 a0_4 a1_0 a1_1 a1_2 a1_3 a1_4).bind fun bt347 => ((linear_Sub.f kj11 a0_0 a0_1 a0_2 a0_3 a0_4 a1_0 a1_1 a1_2 a1_3 a1_4).bind fun bt354 => ((linear_Neg.f kj11 a0_0 a0_1 a0_2 a0_3 a0_4).bind fun bt361 => (if bt347.2.2.2.2.2 = true then ((linear_Fit.f kj11 bt347.1 bt347.2.1 bt347.2.2.1 bt347.2.2.2.1 bt347.2.2.2.2.1).bind fun t368 => (if t368 = true then ((linear_Value.f kj11 bt347.1 bt347.2.1 bt347.2.2.1 bt347.2.2.2.1 bt347.2.2.2.2.1 x7_1).bind fun t369 => (if t369 = (wrap64 (t345 + t346)) then (if bt354.2.2.2.2.2 = true then ((linear_Fit.f kj11 bt354.1 bt354.2.1 bt354.2.2.1 bt354.2.2.2.1 bt354.2.2.2.2.1).bind fun t370 => (if t370 = true then ((linear_Value.f kj11 bt354.1 bt354.2.1 bt354.2.2.1 bt354.2.2.2.1 bt354.2.2.2.2.1 x7_1).bind fun t371 => (if t371 = (wrap64 (t345 - t346)) then (if bt361.2.2.2.2.2 = true then ((linear_Fit.f kj11 bt361.1 bt361.2.1 bt361.2.2.1 bt361.2.2.2.1 bt361.2.2.2.2.1).bind fun t372 => (if t372 = true then ((linear_Value.f kj11 bt361.1 bt361.2.1 bt361.2.2.1 bt361.2.2.2.1 bt361.2.2.2.2.1 x7_1).bind fun t373 => (if t373 = (wrap64 (-t345)) then ((gimballaw14_awake.f kj11).bind fun t374 => (some t374)) else (some false))) else (some false))) else (some false)) else (some false))) else (some false))) else (if bt361.2.2.2.2.2 = true then ((linear_Fit.f kj11 bt361.1 bt361.2.1 bt361.2.2.1 bt361.2.2.2.1 bt361.2.2.2.2.1).bind fun t375 => (if t375 = true then ((linear_Value.f kj11 bt361.1 bt361.2.1 bt361.2.2.1 bt361.2.2.2.1 bt361.2.2.2.2.1 x7_1).bind fun t376 => (if t376 = (wrap64 (-t345)) then ((gimballaw14_awake.f kj11).bind fun t377 => (some t377)) else (some false))) else (some false))) else (some false))) else (some false))) else (some false))) else (if bt354.2.2.2.2.2 = true then ((linear_Fit.f kj11 bt354.1 bt354.2.1 bt354.2.2.1 bt354.2.2.2.1 bt354.2.2.2.2.1).bind fun t378 => (if t378 = true then ((linear_Value.f kj11 bt354.1 bt354.2.1 bt354.2.2.1 bt354.2.2.2.1 bt354.2.2.2.2.1 x7_1).bind fun t379 => (if t379 = (wrap64 (t345 - t346)) then (if bt361.2.2.2.2.2 = true then ((linear_Fit.f kj11 bt361.1 bt361.2.1 bt361.2.2.1 bt361.2.2.2.1 bt361.2.2.2.2.1).bind fun t380 => (if t380 = true then ((linear_Value.f kj11 bt361.1 bt361.2.1 bt361.2.2.1 bt361.2.2.2.1 bt361.2.2.2.2.1 x7_1).bind fun t381 => (if t381 = (wrap64 (-t345)) then ((gimballaw14_awake.f kj11).bind fun t382 => (some t382)) else (some false))) else (some false))) else (some false)) else (some false))) else (some false))) else (if bt361.2.2.2.2.2 = true then ((linear_Fit.f kj11 bt361.1 bt361.2.1 bt361.2.2.1 bt361.2.2.2.1 bt361.2.2.2.2.1).bind fun t383 => (if t383 = true then ((linear_Value.f kj11 bt361.1 bt361.2.1 bt361.2.2.1 bt361.2.2.2.1 bt361.2.2.2.2.1 x7_1).bind fun t384 => (if t384 = (wrap64 (-t345)) then ((gimballaw14_awake.f kj11).bind fun t385 => (some t385)) else (some false))) else (some false))) else (some false))))))))) = some true := by rw [if_neg (show ¬ (false = true) by decide)] at H; exact H
        clear H
        have H := H1
        clear H1
        replace H := Option.bind_eq_some_iff.mp H
        obtain ⟨t345, A610, H⟩ := H
        replace H : ((linear_Value.f kj11 a1_0 a1_1 a1_2 a1_3 a1_4 x7_1).bind fun t346 => ((linear_Add.f kj11 a0_0 a0_1 a0_2 a0_3 a0_4 a1_0 a1_1 a1_2 a1_3 a1_4).bind fun bt347 => ((linear_Sub.f kj11 a0_0 a0_1 a0_2 a0_3 a0_4 a1_0 a1_1 a1_2 a1_3 a1_4).bind fun bt354 => ((linear_Neg.f kj11 a0_0 a0_1 a0_2 a0_3 a0_4).bind fun bt361 => (if bt347.2.2.2.2.2 = true then ((linear_Fit.f kj11 bt347.1 bt347.2.1 bt347.2.2.1 bt347.2.2.2.1 bt347.2.2.2.2.1).bind fun t368 => (if t368 = true then ((linear_Value.f kj11 bt347.1 bt347.2.1 bt347.2.2.1 bt347.2.2.2.1 bt347.2.2.2.2.1 x7_1).bind fun t369 => (if t369 = (wrap64 (t345 + t346)) then (if bt354.2.2.2.2.2 = true then ((linear_Fit.f kj11 bt354.1 bt354.2.1 bt354.2.2.1 bt354.2.2.2.1 bt354.2.2.2.2.1).bind fun t370 => (if t370 = true then ((linear_Value.f kj11 bt354.1 bt354.2.1 bt354.2.2.1 bt354.2.2.2.1 bt354.2.2.2.2.1 x7_1).bind fun t371 => (if t371 = (wrap64 (t345 - t346)) then (if bt361.2.2.2.2.2 = true then ((linear_Fit.f kj11 bt361.1 bt361.2.1 bt361.2.2.1 bt361.2.2.2.1 bt361.2.2.2.2.1).bind fun t372 => (if t372 = true then ((linear_Value.f kj11 bt361.1 bt361.2.1 bt361.2.2.1 bt361.2.2.2.1 bt361.2.2.2.2.1 x7_1).bind fun t373 => (if t373 = (wrap64 (-t345)) then ((gimballaw14_awake.f kj11).bind fun t374 => (some t374)) else (some false))) else (some false))) else (some false)) else (some false))) else (some false))) else (if bt361.2.2.2.2.2 = true then ((linear_Fit.f kj11 bt361.1 bt361.2.1 bt361.2.2.1 bt361.2.2.2.1 bt361.2.2.2.2.1).bind fun t375 => (if t375 = true then ((linear_Value.f kj11 bt361.1 bt361.2.1 bt361.2.2.1 bt361.2.2.2.1 bt361.2.2.2.2.1 x7_1).bind fun t376 => (if t376 = (wrap64 (-t345)) then ((gimballaw14_awake.f kj11).bind fun t377 => (some t377)) else (some false))) else (some false))) else (some false))) else (some false))) else (some false))) else (if bt354.2.2.2.2.2 = true then ((linear_Fit.f kj11 bt354.1 bt354.2.1 bt354.2.2.1 bt354.2.2.2.1 bt354.2.2.2.2.1).bind fun t378 => (if t378 = true then ((linear_Value.f kj11 bt354.1 bt354.2.1 bt354.2.2.1 bt354.2.2.2.1 bt354.2.2.2.2.1 x7_1).bind fun t379 => (if t379 = (wrap64 (t345 - t346)) then (if bt361.2.2.2.2.2 = true then ((linear_Fit.f kj11 bt361.1 bt361.2.1 bt361.2.2.1 bt361.2.2.2.1 bt361.2.2.2.2.1).bind fun t380 => (if t380 = true then ((linear_Value.f kj11 bt361.1 bt361.2.1 bt361.2.2.1 bt361.2.2.2.1 bt361.2.2.2.2.1 x7_1).bind fun t381 => (if t381 = (wrap64 (-t345)) then ((gimballaw14_awake.f kj11).bind fun t382 => (some t382)) else (some false))) else (some false))) else (some false)) else (some false))) else (some false))) else (if bt361.2.2.2.2.2 = true then ((linear_Fit.f kj11 bt361.1 bt361.2.1 bt361.2.2.1 bt361.2.2.2.1 bt361.2.2.2.2.1).bind fun t383 => (if t383 = true then ((linear_Value.f kj11 bt361.1 bt361.2.1 bt361.2.2.1 bt361.2.2.2.1 bt361.2.2.2.2.1 x7_1).bind fun t384 => (if t384 = (wrap64 (-t345)) then ((gimballaw14_awake.f kj11).bind fun t385 => (some t385)) else (some false))) else (some false))) else (some false)))))))) = some true := H
        have A61 := Aside0.mk A610
        clear A610
        replace H := Option.bind_eq_some_iff.mp H
        obtain ⟨t346, A620, H⟩ := H
        replace H : ((linear_Add.f kj11 a0_0 a0_1 a0_2 a0_3 a0_4 a1_0 a1_1 a1_2 a1_3 a1_4).bind fun bt347 => ((linear_Sub.f kj11 a0_0 a0_1 a0_2 a0_3 a0_4 a1_0 a1_1 a1_2 a1_3 a1_4).bind fun bt354 => ((linear_Neg.f kj11 a0_0 a0_1 a0_2 a0_3 a0_4).bind fun bt361 => (if bt347.2.2.2.2.2 = true then ((linear_Fit.f kj11 bt347.1 bt347.2.1 bt347.2.2.1 bt347.2.2.2.1 bt347.2.2.2.2.1).bind fun t368 => (if t368 = true then ((linear_Value.f kj11 bt347.1 bt347.2.1 bt347.2.2.1 bt347.2.2.2.1 bt347.2.2.2.2.1 x7_1).bind fun t369 => (if t369 = (wrap64 (t345 + t346)) then (if bt354.2.2.2.2.2 = true then ((linear_Fit.f kj11 bt354.1 bt354.2.1 bt354.2.2.1 bt354.2.2.2.1 bt354.2.2.2.2.1).bind fun t370 => (if t370 = true then ((linear_Value.f kj11 bt354.1 bt354.2.1 bt354.2.2.1 bt354.2.2.2.1 bt354.2.2.2.2.1 x7_1).bind fun t371 => (if t371 = (wrap64 (t345 - t346)) then (if bt361.2.2.2.2.2 = true then ((linear_Fit.f kj11 bt361.1 bt361.2.1 bt361.2.2.1 bt361.2.2.2.1 bt361.2.2.2.2.1).bind fun t372 => (if t372 = true then ((linear_Value.f kj11 bt361.1 bt361.2.1 bt361.2.2.1 bt361.2.2.2.1 bt361.2.2.2.2.1 x7_1).bind fun t373 => (if t373 = (wrap64 (-t345)) then ((gimballaw14_awake.f kj11).bind fun t374 => (some t374)) else (some false))) else (some false))) else (some false)) else (some false))) else (some false))) else (if bt361.2.2.2.2.2 = true then ((linear_Fit.f kj11 bt361.1 bt361.2.1 bt361.2.2.1 bt361.2.2.2.1 bt361.2.2.2.2.1).bind fun t375 => (if t375 = true then ((linear_Value.f kj11 bt361.1 bt361.2.1 bt361.2.2.1 bt361.2.2.2.1 bt361.2.2.2.2.1 x7_1).bind fun t376 => (if t376 = (wrap64 (-t345)) then ((gimballaw14_awake.f kj11).bind fun t377 => (some t377)) else (some false))) else (some false))) else (some false))) else (some false))) else (some false))) else (if bt354.2.2.2.2.2 = true then ((linear_Fit.f kj11 bt354.1 bt354.2.1 bt354.2.2.1 bt354.2.2.2.1 bt354.2.2.2.2.1).bind fun t378 => (if t378 = true then ((linear_Value.f kj11 bt354.1 bt354.2.1 bt354.2.2.1 bt354.2.2.2.1 bt354.2.2.2.2.1 x7_1).bind fun t379 => (if t379 = (wrap64 (t345 - t346)) then (if bt361.2.2.2.2.2 = true then ((linear_Fit.f kj11 bt361.1 bt361.2.1 bt361.2.2.1 bt361.2.2.2.1 bt361.2.2.2.2.1).bind fun t380 => (if t380 = true then ((linear_Value.f kj11 bt361.1 bt361.2.1 bt361.2.2.1 bt361.2.2.2.1 bt361.2.2.2.2.1 x7_1).bind fun t381 => (if t381 = (wrap64 (-t345)) then ((gimballaw14_awake.f kj11).bind fun t382 => (some t382)) else (some false))) else (some false))) else (some false)) else (some false))) else (some false))) else (if bt361.2.2.2.2.2 = true then ((linear_Fit.f kj11 bt361.1 bt361.2.1 bt361.2.2.1 bt361.2.2.2.1 bt361.2.2.2.2.1).bind fun t383 => (if t383 = true then ((linear_Value.f kj11 bt361.1 bt361.2.1 bt361.2.2.1 bt361.2.2.2.1 bt361.2.2.2.2.1 x7_1).bind fun t384 => (if t384 = (wrap64 (-t345)) then ((gimballaw14_awake.f kj11).bind fun t385 => (some t385)) else (some false))) else (some false))) else (some false))))))) = some true := H
        have A62 := Aside0.mk A620
        clear A620
        replace H := Option.bind_eq_some_iff.mp H
        obtain ⟨⟨t347, t348, t349, t350, t351, t352⟩, A630, H⟩ := H
        replace H : ((linear_Sub.f kj11 a0_0 a0_1 a0_2 a0_3 a0_4 a1_0 a1_1 a1_2 a1_3 a1_4).bind fun bt354 => ((linear_Neg.f kj11 a0_0 a0_1 a0_2 a0_3 a0_4).bind fun bt361 => (if t352 = true then ((linear_Fit.f kj11 t347 t348 t349 t350 t351).bind fun t368 => (if t368 = true then ((linear_Value.f kj11 t347 t348 t349 t350 t351 x7_1).bind fun t369 => (if t369 = (wrap64 (t345 + t346)) then (if bt354.2.2.2.2.2 = true then ((linear_Fit.f kj11 bt354.1 bt354.2.1 bt354.2.2.1 bt354.2.2.2.1 bt354.2.2.2.2.1).bind fun t370 => (if t370 = true then ((linear_Value.f kj11 bt354.1 bt354.2.1 bt354.2.2.1 bt354.2.2.2.1 bt354.2.2.2.2.1 x7_1).bind fun t371 => (if t371 = (wrap64 (t345 - t346)) then (if bt361.2.2.2.2.2 = true then ((linear_Fit.f kj11 bt361.1 bt361.2.1 bt361.2.2.1 bt361.2.2.2.1 bt361.2.2.2.2.1).bind fun t372 => (if t372 = true then ((linear_Value.f kj11 bt361.1 bt361.2.1 bt361.2.2.1 bt361.2.2.2.1 bt361.2.2.2.2.1 x7_1).bind fun t373 => (if t373 = (wrap64 (-t345)) then ((gimballaw14_awake.f kj11).bind fun t374 => (some t374)) else (some false))) else (some false))) else (some false)) else (some false))) else (some false))) else (if bt361.2.2.2.2.2 = true then ((linear_Fit.f kj11 bt361.1 bt361.2.1 bt361.2.2.1 bt361.2.2.2.1 bt361.2.2.2.2.1).bind fun t375 => (if t375 = true then ((linear_Value.f kj11 bt361.1 bt361.2.1 bt361.2.2.1 bt361.2.2.2.1 bt361.2.2.2.2.1 x7_1).bind fun t376 => (if t376 = (wrap64 (-t345)) then ((gimballaw14_awake.f kj11).bind fun t377 => (some t377)) else (some false))) else (some false))) else (some false))) else (some false))) else (some false))) else (if bt354.2.2.2.2.2 = true then ((linear_Fit.f kj11 bt354.1 bt354.2.1 bt354.2.2.1 bt354.2.2.2.1 bt354.2.2.2.2.1).bind fun t378 => (if t378 = true then ((linear_Value.f kj11 bt354.1 bt354.2.1 bt354.2.2.1 bt354.2.2.2.1 bt354.2.2.2.2.1 x7_1).bind fun t379 => (if t379 = (wrap64 (t345 - t346)) then (if bt361.2.2.2.2.2 = true then ((linear_Fit.f kj11 bt361.1 bt361.2.1 bt361.2.2.1 bt361.2.2.2.1 bt361.2.2.2.2.1).bind fun t380 => (if t380 = true then ((linear_Value.f kj11 bt361.1 bt361.2.1 bt361.2.2.1 bt361.2.2.2.1 bt361.2.2.2.2.1 x7_1).bind fun t381 => (if t381 = (wrap64 (-t345)) then ((gimballaw14_awake.f kj11).bind fun t382 => (some t382)) else (some false))) else (some false))) else (some false)) else (some false))) else (some false))) else (if bt361.2.2.2.2.2 = true then ((linear_Fit.f kj11 bt361.1 bt361.2.1 bt361.2.2.1 bt361.2.2.2.1 bt361.2.2.2.2.1).bind fun t383 => (if t383 = true then ((linear_Value.f kj11 bt361.1 bt361.2.1 bt361.2.2.1 bt361.2.2.2.1 bt361.2.2.2.2.1 x7_1).bind fun t384 => (if t384 = (wrap64 (-t345)) then ((gimballaw14_awake.f kj11).bind fun t385 => (some t385)) else (some false))) else (some false))) else (some false)))))) = some true := H
        have A63 := Aside0.mk A630
        clear A630
        replace H := Option.bind_eq_some_iff.mp H
        obtain ⟨⟨t354, t355, t356, t357, t358, t359⟩, A640, H⟩ := H
        replace H : ((linear_Neg.f kj11 a0_0 a0_1 a0_2 a0_3 a0_4).bind fun bt361 => (if t352 = true then ((linear_Fit.f kj11 t347 t348 t349 t350 t351).bind fun t368 => (if t368 = true then ((linear_Value.f kj11 t347 t348 t349 t350 t351 x7_1).bind fun t369 => (if t369 = (wrap64 (t345 + t346)) then (if t359 = true then ((linear_Fit.f kj11 t354 t355 t356 t357 t358).bind fun t370 => (if t370 = true then ((linear_Value.f kj11 t354 t355 t356 t357 t358 x7_1).bind fun t371 => (if t371 = (wrap64 (t345 - t346)) then (if bt361.2.2.2.2.2 = true then ((linear_Fit.f kj11 bt361.1 bt361.2.1 bt361.2.2.1 bt361.2.2.2.1 bt361.2.2.2.2.1).bind fun t372 => (if t372 = true then ((linear_Value.f kj11 bt361.1 bt361.2.1 bt361.2.2.1 bt361.2.2.2.1 bt361.2.2.2.2.1 x7_1).bind fun t373 => (if t373 = (wrap64 (-t345)) then ((gimballaw14_awake.f kj11).bind fun t374 => (some t374)) else (some false))) else (some false))) else (some false)) else (some false))) else (some false))) else (if bt361.2.2.2.2.2 = true then ((linear_Fit.f kj11 bt361.1 bt361.2.1 bt361.2.2.1 bt361.2.2.2.1 bt361.2.2.2.2.1).bind fun t375 => (if t375 = true then ((linear_Value.f kj11 bt361.1 bt361.2.1 bt361.2.2.1 bt361.2.2.2.1 bt361.2.2.2.2.1 x7_1).bind fun t376 => (if t376 = (wrap64 (-t345)) then ((gimballaw14_awake.f kj11).bind fun t377 => (some t377)) else (some false))) else (some false))) else (some false))) else (some false))) else (some false))) else (if t359 = true then ((linear_Fit.f kj11 t354 t355 t356 t357 t358).bind fun t378 => (if t378 = true then ((linear_Value.f kj11 t354 t355 t356 t357 t358 x7_1).bind fun t379 => (if t379 = (wrap64 (t345 - t346)) then (if bt361.2.2.2.2.2 = true then ((linear_Fit.f kj11 bt361.1 bt361.2.1 bt361.2.2.1 bt361.2.2.2.1 bt361.2.2.2.2.1).bind fun t380 => (if t380 = true then ((linear_Value.f kj11 bt361.1 bt361.2.1 bt361.2.2.1 bt361.2.2.2.1 bt361.2.2.2.2.1 x7_1).bind fun t381 => (if t381 = (wrap64 (-t345)) then ((gimballaw14_awake.f kj11).bind fun t382 => (some t382)) else (some false))) else (some false))) else (some false)) else (some false))) else (some false))) else (if bt361.2.2.2.2.2 = true then ((linear_Fit.f kj11 bt361.1 bt361.2.1 bt361.2.2.1 bt361.2.2.2.1 bt361.2.2.2.2.1).bind fun t383 => (if t383 = true then ((linear_Value.f kj11 bt361.1 bt361.2.1 bt361.2.2.1 bt361.2.2.2.1 bt361.2.2.2.2.1 x7_1).bind fun t384 => (if t384 = (wrap64 (-t345)) then ((gimballaw14_awake.f kj11).bind fun t385 => (some t385)) else (some false))) else (some false))) else (some false))))) = some true := H
        have A64 := Aside0.mk A640
        clear A640
        replace H := Option.bind_eq_some_iff.mp H
        obtain ⟨⟨t361, t362, t363, t364, t365, t366⟩, A650, H⟩ := H
        replace H : (if t352 = true then ((linear_Fit.f kj11 t347 t348 t349 t350 t351).bind fun t368 => (if t368 = true then ((linear_Value.f kj11 t347 t348 t349 t350 t351 x7_1).bind fun t369 => (if t369 = (wrap64 (t345 + t346)) then (if t359 = true then ((linear_Fit.f kj11 t354 t355 t356 t357 t358).bind fun t370 => (if t370 = true then ((linear_Value.f kj11 t354 t355 t356 t357 t358 x7_1).bind fun t371 => (if t371 = (wrap64 (t345 - t346)) then (if t366 = true then ((linear_Fit.f kj11 t361 t362 t363 t364 t365).bind fun t372 => (if t372 = true then ((linear_Value.f kj11 t361 t362 t363 t364 t365 x7_1).bind fun t373 => (if t373 = (wrap64 (-t345)) then ((gimballaw14_awake.f kj11).bind fun t374 => (some t374)) else (some false))) else (some false))) else (some false)) else (some false))) else (some false))) else (if t366 = true then ((linear_Fit.f kj11 t361 t362 t363 t364 t365).bind fun t375 => (if t375 = true then ((linear_Value.f kj11 t361 t362 t363 t364 t365 x7_1).bind fun t376 => (if t376 = (wrap64 (-t345)) then ((gimballaw14_awake.f kj11).bind fun t377 => (some t377)) else (some false))) else (some false))) else (some false))) else (some false))) else (some false))) else (if t359 = true then ((linear_Fit.f kj11 t354 t355 t356 t357 t358).bind fun t378 => (if t378 = true then ((linear_Value.f kj11 t354 t355 t356 t357 t358 x7_1).bind fun t379 => (if t379 = (wrap64 (t345 - t346)) then (if t366 = true then ((linear_Fit.f kj11 t361 t362 t363 t364 t365).bind fun t380 => (if t380 = true then ((linear_Value.f kj11 t361 t362 t363 t364 t365 x7_1).bind fun t381 => (if t381 = (wrap64 (-t345)) then ((gimballaw14_awake.f kj11).bind fun t382 => (some t382)) else (some false))) else (some false))) else (some false)) else (some false))) else (some false))) else (if t366 = true then ((linear_Fit.f kj11 t361 t362 t363 t364 t365).bind fun t383 => (if t383 = true then ((linear_Value.f kj11 t361 t362 t363 t364 t365 x7_1).bind fun t384 => (if t384 = (wrap64 (-t345)) then ((gimballaw14_awake.f kj11).bind fun t385 => (some t385)) else (some false))) else (some false))) else (some false)))) = some true := H
        have A65 := Aside0.mk A650
        clear A650
        by_cases c66 : t352 = true
        ·
         subst c66
         have H1 : ((linear_Fit.f kj11 t347 t348 t349 t350 t351).bind fun t368 => (if t368 = true then ((linear_Value.f kj11 t347 t348 t349 t350 t351 x7_1).bind fun t369 => (if t369 = (wrap64 (t345 + t346)) then (if t359 = true then ((linear_Fit.f kj11 t354 t355 t356 t357 t358).bind fun t370 => (if t370 = true then ((linear_Value.f kj11 t354 t355 t356 t357 t358 x7_1).bind fun t371 => (if t371 = (wrap64 (t345 - t346)) then (if t366 = true then ((linear_Fit.f kj11 t361 t362 t363 t364 t365).bind fun t372 => (if t372 = true then ((linear_Value.f kj11 t361 t362 t363 t364 t365 x7_1).bind fun t373 => (if t373 = (wrap64 (-t345)) then ((gimballaw14_awake.f kj11).bind fun t374 => (some t374)) else (some false))) else (some false))) else (some false)) else (some false))) else (some false))) else (if t366 = true then ((linear_Fit.f kj11 t361 t362 t363 t364 t365).bind fun t375 => (if t375 = true then ((linear_Value.f kj11 t361 t362 t363 t364 t365 x7_1).bind fun t376 => (if t376 = (wrap64 (-t345)) then ((gimballaw14_awake.f kj11).bind fun t377 => (some t377)) else (some false))) else (some false))) else (some false))) else (some false))) else (some false))) = some true := by rw [if_pos rfl] at H; exact H
         clear H
         have H := H1
         clear H1
         replace H := Option.bind_eq_some_iff.mp H
         obtain ⟨t368, A670, H⟩ := H
         replace H : (if t368 = true then ((linear_Value.f kj11 t347 t348 t349 t350 t351 x7_1).bind fun t369 => (if t369 = (wrap64 (t345 + t346)) then (if t359 = true then ((linear_Fit.f kj11 t354 t355 t356 t357 t358).bind fun t370 => (if t370 = true then ((linear_Value.f kj11 t354 t355 t356 t357 t358 x7_1).bind fun t371 => (if t371 = (wrap64 (t345 - t346)) then (if t366 = true then ((linear_Fit.f kj11 t361 t362 t363 t364 t365).bind fun t372 => (if t372 = true then ((linear_Value.f kj11 t361 t362 t363 t364 t365 x7_1).bind fun t373 => (if t373 = (wrap64 (-t345)) then ((gimballaw14_awake.f kj11).bind fun t374 => (some t374)) else (some false))) else (some false))) else (some false)) else (some false))) else (some false))) else (if t366 = true then ((linear_Fit.f kj11 t361 t362 t363 t364 t365).bind fun t375 => (if t375 = true then ((linear_Value.f kj11 t361 t362 t363 t364 t365 x7_1).bind fun t376 => (if t376 = (wrap64 (-t345)) then ((gimballaw14_awake.f kj11).bind fun t377 => (some t377)) else (some false))) else (some false))) else (some false))) else (some false))) else (some false)) = some true := H
         have A67 := Aside0.mk A670
         clear A670
         by_cases c68 : t368 = true
         ·
          subst c68
          have H1 : ((linear_Value.f kj11 t347 t348 t349 t350 t351 x7_1).bind fun t369 => (if t369 = (wrap64 (t345 + t346)) then (if t359 = true then ((linear_Fit.f kj11 t354 t355 t356 t357 t358).bind fun t370 => (if t370 = true then ((linear_Value.f kj11 t354 t355 t356 t357 t358 x7_1).bind fun t371 => (if t371 = (wrap64 (t345 - t346)) then (if t366 = true then ((linear_Fit.f kj11 t361 t362 t363 t364 t365).bind fun t372 => (if t372 = true then ((linear_Value.f kj11 t361 t362 t363 t364 t365 x7_1).bind fun t373 => (if t373 = (wrap64 (-t345)) then ((gimballaw14_awake.f kj11).bind fun t374 => (some t374)) else (some false))) else (some false))) else (some false)) else (some false))) else (some false))) else (if t366 = true then ((linear_Fit.f kj11 t361 t362 t363 t364 t365).bind fun t375 => (if t375 = true then ((linear_Value.f kj11 t361 t362 t363 t364 t365 x7_1).bind fun t376 => (if t376 = (wrap64 (-t345)) then ((gimballaw14_awake.f kj11).bind fun t377 => (some t377)) else (some false))) else (some false))) else (some false))) else (some false))) = some true := by rw [if_pos rfl] at H; exact H
          clear H
          have H := H1
          clear H1
          replace H := Option.bind_eq_some_iff.mp H
          obtain ⟨t369, A690, H⟩ := H
          replace H : (if t369 = (wrap64 (t345 + t346)) then (if t359 = true then ((linear_Fit.f kj11 t354 t355 t356 t357 t358).bind fun t370 => (if t370 = true then ((linear_Value.f kj11 t354 t355 t356 t357 t358 x7_1).bind fun t371 => (if t371 = (wrap64 (t345 - t346)) then (if t366 = true then ((linear_Fit.f kj11 t361 t362 t363 t364 t365).bind fun t372 => (if t372 = true then ((linear_Value.f kj11 t361 t362 t363 t364 t365 x7_1).bind fun t373 => (if t373 = (wrap64 (-t345)) then ((gimballaw14_awake.f kj11).bind fun t374 => (some t374)) else (some false))) else (some false))) else (some false)) else (some false))) else (some false))) else (if t366 = true then ((linear_Fit.f kj11 t361 t362 t363 t364 t365).bind fun t375 => (if t375 = true then ((linear_Value.f kj11 t361 t362 t363 t364 t365 x7_1).bind fun t376 => (if t376 = (wrap64 (-t345)) then ((gimballaw14_awake.f kj11).bind fun t377 => (some t377)) else (some false))) else (some false))) else (some false))) else (some false)) = some true := H
          have A69 := Aside0.mk A690
          clear A690
          by_cases c70 : t369 = (wrap64 (t345 + t346))
          ·
           rw [if_pos c70] at H
           have c70b0 : (t369 == (wrap64 (t345 + t346))) = true := beq_iff_eq.mpr c70
           have c70b1 : (t369 != (wrap64 (t345 + t346))) = false := bne_eq_false_iff_eq.mpr c70
           clear c70
           by_cases c71 : t359 = true
           ·
            subst c71
            have H1 : ((linear_Fit.f kj11 t354 t355 t356 t357 t358).bind fun t370 => (if t370 = true then ((linear_Value.f kj11 t354 t355 t356 t357 t358 x7_1).bind fun t371 => (if t371 = (wrap64 (t345 - t346)) then (if t366 = true then ((linear_Fit.f kj11 t361 t362 t363 t364 t365).bind fun t372 => (if t372 = true then ((linear_Value.f kj11 t361 t362 t363 t364 t365 x7_1).bind fun t373 => (if t373 = (wrap64 (-t345)) then ((gimballaw14_awake.f kj11).bind fun t374 => (some t374)) else (some false))) else (some false))) else (some false)) else (some false))) else (some false))) = some true := by rw [if_pos rfl] at H; exact H
            clear H
            have H := H1
            clear H1
            replace H := Option.bind_eq_some_iff.mp H
            obtain ⟨t370, A720, H⟩ := H
            replace H : (if t370 = true then ((linear_Value.f kj11 t354 t355 t356 t357 t358 x7_1).bind fun t371 => (if t371 = (wrap64 (t345 - t346)) then (if t366 = true then ((linear_Fit.f kj11 t361 t362 t363 t364 t365).bind fun t372 => (if t372 = true then ((linear_Value.f kj11 t361 t362 t363 t364 t365 x7_1).bind fun t373 => (if t373 = (wrap64 (-t345)) then ((gimballaw14_awake.f kj11).bind fun t374 => (some t374)) else (some false))) else (some false))) else (some false)) else (some false))) else (some false)) = some true := H
            have A72 := Aside0.mk A720
            clear A720
            by_cases c73 : t370 = true
            ·
             subst c73
             have H1 : ((linear_Value.f kj11 t354 t355 t356 t357 t358 x7_1).bind fun t371 => (if t371 = (wrap64 (t345 - t346)) then (if t366 = true then ((linear_Fit.f kj11 t361 t362 t363 t364 t365).bind fun t372 => (if t372 = true then ((linear_Value.f kj11 t361 t362 t363 t364 t365 x7_1).bind fun t373 => (if t373 = (wrap64 (-t345)) then ((gimballaw14_awake.f kj11).bind fun t374 => (some t374)) else (some false))) else (some false))) else (some false)) else (some false))) = some true := by rw [if_pos rfl] at H; exact H
             clear H
             have H := H1
             clear H1
             replace H := Option.bind_eq_some_iff.mp H
             obtain ⟨t371, A740, H⟩ := H
             replace H : (if t371 = (wrap64 (t345 - t346)) then (if t366 = true then ((linear_Fit.f kj11 t361 t362 t363 t364 t365).bind fun t372 => (if t372 = true then ((linear_Value.f kj11 t361 t362 t363 t364 t365 x7_1).bind fun t373 => (if t373 = (wrap64 (-t345)) then ((gimballaw14_awake.f kj11).bind fun t374 => (some t374)) else (some false))) else (some false))) else (some false)) else (some false)) = some true := H
             have A74 := Aside0.mk A740
             clear A740
             by_cases c75 : t371 = (wrap64 (t345 - t346))
             ·
              rw [if_pos c75] at H
              have c75b0 : (t371 == (wrap64 (t345 - t346))) = true := beq_iff_eq.mpr c75
              have c75b1 : (t371 != (wrap64 (t345 - t346))) = false := bne_eq_false_iff_eq.mpr c75
              clear c75
              by_cases c76 : t366 = true
              ·
               subst c76
               have H1 : ((linear_Fit.f kj11 t361 t362 t363 t364 t365).bind fun t372 => (if t372 = true then ((linear_Value.f kj11 t361 t362 t363 t364 t365 x7_1).bind fun t373 => (if t373 = (wrap64 (-t345)) then ((gimballaw14_awake.f kj11).bind fun t374 => (some t374)) else (some false))) else (some false))) = some true := by rw [if_pos rfl] at H; exact H
               clear H
               have H := H1
               clear H1
               replace H := Option.bind_eq_some_iff.mp H
               obtain ⟨t372, A770, H⟩ := H
               replace H : (if t372 = true then ((linear_Value.f kj11 t361 t362 t363 t364 t365 x7_1).bind fun t373 => (if t373 = (wrap64 (-t345)) then ((gimballaw14_awake.f kj11).bind fun t374 => (some t374)) else (some false))) else (some false)) = some true := H
               have A77 := Aside0.mk A770
               clear A770
               by_cases c78 : t372 = true
               ·
                subst c78
                have H1 : ((linear_Value.f kj11 t361 t362 t363 t364 t365 x7_1).bind fun t373 => (if t373 = (wrap64 (-t345)) then ((gimballaw14_awake.f kj11).bind fun t374 => (some t374)) else (some false))) = some true := by rw [if_pos rfl] at H; exact H
                clear H
                have H := H1
                clear H1
                replace H := Option.bind_eq_some_iff.mp H
                obtain ⟨t373, A790, H⟩ := H
                replace H : (if t373 = (wrap64 (-t345)) then ((gimballaw14_awake.f kj11).bind fun t374 => (some t374)) else (some false)) = some true := H
                have A79 := Aside0.mk A790
                clear A790
                by_cases c80 : t373 = (wrap64 (-t345))
                ·
                 rw [if_pos c80] at H
                 have c80b0 : (t373 == (wrap64 (-t345))) = true := beq_iff_eq.mpr c80
                 have c80b1 : (t373 != (wrap64 (-t345))) = false := bne_eq_false_iff_eq.mpr c80
                 clear c80
                 replace H := Option.bind_eq_some_iff.mp H
                 obtain ⟨t374, A810, H⟩ := H
                 replace H : (some t374) = some true := H
                 have A81 := Aside0.mk A810
                 clear A810
                 have hret_ := Option.some.inj H
                 clear H
                 have hnb82 := NB335_336.out
                 have hnc82 := NB336_335.out
                 have hcz83_0 := hcz BK335 0
                 have hcz83_1 := hcz BK335 1
                 have hcz83_2 := hcz BK335 2
                 have hcz83_3 := hcz BK335 3
                 have hcz83_4 := hcz BK335 4
                 have hfz83_0 := blk_frozen BK335.out 0
                 have hfz83_1 := blk_frozen BK335.out 1
                 have hfz83_2 := blk_frozen BK335.out 2
                 have hfz83_3 := blk_frozen BK335.out 3
                 have hfz83_4 := blk_frozen BK335.out 4
                 obtain ⟨Ao84, co84, eo84⟩ := Kd.R_slice HO_7.out
                 subst eo84
                 go_wp2_with (first | ((with_reducible refine gate_callee (f := 8) rfl ?_); refine goesL_ (some 70) rfl rfl Try.func8 (by kernel_rfl) rfl #[.agg #[.int .i64 a0_0, .int .i64 a0_1, .int .i64 a0_2, .int .i64 a0_3, .int .i64 a0_4], .slice Ao84 x7_1.length co84] rfl (by (try simp only [List.map_toArray, List.map_cons, List.map_nil]); first | done | rfl | (simp only [List.length_drop, List.length_take]; rfl)) ?_; (with_reducible refine (linear_Value.calls kj11 a0_0 a0_1 a0_2 a0_3 a0_4 _ _ x7_1 t345 _ ?side1 ?side2 A61.out).mono ?_); (case side1 => repeat (first | exact (Kd.R_reads' HO_7.out).2.2 | (with_reducible refine Kd.C_alloc ?_ _) | (with_reducible refine Kd.C_drewN ?_ _) | (with_reducible refine Kd.C_drew ?_))); (case side2 => exact (Kd.R_reads' HO_7.out).2.1); rintro e w85 ⟨rfl, hb⟩; refine ⟨_, rfl, ?_⟩; have n0_ := Aside0.mk (Kd.R_below (by (with_reducible repeat (first | apply Kd.R_alloc | apply Kd.R_drewN | apply Kd.R_drew)); exact HO_7.out) hb); have n1_ := bst HB hb; replace BK335 := bbw BK335 hb; replace BK336 := bbw BK336 hb; clear HO_7; clear HB; have HO_7 := n0_; have HB := n1_; clear n0_ n1_; (try clear hb); (try clear hb2); (try clear hk); (try clear hi); have hcz86_0 := hcz BK336 0; have hcz86_1 := hcz BK336 1; have hcz86_2 := hcz BK336 2; have hcz86_3 := hcz BK336 3; have hcz86_4 := hcz BK336 4; have hfz86_0 := blk_frozen BK336.out 0; have hfz86_1 := blk_frozen BK336.out 1; have hfz86_2 := blk_frozen BK336.out 2; have hfz86_3 := blk_frozen BK336.out 3; have hfz86_4 := blk_frozen BK336.out 4) | ((with_reducible refine gate_callee (f := 8) rfl ?_); refine goesL_ (some 73) rfl rfl Try.func8 (by kernel_rfl) rfl #[.agg #[.int .i64 a1_0, .int .i64 a1_1, .int .i64 a1_2, .int .i64 a1_3, .int .i64 a1_4], .slice Ao84 x7_1.length co84] rfl (by (try simp only [List.map_toArray, List.map_cons, List.map_nil]); first | done | rfl | (simp only [List.length_drop, List.length_take]; rfl)) ?_; (with_reducible refine (linear_Value.calls kj11 a1_0 a1_1 a1_2 a1_3 a1_4 _ _ x7_1 t346 _ ?side1 ?side2 A62.out).mono ?_); (case side1 => repeat (first | exact (Kd.R_reads' HO_7.out).2.2 | (with_reducible refine Kd.C_alloc ?_ _) | (with_reducible refine Kd.C_drewN ?_ _) | (with_reducible refine Kd.C_drew ?_))); (case side2 => exact (Kd.R_reads' HO_7.out).2.1); rintro e w87 ⟨rfl, hb⟩; refine ⟨_, rfl, ?_⟩; have n0_ := Aside0.mk (Kd.R_below (by (with_reducible repeat (first | apply Kd.R_alloc | apply Kd.R_drewN | apply Kd.R_drew)); exact HO_7.out) hb); have n1_ := bst HB hb; replace BK335 := bbw BK335 hb; replace BK336 := bbw BK336 hb; clear HO_7; clear HB; have HO_7 := n0_; have HB := n1_; clear n0_ n1_; (try clear hb); (try clear hb2); (try clear hk); (try clear hi); have hcz88_0 := hcz BK335 0; have hcz88_1 := hcz BK335 1; have hcz88_2 := hcz BK335 2; have hcz88_3 := hcz BK335 3; have hcz88_4 := hcz BK335 4; have hfz88_0 := blk_frozen BK335.out 0; have hfz88_1 := blk_frozen BK335.out 1; have hfz88_2 := blk_frozen BK335.out 2; have hfz88_3 := blk_frozen BK335.out 3; have hfz88_4 := blk_frozen BK335.out 4; have hcz89_0 := hcz BK336 0; have hcz89_1 := hcz BK336 1; have hcz89_2 := hcz BK336 2; have hcz89_3 := hcz BK336 3; have hcz89_4 := hcz BK336 4; have hfz89_0 := blk_frozen BK336.out 0; have hfz89_1 := blk_frozen BK336.out 1; have hfz89_2 := blk_frozen BK336.out 2; have hfz89_3 := blk_frozen BK336.out 3; have hfz89_4 := blk_frozen BK336.out 4) | ((with_reducible refine gate_callee (f := 11) rfl ?_); refine goesL_ (some 77) rfl rfl Try.func11 (by kernel_rfl) rfl #[.agg #[.int .i64 a0_0, .int .i64 a0_1, .int .i64 a0_2, .int .i64 a0_3, .int .i64 a0_4], .agg #[.int .i64 a1_0, .int .i64 a1_1, .int .i64 a1_2, .int .i64 a1_3, .int .i64 a1_4]] rfl (by (try simp only [List.map_toArray, List.map_cons, List.map_nil]); first | done | rfl | (simp only [List.length_drop, List.length_take]; rfl)) ?_; (with_reducible refine (linear_Add.calls kj11 a0_0 a0_1 a0_2 a0_3 a0_4 a1_0 a1_1 a1_2 a1_3 a1_4 t347 t348 t349 t350 t351 true _ A63.out).mono ?_); rintro e w90 ⟨rfl, hb⟩; refine ⟨_, rfl, ?_⟩; have n0_ := Aside0.mk (Kd.R_below (by (with_reducible repeat (first | apply Kd.R_alloc | apply Kd.R_drewN | apply Kd.R_drew)); exact HO_7.out) hb); have n1_ := bst HB hb; replace BK335 := bbw BK335 hb; replace BK336 := bbw BK336 hb; clear HO_7; clear HB; have HO_7 := n0_; have HB := n1_; clear n0_ n1_; (try clear hb); (try clear hb2); (try clear hk); (try clear hi)) | ((with_reducible refine gate_dst (N := 11) rfl ?_); (try (refine gate_guard (by rfl) ?_; dsimp only)); refine box_event ?hg (N := 11) ?hd (cs := #[.int .i64 0, .int .i64 0, .int .i64 0, .int .i64 0, .int .i64 0]) (t := 23) ?hr ?_; (case hd => rfl); (case hg => rfl); (case hr => first | (go_simp; done) | (go_simp; rfl)); intro gb353 hg w91 hbox hb; have n0_ := Aside0.mk (Kd.R_below (by (with_reducible repeat (first | apply Kd.R_alloc | apply Kd.R_drewN | apply Kd.R_drew)); exact HO_7.out) hb); have n1_ := bst HB hb; have n2_ := Aside0.mk (hbox); have n3_ := bsz HB hg; have n4_ := bsz HB hg; have n5_ := bn1 BK335 hg; have n6_ := bn2 BK335 hg; have n7_ := bn1 BK336 hg; have n8_ := bn2 BK336 hg; replace BK335 := bbw BK335 hb; replace BK336 := bbw BK336 hb; clear HO_7; clear HB; have HO_7 := n0_; have HB := n1_; have BK353 := n2_; have GW353 := n3_; have GE353 := n4_; have NB335_353 := n5_; have NB353_335 := n6_; have NB336_353 := n7_; have NB353_336 := n8_; clear n0_ n1_ n2_ n3_ n4_ n5_ n6_ n7_ n8_; clear hb hbox hg; have hnb92 := NB353_335.out; have hnc92 := NB335_353.out; have hnb93 := NB353_336.out; have hnc93 := NB336_353.out; have hcz94_0 := hcz BK353 0; have hcz94_1 := hcz BK353 1; have hcz94_2 := hcz BK353 2; have hcz94_3 := hcz BK353 3; have hcz94_4 := hcz BK353 4; have hfz94_0 := blk_frozen BK353.out 0; have hfz94_1 := blk_frozen BK353.out 1; have hfz94_2 := blk_frozen BK353.out 2; have hfz94_3 := blk_frozen BK353.out 3; have hfz94_4 := blk_frozen BK353.out 4; have hcz95_0 := hcz BK335 0; have hcz95_1 := hcz BK335 1; have hcz95_2 := hcz BK335 2; have hcz95_3 := hcz BK335 3; have hcz95_4 := hcz BK335 4; have hfz95_0 := blk_frozen BK335.out 0; have hfz95_1 := blk_frozen BK335.out 1; have hfz95_2 := blk_frozen BK335.out 2; have hfz95_3 := blk_frozen BK335.out 3; have hfz95_4 := blk_frozen BK335.out 4; have hcz96_0 := hcz BK336 0; have hcz96_1 := hcz BK336 1; have hcz96_2 := hcz BK336 2; have hcz96_3 := hcz BK336 3; have hcz96_4 := hcz BK336 4; have hfz96_0 := blk_frozen BK336.out 0; have hfz96_1 := blk_frozen BK336.out 1; have hfz96_2 := blk_frozen BK336.out 2; have hfz96_3 := blk_frozen BK336.out 3; have hfz96_4 := blk_frozen BK336.out 4) | ((with_reducible refine gate_callee (f := 12) rfl ?_); refine goesL_ (some 83) rfl rfl Try.func12 (by kernel_rfl) rfl #[.agg #[.int .i64 a0_0, .int .i64 a0_1, .int .i64 a0_2, .int .i64 a0_3, .int .i64 a0_4], .agg #[.int .i64 a1_0, .int .i64 a1_1, .int .i64 a1_2, .int .i64 a1_3, .int .i64 a1_4]] rfl (by (try simp only [List.map_toArray, List.map_cons, List.map_nil]); first | done | rfl | (simp only [List.length_drop, List.length_take]; rfl)) ?_; (with_reducible refine (linear_Sub.calls kj11 a0_0 a0_1 a0_2 a0_3 a0_4 a1_0 a1_1 a1_2 a1_3 a1_4 t354 t355 t356 t357 t358 true _ A64.out).mono ?_); rintro e w97 ⟨rfl, hb⟩; refine ⟨_, rfl, ?_⟩; have n0_ := Aside0.mk (Kd.R_below (by (with_reducible repeat (first | apply Kd.R_alloc | apply Kd.R_drewN | apply Kd.R_drew)); exact (Kd.R_mono (Kd.R_far (p := ⟨gb353, 4, none⟩) (Kd.R_far (p := ⟨gb353, 3, none⟩) (Kd.R_far (p := ⟨gb353, 2, none⟩) (Kd.R_far (p := ⟨gb353, 1, none⟩) (Kd.R_far (p := ⟨gb353, 0, none⟩) (Kd.R_types HO_7.out BK353.out (by decide)) (fun _ hk => hk.2) (.int .i64 t347)) (fun _ hk => hk.2) (.int .i64 t348)) (fun _ hk => hk.2) (.int .i64 t349)) (fun _ hk => hk.2) (.int .i64 t350)) (fun _ hk => hk.2) (.int .i64 t351)) (fun _ h_ => h_.1))) hb); have n1_ := Aside0.mk (blk_below (g := gb335) (o := .cells #[.int .i64 a0_0, .int .i64 a0_1, .int .i64 a0_2, .int .i64 a0_3, .int .i64 a0_4] 23 (0, 0)) (by refine pkB ?_; refine blk_far ?_ NB335_353.out _; refine pkB ?_; refine blk_far ?_ NB335_353.out _; refine pkB ?_; refine blk_far ?_ NB335_353.out _; refine pkB ?_; refine blk_far ?_ NB335_353.out _; refine pkB ?_; refine blk_far ?_ NB335_353.out _; refine pkB ?_; exact BK335.out) hb); have n2_ := Aside0.mk (blk_below (g := gb336) (o := .cells #[.int .i64 a1_0, .int .i64 a1_1, .int .i64 a1_2, .int .i64 a1_3, .int .i64 a1_4] 23 (0, 0)) (by refine pkB ?_; refine blk_far ?_ NB336_353.out _; refine pkB ?_; refine blk_far ?_ NB336_353.out _; refine pkB ?_; refine blk_far ?_ NB336_353.out _; refine pkB ?_; refine blk_far ?_ NB336_353.out _; refine pkB ?_; refine blk_far ?_ NB336_353.out _; refine pkB ?_; exact BK336.out) hb); have n3_ := Aside0.mk (blk_below (g := gb353) (o := .cells #[.int .i64 t347, .int .i64 t348, .int .i64 t349, .int .i64 t350, .int .i64 t351] 23 (0, 0)) (by refine pkB ?_; refine blk_put (cs := #[.int .i64 t347, .int .i64 t348, .int .i64 t349, .int .i64 t350, .int .i64 0]) ?_ 4 _ (by first | rfl | (subst_vars; rfl)); refine pkB ?_; refine blk_put (cs := #[.int .i64 t347, .int .i64 t348, .int .i64 t349, .int .i64 0, .int .i64 0]) ?_ 3 _ (by first | rfl | (subst_vars; rfl)); refine pkB ?_; refine blk_put (cs := #[.int .i64 t347, .int .i64 t348, .int .i64 0, .int .i64 0, .int .i64 0]) ?_ 2 _ (by first | rfl | (subst_vars; rfl)); refine pkB ?_; refine blk_put (cs := #[.int .i64 t347, .int .i64 0, .int .i64 0, .int .i64 0, .int .i64 0]) ?_ 1 _ (by first | rfl | (subst_vars; rfl)); refine pkB ?_; refine blk_put (cs := #[.int .i64 0, .int .i64 0, .int .i64 0, .int .i64 0, .int .i64 0]) ?_ 0 _ (by first | rfl | (subst_vars; rfl)); refine pkB ?_; exact BK353.out) hb); have n4_ := bst HB hb; clear HO_7; clear BK335; clear BK336; clear BK353; clear HB; have HO_7 := n0_; have BK335 := n1_; have BK336 := n2_; have BK353 := n3_; have HB := n4_; clear n0_ n1_ n2_ n3_ n4_; (try clear hb); (try clear hb2); (try clear hk); (try clear hi)) | ((with_reducible refine gate_dst (N := 13) rfl ?_); (try (refine gate_guard (by rfl) ?_; dsimp only)); refine box_event ?hg (N := 13) ?hd (cs := #[.int .i64 0, .int .i64 0, .int .i64 0, .int .i64 0, .int .i64 0]) (t := 23) ?hr ?_; (case hd => rfl); (case hg => rfl); (case hr => first | (go_simp; done) | (go_simp; rfl)); intro gb360 hg w98 hbox hb; have n0_ := Aside0.mk (Kd.R_below (by (with_reducible repeat (first | apply Kd.R_alloc | apply Kd.R_drewN | apply Kd.R_drew)); exact HO_7.out) hb); have n1_ := bst HB hb; have n2_ := Aside0.mk (hbox); have n3_ := bsz HB hg; have n4_ := bsz HB hg; have n5_ := bn1 BK335 hg; have n6_ := bn2 BK335 hg; have n7_ := bn1 BK336 hg; have n8_ := bn2 BK336 hg; have n9_ := bn1 BK353 hg; have n10_ := bn2 BK353 hg; replace BK335 := bbw BK335 hb; replace BK336 := bbw BK336 hb; replace BK353 := bbw BK353 hb; clear HO_7; clear HB; have HO_7 := n0_; have HB := n1_; have BK360 := n2_; have GW360 := n3_; have GE360 := n4_; have NB335_360 := n5_; have NB360_335 := n6_; have NB336_360 := n7_; have NB360_336 := n8_; have NB353_360 := n9_; have NB360_353 := n10_; clear n0_ n1_ n2_ n3_ n4_ n5_ n6_ n7_ n8_ n9_ n10_; clear hb hbox hg; have hnb99 := NB360_335.out; have hnc99 := NB335_360.out; have hnb100 := NB360_336.out; have hnc100 := NB336_360.out; have hnb101 := NB360_353.out; have hnc101 := NB353_360.out; have hcz102_0 := hcz BK360 0; have hcz102_1 := hcz BK360 1; have hcz102_2 := hcz BK360 2; have hcz102_3 := hcz BK360 3; have hcz102_4 := hcz BK360 4; have hfz102_0 := blk_frozen BK360.out 0; have hfz102_1 := blk_frozen BK360.out 1; have hfz102_2 := blk_frozen BK360.out 2; have hfz102_3 := blk_frozen BK360.out 3; have hfz102_4 := blk_frozen BK360.out 4; have hcz103_0 := hcz BK335 0; have hcz103_1 := hcz BK335 1; have hcz103_2 := hcz BK335 2; have hcz103_3 := hcz BK335 3; have hcz103_4 := hcz BK335 4; have hfz103_0 := blk_frozen BK335.out 0; have hfz103_1 := blk_frozen BK335.out 1; have hfz103_2 := blk_frozen BK335.out 2; have hfz103_3 := blk_frozen BK335.out 3; have hfz103_4 := blk_frozen BK335.out 4) | ((with_reducible refine gate_callee (f := 13) rfl ?_); refine goesL_ (some 88) rfl rfl Try.func13 (by kernel_rfl) rfl #[.agg #[.int .i64 a0_0, .int .i64 a0_1, .int .i64 a0_2, .int .i64 a0_3, .int .i64 a0_4]] rfl (by (try simp only [List.map_toArray, List.map_cons, List.map_nil]); first | done | rfl | (simp only [List.length_drop, List.length_take]; rfl)) ?_; (with_reducible refine (linear_Neg.calls kj11 a0_0 a0_1 a0_2 a0_3 a0_4 t361 t362 t363 t364 t365 true _ A65.out).mono ?_); rintro e w104 ⟨rfl, hb⟩; refine ⟨_, rfl, ?_⟩; have n0_ := Aside0.mk (Kd.R_below (by (with_reducible repeat (first | apply Kd.R_alloc | apply Kd.R_drewN | apply Kd.R_drew)); exact (Kd.R_mono (Kd.R_far (p := ⟨gb360, 4, none⟩) (Kd.R_far (p := ⟨gb360, 3, none⟩) (Kd.R_far (p := ⟨gb360, 2, none⟩) (Kd.R_far (p := ⟨gb360, 1, none⟩) (Kd.R_far (p := ⟨gb360, 0, none⟩) (Kd.R_types HO_7.out BK360.out (by decide)) (fun _ hk => hk.2) (.int .i64 t354)) (fun _ hk => hk.2) (.int .i64 t355)) (fun _ hk => hk.2) (.int .i64 t356)) (fun _ hk => hk.2) (.int .i64 t357)) (fun _ hk => hk.2) (.int .i64 t358)) (fun _ h_ => h_.1))) hb); have n1_ := Aside0.mk (blk_below (g := gb335) (o := .cells #[.int .i64 a0_0, .int .i64 a0_1, .int .i64 a0_2, .int .i64 a0_3, .int .i64 a0_4] 23 (0, 0)) (by refine pkB ?_; refine blk_far ?_ NB335_360.out _; refine pkB ?_; refine blk_far ?_ NB335_360.out _; refine pkB ?_; refine blk_far ?_ NB335_360.out _; refine pkB ?_; refine blk_far ?_ NB335_360.out _; refine pkB ?_; refine blk_far ?_ NB335_360.out _; refine pkB ?_; exact BK335.out) hb); have n2_ := Aside0.mk (blk_below (g := gb336) (o := .cells #[.int .i64 a1_0, .int .i64 a1_1, .int .i64 a1_2, .int .i64 a1_3, .int .i64 a1_4] 23 (0, 0)) (by refine pkB ?_; refine blk_far ?_ NB336_360.out _; refine pkB ?_; refine blk_far ?_ NB336_360.out _; refine pkB ?_; refine blk_far ?_ NB336_360.out _; refine pkB ?_; refine blk_far ?_ NB336_360.out _; refine pkB ?_; refine blk_far ?_ NB336_360.out _; refine pkB ?_; exact BK336.out) hb); have n3_ := Aside0.mk (blk_below (g := gb353) (o := .cells #[.int .i64 t347, .int .i64 t348, .int .i64 t349, .int .i64 t350, .int .i64 t351] 23 (0, 0)) (by refine pkB ?_; refine blk_far ?_ NB353_360.out _; refine pkB ?_; refine blk_far ?_ NB353_360.out _; refine pkB ?_; refine blk_far ?_ NB353_360.out _; refine pkB ?_; refine blk_far ?_ NB353_360.out _; refine pkB ?_; refine blk_far ?_ NB353_360.out _; refine pkB ?_; exact BK353.out) hb); have n4_ := Aside0.mk (blk_below (g := gb360) (o := .cells #[.int .i64 t354, .int .i64 t355, .int .i64 t356, .int .i64 t357, .int .i64 t358] 23 (0, 0)) (by refine pkB ?_; refine blk_put (cs := #[.int .i64 t354, .int .i64 t355, .int .i64 t356, .int .i64 t357, .int .i64 0]) ?_ 4 _ (by first | rfl | (subst_vars; rfl)); refine pkB ?_; refine blk_put (cs := #[.int .i64 t354, .int .i64 t355, .int .i64 t356, .int .i64 0, .int .i64 0]) ?_ 3 _ (by first | rfl | (subst_vars; rfl)); refine pkB ?_; refine blk_put (cs := #[.int .i64 t354, .int .i64 t355, .int .i64 0, .int .i64 0, .int .i64 0]) ?_ 2 _ (by first | rfl | (subst_vars; rfl)); refine pkB ?_; refine blk_put (cs := #[.int .i64 t354, .int .i64 0, .int .i64 0, .int .i64 0, .int .i64 0]) ?_ 1 _ (by first | rfl | (subst_vars; rfl)); refine pkB ?_; refine blk_put (cs := #[.int .i64 0, .int .i64 0, .int .i64 0, .int .i64 0, .int .i64 0]) ?_ 0 _ (by first | rfl | (subst_vars; rfl)); refine pkB ?_; exact BK360.out) hb); have n5_ := bst HB hb; clear HO_7; clear BK335; clear BK336; clear BK353; clear BK360; clear HB; have HO_7 := n0_; have BK335 := n1_; have BK336 := n2_; have BK353 := n3_; have BK360 := n4_; have HB := n5_; clear n0_ n1_ n2_ n3_ n4_ n5_; (try clear hb); (try clear hb2); (try clear hk); (try clear hi)) | ((with_reducible refine gate_dst (N := 15) rfl ?_); (try (refine gate_guard (by rfl) ?_; dsimp only)); refine box_event ?hg (N := 15) ?hd (cs := #[.int .i64 0, .int .i64 0, .int .i64 0, .int .i64 0, .int .i64 0]) (t := 23) ?hr ?_; (case hd => rfl); (case hg => rfl); (case hr => first | (go_simp; done) | (go_simp; rfl)); intro gb367 hg w105 hbox hb; have n0_ := Aside0.mk (Kd.R_below (by (with_reducible repeat (first | apply Kd.R_alloc | apply Kd.R_drewN | apply Kd.R_drew)); exact HO_7.out) hb); have n1_ := bst HB hb; have n2_ := Aside0.mk (hbox); have n3_ := bsz HB hg; have n4_ := bsz HB hg; have n5_ := bn1 BK335 hg; have n6_ := bn2 BK335 hg; have n7_ := bn1 BK336 hg; have n8_ := bn2 BK336 hg; have n9_ := bn1 BK353 hg; have n10_ := bn2 BK353 hg; have n11_ := bn1 BK360 hg; have n12_ := bn2 BK360 hg; replace BK335 := bbw BK335 hb; replace BK336 := bbw BK336 hb; replace BK353 := bbw BK353 hb; replace BK360 := bbw BK360 hb; clear HO_7; clear HB; have HO_7 := n0_; have HB := n1_; have BK367 := n2_; have GW367 := n3_; have GE367 := n4_; have NB335_367 := n5_; have NB367_335 := n6_; have NB336_367 := n7_; have NB367_336 := n8_; have NB353_367 := n9_; have NB367_353 := n10_; have NB360_367 := n11_; have NB367_360 := n12_; clear n0_ n1_ n2_ n3_ n4_ n5_ n6_ n7_ n8_ n9_ n10_ n11_ n12_; clear hb hbox hg; have hnb106 := NB367_335.out; have hnc106 := NB335_367.out; have hnb107 := NB367_336.out; have hnc107 := NB336_367.out; have hnb108 := NB367_353.out; have hnc108 := NB353_367.out; have hnb109 := NB367_360.out; have hnc109 := NB360_367.out; have hcz110_0 := hcz BK367 0; have hcz110_1 := hcz BK367 1; have hcz110_2 := hcz BK367 2; have hcz110_3 := hcz BK367 3; have hcz110_4 := hcz BK367 4; have hfz110_0 := blk_frozen BK367.out 0; have hfz110_1 := blk_frozen BK367.out 1; have hfz110_2 := blk_frozen BK367.out 2; have hfz110_3 := blk_frozen BK367.out 3; have hfz110_4 := blk_frozen BK367.out 4; have hcz111_0 := hcz BK353 0; have hcz111_1 := hcz BK353 1; have hcz111_2 := hcz BK353 2; have hcz111_3 := hcz BK353 3; have hcz111_4 := hcz BK353 4; have hfz111_0 := blk_frozen BK353.out 0; have hfz111_1 := blk_frozen BK353.out 1; have hfz111_2 := blk_frozen BK353.out 2; have hfz111_3 := blk_frozen BK353.out 3; have hfz111_4 := blk_frozen BK353.out 4) | (go_at_call 17; (with_reducible refine (linear_Fit.calls kj11 t347 t348 t349 t350 t351 true _ A67.out).mono ?_); rintro e w112 ⟨rfl, hb⟩; have n0_ := Aside0.mk (Kd.R_below (by (with_reducible repeat (first | apply Kd.R_alloc | apply Kd.R_drewN | apply Kd.R_drew)); exact (Kd.R_mono (Kd.R_far (p := ⟨gb367, 4, none⟩) (Kd.R_far (p := ⟨gb367, 3, none⟩) (Kd.R_far (p := ⟨gb367, 2, none⟩) (Kd.R_far (p := ⟨gb367, 1, none⟩) (Kd.R_far (p := ⟨gb367, 0, none⟩) (Kd.R_types HO_7.out BK367.out (by decide)) (fun _ hk => hk.2) (.int .i64 t361)) (fun _ hk => hk.2) (.int .i64 t362)) (fun _ hk => hk.2) (.int .i64 t363)) (fun _ hk => hk.2) (.int .i64 t364)) (fun _ hk => hk.2) (.int .i64 t365)) (fun _ h_ => h_.1))) hb); have n1_ := Aside0.mk (blk_below (g := gb335) (o := .cells #[.int .i64 a0_0, .int .i64 a0_1, .int .i64 a0_2, .int .i64 a0_3, .int .i64 a0_4] 23 (0, 0)) (by refine pkB ?_; refine blk_far ?_ NB335_367.out _; refine pkB ?_; refine blk_far ?_ NB335_367.out _; refine pkB ?_; refine blk_far ?_ NB335_367.out _; refine pkB ?_; refine blk_far ?_ NB335_367.out _; refine pkB ?_; refine blk_far ?_ NB335_367.out _; refine pkB ?_; exact BK335.out) hb); have n2_ := Aside0.mk (blk_below (g := gb336) (o := .cells #[.int .i64 a1_0, .int .i64 a1_1, .int .i64 a1_2, .int .i64 a1_3, .int .i64 a1_4] 23 (0, 0)) (by refine pkB ?_; refine blk_far ?_ NB336_367.out _; refine pkB ?_; refine blk_far ?_ NB336_367.out _; refine pkB ?_; refine blk_far ?_ NB336_367.out _; refine pkB ?_; refine blk_far ?_ NB336_367.out _; refine pkB ?_; refine blk_far ?_ NB336_367.out _; refine pkB ?_; exact BK336.out) hb); have n3_ := Aside0.mk (blk_below (g := gb353) (o := .cells #[.int .i64 t347, .int .i64 t348, .int .i64 t349, .int .i64 t350, .int .i64 t351] 23 (0, 0)) (by refine pkB ?_; refine blk_far ?_ NB353_367.out _; refine pkB ?_; refine blk_far ?_ NB353_367.out _; refine pkB ?_; refine blk_far ?_ NB353_367.out _; refine pkB ?_; refine blk_far ?_ NB353_367.out _; refine pkB ?_; refine blk_far ?_ NB353_367.out _; refine pkB ?_; exact BK353.out) hb); have n4_ := Aside0.mk (blk_below (g := gb360) (o := .cells #[.int .i64 t354, .int .i64 t355, .int .i64 t356, .int .i64 t357, .int .i64 t358] 23 (0, 0)) (by refine pkB ?_; refine blk_far ?_ NB360_367.out _; refine pkB ?_; refine blk_far ?_ NB360_367.out _; refine pkB ?_; refine blk_far ?_ NB360_367.out _; refine pkB ?_; refine blk_far ?_ NB360_367.out _; refine pkB ?_; refine blk_far ?_ NB360_367.out _; refine pkB ?_; exact BK360.out) hb); have n5_ := Aside0.mk (blk_below (g := gb367) (o := .cells #[.int .i64 t361, .int .i64 t362, .int .i64 t363, .int .i64 t364, .int .i64 t365] 23 (0, 0)) (by refine pkB ?_; refine blk_put (cs := #[.int .i64 t361, .int .i64 t362, .int .i64 t363, .int .i64 t364, .int .i64 0]) ?_ 4 _ (by first | rfl | (subst_vars; rfl)); refine pkB ?_; refine blk_put (cs := #[.int .i64 t361, .int .i64 t362, .int .i64 t363, .int .i64 0, .int .i64 0]) ?_ 3 _ (by first | rfl | (subst_vars; rfl)); refine pkB ?_; refine blk_put (cs := #[.int .i64 t361, .int .i64 t362, .int .i64 0, .int .i64 0, .int .i64 0]) ?_ 2 _ (by first | rfl | (subst_vars; rfl)); refine pkB ?_; refine blk_put (cs := #[.int .i64 t361, .int .i64 0, .int .i64 0, .int .i64 0, .int .i64 0]) ?_ 1 _ (by first | rfl | (subst_vars; rfl)); refine pkB ?_; refine blk_put (cs := #[.int .i64 0, .int .i64 0, .int .i64 0, .int .i64 0, .int .i64 0]) ?_ 0 _ (by first | rfl | (subst_vars; rfl)); refine pkB ?_; exact BK367.out) hb); have n6_ := bst HB hb; clear HO_7; clear BK335; clear BK336; clear BK353; clear BK360; clear BK367; clear HB; have HO_7 := n0_; have BK335 := n1_; have BK336 := n2_; have BK353 := n3_; have BK360 := n4_; have BK367 := n5_; have HB := n6_; clear n0_ n1_ n2_ n3_ n4_ n5_ n6_; (try clear hb); (try clear hb2); (try clear hk); (try clear hi); have hcz113_0 := hcz BK353 0; have hcz113_1 := hcz BK353 1; have hcz113_2 := hcz BK353 2; have hcz113_3 := hcz BK353 3; have hcz113_4 := hcz BK353 4; have hfz113_0 := blk_frozen BK353.out 0; have hfz113_1 := blk_frozen BK353.out 1; have hfz113_2 := blk_frozen BK353.out 2; have hfz113_3 := blk_frozen BK353.out 3; have hfz113_4 := blk_frozen BK353.out 4) | (go_at_call 8; (with_reducible refine (linear_Value.calls kj11 t347 t348 t349 t350 t351 _ _ x7_1 t369 _ ?side1 ?side2 A69.out).mono ?_); (case side1 => repeat (first | exact (Kd.R_reads' HO_7.out).2.2 | (with_reducible refine Kd.C_alloc ?_ _) | (with_reducible refine Kd.C_drewN ?_ _) | (with_reducible refine Kd.C_drew ?_))); (case side2 => exact (Kd.R_reads' HO_7.out).2.1); rintro e w114 ⟨rfl, hb⟩; have n0_ := Aside0.mk (Kd.R_below (by (with_reducible repeat (first | apply Kd.R_alloc | apply Kd.R_drewN | apply Kd.R_drew)); exact HO_7.out) hb); have n1_ := bst HB hb; replace BK335 := bbw BK335 hb; replace BK336 := bbw BK336 hb; replace BK353 := bbw BK353 hb; replace BK360 := bbw BK360 hb; replace BK367 := bbw BK367 hb; clear HO_7; clear HB; have HO_7 := n0_; have HB := n1_; clear n0_ n1_; (try clear hb); (try clear hb2); (try clear hk); (try clear hi); have hcz115_0 := hcz BK360 0; have hcz115_1 := hcz BK360 1; have hcz115_2 := hcz BK360 2; have hcz115_3 := hcz BK360 3; have hcz115_4 := hcz BK360 4; have hfz115_0 := blk_frozen BK360.out 0; have hfz115_1 := blk_frozen BK360.out 1; have hfz115_2 := blk_frozen BK360.out 2; have hfz115_3 := blk_frozen BK360.out 3; have hfz115_4 := blk_frozen BK360.out 4) | (go_at_call 17; (with_reducible refine (linear_Fit.calls kj11 t354 t355 t356 t357 t358 true _ A72.out).mono ?_); rintro e w116 ⟨rfl, hb⟩; have n0_ := Aside0.mk (Kd.R_below (by (with_reducible repeat (first | apply Kd.R_alloc | apply Kd.R_drewN | apply Kd.R_drew)); exact HO_7.out) hb); have n1_ := bst HB hb; replace BK335 := bbw BK335 hb; replace BK336 := bbw BK336 hb; replace BK353 := bbw BK353 hb; replace BK360 := bbw BK360 hb; replace BK367 := bbw BK367 hb; clear HO_7; clear HB; have HO_7 := n0_; have HB := n1_; clear n0_ n1_; (try clear hb); (try clear hb2); (try clear hk); (try clear hi); have hcz117_0 := hcz BK360 0; have hcz117_1 := hcz BK360 1; have hcz117_2 := hcz BK360 2; have hcz117_3 := hcz BK360 3; have hcz117_4 := hcz BK360 4; have hfz117_0 := blk_frozen BK360.out 0; have hfz117_1 := blk_frozen BK360.out 1; have hfz117_2 := blk_frozen BK360.out 2; have hfz117_3 := blk_frozen BK360.out 3; have hfz117_4 := blk_frozen BK360.out 4) | (go_at_call 8; (with_reducible refine (linear_Value.calls kj11 t354 t355 t356 t357 t358 _ _ x7_1 t371 _ ?side1 ?side2 A74.out).mono ?_); (case side1 => repeat (first | exact (Kd.R_reads' HO_7.out).2.2 | (with_reducible refine Kd.C_alloc ?_ _) | (with_reducible refine Kd.C_drewN ?_ _) | (with_reducible refine Kd.C_drew ?_))); (case side2 => exact (Kd.R_reads' HO_7.out).2.1); rintro e w118 ⟨rfl, hb⟩; have n0_ := Aside0.mk (Kd.R_below (by (with_reducible repeat (first | apply Kd.R_alloc | apply Kd.R_drewN | apply Kd.R_drew)); exact HO_7.out) hb); have n1_ := bst HB hb; replace BK335 := bbw BK335 hb; replace BK336 := bbw BK336 hb; replace BK353 := bbw BK353 hb; replace BK360 := bbw BK360 hb; replace BK367 := bbw BK367 hb; clear HO_7; clear HB; have HO_7 := n0_; have HB := n1_; clear n0_ n1_; (try clear hb); (try clear hb2); (try clear hk); (try clear hi); have hcz119_0 := hcz BK367 0; have hcz119_1 := hcz BK367 1; have hcz119_2 := hcz BK367 2; have hcz119_3 := hcz BK367 3; have hcz119_4 := hcz BK367 4; have hfz119_0 := blk_frozen BK367.out 0; have hfz119_1 := blk_frozen BK367.out 1; have hfz119_2 := blk_frozen BK367.out 2; have hfz119_3 := blk_frozen BK367.out 3; have hfz119_4 := blk_frozen BK367.out 4) | (go_at_call 17; (with_reducible refine (linear_Fit.calls kj11 t361 t362 t363 t364 t365 true _ A77.out).mono ?_); rintro e w120 ⟨rfl, hb⟩; have n0_ := Aside0.mk (Kd.R_below (by (with_reducible repeat (first | apply Kd.R_alloc | apply Kd.R_drewN | apply Kd.R_drew)); exact HO_7.out) hb); have n1_ := bst HB hb; replace BK335 := bbw BK335 hb; replace BK336 := bbw BK336 hb; replace BK353 := bbw BK353 hb; replace BK360 := bbw BK360 hb; replace BK367 := bbw BK367 hb; clear HO_7; clear HB; have HO_7 := n0_; have HB := n1_; clear n0_ n1_; (try clear hb); (try clear hb2); (try clear hk); (try clear hi); have hcz121_0 := hcz BK367 0; have hcz121_1 := hcz BK367 1; have hcz121_2 := hcz BK367 2; have hcz121_3 := hcz BK367 3; have hcz121_4 := hcz BK367 4; have hfz121_0 := blk_frozen BK367.out 0; have hfz121_1 := blk_frozen BK367.out 1; have hfz121_2 := blk_frozen BK367.out 2; have hfz121_3 := blk_frozen BK367.out 3; have hfz121_4 := blk_frozen BK367.out 4) | (go_at_call 8; (with_reducible refine (linear_Value.calls kj11 t361 t362 t363 t364 t365 _ _ x7_1 t373 _ ?side1 ?side2 A79.out).mono ?_); (case side1 => repeat (first | exact (Kd.R_reads' HO_7.out).2.2 | (with_reducible refine Kd.C_alloc ?_ _) | (with_reducible refine Kd.C_drewN ?_ _) | (with_reducible refine Kd.C_drew ?_))); (case side2 => exact (Kd.R_reads' HO_7.out).2.1); rintro e w122 ⟨rfl, hb⟩; have n0_ := Aside0.mk (Kd.R_below (by (with_reducible repeat (first | apply Kd.R_alloc | apply Kd.R_drewN | apply Kd.R_drew)); exact HO_7.out) hb); have n1_ := bst HB hb; replace BK335 := bbw BK335 hb; replace BK336 := bbw BK336 hb; replace BK353 := bbw BK353 hb; replace BK360 := bbw BK360 hb; replace BK367 := bbw BK367 hb; clear HO_7; clear HB; have HO_7 := n0_; have HB := n1_; clear n0_ n1_; (try clear hb); (try clear hb2); (try clear hk); (try clear hi)) | (go_at_call 10; (with_reducible refine (gimballaw14_awake.calls kj11  t374 _ A81.out).mono ?_); rintro e w123 ⟨rfl, hb⟩; have n0_ := Aside0.mk (Kd.R_below (by (with_reducible repeat (first | apply Kd.R_alloc | apply Kd.R_drewN | apply Kd.R_drew)); exact HO_7.out) hb); have n1_ := bst HB hb; replace BK335 := bbw BK335 hb; replace BK336 := bbw BK336 hb; replace BK353 := bbw BK353 hb; replace BK360 := bbw BK360 hb; replace BK367 := bbw BK367 hb; clear HO_7; clear HB; have HO_7 := n0_; have HB := n1_; clear n0_ n1_; (try clear hb); (try clear hb2); (try clear hk); (try clear hi)))
                 go_ret
                 exact ⟨by first | rfl | (simp [errW_none, errW_some] <;> rfl) | (simp [*, errW_none, errW_some] <;> rfl) | kernel_rfl, by repeat (first | (with_reducible first | exact HB.out | apply below_alloc | apply pw_below_drewN | apply below_drew1 | refine below_set ?_ GE335.out | refine below_set ?_ GE336.out | refine below_set ?_ GE353.out | refine below_set ?_ GE360.out | refine below_set ?_ GE367.out) | exact HB.out)⟩
                ·
                 rw [if_neg c80] at H
                 have c80b0 : (t373 == (wrap64 (-t345))) = false := beq_eq_false_iff_ne.mpr c80
                 have c80b1 : (t373 != (wrap64 (-t345))) = true := bne_iff_ne.mpr c80
                 exact absurd H (by simp)
               ·
                replace c78 := Bool.eq_false_iff.mpr c78
                subst c78
                have H1 : (some false) = some true := by rw [if_neg (show ¬ (false = true) by decide)] at H; exact H
                clear H
                have H := H1
                clear H1
                exact absurd H (by simp)
              ·
               replace c76 := Bool.eq_false_iff.mpr c76
               subst c76
               have H1 : (some false) = some true := by rw [if_neg (show ¬ (false = true) by decide)] at H; exact H
               clear H
               have H := H1
               clear H1
               exact absurd H (by simp)
             ·
              rw [if_neg c75] at H
              have c75b0 : (t371 == (wrap64 (t345 - t346))) = false := beq_eq_false_iff_ne.mpr c75
              have c75b1 : (t371 != (wrap64 (t345 - t346))) = true := bne_iff_ne.mpr c75
              exact absurd H (by simp)
            ·
             replace c73 := Bool.eq_false_iff.mpr c73
             subst c73
             have H1 : (some false) = some true := by rw [if_neg (show ¬ (false = true) by decide)] at H; exact H
             clear H
             have H := H1
             clear H1
             exact absurd H (by simp)
           ·
            replace c71 := Bool.eq_false_iff.mpr c71
            subst c71
            have H1 : (if t366 = true then ((linear_Fit.f kj11 t361 t362 t363 t364 t365).bind fun t375 => (if t375 = true then ((linear_Value.f kj11 t361 t362 t363 t364 t365 x7_1).bind fun t376 => (if t376 = (wrap64 (-t345)) then ((gimballaw14_awake.f kj11).bind fun t377 => (some t377)) else (some false))) else (some false))) else (some false)) = some true := by rw [if_neg (show ¬ (false = true) by decide)] at H; exact H
            clear H
            have H := H1
            clear H1
            by_cases c124 : t366 = true
            ·
             subst c124
             have H1 : ((linear_Fit.f kj11 t361 t362 t363 t364 t365).bind fun t375 => (if t375 = true then ((linear_Value.f kj11 t361 t362 t363 t364 t365 x7_1).bind fun t376 => (if t376 = (wrap64 (-t345)) then ((gimballaw14_awake.f kj11).bind fun t377 => (some t377)) else (some false))) else (some false))) = some true := by rw [if_pos rfl] at H; exact H
             clear H
             have H := H1
             clear H1
             replace H := Option.bind_eq_some_iff.mp H
             obtain ⟨t375, A1250, H⟩ := H
             replace H : (if t375 = true then ((linear_Value.f kj11 t361 t362 t363 t364 t365 x7_1).bind fun t376 => (if t376 = (wrap64 (-t345)) then ((gimballaw14_awake.f kj11).bind fun t377 => (some t377)) else (some false))) else (some false)) = some true := H
             have A125 := Aside0.mk A1250
             clear A1250
             by_cases c126 : t375 = true
             ·
              subst c126
              have H1 : ((linear_Value.f kj11 t361 t362 t363 t364 t365 x7_1).bind fun t376 => (if t376 = (wrap64 (-t345)) then ((gimballaw14_awake.f kj11).bind fun t377 => (some t377)) else (some false))) = some true := by rw [if_pos rfl] at H; exact H
              clear H
              have H := H1
              clear H1
              replace H := Option.bind_eq_some_iff.mp H
              obtain ⟨t376, A1270, H⟩ := H
              replace H : (if t376 = (wrap64 (-t345)) then ((gimballaw14_awake.f kj11).bind fun t377 => (some t377)) else (some false)) = some true := H
              have A127 := Aside0.mk A1270
              clear A1270
              by_cases c128 : t376 = (wrap64 (-t345))
              ·
               rw [if_pos c128] at H
               have c128b0 : (t376 == (wrap64 (-t345))) = true := beq_iff_eq.mpr c128
               have c128b1 : (t376 != (wrap64 (-t345))) = false := bne_eq_false_iff_eq.mpr c128
               clear c128
               replace H := Option.bind_eq_some_iff.mp H
               obtain ⟨t377, A1290, H⟩ := H
               replace H : (some t377) = some true := H
               have A129 := Aside0.mk A1290
               clear A1290
               have hret_ := Option.some.inj H
               clear H
               have hnb130 := NB335_336.out
               have hnc130 := NB336_335.out
               have hcz131_0 := hcz BK335 0
               have hcz131_1 := hcz BK335 1
               have hcz131_2 := hcz BK335 2
               have hcz131_3 := hcz BK335 3
               have hcz131_4 := hcz BK335 4
               have hfz131_0 := blk_frozen BK335.out 0
               have hfz131_1 := blk_frozen BK335.out 1
               have hfz131_2 := blk_frozen BK335.out 2
               have hfz131_3 := blk_frozen BK335.out 3
               have hfz131_4 := blk_frozen BK335.out 4
               obtain ⟨Ao132, co132, eo132⟩ := Kd.R_slice HO_7.out
               subst eo132
               go_wp2_with (first | ((with_reducible refine gate_callee (f := 8) rfl ?_); refine goesL_ (some 70) rfl rfl Try.func8 (by kernel_rfl) rfl #[.agg #[.int .i64 a0_0, .int .i64 a0_1, .int .i64 a0_2, .int .i64 a0_3, .int .i64 a0_4], .slice Ao132 x7_1.length co132] rfl (by (try simp only [List.map_toArray, List.map_cons, List.map_nil]); first | done | rfl | (simp only [List.length_drop, List.length_take]; rfl)) ?_; (with_reducible refine (linear_Value.calls kj11 a0_0 a0_1 a0_2 a0_3 a0_4 _ _ x7_1 t345 _ ?side1 ?side2 A61.out).mono ?_); (case side1 => repeat (first | exact (Kd.R_reads' HO_7.out).2.2 | (with_reducible refine Kd.C_alloc ?_ _) | (with_reducible refine Kd.C_drewN ?_ _) | (with_reducible refine Kd.C_drew ?_))); (case side2 => exact (Kd.R_reads' HO_7.out).2.1); rintro e w133 ⟨rfl, hb⟩; refine ⟨_, rfl, ?_⟩; have n0_ := Aside0.mk (Kd.R_below (by (with_reducible repeat (first | apply Kd.R_alloc | apply Kd.R_drewN | apply Kd.R_drew)); exact HO_7.out) hb); have n1_ := bst HB hb; replace BK335 := bbw BK335 hb; replace BK336 := bbw BK336 hb; clear HO_7; clear HB; have HO_7 := n0_; have HB := n1_; clear n0_ n1_; (try clear hb); (try clear hb2); (try clear hk); (try clear hi); have hcz134_0 := hcz BK336 0; have hcz134_1 := hcz BK336 1; have hcz134_2 := hcz BK336 2; have hcz134_3 := hcz BK336 3; have hcz134_4 := hcz BK336 4; have hfz134_0 := blk_frozen BK336.out 0; have hfz134_1 := blk_frozen BK336.out 1; have hfz134_2 := blk_frozen BK336.out 2; have hfz134_3 := blk_frozen BK336.out 3; have hfz134_4 := blk_frozen BK336.out 4) | ((with_reducible refine gate_callee (f := 8) rfl ?_); refine goesL_ (some 73) rfl rfl Try.func8 (by kernel_rfl) rfl #[.agg #[.int .i64 a1_0, .int .i64 a1_1, .int .i64 a1_2, .int .i64 a1_3, .int .i64 a1_4], .slice Ao132 x7_1.length co132] rfl (by (try simp only [List.map_toArray, List.map_cons, List.map_nil]); first | done | rfl | (simp only [List.length_drop, List.length_take]; rfl)) ?_; (with_reducible refine (linear_Value.calls kj11 a1_0 a1_1 a1_2 a1_3 a1_4 _ _ x7_1 t346 _ ?side1 ?side2 A62.out).mono ?_); (case side1 => repeat (first | exact (Kd.R_reads' HO_7.out).2.2 | (with_reducible refine Kd.C_alloc ?_ _) | (with_reducible refine Kd.C_drewN ?_ _) | (with_reducible refine Kd.C_drew ?_))); (case side2 => exact (Kd.R_reads' HO_7.out).2.1); rintro e w135 ⟨rfl, hb⟩; refine ⟨_, rfl, ?_⟩; have n0_ := Aside0.mk (Kd.R_below (by (with_reducible repeat (first | apply Kd.R_alloc | apply Kd.R_drewN | apply Kd.R_drew)); exact HO_7.out) hb); have n1_ := bst HB hb; replace BK335 := bbw BK335 hb; replace BK336 := bbw BK336 hb; clear HO_7; clear HB; have HO_7 := n0_; have HB := n1_; clear n0_ n1_; (try clear hb); (try clear hb2); (try clear hk); (try clear hi); have hcz136_0 := hcz BK335 0; have hcz136_1 := hcz BK335 1; have hcz136_2 := hcz BK335 2; have hcz136_3 := hcz BK335 3; have hcz136_4 := hcz BK335 4; have hfz136_0 := blk_frozen BK335.out 0; have hfz136_1 := blk_frozen BK335.out 1; have hfz136_2 := blk_frozen BK335.out 2; have hfz136_3 := blk_frozen BK335.out 3; have hfz136_4 := blk_frozen BK335.out 4; have hcz137_0 := hcz BK336 0; have hcz137_1 := hcz BK336 1; have hcz137_2 := hcz BK336 2; have hcz137_3 := hcz BK336 3; have hcz137_4 := hcz BK336 4; have hfz137_0 := blk_frozen BK336.out 0; have hfz137_1 := blk_frozen BK336.out 1; have hfz137_2 := blk_frozen BK336.out 2; have hfz137_3 := blk_frozen BK336.out 3; have hfz137_4 := blk_frozen BK336.out 4) | ((with_reducible refine gate_callee (f := 11) rfl ?_); refine goesL_ (some 77) rfl rfl Try.func11 (by kernel_rfl) rfl #[.agg #[.int .i64 a0_0, .int .i64 a0_1, .int .i64 a0_2, .int .i64 a0_3, .int .i64 a0_4], .agg #[.int .i64 a1_0, .int .i64 a1_1, .int .i64 a1_2, .int .i64 a1_3, .int .i64 a1_4]] rfl (by (try simp only [List.map_toArray, List.map_cons, List.map_nil]); first | done | rfl | (simp only [List.length_drop, List.length_take]; rfl)) ?_; (with_reducible refine (linear_Add.calls kj11 a0_0 a0_1 a0_2 a0_3 a0_4 a1_0 a1_1 a1_2 a1_3 a1_4 t347 t348 t349 t350 t351 true _ A63.out).mono ?_); rintro e w138 ⟨rfl, hb⟩; refine ⟨_, rfl, ?_⟩; have n0_ := Aside0.mk (Kd.R_below (by (with_reducible repeat (first | apply Kd.R_alloc | apply Kd.R_drewN | apply Kd.R_drew)); exact HO_7.out) hb); have n1_ := bst HB hb; replace BK335 := bbw BK335 hb; replace BK336 := bbw BK336 hb; clear HO_7; clear HB; have HO_7 := n0_; have HB := n1_; clear n0_ n1_; (try clear hb); (try clear hb2); (try clear hk); (try clear hi)) | ((with_reducible refine gate_dst (N := 11) rfl ?_); (try (refine gate_guard (by rfl) ?_; dsimp only)); refine box_event ?hg (N := 11) ?hd (cs := #[.int .i64 0, .int .i64 0, .int .i64 0, .int .i64 0, .int .i64 0]) (t := 23) ?hr ?_; (case hd => rfl); (case hg => rfl); (case hr => first | (go_simp; done) | (go_simp; rfl)); intro gb353 hg w139 hbox hb; have n0_ := Aside0.mk (Kd.R_below (by (with_reducible repeat (first | apply Kd.R_alloc | apply Kd.R_drewN | apply Kd.R_drew)); exact HO_7.out) hb); have n1_ := bst HB hb; have n2_ := Aside0.mk (hbox); have n3_ := bsz HB hg; have n4_ := bsz HB hg; have n5_ := bn1 BK335 hg; have n6_ := bn2 BK335 hg; have n7_ := bn1 BK336 hg; have n8_ := bn2 BK336 hg; replace BK335 := bbw BK335 hb; replace BK336 := bbw BK336 hb; clear HO_7; clear HB; have HO_7 := n0_; have HB := n1_; have BK353 := n2_; have GW353 := n3_; have GE353 := n4_; have NB335_353 := n5_; have NB353_335 := n6_; have NB336_353 := n7_; have NB353_336 := n8_; clear n0_ n1_ n2_ n3_ n4_ n5_ n6_ n7_ n8_; clear hb hbox hg; have hnb140 := NB353_335.out; have hnc140 := NB335_353.out; have hnb141 := NB353_336.out; have hnc141 := NB336_353.out; have hcz142_0 := hcz BK353 0; have hcz142_1 := hcz BK353 1; have hcz142_2 := hcz BK353 2; have hcz142_3 := hcz BK353 3; have hcz142_4 := hcz BK353 4; have hfz142_0 := blk_frozen BK353.out 0; have hfz142_1 := blk_frozen BK353.out 1; have hfz142_2 := blk_frozen BK353.out 2; have hfz142_3 := blk_frozen BK353.out 3; have hfz142_4 := blk_frozen BK353.out 4; have hcz143_0 := hcz BK335 0; have hcz143_1 := hcz BK335 1; have hcz143_2 := hcz BK335 2; have hcz143_3 := hcz BK335 3; have hcz143_4 := hcz BK335 4; have hfz143_0 := blk_frozen BK335.out 0; have hfz143_1 := blk_frozen BK335.out 1; have hfz143_2 := blk_frozen BK335.out 2; have hfz143_3 := blk_frozen BK335.out 3; have hfz143_4 := blk_frozen BK335.out 4; have hcz144_0 := hcz BK336 0; have hcz144_1 := hcz BK336 1; have hcz144_2 := hcz BK336 2; have hcz144_3 := hcz BK336 3; have hcz144_4 := hcz BK336 4; have hfz144_0 := blk_frozen BK336.out 0; have hfz144_1 := blk_frozen BK336.out 1; have hfz144_2 := blk_frozen BK336.out 2; have hfz144_3 := blk_frozen BK336.out 3; have hfz144_4 := blk_frozen BK336.out 4) | ((with_reducible refine gate_callee (f := 12) rfl ?_); refine goesL_ (some 83) rfl rfl Try.func12 (by kernel_rfl) rfl #[.agg #[.int .i64 a0_0, .int .i64 a0_1, .int .i64 a0_2, .int .i64 a0_3, .int .i64 a0_4], .agg #[.int .i64 a1_0, .int .i64 a1_1, .int .i64 a1_2, .int .i64 a1_3, .int .i64 a1_4]] rfl (by (try simp only [List.map_toArray, List.map_cons, List.map_nil]); first | done | rfl | (simp only [List.length_drop, List.length_take]; rfl)) ?_; (with_reducible refine (linear_Sub.calls kj11 a0_0 a0_1 a0_2 a0_3 a0_4 a1_0 a1_1 a1_2 a1_3 a1_4 t354 t355 t356 t357 t358 false _ A64.out).mono ?_); rintro e w145 ⟨rfl, hb⟩; refine ⟨_, rfl, ?_⟩; have n0_ := Aside0.mk (Kd.R_below (by (with_reducible repeat (first | apply Kd.R_alloc | apply Kd.R_drewN | apply Kd.R_drew)); exact (Kd.R_mono (Kd.R_far (p := ⟨gb353, 4, none⟩) (Kd.R_far (p := ⟨gb353, 3, none⟩) (Kd.R_far (p := ⟨gb353, 2, none⟩) (Kd.R_far (p := ⟨gb353, 1, none⟩) (Kd.R_far (p := ⟨gb353, 0, none⟩) (Kd.R_types HO_7.out BK353.out (by decide)) (fun _ hk => hk.2) (.int .i64 t347)) (fun _ hk => hk.2) (.int .i64 t348)) (fun _ hk => hk.2) (.int .i64 t349)) (fun _ hk => hk.2) (.int .i64 t350)) (fun _ hk => hk.2) (.int .i64 t351)) (fun _ h_ => h_.1))) hb); have n1_ := Aside0.mk (blk_below (g := gb335) (o := .cells #[.int .i64 a0_0, .int .i64 a0_1, .int .i64 a0_2, .int .i64 a0_3, .int .i64 a0_4] 23 (0, 0)) (by refine pkB ?_; refine blk_far ?_ NB335_353.out _; refine pkB ?_; refine blk_far ?_ NB335_353.out _; refine pkB ?_; refine blk_far ?_ NB335_353.out _; refine pkB ?_; refine blk_far ?_ NB335_353.out _; refine pkB ?_; refine blk_far ?_ NB335_353.out _; refine pkB ?_; exact BK335.out) hb); have n2_ := Aside0.mk (blk_below (g := gb336) (o := .cells #[.int .i64 a1_0, .int .i64 a1_1, .int .i64 a1_2, .int .i64 a1_3, .int .i64 a1_4] 23 (0, 0)) (by refine pkB ?_; refine blk_far ?_ NB336_353.out _; refine pkB ?_; refine blk_far ?_ NB336_353.out _; refine pkB ?_; refine blk_far ?_ NB336_353.out _; refine pkB ?_; refine blk_far ?_ NB336_353.out _; refine pkB ?_; refine blk_far ?_ NB336_353.out _; refine pkB ?_; exact BK336.out) hb); have n3_ := Aside0.mk (blk_below (g := gb353) (o := .cells #[.int .i64 t347, .int .i64 t348, .int .i64 t349, .int .i64 t350, .int .i64 t351] 23 (0, 0)) (by refine pkB ?_; refine blk_put (cs := #[.int .i64 t347, .int .i64 t348, .int .i64 t349, .int .i64 t350, .int .i64 0]) ?_ 4 _ (by first | rfl | (subst_vars; rfl)); refine pkB ?_; refine blk_put (cs := #[.int .i64 t347, .int .i64 t348, .int .i64 t349, .int .i64 0, .int .i64 0]) ?_ 3 _ (by first | rfl | (subst_vars; rfl)); refine pkB ?_; refine blk_put (cs := #[.int .i64 t347, .int .i64 t348, .int .i64 0, .int .i64 0, .int .i64 0]) ?_ 2 _ (by first | rfl | (subst_vars; rfl)); refine pkB ?_; refine blk_put (cs := #[.int .i64 t347, .int .i64 0, .int .i64 0, .int .i64 0, .int .i64 0]) ?_ 1 _ (by first | rfl | (subst_vars; rfl)); refine pkB ?_; refine blk_put (cs := #[.int .i64 0, .int .i64 0, .int .i64 0, .int .i64 0, .int .i64 0]) ?_ 0 _ (by first | rfl | (subst_vars; rfl)); refine pkB ?_; exact BK353.out) hb); have n4_ := bst HB hb; clear HO_7; clear BK335; clear BK336; clear BK353; clear HB; have HO_7 := n0_; have BK335 := n1_; have BK336 := n2_; have BK353 := n3_; have HB := n4_; clear n0_ n1_ n2_ n3_ n4_; (try clear hb); (try clear hb2); (try clear hk); (try clear hi)) | ((with_reducible refine gate_dst (N := 13) rfl ?_); (try (refine gate_guard (by rfl) ?_; dsimp only)); refine box_event ?hg (N := 13) ?hd (cs := #[.int .i64 0, .int .i64 0, .int .i64 0, .int .i64 0, .int .i64 0]) (t := 23) ?hr ?_; (case hd => rfl); (case hg => rfl); (case hr => first | (go_simp; done) | (go_simp; rfl)); intro gb360 hg w146 hbox hb; have n0_ := Aside0.mk (Kd.R_below (by (with_reducible repeat (first | apply Kd.R_alloc | apply Kd.R_drewN | apply Kd.R_drew)); exact HO_7.out) hb); have n1_ := bst HB hb; have n2_ := Aside0.mk (hbox); have n3_ := bsz HB hg; have n4_ := bsz HB hg; have n5_ := bn1 BK335 hg; have n6_ := bn2 BK335 hg; have n7_ := bn1 BK336 hg; have n8_ := bn2 BK336 hg; have n9_ := bn1 BK353 hg; have n10_ := bn2 BK353 hg; replace BK335 := bbw BK335 hb; replace BK336 := bbw BK336 hb; replace BK353 := bbw BK353 hb; clear HO_7; clear HB; have HO_7 := n0_; have HB := n1_; have BK360 := n2_; have GW360 := n3_; have GE360 := n4_; have NB335_360 := n5_; have NB360_335 := n6_; have NB336_360 := n7_; have NB360_336 := n8_; have NB353_360 := n9_; have NB360_353 := n10_; clear n0_ n1_ n2_ n3_ n4_ n5_ n6_ n7_ n8_ n9_ n10_; clear hb hbox hg; have hnb147 := NB360_335.out; have hnc147 := NB335_360.out; have hnb148 := NB360_336.out; have hnc148 := NB336_360.out; have hnb149 := NB360_353.out; have hnc149 := NB353_360.out; have hcz150_0 := hcz BK360 0; have hcz150_1 := hcz BK360 1; have hcz150_2 := hcz BK360 2; have hcz150_3 := hcz BK360 3; have hcz150_4 := hcz BK360 4; have hfz150_0 := blk_frozen BK360.out 0; have hfz150_1 := blk_frozen BK360.out 1; have hfz150_2 := blk_frozen BK360.out 2; have hfz150_3 := blk_frozen BK360.out 3; have hfz150_4 := blk_frozen BK360.out 4; have hcz151_0 := hcz BK335 0; have hcz151_1 := hcz BK335 1; have hcz151_2 := hcz BK335 2; have hcz151_3 := hcz BK335 3; have hcz151_4 := hcz BK335 4; have hfz151_0 := blk_frozen BK335.out 0; have hfz151_1 := blk_frozen BK335.out 1; have hfz151_2 := blk_frozen BK335.out 2; have hfz151_3 := blk_frozen BK335.out 3; have hfz151_4 := blk_frozen BK335.out 4) | ((with_reducible refine gate_callee (f := 13) rfl ?_); refine goesL_ (some 88) rfl rfl Try.func13 (by kernel_rfl) rfl #[.agg #[.int .i64 a0_0, .int .i64 a0_1, .int .i64 a0_2, .int .i64 a0_3, .int .i64 a0_4]] rfl (by (try simp only [List.map_toArray, List.map_cons, List.map_nil]); first | done | rfl | (simp only [List.length_drop, List.length_take]; rfl)) ?_; (with_reducible refine (linear_Neg.calls kj11 a0_0 a0_1 a0_2 a0_3 a0_4 t361 t362 t363 t364 t365 true _ A65.out).mono ?_); rintro e w152 ⟨rfl, hb⟩; refine ⟨_, rfl, ?_⟩; have n0_ := Aside0.mk (Kd.R_below (by (with_reducible repeat (first | apply Kd.R_alloc | apply Kd.R_drewN | apply Kd.R_drew)); exact (Kd.R_mono (Kd.R_far (p := ⟨gb360, 4, none⟩) (Kd.R_far (p := ⟨gb360, 3, none⟩) (Kd.R_far (p := ⟨gb360, 2, none⟩) (Kd.R_far (p := ⟨gb360, 1, none⟩) (Kd.R_far (p := ⟨gb360, 0, none⟩) (Kd.R_types HO_7.out BK360.out (by decide)) (fun _ hk => hk.2) (.int .i64 t354)) (fun _ hk => hk.2) (.int .i64 t355)) (fun _ hk => hk.2) (.int .i64 t356)) (fun _ hk => hk.2) (.int .i64 t357)) (fun _ hk => hk.2) (.int .i64 t358)) (fun _ h_ => h_.1))) hb); have n1_ := Aside0.mk (blk_below (g := gb335) (o := .cells #[.int .i64 a0_0, .int .i64 a0_1, .int .i64 a0_2, .int .i64 a0_3, .int .i64 a0_4] 23 (0, 0)) (by refine pkB ?_; refine blk_far ?_ NB335_360.out _; refine pkB ?_; refine blk_far ?_ NB335_360.out _; refine pkB ?_; refine blk_far ?_ NB335_360.out _; refine pkB ?_; refine blk_far ?_ NB335_360.out _; refine pkB ?_; refine blk_far ?_ NB335_360.out _; refine pkB ?_; exact BK335.out) hb); have n2_ := Aside0.mk (blk_below (g := gb336) (o := .cells #[.int .i64 a1_0, .int .i64 a1_1, .int .i64 a1_2, .int .i64 a1_3, .int .i64 a1_4] 23 (0, 0)) (by refine pkB ?_; refine blk_far ?_ NB336_360.out _; refine pkB ?_; refine blk_far ?_ NB336_360.out _; refine pkB ?_; refine blk_far ?_ NB336_360.out _; refine pkB ?_; refine blk_far ?_ NB336_360.out _; refine pkB ?_; refine blk_far ?_ NB336_360.out _; refine pkB ?_; exact BK336.out) hb); have n3_ := Aside0.mk (blk_below (g := gb353) (o := .cells #[.int .i64 t347, .int .i64 t348, .int .i64 t349, .int .i64 t350, .int .i64 t351] 23 (0, 0)) (by refine pkB ?_; refine blk_far ?_ NB353_360.out _; refine pkB ?_; refine blk_far ?_ NB353_360.out _; refine pkB ?_; refine blk_far ?_ NB353_360.out _; refine pkB ?_; refine blk_far ?_ NB353_360.out _; refine pkB ?_; refine blk_far ?_ NB353_360.out _; refine pkB ?_; exact BK353.out) hb); have n4_ := Aside0.mk (blk_below (g := gb360) (o := .cells #[.int .i64 t354, .int .i64 t355, .int .i64 t356, .int .i64 t357, .int .i64 t358] 23 (0, 0)) (by refine pkB ?_; refine blk_put (cs := #[.int .i64 t354, .int .i64 t355, .int .i64 t356, .int .i64 t357, .int .i64 0]) ?_ 4 _ (by first | rfl | (subst_vars; rfl)); refine pkB ?_; refine blk_put (cs := #[.int .i64 t354, .int .i64 t355, .int .i64 t356, .int .i64 0, .int .i64 0]) ?_ 3 _ (by first | rfl | (subst_vars; rfl)); refine pkB ?_; refine blk_put (cs := #[.int .i64 t354, .int .i64 t355, .int .i64 0, .int .i64 0, .int .i64 0]) ?_ 2 _ (by first | rfl | (subst_vars; rfl)); refine pkB ?_; refine blk_put (cs := #[.int .i64 t354, .int .i64 0, .int .i64 0, .int .i64 0, .int .i64 0]) ?_ 1 _ (by first | rfl | (subst_vars; rfl)); refine pkB ?_; refine blk_put (cs := #[.int .i64 0, .int .i64 0, .int .i64 0, .int .i64 0, .int .i64 0]) ?_ 0 _ (by first | rfl | (subst_vars; rfl)); refine pkB ?_; exact BK360.out) hb); have n5_ := bst HB hb; clear HO_7; clear BK335; clear BK336; clear BK353; clear BK360; clear HB; have HO_7 := n0_; have BK335 := n1_; have BK336 := n2_; have BK353 := n3_; have BK360 := n4_; have HB := n5_; clear n0_ n1_ n2_ n3_ n4_ n5_; (try clear hb); (try clear hb2); (try clear hk); (try clear hi)) | ((with_reducible refine gate_dst (N := 15) rfl ?_); (try (refine gate_guard (by rfl) ?_; dsimp only)); refine box_event ?hg (N := 15) ?hd (cs := #[.int .i64 0, .int .i64 0, .int .i64 0, .int .i64 0, .int .i64 0]) (t := 23) ?hr ?_; (case hd => rfl); (case hg => rfl); (case hr => first | (go_simp; done) | (go_simp; rfl)); intro gb367 hg w153 hbox hb; have n0_ := Aside0.mk (Kd.R_below (by (with_reducible repeat (first | apply Kd.R_alloc | apply Kd.R_drewN | apply Kd.R_drew)); exact HO_7.out) hb); have n1_ := bst HB hb; have n2_ := Aside0.mk (hbox); have n3_ := bsz HB hg; have n4_ := bsz HB hg; have n5_ := bn1 BK335 hg; have n6_ := bn2 BK335 hg; have n7_ := bn1 BK336 hg; have n8_ := bn2 BK336 hg; have n9_ := bn1 BK353 hg; have n10_ := bn2 BK353 hg; have n11_ := bn1 BK360 hg; have n12_ := bn2 BK360 hg; replace BK335 := bbw BK335 hb; replace BK336 := bbw BK336 hb; replace BK353 := bbw BK353 hb; replace BK360 := bbw BK360 hb; clear HO_7; clear HB; have HO_7 := n0_; have HB := n1_; have BK367 := n2_; have GW367 := n3_; have GE367 := n4_; have NB335_367 := n5_; have NB367_335 := n6_; have NB336_367 := n7_; have NB367_336 := n8_; have NB353_367 := n9_; have NB367_353 := n10_; have NB360_367 := n11_; have NB367_360 := n12_; clear n0_ n1_ n2_ n3_ n4_ n5_ n6_ n7_ n8_ n9_ n10_ n11_ n12_; clear hb hbox hg; have hnb154 := NB367_335.out; have hnc154 := NB335_367.out; have hnb155 := NB367_336.out; have hnc155 := NB336_367.out; have hnb156 := NB367_353.out; have hnc156 := NB353_367.out; have hnb157 := NB367_360.out; have hnc157 := NB360_367.out; have hcz158_0 := hcz BK367 0; have hcz158_1 := hcz BK367 1; have hcz158_2 := hcz BK367 2; have hcz158_3 := hcz BK367 3; have hcz158_4 := hcz BK367 4; have hfz158_0 := blk_frozen BK367.out 0; have hfz158_1 := blk_frozen BK367.out 1; have hfz158_2 := blk_frozen BK367.out 2; have hfz158_3 := blk_frozen BK367.out 3; have hfz158_4 := blk_frozen BK367.out 4; have hcz159_0 := hcz BK353 0; have hcz159_1 := hcz BK353 1; have hcz159_2 := hcz BK353 2; have hcz159_3 := hcz BK353 3; have hcz159_4 := hcz BK353 4; have hfz159_0 := blk_frozen BK353.out 0; have hfz159_1 := blk_frozen BK353.out 1; have hfz159_2 := blk_frozen BK353.out 2; have hfz159_3 := blk_frozen BK353.out 3; have hfz159_4 := blk_frozen BK353.out 4) | (go_at_call 17; (with_reducible refine (linear_Fit.calls kj11 t347 t348 t349 t350 t351 true _ A67.out).mono ?_); rintro e w160 ⟨rfl, hb⟩; have n0_ := Aside0.mk (Kd.R_below (by (with_reducible repeat (first | apply Kd.R_alloc | apply Kd.R_drewN | apply Kd.R_drew)); exact (Kd.R_mono (Kd.R_far (p := ⟨gb367, 4, none⟩) (Kd.R_far (p := ⟨gb367, 3, none⟩) (Kd.R_far (p := ⟨gb367, 2, none⟩) (Kd.R_far (p := ⟨gb367, 1, none⟩) (Kd.R_far (p := ⟨gb367, 0, none⟩) (Kd.R_types HO_7.out BK367.out (by decide)) (fun _ hk => hk.2) (.int .i64 t361)) (fun _ hk => hk.2) (.int .i64 t362)) (fun _ hk => hk.2) (.int .i64 t363)) (fun _ hk => hk.2) (.int .i64 t364)) (fun _ hk => hk.2) (.int .i64 t365)) (fun _ h_ => h_.1))) hb); have n1_ := Aside0.mk (blk_below (g := gb335) (o := .cells #[.int .i64 a0_0, .int .i64 a0_1, .int .i64 a0_2, .int .i64 a0_3, .int .i64 a0_4] 23 (0, 0)) (by refine pkB ?_; refine blk_far ?_ NB335_367.out _; refine pkB ?_; refine blk_far ?_ NB335_367.out _; refine pkB ?_; refine blk_far ?_ NB335_367.out _; refine pkB ?_; refine blk_far ?_ NB335_367.out _; refine pkB ?_; refine blk_far ?_ NB335_367.out _; refine pkB ?_; exact BK335.out) hb); have n2_ := Aside0.mk (blk_below (g := gb336) (o := .cells #[.int .i64 a1_0, .int .i64 a1_1, .int .i64 a1_2, .int .i64 a1_3, .int .i64 a1_4] 23 (0, 0)) (by refine pkB ?_; refine blk_far ?_ NB336_367.out _; refine pkB ?_; refine blk_far ?_ NB336_367.out _; refine pkB ?_; refine blk_far ?_ NB336_367.out _; refine pkB ?_; refine blk_far ?_ NB336_367.out _; refine pkB ?_; refine blk_far ?_ NB336_367.out _; refine pkB ?_; exact BK336.out) hb); have n3_ := Aside0.mk (blk_below (g := gb353) (o := .cells #[.int .i64 t347, .int .i64 t348, .int .i64 t349, .int .i64 t350, .int .i64 t351] 23 (0, 0)) (by refine pkB ?_; refine blk_far ?_ NB353_367.out _; refine pkB ?_; refine blk_far ?_ NB353_367.out _; refine pkB ?_; refine blk_far ?_ NB353_367.out _; refine pkB ?_; refine blk_far ?_ NB353_367.out _; refine pkB ?_; refine blk_far ?_ NB353_367.out _; refine pkB ?_; exact BK353.out) hb); have n4_ := Aside0.mk (blk_below (g := gb360) (o := .cells #[.int .i64 t354, .int .i64 t355, .int .i64 t356, .int .i64 t357, .int .i64 t358] 23 (0, 0)) (by refine pkB ?_; refine blk_far ?_ NB360_367.out _; refine pkB ?_; refine blk_far ?_ NB360_367.out _; refine pkB ?_; refine blk_far ?_ NB360_367.out _; refine pkB ?_; refine blk_far ?_ NB360_367.out _; refine pkB ?_; refine blk_far ?_ NB360_367.out _; refine pkB ?_; exact BK360.out) hb); have n5_ := Aside0.mk (blk_below (g := gb367) (o := .cells #[.int .i64 t361, .int .i64 t362, .int .i64 t363, .int .i64 t364, .int .i64 t365] 23 (0, 0)) (by refine pkB ?_; refine blk_put (cs := #[.int .i64 t361, .int .i64 t362, .int .i64 t363, .int .i64 t364, .int .i64 0]) ?_ 4 _ (by first | rfl | (subst_vars; rfl)); refine pkB ?_; refine blk_put (cs := #[.int .i64 t361, .int .i64 t362, .int .i64 t363, .int .i64 0, .int .i64 0]) ?_ 3 _ (by first | rfl | (subst_vars; rfl)); refine pkB ?_; refine blk_put (cs := #[.int .i64 t361, .int .i64 t362, .int .i64 0, .int .i64 0, .int .i64 0]) ?_ 2 _ (by first | rfl | (subst_vars; rfl)); refine pkB ?_; refine blk_put (cs := #[.int .i64 t361, .int .i64 0, .int .i64 0, .int .i64 0, .int .i64 0]) ?_ 1 _ (by first | rfl | (subst_vars; rfl)); refine pkB ?_; refine blk_put (cs := #[.int .i64 0, .int .i64 0, .int .i64 0, .int .i64 0, .int .i64 0]) ?_ 0 _ (by first | rfl | (subst_vars; rfl)); refine pkB ?_; exact BK367.out) hb); have n6_ := bst HB hb; clear HO_7; clear BK335; clear BK336; clear BK353; clear BK360; clear BK367; clear HB; have HO_7 := n0_; have BK335 := n1_; have BK336 := n2_; have BK353 := n3_; have BK360 := n4_; have BK367 := n5_; have HB := n6_; clear n0_ n1_ n2_ n3_ n4_ n5_ n6_; (try clear hb); (try clear hb2); (try clear hk); (try clear hi); have hcz161_0 := hcz BK353 0; have hcz161_1 := hcz BK353 1; have hcz161_2 := hcz BK353 2; have hcz161_3 := hcz BK353 3; have hcz161_4 := hcz BK353 4; have hfz161_0 := blk_frozen BK353.out 0; have hfz161_1 := blk_frozen BK353.out 1; have hfz161_2 := blk_frozen BK353.out 2; have hfz161_3 := blk_frozen BK353.out 3; have hfz161_4 := blk_frozen BK353.out 4) | (go_at_call 8; (with_reducible refine (linear_Value.calls kj11 t347 t348 t349 t350 t351 _ _ x7_1 t369 _ ?side1 ?side2 A69.out).mono ?_); (case side1 => repeat (first | exact (Kd.R_reads' HO_7.out).2.2 | (with_reducible refine Kd.C_alloc ?_ _) | (with_reducible refine Kd.C_drewN ?_ _) | (with_reducible refine Kd.C_drew ?_))); (case side2 => exact (Kd.R_reads' HO_7.out).2.1); rintro e w162 ⟨rfl, hb⟩; have n0_ := Aside0.mk (Kd.R_below (by (with_reducible repeat (first | apply Kd.R_alloc | apply Kd.R_drewN | apply Kd.R_drew)); exact HO_7.out) hb); have n1_ := bst HB hb; replace BK335 := bbw BK335 hb; replace BK336 := bbw BK336 hb; replace BK353 := bbw BK353 hb; replace BK360 := bbw BK360 hb; replace BK367 := bbw BK367 hb; clear HO_7; clear HB; have HO_7 := n0_; have HB := n1_; clear n0_ n1_; (try clear hb); (try clear hb2); (try clear hk); (try clear hi); have hcz163_0 := hcz BK367 0; have hcz163_1 := hcz BK367 1; have hcz163_2 := hcz BK367 2; have hcz163_3 := hcz BK367 3; have hcz163_4 := hcz BK367 4; have hfz163_0 := blk_frozen BK367.out 0; have hfz163_1 := blk_frozen BK367.out 1; have hfz163_2 := blk_frozen BK367.out 2; have hfz163_3 := blk_frozen BK367.out 3; have hfz163_4 := blk_frozen BK367.out 4) | (go_at_call 17; (with_reducible refine (linear_Fit.calls kj11 t361 t362 t363 t364 t365 true _ A125.out).mono ?_); rintro e w164 ⟨rfl, hb⟩; have n0_ := Aside0.mk (Kd.R_below (by (with_reducible repeat (first | apply Kd.R_alloc | apply Kd.R_drewN | apply Kd.R_drew)); exact HO_7.out) hb); have n1_ := bst HB hb; replace BK335 := bbw BK335 hb; replace BK336 := bbw BK336 hb; replace BK353 := bbw BK353 hb; replace BK360 := bbw BK360 hb; replace BK367 := bbw BK367 hb; clear HO_7; clear HB; have HO_7 := n0_; have HB := n1_; clear n0_ n1_; (try clear hb); (try clear hb2); (try clear hk); (try clear hi); have hcz165_0 := hcz BK367 0; have hcz165_1 := hcz BK367 1; have hcz165_2 := hcz BK367 2; have hcz165_3 := hcz BK367 3; have hcz165_4 := hcz BK367 4; have hfz165_0 := blk_frozen BK367.out 0; have hfz165_1 := blk_frozen BK367.out 1; have hfz165_2 := blk_frozen BK367.out 2; have hfz165_3 := blk_frozen BK367.out 3; have hfz165_4 := blk_frozen BK367.out 4) | (go_at_call 8; (with_reducible refine (linear_Value.calls kj11 t361 t362 t363 t364 t365 _ _ x7_1 t376 _ ?side1 ?side2 A127.out).mono ?_); (case side1 => repeat (first | exact (Kd.R_reads' HO_7.out).2.2 | (with_reducible refine Kd.C_alloc ?_ _) | (with_reducible refine Kd.C_drewN ?_ _) | (with_reducible refine Kd.C_drew ?_))); (case side2 => exact (Kd.R_reads' HO_7.out).2.1); rintro e w166 ⟨rfl, hb⟩; have n0_ := Aside0.mk (Kd.R_below (by (with_reducible repeat (first | apply Kd.R_alloc | apply Kd.R_drewN | apply Kd.R_drew)); exact HO_7.out) hb); have n1_ := bst HB hb; replace BK335 := bbw BK335 hb; replace BK336 := bbw BK336 hb; replace BK353 := bbw BK353 hb; replace BK360 := bbw BK360 hb; replace BK367 := bbw BK367 hb; clear HO_7; clear HB; have HO_7 := n0_; have HB := n1_; clear n0_ n1_; (try clear hb); (try clear hb2); (try clear hk); (try clear hi)) | (go_at_call 10; (with_reducible refine (gimballaw14_awake.calls kj11  t377 _ A129.out).mono ?_); rintro e w167 ⟨rfl, hb⟩; have n0_ := Aside0.mk (Kd.R_below (by (with_reducible repeat (first | apply Kd.R_alloc | apply Kd.R_drewN | apply Kd.R_drew)); exact HO_7.out) hb); have n1_ := bst HB hb; replace BK335 := bbw BK335 hb; replace BK336 := bbw BK336 hb; replace BK353 := bbw BK353 hb; replace BK360 := bbw BK360 hb; replace BK367 := bbw BK367 hb; clear HO_7; clear HB; have HO_7 := n0_; have HB := n1_; clear n0_ n1_; (try clear hb); (try clear hb2); (try clear hk); (try clear hi)))
               go_ret
               exact ⟨by first | rfl | (simp [errW_none, errW_some] <;> rfl) | (simp [*, errW_none, errW_some] <;> rfl) | kernel_rfl, by repeat (first | (with_reducible first | exact HB.out | apply below_alloc | apply pw_below_drewN | apply below_drew1 | refine below_set ?_ GE335.out | refine below_set ?_ GE336.out | refine below_set ?_ GE353.out | refine below_set ?_ GE360.out | refine below_set ?_ GE367.out) | exact HB.out)⟩
              ·
               rw [if_neg c128] at H
               have c128b0 : (t376 == (wrap64 (-t345))) = false := beq_eq_false_iff_ne.mpr c128
               have c128b1 : (t376 != (wrap64 (-t345))) = true := bne_iff_ne.mpr c128
               exact absurd H (by simp)
             ·
              replace c126 := Bool.eq_false_iff.mpr c126
              subst c126
              have H1 : (some false) = some true := by rw [if_neg (show ¬ (false = true) by decide)] at H; exact H
              clear H
              have H := H1
              clear H1
              exact absurd H (by simp)
            ·
             replace c124 := Bool.eq_false_iff.mpr c124
             subst c124
             have H1 : (some false) = some true := by rw [if_neg (show ¬ (false = true) by decide)] at H; exact H
             clear H
             have H := H1
             clear H1
             exact absurd H (by simp)
          ·
           rw [if_neg c70] at H
           have c70b0 : (t369 == (wrap64 (t345 + t346))) = false := beq_eq_false_iff_ne.mpr c70
           have c70b1 : (t369 != (wrap64 (t345 + t346))) = true := bne_iff_ne.mpr c70
           exact absurd H (by simp)
         ·
          replace c68 := Bool.eq_false_iff.mpr c68
          subst c68
          have H1 : (some false) = some true := by rw [if_neg (show ¬ (false = true) by decide)] at H; exact H
          clear H
          have H := H1
          clear H1
          exact absurd H (by simp)
        ·
         replace c66 := Bool.eq_false_iff.mpr c66
         subst c66
         have H1 : (if t359 = true then ((linear_Fit.f kj11 t354 t355 t356 t357 t358).bind fun t378 => (if t378 = true then ((linear_Value.f kj11 t354 t355 t356 t357 t358 x7_1).bind fun t379 => (if t379 = (wrap64 (t345 - t346)) then (if t366 = true then ((linear_Fit.f kj11 t361 t362 t363 t364 t365).bind fun t380 => (if t380 = true then ((linear_Value.f kj11 t361 t362 t363 t364 t365 x7_1).bind fun t381 => (if t381 = (wrap64 (-t345)) then ((gimballaw14_awake.f kj11).bind fun t382 => (some t382)) else (some false))) else (some false))) else (some false)) else (some false))) else (some false))) else (if t366 = true then ((linear_Fit.f kj11 t361 t362 t363 t364 t365).bind fun t383 => (if t383 = true then ((linear_Value.f kj11 t361 t362 t363 t364 t365 x7_1).bind fun t384 => (if t384 = (wrap64 (-t345)) then ((gimballaw14_awake.f kj11).bind fun t385 => (some t385)) else (some false))) else (some false))) else (some false))) = some true := by rw [if_neg (show ¬ (false = true) by decide)] at H; exact H
         clear H
         have H := H1
         clear H1
         by_cases c168 : t359 = true
         ·
          subst c168
          have H1 : ((linear_Fit.f kj11 t354 t355 t356 t357 t358).bind fun t378 => (if t378 = true then ((linear_Value.f kj11 t354 t355 t356 t357 t358 x7_1).bind fun t379 => (if t379 = (wrap64 (t345 - t346)) then (if t366 = true then ((linear_Fit.f kj11 t361 t362 t363 t364 t365).bind fun t380 => (if t380 = true then ((linear_Value.f kj11 t361 t362 t363 t364 t365 x7_1).bind fun t381 => (if t381 = (wrap64 (-t345)) then ((gimballaw14_awake.f kj11).bind fun t382 => (some t382)) else (some false))) else (some false))) else (some false)) else (some false))) else (some false))) = some true := by rw [if_pos rfl] at H; exact H
          clear H
          have H := H1
          clear H1
          replace H := Option.bind_eq_some_iff.mp H
          obtain ⟨t378, A1690, H⟩ := H
          replace H : (if t378 = true then ((linear_Value.f kj11 t354 t355 t356 t357 t358 x7_1).bind fun t379 => (if t379 = (wrap64 (t345 - t346)) then (if t366 = true then ((linear_Fit.f kj11 t361 t362 t363 t364 t365).bind fun t380 => (if t380 = true then ((linear_Value.f kj11 t361 t362 t363 t364 t365 x7_1).bind fun t381 => (if t381 = (wrap64 (-t345)) then ((gimballaw14_awake.f kj11).bind fun t382 => (some t382)) else (some false))) else (some false))) else (some false)) else (some false))) else (some false)) = some true := H
          have A169 := Aside0.mk A1690
          clear A1690
          by_cases c170 : t378 = true
          ·
           subst c170
           have H1 : ((linear_Value.f kj11 t354 t355 t356 t357 t358 x7_1).bind fun t379 => (if t379 = (wrap64 (t345 - t346)) then (if t366 = true then ((linear_Fit.f kj11 t361 t362 t363 t364 t365).bind fun t380 => (if t380 = true then ((linear_Value.f kj11 t361 t362 t363 t364 t365 x7_1).bind fun t381 => (if t381 = (wrap64 (-t345)) then ((gimballaw14_awake.f kj11).bind fun t382 => (some t382)) else (some false))) else (some false))) else (some false)) else (some false))) = some true := by rw [if_pos rfl] at H; exact H
           clear H
           have H := H1
           clear H1
           replace H := Option.bind_eq_some_iff.mp H
           obtain ⟨t379, A1710, H⟩ := H
           replace H : (if t379 = (wrap64 (t345 - t346)) then (if t366 = true then ((linear_Fit.f kj11 t361 t362 t363 t364 t365).bind fun t380 => (if t380 = true then ((linear_Value.f kj11 t361 t362 t363 t364 t365 x7_1).bind fun t381 => (if t381 = (wrap64 (-t345)) then ((gimballaw14_awake.f kj11).bind fun t382 => (some t382)) else (some false))) else (some false))) else (some false)) else (some false)) = some true := H
           have A171 := Aside0.mk A1710
           clear A1710
           by_cases c172 : t379 = (wrap64 (t345 - t346))
           ·
            rw [if_pos c172] at H
            have c172b0 : (t379 == (wrap64 (t345 - t346))) = true := beq_iff_eq.mpr c172
            have c172b1 : (t379 != (wrap64 (t345 - t346))) = false := bne_eq_false_iff_eq.mpr c172
            clear c172
            by_cases c173 : t366 = true
            ·
             subst c173
             have H1 : ((linear_Fit.f kj11 t361 t362 t363 t364 t365).bind fun t380 => (if t380 = true then ((linear_Value.f kj11 t361 t362 t363 t364 t365 x7_1).bind fun t381 => (if t381 = (wrap64 (-t345)) then ((gimballaw14_awake.f kj11).bind fun t382 => (some t382)) else (some false))) else (some false))) = some true := by rw [if_pos rfl] at H; exact H
             clear H
             have H := H1
             clear H1
             replace H := Option.bind_eq_some_iff.mp H
             obtain ⟨t380, A1740, H⟩ := H
             replace H : (if t380 = true then ((linear_Value.f kj11 t361 t362 t363 t364 t365 x7_1).bind fun t381 => (if t381 = (wrap64 (-t345)) then ((gimballaw14_awake.f kj11).bind fun t382 => (some t382)) else (some false))) else (some false)) = some true := H
             have A174 := Aside0.mk A1740
             clear A1740
             by_cases c175 : t380 = true
             ·
              subst c175
              have H1 : ((linear_Value.f kj11 t361 t362 t363 t364 t365 x7_1).bind fun t381 => (if t381 = (wrap64 (-t345)) then ((gimballaw14_awake.f kj11).bind fun t382 => (some t382)) else (some false))) = some true := by rw [if_pos rfl] at H; exact H
              clear H
              have H := H1
              clear H1
              replace H := Option.bind_eq_some_iff.mp H
              obtain ⟨t381, A1760, H⟩ := H
              replace H : (if t381 = (wrap64 (-t345)) then ((gimballaw14_awake.f kj11).bind fun t382 => (some t382)) else (some false)) = some true := H
              have A176 := Aside0.mk A1760
              clear A1760
              by_cases c177 : t381 = (wrap64 (-t345))
              ·
               rw [if_pos c177] at H
               have c177b0 : (t381 == (wrap64 (-t345))) = true := beq_iff_eq.mpr c177
               have c177b1 : (t381 != (wrap64 (-t345))) = false := bne_eq_false_iff_eq.mpr c177
               clear c177
               replace H := Option.bind_eq_some_iff.mp H
               obtain ⟨t382, A1780, H⟩ := H
               replace H : (some t382) = some true := H
               have A178 := Aside0.mk A1780
               clear A1780
               have hret_ := Option.some.inj H
               clear H
               have hnb179 := NB335_336.out
               have hnc179 := NB336_335.out
               have hcz180_0 := hcz BK335 0
               have hcz180_1 := hcz BK335 1
               have hcz180_2 := hcz BK335 2
               have hcz180_3 := hcz BK335 3
               have hcz180_4 := hcz BK335 4
               have hfz180_0 := blk_frozen BK335.out 0
               have hfz180_1 := blk_frozen BK335.out 1
               have hfz180_2 := blk_frozen BK335.out 2
               have hfz180_3 := blk_frozen BK335.out 3
               have hfz180_4 := blk_frozen BK335.out 4
               obtain ⟨Ao181, co181, eo181⟩ := Kd.R_slice HO_7.out
               subst eo181
               go_wp2_with (first | ((with_reducible refine gate_callee (f := 8) rfl ?_); refine goesL_ (some 70) rfl rfl Try.func8 (by kernel_rfl) rfl #[.agg #[.int .i64 a0_0, .int .i64 a0_1, .int .i64 a0_2, .int .i64 a0_3, .int .i64 a0_4], .slice Ao181 x7_1.length co181] rfl (by (try simp only [List.map_toArray, List.map_cons, List.map_nil]); first | done | rfl | (simp only [List.length_drop, List.length_take]; rfl)) ?_; (with_reducible refine (linear_Value.calls kj11 a0_0 a0_1 a0_2 a0_3 a0_4 _ _ x7_1 t345 _ ?side1 ?side2 A61.out).mono ?_); (case side1 => repeat (first | exact (Kd.R_reads' HO_7.out).2.2 | (with_reducible refine Kd.C_alloc ?_ _) | (with_reducible refine Kd.C_drewN ?_ _) | (with_reducible refine Kd.C_drew ?_))); (case side2 => exact (Kd.R_reads' HO_7.out).2.1); rintro e w182 ⟨rfl, hb⟩; refine ⟨_, rfl, ?_⟩; have n0_ := Aside0.mk (Kd.R_below (by (with_reducible repeat (first | apply Kd.R_alloc | apply Kd.R_drewN | apply Kd.R_drew)); exact HO_7.out) hb); have n1_ := bst HB hb; replace BK335 := bbw BK335 hb; replace BK336 := bbw BK336 hb; clear HO_7; clear HB; have HO_7 := n0_; have HB := n1_; clear n0_ n1_; (try clear hb); (try clear hb2); (try clear hk); (try clear hi); have hcz183_0 := hcz BK336 0; have hcz183_1 := hcz BK336 1; have hcz183_2 := hcz BK336 2; have hcz183_3 := hcz BK336 3; have hcz183_4 := hcz BK336 4; have hfz183_0 := blk_frozen BK336.out 0; have hfz183_1 := blk_frozen BK336.out 1; have hfz183_2 := blk_frozen BK336.out 2; have hfz183_3 := blk_frozen BK336.out 3; have hfz183_4 := blk_frozen BK336.out 4) | ((with_reducible refine gate_callee (f := 8) rfl ?_); refine goesL_ (some 73) rfl rfl Try.func8 (by kernel_rfl) rfl #[.agg #[.int .i64 a1_0, .int .i64 a1_1, .int .i64 a1_2, .int .i64 a1_3, .int .i64 a1_4], .slice Ao181 x7_1.length co181] rfl (by (try simp only [List.map_toArray, List.map_cons, List.map_nil]); first | done | rfl | (simp only [List.length_drop, List.length_take]; rfl)) ?_; (with_reducible refine (linear_Value.calls kj11 a1_0 a1_1 a1_2 a1_3 a1_4 _ _ x7_1 t346 _ ?side1 ?side2 A62.out).mono ?_); (case side1 => repeat (first | exact (Kd.R_reads' HO_7.out).2.2 | (with_reducible refine Kd.C_alloc ?_ _) | (with_reducible refine Kd.C_drewN ?_ _) | (with_reducible refine Kd.C_drew ?_))); (case side2 => exact (Kd.R_reads' HO_7.out).2.1); rintro e w184 ⟨rfl, hb⟩; refine ⟨_, rfl, ?_⟩; have n0_ := Aside0.mk (Kd.R_below (by (with_reducible repeat (first | apply Kd.R_alloc | apply Kd.R_drewN | apply Kd.R_drew)); exact HO_7.out) hb); have n1_ := bst HB hb; replace BK335 := bbw BK335 hb; replace BK336 := bbw BK336 hb; clear HO_7; clear HB; have HO_7 := n0_; have HB := n1_; clear n0_ n1_; (try clear hb); (try clear hb2); (try clear hk); (try clear hi); have hcz185_0 := hcz BK335 0; have hcz185_1 := hcz BK335 1; have hcz185_2 := hcz BK335 2; have hcz185_3 := hcz BK335 3; have hcz185_4 := hcz BK335 4; have hfz185_0 := blk_frozen BK335.out 0; have hfz185_1 := blk_frozen BK335.out 1; have hfz185_2 := blk_frozen BK335.out 2; have hfz185_3 := blk_frozen BK335.out 3; have hfz185_4 := blk_frozen BK335.out 4; have hcz186_0 := hcz BK336 0; have hcz186_1 := hcz BK336 1; have hcz186_2 := hcz BK336 2; have hcz186_3 := hcz BK336 3; have hcz186_4 := hcz BK336 4; have hfz186_0 := blk_frozen BK336.out 0; have hfz186_1 := blk_frozen BK336.out 1; have hfz186_2 := blk_frozen BK336.out 2; have hfz186_3 := blk_frozen BK336.out 3; have hfz186_4 := blk_frozen BK336.out 4) | ((with_reducible refine gate_callee (f := 11) rfl ?_); refine goesL_ (some 77) rfl rfl Try.func11 (by kernel_rfl) rfl #[.agg #[.int .i64 a0_0, .int .i64 a0_1, .int .i64 a0_2, .int .i64 a0_3, .int .i64 a0_4], .agg #[.int .i64 a1_0, .int .i64 a1_1, .int .i64 a1_2, .int .i64 a1_3, .int .i64 a1_4]] rfl (by (try simp only [List.map_toArray, List.map_cons, List.map_nil]); first | done | rfl | (simp only [List.length_drop, List.length_take]; rfl)) ?_; (with_reducible refine (linear_Add.calls kj11 a0_0 a0_1 a0_2 a0_3 a0_4 a1_0 a1_1 a1_2 a1_3 a1_4 t347 t348 t349 t350 t351 false _ A63.out).mono ?_); rintro e w187 ⟨rfl, hb⟩; refine ⟨_, rfl, ?_⟩; have n0_ := Aside0.mk (Kd.R_below (by (with_reducible repeat (first | apply Kd.R_alloc | apply Kd.R_drewN | apply Kd.R_drew)); exact HO_7.out) hb); have n1_ := bst HB hb; replace BK335 := bbw BK335 hb; replace BK336 := bbw BK336 hb; clear HO_7; clear HB; have HO_7 := n0_; have HB := n1_; clear n0_ n1_; (try clear hb); (try clear hb2); (try clear hk); (try clear hi)) | ((with_reducible refine gate_dst (N := 11) rfl ?_); (try (refine gate_guard (by rfl) ?_; dsimp only)); refine box_event ?hg (N := 11) ?hd (cs := #[.int .i64 0, .int .i64 0, .int .i64 0, .int .i64 0, .int .i64 0]) (t := 23) ?hr ?_; (case hd => rfl); (case hg => rfl); (case hr => first | (go_simp; done) | (go_simp; rfl)); intro gb353 hg w188 hbox hb; have n0_ := Aside0.mk (Kd.R_below (by (with_reducible repeat (first | apply Kd.R_alloc | apply Kd.R_drewN | apply Kd.R_drew)); exact HO_7.out) hb); have n1_ := bst HB hb; have n2_ := Aside0.mk (hbox); have n3_ := bsz HB hg; have n4_ := bsz HB hg; have n5_ := bn1 BK335 hg; have n6_ := bn2 BK335 hg; have n7_ := bn1 BK336 hg; have n8_ := bn2 BK336 hg; replace BK335 := bbw BK335 hb; replace BK336 := bbw BK336 hb; clear HO_7; clear HB; have HO_7 := n0_; have HB := n1_; have BK353 := n2_; have GW353 := n3_; have GE353 := n4_; have NB335_353 := n5_; have NB353_335 := n6_; have NB336_353 := n7_; have NB353_336 := n8_; clear n0_ n1_ n2_ n3_ n4_ n5_ n6_ n7_ n8_; clear hb hbox hg; have hnb189 := NB353_335.out; have hnc189 := NB335_353.out; have hnb190 := NB353_336.out; have hnc190 := NB336_353.out; have hcz191_0 := hcz BK353 0; have hcz191_1 := hcz BK353 1; have hcz191_2 := hcz BK353 2; have hcz191_3 := hcz BK353 3; have hcz191_4 := hcz BK353 4; have hfz191_0 := blk_frozen BK353.out 0; have hfz191_1 := blk_frozen BK353.out 1; have hfz191_2 := blk_frozen BK353.out 2; have hfz191_3 := blk_frozen BK353.out 3; have hfz191_4 := blk_frozen BK353.out 4; have hcz192_0 := hcz BK335 0; have hcz192_1 := hcz BK335 1; have hcz192_2 := hcz BK335 2; have hcz192_3 := hcz BK335 3; have hcz192_4 := hcz BK335 4; have hfz192_0 := blk_frozen BK335.out 0; have hfz192_1 := blk_frozen BK335.out 1; have hfz192_2 := blk_frozen BK335.out 2; have hfz192_3 := blk_frozen BK335.out 3; have hfz192_4 := blk_frozen BK335.out 4; have hcz193_0 := hcz BK336 0; have hcz193_1 := hcz BK336 1; have hcz193_2 := hcz BK336 2; have hcz193_3 := hcz BK336 3; have hcz193_4 := hcz BK336 4; have hfz193_0 := blk_frozen BK336.out 0; have hfz193_1 := blk_frozen BK336.out 1; have hfz193_2 := blk_frozen BK336.out 2; have hfz193_3 := blk_frozen BK336.out 3; have hfz193_4 := blk_frozen BK336.out 4) | ((with_reducible refine gate_callee (f := 12) rfl ?_); refine goesL_ (some 83) rfl rfl Try.func12 (by kernel_rfl) rfl #[.agg #[.int .i64 a0_0, .int .i64 a0_1, .int .i64 a0_2, .int .i64 a0_3, .int .i64 a0_4], .agg #[.int .i64 a1_0, .int .i64 a1_1, .int .i64 a1_2, .int .i64 a1_3, .int .i64 a1_4]] rfl (by (try simp only [List.map_toArray, List.map_cons, List.map_nil]); first | done | rfl | (simp only [List.length_drop, List.length_take]; rfl)) ?_; (with_reducible refine (linear_Sub.calls kj11 a0_0 a0_1 a0_2 a0_3 a0_4 a1_0 a1_1 a1_2 a1_3 a1_4 t354 t355 t356 t357 t358 true _ A64.out).mono ?_); rintro e w194 ⟨rfl, hb⟩; refine ⟨_, rfl, ?_⟩; have n0_ := Aside0.mk (Kd.R_below (by (with_reducible repeat (first | apply Kd.R_alloc | apply Kd.R_drewN | apply Kd.R_drew)); exact (Kd.R_mono (Kd.R_far (p := ⟨gb353, 4, none⟩) (Kd.R_far (p := ⟨gb353, 3, none⟩) (Kd.R_far (p := ⟨gb353, 2, none⟩) (Kd.R_far (p := ⟨gb353, 1, none⟩) (Kd.R_far (p := ⟨gb353, 0, none⟩) (Kd.R_types HO_7.out BK353.out (by decide)) (fun _ hk => hk.2) (.int .i64 t347)) (fun _ hk => hk.2) (.int .i64 t348)) (fun _ hk => hk.2) (.int .i64 t349)) (fun _ hk => hk.2) (.int .i64 t350)) (fun _ hk => hk.2) (.int .i64 t351)) (fun _ h_ => h_.1))) hb); have n1_ := Aside0.mk (blk_below (g := gb335) (o := .cells #[.int .i64 a0_0, .int .i64 a0_1, .int .i64 a0_2, .int .i64 a0_3, .int .i64 a0_4] 23 (0, 0)) (by refine pkB ?_; refine blk_far ?_ NB335_353.out _; refine pkB ?_; refine blk_far ?_ NB335_353.out _; refine pkB ?_; refine blk_far ?_ NB335_353.out _; refine pkB ?_; refine blk_far ?_ NB335_353.out _; refine pkB ?_; refine blk_far ?_ NB335_353.out _; refine pkB ?_; exact BK335.out) hb); have n2_ := Aside0.mk (blk_below (g := gb336) (o := .cells #[.int .i64 a1_0, .int .i64 a1_1, .int .i64 a1_2, .int .i64 a1_3, .int .i64 a1_4] 23 (0, 0)) (by refine pkB ?_; refine blk_far ?_ NB336_353.out _; refine pkB ?_; refine blk_far ?_ NB336_353.out _; refine pkB ?_; refine blk_far ?_ NB336_353.out _; refine pkB ?_; refine blk_far ?_ NB336_353.out _; refine pkB ?_; refine blk_far ?_ NB336_353.out _; refine pkB ?_; exact BK336.out) hb); have n3_ := Aside0.mk (blk_below (g := gb353) (o := .cells #[.int .i64 t347, .int .i64 t348, .int .i64 t349, .int .i64 t350, .int .i64 t351] 23 (0, 0)) (by refine pkB ?_; refine blk_put (cs := #[.int .i64 t347, .int .i64 t348, .int .i64 t349, .int .i64 t350, .int .i64 0]) ?_ 4 _ (by first | rfl | (subst_vars; rfl)); refine pkB ?_; refine blk_put (cs := #[.int .i64 t347, .int .i64 t348, .int .i64 t349, .int .i64 0, .int .i64 0]) ?_ 3 _ (by first | rfl | (subst_vars; rfl)); refine pkB ?_; refine blk_put (cs := #[.int .i64 t347, .int .i64 t348, .int .i64 0, .int .i64 0, .int .i64 0]) ?_ 2 _ (by first | rfl | (subst_vars; rfl)); refine pkB ?_; refine blk_put (cs := #[.int .i64 t347, .int .i64 0, .int .i64 0, .int .i64 0, .int .i64 0]) ?_ 1 _ (by first | rfl | (subst_vars; rfl)); refine pkB ?_; refine blk_put (cs := #[.int .i64 0, .int .i64 0, .int .i64 0, .int .i64 0, .int .i64 0]) ?_ 0 _ (by first | rfl | (subst_vars; rfl)); refine pkB ?_; exact BK353.out) hb); have n4_ := bst HB hb; clear HO_7; clear BK335; clear BK336; clear BK353; clear HB; have HO_7 := n0_; have BK335 := n1_; have BK336 := n2_; have BK353 := n3_; have HB := n4_; clear n0_ n1_ n2_ n3_ n4_; (try clear hb); (try clear hb2); (try clear hk); (try clear hi)) | ((with_reducible refine gate_dst (N := 13) rfl ?_); (try (refine gate_guard (by rfl) ?_; dsimp only)); refine box_event ?hg (N := 13) ?hd (cs := #[.int .i64 0, .int .i64 0, .int .i64 0, .int .i64 0, .int .i64 0]) (t := 23) ?hr ?_; (case hd => rfl); (case hg => rfl); (case hr => first | (go_simp; done) | (go_simp; rfl)); intro gb360 hg w195 hbox hb; have n0_ := Aside0.mk (Kd.R_below (by (with_reducible repeat (first | apply Kd.R_alloc | apply Kd.R_drewN | apply Kd.R_drew)); exact HO_7.out) hb); have n1_ := bst HB hb; have n2_ := Aside0.mk (hbox); have n3_ := bsz HB hg; have n4_ := bsz HB hg; have n5_ := bn1 BK335 hg; have n6_ := bn2 BK335 hg; have n7_ := bn1 BK336 hg; have n8_ := bn2 BK336 hg; have n9_ := bn1 BK353 hg; have n10_ := bn2 BK353 hg; replace BK335 := bbw BK335 hb; replace BK336 := bbw BK336 hb; replace BK353 := bbw BK353 hb; clear HO_7; clear HB; have HO_7 := n0_; have HB := n1_; have BK360 := n2_; have GW360 := n3_; have GE360 := n4_; have NB335_360 := n5_; have NB360_335 := n6_; have NB336_360 := n7_; have NB360_336 := n8_; have NB353_360 := n9_; have NB360_353 := n10_; clear n0_ n1_ n2_ n3_ n4_ n5_ n6_ n7_ n8_ n9_ n10_; clear hb hbox hg; have hnb196 := NB360_335.out; have hnc196 := NB335_360.out; have hnb197 := NB360_336.out; have hnc197 := NB336_360.out; have hnb198 := NB360_353.out; have hnc198 := NB353_360.out; have hcz199_0 := hcz BK360 0; have hcz199_1 := hcz BK360 1; have hcz199_2 := hcz BK360 2; have hcz199_3 := hcz BK360 3; have hcz199_4 := hcz BK360 4; have hfz199_0 := blk_frozen BK360.out 0; have hfz199_1 := blk_frozen BK360.out 1; have hfz199_2 := blk_frozen BK360.out 2; have hfz199_3 := blk_frozen BK360.out 3; have hfz199_4 := blk_frozen BK360.out 4; have hcz200_0 := hcz BK335 0; have hcz200_1 := hcz BK335 1; have hcz200_2 := hcz BK335 2; have hcz200_3 := hcz BK335 3; have hcz200_4 := hcz BK335 4; have hfz200_0 := blk_frozen BK335.out 0; have hfz200_1 := blk_frozen BK335.out 1; have hfz200_2 := blk_frozen BK335.out 2; have hfz200_3 := blk_frozen BK335.out 3; have hfz200_4 := blk_frozen BK335.out 4) | ((with_reducible refine gate_callee (f := 13) rfl ?_); refine goesL_ (some 88) rfl rfl Try.func13 (by kernel_rfl) rfl #[.agg #[.int .i64 a0_0, .int .i64 a0_1, .int .i64 a0_2, .int .i64 a0_3, .int .i64 a0_4]] rfl (by (try simp only [List.map_toArray, List.map_cons, List.map_nil]); first | done | rfl | (simp only [List.length_drop, List.length_take]; rfl)) ?_; (with_reducible refine (linear_Neg.calls kj11 a0_0 a0_1 a0_2 a0_3 a0_4 t361 t362 t363 t364 t365 true _ A65.out).mono ?_); rintro e w201 ⟨rfl, hb⟩; refine ⟨_, rfl, ?_⟩; have n0_ := Aside0.mk (Kd.R_below (by (with_reducible repeat (first | apply Kd.R_alloc | apply Kd.R_drewN | apply Kd.R_drew)); exact (Kd.R_mono (Kd.R_far (p := ⟨gb360, 4, none⟩) (Kd.R_far (p := ⟨gb360, 3, none⟩) (Kd.R_far (p := ⟨gb360, 2, none⟩) (Kd.R_far (p := ⟨gb360, 1, none⟩) (Kd.R_far (p := ⟨gb360, 0, none⟩) (Kd.R_types HO_7.out BK360.out (by decide)) (fun _ hk => hk.2) (.int .i64 t354)) (fun _ hk => hk.2) (.int .i64 t355)) (fun _ hk => hk.2) (.int .i64 t356)) (fun _ hk => hk.2) (.int .i64 t357)) (fun _ hk => hk.2) (.int .i64 t358)) (fun _ h_ => h_.1))) hb); have n1_ := Aside0.mk (blk_below (g := gb335) (o := .cells #[.int .i64 a0_0, .int .i64 a0_1, .int .i64 a0_2, .int .i64 a0_3, .int .i64 a0_4] 23 (0, 0)) (by refine pkB ?_; refine blk_far ?_ NB335_360.out _; refine pkB ?_; refine blk_far ?_ NB335_360.out _; refine pkB ?_; refine blk_far ?_ NB335_360.out _; refine pkB ?_; refine blk_far ?_ NB335_360.out _; refine pkB ?_; refine blk_far ?_ NB335_360.out _; refine pkB ?_; exact BK335.out) hb); have n2_ := Aside0.mk (blk_below (g := gb336) (o := .cells #[.int .i64 a1_0, .int .i64 a1_1, .int .i64 a1_2, .int .i64 a1_3, .int .i64 a1_4] 23 (0, 0)) (by refine pkB ?_; refine blk_far ?_ NB336_360.out _; refine pkB ?_; refine blk_far ?_ NB336_360.out _; refine pkB ?_; refine blk_far ?_ NB336_360.out _; refine pkB ?_; refine blk_far ?_ NB336_360.out _; refine pkB ?_; refine blk_far ?_ NB336_360.out _; refine pkB ?_; exact BK336.out) hb); have n3_ := Aside0.mk (blk_below (g := gb353) (o := .cells #[.int .i64 t347, .int .i64 t348, .int .i64 t349, .int .i64 t350, .int .i64 t351] 23 (0, 0)) (by refine pkB ?_; refine blk_far ?_ NB353_360.out _; refine pkB ?_; refine blk_far ?_ NB353_360.out _; refine pkB ?_; refine blk_far ?_ NB353_360.out _; refine pkB ?_; refine blk_far ?_ NB353_360.out _; refine pkB ?_; refine blk_far ?_ NB353_360.out _; refine pkB ?_; exact BK353.out) hb); have n4_ := Aside0.mk (blk_below (g := gb360) (o := .cells #[.int .i64 t354, .int .i64 t355, .int .i64 t356, .int .i64 t357, .int .i64 t358] 23 (0, 0)) (by refine pkB ?_; refine blk_put (cs := #[.int .i64 t354, .int .i64 t355, .int .i64 t356, .int .i64 t357, .int .i64 0]) ?_ 4 _ (by first | rfl | (subst_vars; rfl)); refine pkB ?_; refine blk_put (cs := #[.int .i64 t354, .int .i64 t355, .int .i64 t356, .int .i64 0, .int .i64 0]) ?_ 3 _ (by first | rfl | (subst_vars; rfl)); refine pkB ?_; refine blk_put (cs := #[.int .i64 t354, .int .i64 t355, .int .i64 0, .int .i64 0, .int .i64 0]) ?_ 2 _ (by first | rfl | (subst_vars; rfl)); refine pkB ?_; refine blk_put (cs := #[.int .i64 t354, .int .i64 0, .int .i64 0, .int .i64 0, .int .i64 0]) ?_ 1 _ (by first | rfl | (subst_vars; rfl)); refine pkB ?_; refine blk_put (cs := #[.int .i64 0, .int .i64 0, .int .i64 0, .int .i64 0, .int .i64 0]) ?_ 0 _ (by first | rfl | (subst_vars; rfl)); refine pkB ?_; exact BK360.out) hb); have n5_ := bst HB hb; clear HO_7; clear BK335; clear BK336; clear BK353; clear BK360; clear HB; have HO_7 := n0_; have BK335 := n1_; have BK336 := n2_; have BK353 := n3_; have BK360 := n4_; have HB := n5_; clear n0_ n1_ n2_ n3_ n4_ n5_; (try clear hb); (try clear hb2); (try clear hk); (try clear hi)) | ((with_reducible refine gate_dst (N := 15) rfl ?_); (try (refine gate_guard (by rfl) ?_; dsimp only)); refine box_event ?hg (N := 15) ?hd (cs := #[.int .i64 0, .int .i64 0, .int .i64 0, .int .i64 0, .int .i64 0]) (t := 23) ?hr ?_; (case hd => rfl); (case hg => rfl); (case hr => first | (go_simp; done) | (go_simp; rfl)); intro gb367 hg w202 hbox hb; have n0_ := Aside0.mk (Kd.R_below (by (with_reducible repeat (first | apply Kd.R_alloc | apply Kd.R_drewN | apply Kd.R_drew)); exact HO_7.out) hb); have n1_ := bst HB hb; have n2_ := Aside0.mk (hbox); have n3_ := bsz HB hg; have n4_ := bsz HB hg; have n5_ := bn1 BK335 hg; have n6_ := bn2 BK335 hg; have n7_ := bn1 BK336 hg; have n8_ := bn2 BK336 hg; have n9_ := bn1 BK353 hg; have n10_ := bn2 BK353 hg; have n11_ := bn1 BK360 hg; have n12_ := bn2 BK360 hg; replace BK335 := bbw BK335 hb; replace BK336 := bbw BK336 hb; replace BK353 := bbw BK353 hb; replace BK360 := bbw BK360 hb; clear HO_7; clear HB; have HO_7 := n0_; have HB := n1_; have BK367 := n2_; have GW367 := n3_; have GE367 := n4_; have NB335_367 := n5_; have NB367_335 := n6_; have NB336_367 := n7_; have NB367_336 := n8_; have NB353_367 := n9_; have NB367_353 := n10_; have NB360_367 := n11_; have NB367_360 := n12_; clear n0_ n1_ n2_ n3_ n4_ n5_ n6_ n7_ n8_ n9_ n10_ n11_ n12_; clear hb hbox hg; have hnb203 := NB367_335.out; have hnc203 := NB335_367.out; have hnb204 := NB367_336.out; have hnc204 := NB336_367.out; have hnb205 := NB367_353.out; have hnc205 := NB353_367.out; have hnb206 := NB367_360.out; have hnc206 := NB360_367.out; have hcz207_0 := hcz BK367 0; have hcz207_1 := hcz BK367 1; have hcz207_2 := hcz BK367 2; have hcz207_3 := hcz BK367 3; have hcz207_4 := hcz BK367 4; have hfz207_0 := blk_frozen BK367.out 0; have hfz207_1 := blk_frozen BK367.out 1; have hfz207_2 := blk_frozen BK367.out 2; have hfz207_3 := blk_frozen BK367.out 3; have hfz207_4 := blk_frozen BK367.out 4; have hcz208_0 := hcz BK360 0; have hcz208_1 := hcz BK360 1; have hcz208_2 := hcz BK360 2; have hcz208_3 := hcz BK360 3; have hcz208_4 := hcz BK360 4; have hfz208_0 := blk_frozen BK360.out 0; have hfz208_1 := blk_frozen BK360.out 1; have hfz208_2 := blk_frozen BK360.out 2; have hfz208_3 := blk_frozen BK360.out 3; have hfz208_4 := blk_frozen BK360.out 4) | (go_at_call 17; (with_reducible refine (linear_Fit.calls kj11 t354 t355 t356 t357 t358 true _ A169.out).mono ?_); rintro e w209 ⟨rfl, hb⟩; have n0_ := Aside0.mk (Kd.R_below (by (with_reducible repeat (first | apply Kd.R_alloc | apply Kd.R_drewN | apply Kd.R_drew)); exact (Kd.R_mono (Kd.R_far (p := ⟨gb367, 4, none⟩) (Kd.R_far (p := ⟨gb367, 3, none⟩) (Kd.R_far (p := ⟨gb367, 2, none⟩) (Kd.R_far (p := ⟨gb367, 1, none⟩) (Kd.R_far (p := ⟨gb367, 0, none⟩) (Kd.R_types HO_7.out BK367.out (by decide)) (fun _ hk => hk.2) (.int .i64 t361)) (fun _ hk => hk.2) (.int .i64 t362)) (fun _ hk => hk.2) (.int .i64 t363)) (fun _ hk => hk.2) (.int .i64 t364)) (fun _ hk => hk.2) (.int .i64 t365)) (fun _ h_ => h_.1))) hb); have n1_ := Aside0.mk (blk_below (g := gb335) (o := .cells #[.int .i64 a0_0, .int .i64 a0_1, .int .i64 a0_2, .int .i64 a0_3, .int .i64 a0_4] 23 (0, 0)) (by refine pkB ?_; refine blk_far ?_ NB335_367.out _; refine pkB ?_; refine blk_far ?_ NB335_367.out _; refine pkB ?_; refine blk_far ?_ NB335_367.out _; refine pkB ?_; refine blk_far ?_ NB335_367.out _; refine pkB ?_; refine blk_far ?_ NB335_367.out _; refine pkB ?_; exact BK335.out) hb); have n2_ := Aside0.mk (blk_below (g := gb336) (o := .cells #[.int .i64 a1_0, .int .i64 a1_1, .int .i64 a1_2, .int .i64 a1_3, .int .i64 a1_4] 23 (0, 0)) (by refine pkB ?_; refine blk_far ?_ NB336_367.out _; refine pkB ?_; refine blk_far ?_ NB336_367.out _; refine pkB ?_; refine blk_far ?_ NB336_367.out _; refine pkB ?_; refine blk_far ?_ NB336_367.out _; refine pkB ?_; refine blk_far ?_ NB336_367.out _; refine pkB ?_; exact BK336.out) hb); have n3_ := Aside0.mk (blk_below (g := gb353) (o := .cells #[.int .i64 t347, .int .i64 t348, .int .i64 t349, .int .i64 t350, .int .i64 t351] 23 (0, 0)) (by refine pkB ?_; refine blk_far ?_ NB353_367.out _; refine pkB ?_; refine blk_far ?_ NB353_367.out _; refine pkB ?_; refine blk_far ?_ NB353_367.out _; refine pkB ?_; refine blk_far ?_ NB353_367.out _; refine pkB ?_; refine blk_far ?_ NB353_367.out _; refine pkB ?_; exact BK353.out) hb); have n4_ := Aside0.mk (blk_below (g := gb360) (o := .cells #[.int .i64 t354, .int .i64 t355, .int .i64 t356, .int .i64 t357, .int .i64 t358] 23 (0, 0)) (by refine pkB ?_; refine blk_far ?_ NB360_367.out _; refine pkB ?_; refine blk_far ?_ NB360_367.out _; refine pkB ?_; refine blk_far ?_ NB360_367.out _; refine pkB ?_; refine blk_far ?_ NB360_367.out _; refine pkB ?_; refine blk_far ?_ NB360_367.out _; refine pkB ?_; exact BK360.out) hb); have n5_ := Aside0.mk (blk_below (g := gb367) (o := .cells #[.int .i64 t361, .int .i64 t362, .int .i64 t363, .int .i64 t364, .int .i64 t365] 23 (0, 0)) (by refine pkB ?_; refine blk_put (cs := #[.int .i64 t361, .int .i64 t362, .int .i64 t363, .int .i64 t364, .int .i64 0]) ?_ 4 _ (by first | rfl | (subst_vars; rfl)); refine pkB ?_; refine blk_put (cs := #[.int .i64 t361, .int .i64 t362, .int .i64 t363, .int .i64 0, .int .i64 0]) ?_ 3 _ (by first | rfl | (subst_vars; rfl)); refine pkB ?_; refine blk_put (cs := #[.int .i64 t361, .int .i64 t362, .int .i64 0, .int .i64 0, .int .i64 0]) ?_ 2 _ (by first | rfl | (subst_vars; rfl)); refine pkB ?_; refine blk_put (cs := #[.int .i64 t361, .int .i64 0, .int .i64 0, .int .i64 0, .int .i64 0]) ?_ 1 _ (by first | rfl | (subst_vars; rfl)); refine pkB ?_; refine blk_put (cs := #[.int .i64 0, .int .i64 0, .int .i64 0, .int .i64 0, .int .i64 0]) ?_ 0 _ (by first | rfl | (subst_vars; rfl)); refine pkB ?_; exact BK367.out) hb); have n6_ := bst HB hb; clear HO_7; clear BK335; clear BK336; clear BK353; clear BK360; clear BK367; clear HB; have HO_7 := n0_; have BK335 := n1_; have BK336 := n2_; have BK353 := n3_; have BK360 := n4_; have BK367 := n5_; have HB := n6_; clear n0_ n1_ n2_ n3_ n4_ n5_ n6_; (try clear hb); (try clear hb2); (try clear hk); (try clear hi); have hcz210_0 := hcz BK360 0; have hcz210_1 := hcz BK360 1; have hcz210_2 := hcz BK360 2; have hcz210_3 := hcz BK360 3; have hcz210_4 := hcz BK360 4; have hfz210_0 := blk_frozen BK360.out 0; have hfz210_1 := blk_frozen BK360.out 1; have hfz210_2 := blk_frozen BK360.out 2; have hfz210_3 := blk_frozen BK360.out 3; have hfz210_4 := blk_frozen BK360.out 4) | (go_at_call 8; (with_reducible refine (linear_Value.calls kj11 t354 t355 t356 t357 t358 _ _ x7_1 t379 _ ?side1 ?side2 A171.out).mono ?_); (case side1 => repeat (first | exact (Kd.R_reads' HO_7.out).2.2 | (with_reducible refine Kd.C_alloc ?_ _) | (with_reducible refine Kd.C_drewN ?_ _) | (with_reducible refine Kd.C_drew ?_))); (case side2 => exact (Kd.R_reads' HO_7.out).2.1); rintro e w211 ⟨rfl, hb⟩; have n0_ := Aside0.mk (Kd.R_below (by (with_reducible repeat (first | apply Kd.R_alloc | apply Kd.R_drewN | apply Kd.R_drew)); exact HO_7.out) hb); have n1_ := bst HB hb; replace BK335 := bbw BK335 hb; replace BK336 := bbw BK336 hb; replace BK353 := bbw BK353 hb; replace BK360 := bbw BK360 hb; replace BK367 := bbw BK367 hb; clear HO_7; clear HB; have HO_7 := n0_; have HB := n1_; clear n0_ n1_; (try clear hb); (try clear hb2); (try clear hk); (try clear hi); have hcz212_0 := hcz BK367 0; have hcz212_1 := hcz BK367 1; have hcz212_2 := hcz BK367 2; have hcz212_3 := hcz BK367 3; have hcz212_4 := hcz BK367 4; have hfz212_0 := blk_frozen BK367.out 0; have hfz212_1 := blk_frozen BK367.out 1; have hfz212_2 := blk_frozen BK367.out 2; have hfz212_3 := blk_frozen BK367.out 3; have hfz212_4 := blk_frozen BK367.out 4) | (go_at_call 17; (with_reducible refine (linear_Fit.calls kj11 t361 t362 t363 t364 t365 true _ A174.out).mono ?_); rintro e w213 ⟨rfl, hb⟩; have n0_ := Aside0.mk (Kd.R_below (by (with_reducible repeat (first | apply Kd.R_alloc | apply Kd.R_drewN | apply Kd.R_drew)); exact HO_7.out) hb); have n1_ := bst HB hb; replace BK335 := bbw BK335 hb; replace BK336 := bbw BK336 hb; replace BK353 := bbw BK353 hb; replace BK360 := bbw BK360 hb; replace BK367 := bbw BK367 hb; clear HO_7; clear HB; have HO_7 := n0_; have HB := n1_; clear n0_ n1_; (try clear hb); (try clear hb2); (try clear hk); (try clear hi); have hcz214_0 := hcz BK367 0; have hcz214_1 := hcz BK367 1; have hcz214_2 := hcz BK367 2; have hcz214_3 := hcz BK367 3; have hcz214_4 := hcz BK367 4; have hfz214_0 := blk_frozen BK367.out 0; have hfz214_1 := blk_frozen BK367.out 1; have hfz214_2 := blk_frozen BK367.out 2; have hfz214_3 := blk_frozen BK367.out 3; have hfz214_4 := blk_frozen BK367.out 4) | (go_at_call 8; (with_reducible refine (linear_Value.calls kj11 t361 t362 t363 t364 t365 _ _ x7_1 t381 _ ?side1 ?side2 A176.out).mono ?_); (case side1 => repeat (first | exact (Kd.R_reads' HO_7.out).2.2 | (with_reducible refine Kd.C_alloc ?_ _) | (with_reducible refine Kd.C_drewN ?_ _) | (with_reducible refine Kd.C_drew ?_))); (case side2 => exact (Kd.R_reads' HO_7.out).2.1); rintro e w215 ⟨rfl, hb⟩; have n0_ := Aside0.mk (Kd.R_below (by (with_reducible repeat (first | apply Kd.R_alloc | apply Kd.R_drewN | apply Kd.R_drew)); exact HO_7.out) hb); have n1_ := bst HB hb; replace BK335 := bbw BK335 hb; replace BK336 := bbw BK336 hb; replace BK353 := bbw BK353 hb; replace BK360 := bbw BK360 hb; replace BK367 := bbw BK367 hb; clear HO_7; clear HB; have HO_7 := n0_; have HB := n1_; clear n0_ n1_; (try clear hb); (try clear hb2); (try clear hk); (try clear hi)) | (go_at_call 10; (with_reducible refine (gimballaw14_awake.calls kj11  t382 _ A178.out).mono ?_); rintro e w216 ⟨rfl, hb⟩; have n0_ := Aside0.mk (Kd.R_below (by (with_reducible repeat (first | apply Kd.R_alloc | apply Kd.R_drewN | apply Kd.R_drew)); exact HO_7.out) hb); have n1_ := bst HB hb; replace BK335 := bbw BK335 hb; replace BK336 := bbw BK336 hb; replace BK353 := bbw BK353 hb; replace BK360 := bbw BK360 hb; replace BK367 := bbw BK367 hb; clear HO_7; clear HB; have HO_7 := n0_; have HB := n1_; clear n0_ n1_; (try clear hb); (try clear hb2); (try clear hk); (try clear hi)))
               go_ret
               exact ⟨by first | rfl | (simp [errW_none, errW_some] <;> rfl) | (simp [*, errW_none, errW_some] <;> rfl) | kernel_rfl, by repeat (first | (with_reducible first | exact HB.out | apply below_alloc | apply pw_below_drewN | apply below_drew1 | refine below_set ?_ GE335.out | refine below_set ?_ GE336.out | refine below_set ?_ GE353.out | refine below_set ?_ GE360.out | refine below_set ?_ GE367.out) | exact HB.out)⟩
              ·
               rw [if_neg c177] at H
               have c177b0 : (t381 == (wrap64 (-t345))) = false := beq_eq_false_iff_ne.mpr c177
               have c177b1 : (t381 != (wrap64 (-t345))) = true := bne_iff_ne.mpr c177
               exact absurd H (by simp)
             ·
              replace c175 := Bool.eq_false_iff.mpr c175
              subst c175
              have H1 : (some false) = some true := by rw [if_neg (show ¬ (false = true) by decide)] at H; exact H
              clear H
              have H := H1
              clear H1
              exact absurd H (by simp)
            ·
             replace c173 := Bool.eq_false_iff.mpr c173
             subst c173
             have H1 : (some false) = some true := by rw [if_neg (show ¬ (false = true) by decide)] at H; exact H
             clear H
             have H := H1
             clear H1
             exact absurd H (by simp)
           ·
            rw [if_neg c172] at H
            have c172b0 : (t379 == (wrap64 (t345 - t346))) = false := beq_eq_false_iff_ne.mpr c172
            have c172b1 : (t379 != (wrap64 (t345 - t346))) = true := bne_iff_ne.mpr c172
            exact absurd H (by simp)
          ·
           replace c170 := Bool.eq_false_iff.mpr c170
           subst c170
           have H1 : (some false) = some true := by rw [if_neg (show ¬ (false = true) by decide)] at H; exact H
           clear H
           have H := H1
           clear H1
           exact absurd H (by simp)
         ·
          replace c168 := Bool.eq_false_iff.mpr c168
          subst c168
          have H1 : (if t366 = true then ((linear_Fit.f kj11 t361 t362 t363 t364 t365).bind fun t383 => (if t383 = true then ((linear_Value.f kj11 t361 t362 t363 t364 t365 x7_1).bind fun t384 => (if t384 = (wrap64 (-t345)) then ((gimballaw14_awake.f kj11).bind fun t385 => (some t385)) else (some false))) else (some false))) else (some false)) = some true := by rw [if_neg (show ¬ (false = true) by decide)] at H; exact H
          clear H
          have H := H1
          clear H1
          by_cases c217 : t366 = true
          ·
           subst c217
           have H1 : ((linear_Fit.f kj11 t361 t362 t363 t364 t365).bind fun t383 => (if t383 = true then ((linear_Value.f kj11 t361 t362 t363 t364 t365 x7_1).bind fun t384 => (if t384 = (wrap64 (-t345)) then ((gimballaw14_awake.f kj11).bind fun t385 => (some t385)) else (some false))) else (some false))) = some true := by rw [if_pos rfl] at H; exact H
           clear H
           have H := H1
           clear H1
           replace H := Option.bind_eq_some_iff.mp H
           obtain ⟨t383, A2180, H⟩ := H
           replace H : (if t383 = true then ((linear_Value.f kj11 t361 t362 t363 t364 t365 x7_1).bind fun t384 => (if t384 = (wrap64 (-t345)) then ((gimballaw14_awake.f kj11).bind fun t385 => (some t385)) else (some false))) else (some false)) = some true := H
           have A218 := Aside0.mk A2180
           clear A2180
           by_cases c219 : t383 = true
           ·
            subst c219
            have H1 : ((linear_Value.f kj11 t361 t362 t363 t364 t365 x7_1).bind fun t384 => (if t384 = (wrap64 (-t345)) then ((gimballaw14_awake.f kj11).bind fun t385 => (some t385)) else (some false))) = some true := by rw [if_pos rfl] at H; exact H
            clear H
            have H := H1
            clear H1
            replace H := Option.bind_eq_some_iff.mp H
            obtain ⟨t384, A2200, H⟩ := H
            replace H : (if t384 = (wrap64 (-t345)) then ((gimballaw14_awake.f kj11).bind fun t385 => (some t385)) else (some false)) = some true := H
            have A220 := Aside0.mk A2200
            clear A2200
            by_cases c221 : t384 = (wrap64 (-t345))
            ·
             rw [if_pos c221] at H
             have c221b0 : (t384 == (wrap64 (-t345))) = true := beq_iff_eq.mpr c221
             have c221b1 : (t384 != (wrap64 (-t345))) = false := bne_eq_false_iff_eq.mpr c221
             clear c221
             replace H := Option.bind_eq_some_iff.mp H
             obtain ⟨t385, A2220, H⟩ := H
             replace H : (some t385) = some true := H
             have A222 := Aside0.mk A2220
             clear A2220
             have hret_ := Option.some.inj H
             clear H
             have hnb223 := NB335_336.out
             have hnc223 := NB336_335.out
             have hcz224_0 := hcz BK335 0
             have hcz224_1 := hcz BK335 1
             have hcz224_2 := hcz BK335 2
             have hcz224_3 := hcz BK335 3
             have hcz224_4 := hcz BK335 4
             have hfz224_0 := blk_frozen BK335.out 0
             have hfz224_1 := blk_frozen BK335.out 1
             have hfz224_2 := blk_frozen BK335.out 2
             have hfz224_3 := blk_frozen BK335.out 3
             have hfz224_4 := blk_frozen BK335.out 4
             obtain ⟨Ao225, co225, eo225⟩ := Kd.R_slice HO_7.out
             subst eo225
             go_wp2_with (first | ((with_reducible refine gate_callee (f := 8) rfl ?_); refine goesL_ (some 70) rfl rfl Try.func8 (by kernel_rfl) rfl #[.agg #[.int .i64 a0_0, .int .i64 a0_1, .int .i64 a0_2, .int .i64 a0_3, .int .i64 a0_4], .slice Ao225 x7_1.length co225] rfl (by (try simp only [List.map_toArray, List.map_cons, List.map_nil]); first | done | rfl | (simp only [List.length_drop, List.length_take]; rfl)) ?_; (with_reducible refine (linear_Value.calls kj11 a0_0 a0_1 a0_2 a0_3 a0_4 _ _ x7_1 t345 _ ?side1 ?side2 A61.out).mono ?_); (case side1 => repeat (first | exact (Kd.R_reads' HO_7.out).2.2 | (with_reducible refine Kd.C_alloc ?_ _) | (with_reducible refine Kd.C_drewN ?_ _) | (with_reducible refine Kd.C_drew ?_))); (case side2 => exact (Kd.R_reads' HO_7.out).2.1); rintro e w226 ⟨rfl, hb⟩; refine ⟨_, rfl, ?_⟩; have n0_ := Aside0.mk (Kd.R_below (by (with_reducible repeat (first | apply Kd.R_alloc | apply Kd.R_drewN | apply Kd.R_drew)); exact HO_7.out) hb); have n1_ := bst HB hb; replace BK335 := bbw BK335 hb; replace BK336 := bbw BK336 hb; clear HO_7; clear HB; have HO_7 := n0_; have HB := n1_; clear n0_ n1_; (try clear hb); (try clear hb2); (try clear hk); (try clear hi); have hcz227_0 := hcz BK336 0; have hcz227_1 := hcz BK336 1; have hcz227_2 := hcz BK336 2; have hcz227_3 := hcz BK336 3; have hcz227_4 := hcz BK336 4; have hfz227_0 := blk_frozen BK336.out 0; have hfz227_1 := blk_frozen BK336.out 1; have hfz227_2 := blk_frozen BK336.out 2; have hfz227_3 := blk_frozen BK336.out 3; have hfz227_4 := blk_frozen BK336.out 4) | ((with_reducible refine gate_callee (f := 8) rfl ?_); refine goesL_ (some 73) rfl rfl Try.func8 (by kernel_rfl) rfl #[.agg #[.int .i64 a1_0, .int .i64 a1_1, .int .i64 a1_2, .int .i64 a1_3, .int .i64 a1_4], .slice Ao225 x7_1.length co225] rfl (by (try simp only [List.map_toArray, List.map_cons, List.map_nil]); first | done | rfl | (simp only [List.length_drop, List.length_take]; rfl)) ?_; (with_reducible refine (linear_Value.calls kj11 a1_0 a1_1 a1_2 a1_3 a1_4 _ _ x7_1 t346 _ ?side1 ?side2 A62.out).mono ?_); (case side1 => repeat (first | exact (Kd.R_reads' HO_7.out).2.2 | (with_reducible refine Kd.C_alloc ?_ _) | (with_reducible refine Kd.C_drewN ?_ _) | (with_reducible refine Kd.C_drew ?_))); (case side2 => exact (Kd.R_reads' HO_7.out).2.1); rintro e w228 ⟨rfl, hb⟩; refine ⟨_, rfl, ?_⟩; have n0_ := Aside0.mk (Kd.R_below (by (with_reducible repeat (first | apply Kd.R_alloc | apply Kd.R_drewN | apply Kd.R_drew)); exact HO_7.out) hb); have n1_ := bst HB hb; replace BK335 := bbw BK335 hb; replace BK336 := bbw BK336 hb; clear HO_7; clear HB; have HO_7 := n0_; have HB := n1_; clear n0_ n1_; (try clear hb); (try clear hb2); (try clear hk); (try clear hi); have hcz229_0 := hcz BK335 0; have hcz229_1 := hcz BK335 1; have hcz229_2 := hcz BK335 2; have hcz229_3 := hcz BK335 3; have hcz229_4 := hcz BK335 4; have hfz229_0 := blk_frozen BK335.out 0; have hfz229_1 := blk_frozen BK335.out 1; have hfz229_2 := blk_frozen BK335.out 2; have hfz229_3 := blk_frozen BK335.out 3; have hfz229_4 := blk_frozen BK335.out 4; have hcz230_0 := hcz BK336 0; have hcz230_1 := hcz BK336 1; have hcz230_2 := hcz BK336 2; have hcz230_3 := hcz BK336 3; have hcz230_4 := hcz BK336 4; have hfz230_0 := blk_frozen BK336.out 0; have hfz230_1 := blk_frozen BK336.out 1; have hfz230_2 := blk_frozen BK336.out 2; have hfz230_3 := blk_frozen BK336.out 3; have hfz230_4 := blk_frozen BK336.out 4) | ((with_reducible refine gate_callee (f := 11) rfl ?_); refine goesL_ (some 77) rfl rfl Try.func11 (by kernel_rfl) rfl #[.agg #[.int .i64 a0_0, .int .i64 a0_1, .int .i64 a0_2, .int .i64 a0_3, .int .i64 a0_4], .agg #[.int .i64 a1_0, .int .i64 a1_1, .int .i64 a1_2, .int .i64 a1_3, .int .i64 a1_4]] rfl (by (try simp only [List.map_toArray, List.map_cons, List.map_nil]); first | done | rfl | (simp only [List.length_drop, List.length_take]; rfl)) ?_; (with_reducible refine (linear_Add.calls kj11 a0_0 a0_1 a0_2 a0_3 a0_4 a1_0 a1_1 a1_2 a1_3 a1_4 t347 t348 t349 t350 t351 false _ A63.out).mono ?_); rintro e w231 ⟨rfl, hb⟩; refine ⟨_, rfl, ?_⟩; have n0_ := Aside0.mk (Kd.R_below (by (with_reducible repeat (first | apply Kd.R_alloc | apply Kd.R_drewN | apply Kd.R_drew)); exact HO_7.out) hb); have n1_ := bst HB hb; replace BK335 := bbw BK335 hb; replace BK336 := bbw BK336 hb; clear HO_7; clear HB; have HO_7 := n0_; have HB := n1_; clear n0_ n1_; (try clear hb); (try clear hb2); (try clear hk); (try clear hi)) | ((with_reducible refine gate_dst (N := 11) rfl ?_); (try (refine gate_guard (by rfl) ?_; dsimp only)); refine box_event ?hg (N := 11) ?hd (cs := #[.int .i64 0, .int .i64 0, .int .i64 0, .int .i64 0, .int .i64 0]) (t := 23) ?hr ?_; (case hd => rfl); (case hg => rfl); (case hr => first | (go_simp; done) | (go_simp; rfl)); intro gb353 hg w232 hbox hb; have n0_ := Aside0.mk (Kd.R_below (by (with_reducible repeat (first | apply Kd.R_alloc | apply Kd.R_drewN | apply Kd.R_drew)); exact HO_7.out) hb); have n1_ := bst HB hb; have n2_ := Aside0.mk (hbox); have n3_ := bsz HB hg; have n4_ := bsz HB hg; have n5_ := bn1 BK335 hg; have n6_ := bn2 BK335 hg; have n7_ := bn1 BK336 hg; have n8_ := bn2 BK336 hg; replace BK335 := bbw BK335 hb; replace BK336 := bbw BK336 hb; clear HO_7; clear HB; have HO_7 := n0_; have HB := n1_; have BK353 := n2_; have GW353 := n3_; have GE353 := n4_; have NB335_353 := n5_; have NB353_335 := n6_; have NB336_353 := n7_; have NB353_336 := n8_; clear n0_ n1_ n2_ n3_ n4_ n5_ n6_ n7_ n8_; clear hb hbox hg; have hnb233 := NB353_335.out; have hnc233 := NB335_353.out; have hnb234 := NB353_336.out; have hnc234 := NB336_353.out; have hcz235_0 := hcz BK353 0; have hcz235_1 := hcz BK353 1; have hcz235_2 := hcz BK353 2; have hcz235_3 := hcz BK353 3; have hcz235_4 := hcz BK353 4; have hfz235_0 := blk_frozen BK353.out 0; have hfz235_1 := blk_frozen BK353.out 1; have hfz235_2 := blk_frozen BK353.out 2; have hfz235_3 := blk_frozen BK353.out 3; have hfz235_4 := blk_frozen BK353.out 4; have hcz236_0 := hcz BK335 0; have hcz236_1 := hcz BK335 1; have hcz236_2 := hcz BK335 2; have hcz236_3 := hcz BK335 3; have hcz236_4 := hcz BK335 4; have hfz236_0 := blk_frozen BK335.out 0; have hfz236_1 := blk_frozen BK335.out 1; have hfz236_2 := blk_frozen BK335.out 2; have hfz236_3 := blk_frozen BK335.out 3; have hfz236_4 := blk_frozen BK335.out 4; have hcz237_0 := hcz BK336 0; have hcz237_1 := hcz BK336 1; have hcz237_2 := hcz BK336 2; have hcz237_3 := hcz BK336 3; have hcz237_4 := hcz BK336 4; have hfz237_0 := blk_frozen BK336.out 0; have hfz237_1 := blk_frozen BK336.out 1; have hfz237_2 := blk_frozen BK336.out 2; have hfz237_3 := blk_frozen BK336.out 3; have hfz237_4 := blk_frozen BK336.out 4) | ((with_reducible refine gate_callee (f := 12) rfl ?_); refine goesL_ (some 83) rfl rfl Try.func12 (by kernel_rfl) rfl #[.agg #[.int .i64 a0_0, .int .i64 a0_1, .int .i64 a0_2, .int .i64 a0_3, .int .i64 a0_4], .agg #[.int .i64 a1_0, .int .i64 a1_1, .int .i64 a1_2, .int .i64 a1_3, .int .i64 a1_4]] rfl (by (try simp only [List.map_toArray, List.map_cons, List.map_nil]); first | done | rfl | (simp only [List.length_drop, List.length_take]; rfl)) ?_; (with_reducible refine (linear_Sub.calls kj11 a0_0 a0_1 a0_2 a0_3 a0_4 a1_0 a1_1 a1_2 a1_3 a1_4 t354 t355 t356 t357 t358 false _ A64.out).mono ?_); rintro e w238 ⟨rfl, hb⟩; refine ⟨_, rfl, ?_⟩; have n0_ := Aside0.mk (Kd.R_below (by (with_reducible repeat (first | apply Kd.R_alloc | apply Kd.R_drewN | apply Kd.R_drew)); exact (Kd.R_mono (Kd.R_far (p := ⟨gb353, 4, none⟩) (Kd.R_far (p := ⟨gb353, 3, none⟩) (Kd.R_far (p := ⟨gb353, 2, none⟩) (Kd.R_far (p := ⟨gb353, 1, none⟩) (Kd.R_far (p := ⟨gb353, 0, none⟩) (Kd.R_types HO_7.out BK353.out (by decide)) (fun _ hk => hk.2) (.int .i64 t347)) (fun _ hk => hk.2) (.int .i64 t348)) (fun _ hk => hk.2) (.int .i64 t349)) (fun _ hk => hk.2) (.int .i64 t350)) (fun _ hk => hk.2) (.int .i64 t351)) (fun _ h_ => h_.1))) hb); have n1_ := Aside0.mk (blk_below (g := gb335) (o := .cells #[.int .i64 a0_0, .int .i64 a0_1, .int .i64 a0_2, .int .i64 a0_3, .int .i64 a0_4] 23 (0, 0)) (by refine pkB ?_; refine blk_far ?_ NB335_353.out _; refine pkB ?_; refine blk_far ?_ NB335_353.out _; refine pkB ?_; refine blk_far ?_ NB335_353.out _; refine pkB ?_; refine blk_far ?_ NB335_353.out _; refine pkB ?_; refine blk_far ?_ NB335_353.out _; refine pkB ?_; exact BK335.out) hb); have n2_ := Aside0.mk (blk_below (g := gb336) (o := .cells #[.int .i64 a1_0, .int .i64 a1_1, .int .i64 a1_2, .int .i64 a1_3, .int .i64 a1_4] 23 (0, 0)) (by refine pkB ?_; refine blk_far ?_ NB336_353.out _; refine pkB ?_; refine blk_far ?_ NB336_353.out _; refine pkB ?_; refine blk_far ?_ NB336_353.out _; refine pkB ?_; refine blk_far ?_ NB336_353.out _; refine pkB ?_; refine blk_far ?_ NB336_353.out _; refine pkB ?_; exact BK336.out) hb); have n3_ := Aside0.mk (blk_below (g := gb353) (o := .cells #[.int .i64 t347, .int .i64 t348, .int .i64 t349, .int .i64 t350, .int .i64 t351] 23 (0, 0)) (by refine pkB ?_; refine blk_put (cs := #[.int .i64 t347, .int .i64 t348, .int .i64 t349, .int .i64 t350, .int .i64 0]) ?_ 4 _ (by first | rfl | (subst_vars; rfl)); refine pkB ?_; refine blk_put (cs := #[.int .i64 t347, .int .i64 t348, .int .i64 t349, .int .i64 0, .int .i64 0]) ?_ 3 _ (by first | rfl | (subst_vars; rfl)); refine pkB ?_; refine blk_put (cs := #[.int .i64 t347, .int .i64 t348, .int .i64 0, .int .i64 0, .int .i64 0]) ?_ 2 _ (by first | rfl | (subst_vars; rfl)); refine pkB ?_; refine blk_put (cs := #[.int .i64 t347, .int .i64 0, .int .i64 0, .int .i64 0, .int .i64 0]) ?_ 1 _ (by first | rfl | (subst_vars; rfl)); refine pkB ?_; refine blk_put (cs := #[.int .i64 0, .int .i64 0, .int .i64 0, .int .i64 0, .int .i64 0]) ?_ 0 _ (by first | rfl | (subst_vars; rfl)); refine pkB ?_; exact BK353.out) hb); have n4_ := bst HB hb; clear HO_7; clear BK335; clear BK336; clear BK353; clear HB; have HO_7 := n0_; have BK335 := n1_; have BK336 := n2_; have BK353 := n3_; have HB := n4_; clear n0_ n1_ n2_ n3_ n4_; (try clear hb); (try clear hb2); (try clear hk); (try clear hi)) | ((with_reducible refine gate_dst (N := 13) rfl ?_); (try (refine gate_guard (by rfl) ?_; dsimp only)); refine box_event ?hg (N := 13) ?hd (cs := #[.int .i64 0, .int .i64 0, .int .i64 0, .int .i64 0, .int .i64 0]) (t := 23) ?hr ?_; (case hd => rfl); (case hg => rfl); (case hr => first | (go_simp; done) | (go_simp; rfl)); intro gb360 hg w239 hbox hb; have n0_ := Aside0.mk (Kd.R_below (by (with_reducible repeat (first | apply Kd.R_alloc | apply Kd.R_drewN | apply Kd.R_drew)); exact HO_7.out) hb); have n1_ := bst HB hb; have n2_ := Aside0.mk (hbox); have n3_ := bsz HB hg; have n4_ := bsz HB hg; have n5_ := bn1 BK335 hg; have n6_ := bn2 BK335 hg; have n7_ := bn1 BK336 hg; have n8_ := bn2 BK336 hg; have n9_ := bn1 BK353 hg; have n10_ := bn2 BK353 hg; replace BK335 := bbw BK335 hb; replace BK336 := bbw BK336 hb; replace BK353 := bbw BK353 hb; clear HO_7; clear HB; have HO_7 := n0_; have HB := n1_; have BK360 := n2_; have GW360 := n3_; have GE360 := n4_; have NB335_360 := n5_; have NB360_335 := n6_; have NB336_360 := n7_; have NB360_336 := n8_; have NB353_360 := n9_; have NB360_353 := n10_; clear n0_ n1_ n2_ n3_ n4_ n5_ n6_ n7_ n8_ n9_ n10_; clear hb hbox hg; have hnb240 := NB360_335.out; have hnc240 := NB335_360.out; have hnb241 := NB360_336.out; have hnc241 := NB336_360.out; have hnb242 := NB360_353.out; have hnc242 := NB353_360.out; have hcz243_0 := hcz BK360 0; have hcz243_1 := hcz BK360 1; have hcz243_2 := hcz BK360 2; have hcz243_3 := hcz BK360 3; have hcz243_4 := hcz BK360 4; have hfz243_0 := blk_frozen BK360.out 0; have hfz243_1 := blk_frozen BK360.out 1; have hfz243_2 := blk_frozen BK360.out 2; have hfz243_3 := blk_frozen BK360.out 3; have hfz243_4 := blk_frozen BK360.out 4; have hcz244_0 := hcz BK335 0; have hcz244_1 := hcz BK335 1; have hcz244_2 := hcz BK335 2; have hcz244_3 := hcz BK335 3; have hcz244_4 := hcz BK335 4; have hfz244_0 := blk_frozen BK335.out 0; have hfz244_1 := blk_frozen BK335.out 1; have hfz244_2 := blk_frozen BK335.out 2; have hfz244_3 := blk_frozen BK335.out 3; have hfz244_4 := blk_frozen BK335.out 4) | ((with_reducible refine gate_callee (f := 13) rfl ?_); refine goesL_ (some 88) rfl rfl Try.func13 (by kernel_rfl) rfl #[.agg #[.int .i64 a0_0, .int .i64 a0_1, .int .i64 a0_2, .int .i64 a0_3, .int .i64 a0_4]] rfl (by (try simp only [List.map_toArray, List.map_cons, List.map_nil]); first | done | rfl | (simp only [List.length_drop, List.length_take]; rfl)) ?_; (with_reducible refine (linear_Neg.calls kj11 a0_0 a0_1 a0_2 a0_3 a0_4 t361 t362 t363 t364 t365 true _ A65.out).mono ?_); rintro e w245 ⟨rfl, hb⟩; refine ⟨_, rfl, ?_⟩; have n0_ := Aside0.mk (Kd.R_below (by (with_reducible repeat (first | apply Kd.R_alloc | apply Kd.R_drewN | apply Kd.R_drew)); exact (Kd.R_mono (Kd.R_far (p := ⟨gb360, 4, none⟩) (Kd.R_far (p := ⟨gb360, 3, none⟩) (Kd.R_far (p := ⟨gb360, 2, none⟩) (Kd.R_far (p := ⟨gb360, 1, none⟩) (Kd.R_far (p := ⟨gb360, 0, none⟩) (Kd.R_types HO_7.out BK360.out (by decide)) (fun _ hk => hk.2) (.int .i64 t354)) (fun _ hk => hk.2) (.int .i64 t355)) (fun _ hk => hk.2) (.int .i64 t356)) (fun _ hk => hk.2) (.int .i64 t357)) (fun _ hk => hk.2) (.int .i64 t358)) (fun _ h_ => h_.1))) hb); have n1_ := Aside0.mk (blk_below (g := gb335) (o := .cells #[.int .i64 a0_0, .int .i64 a0_1, .int .i64 a0_2, .int .i64 a0_3, .int .i64 a0_4] 23 (0, 0)) (by refine pkB ?_; refine blk_far ?_ NB335_360.out _; refine pkB ?_; refine blk_far ?_ NB335_360.out _; refine pkB ?_; refine blk_far ?_ NB335_360.out _; refine pkB ?_; refine blk_far ?_ NB335_360.out _; refine pkB ?_; refine blk_far ?_ NB335_360.out _; refine pkB ?_; exact BK335.out) hb); have n2_ := Aside0.mk (blk_below (g := gb336) (o := .cells #[.int .i64 a1_0, .int .i64 a1_1, .int .i64 a1_2, .int .i64 a1_3, .int .i64 a1_4] 23 (0, 0)) (by refine pkB ?_; refine blk_far ?_ NB336_360.out _; refine pkB ?_; refine blk_far ?_ NB336_360.out _; refine pkB ?_; refine blk_far ?_ NB336_360.out _; refine pkB ?_; refine blk_far ?_ NB336_360.out _; refine pkB ?_; refine blk_far ?_ NB336_360.out _; refine pkB ?_; exact BK336.out) hb); have n3_ := Aside0.mk (blk_below (g := gb353) (o := .cells #[.int .i64 t347, .int .i64 t348, .int .i64 t349, .int .i64 t350, .int .i64 t351] 23 (0, 0)) (by refine pkB ?_; refine blk_far ?_ NB353_360.out _; refine pkB ?_; refine blk_far ?_ NB353_360.out _; refine pkB ?_; refine blk_far ?_ NB353_360.out _; refine pkB ?_; refine blk_far ?_ NB353_360.out _; refine pkB ?_; refine blk_far ?_ NB353_360.out _; refine pkB ?_; exact BK353.out) hb); have n4_ := Aside0.mk (blk_below (g := gb360) (o := .cells #[.int .i64 t354, .int .i64 t355, .int .i64 t356, .int .i64 t357, .int .i64 t358] 23 (0, 0)) (by refine pkB ?_; refine blk_put (cs := #[.int .i64 t354, .int .i64 t355, .int .i64 t356, .int .i64 t357, .int .i64 0]) ?_ 4 _ (by first | rfl | (subst_vars; rfl)); refine pkB ?_; refine blk_put (cs := #[.int .i64 t354, .int .i64 t355, .int .i64 t356, .int .i64 0, .int .i64 0]) ?_ 3 _ (by first | rfl | (subst_vars; rfl)); refine pkB ?_; refine blk_put (cs := #[.int .i64 t354, .int .i64 t355, .int .i64 0, .int .i64 0, .int .i64 0]) ?_ 2 _ (by first | rfl | (subst_vars; rfl)); refine pkB ?_; refine blk_put (cs := #[.int .i64 t354, .int .i64 0, .int .i64 0, .int .i64 0, .int .i64 0]) ?_ 1 _ (by first | rfl | (subst_vars; rfl)); refine pkB ?_; refine blk_put (cs := #[.int .i64 0, .int .i64 0, .int .i64 0, .int .i64 0, .int .i64 0]) ?_ 0 _ (by first | rfl | (subst_vars; rfl)); refine pkB ?_; exact BK360.out) hb); have n5_ := bst HB hb; clear HO_7; clear BK335; clear BK336; clear BK353; clear BK360; clear HB; have HO_7 := n0_; have BK335 := n1_; have BK336 := n2_; have BK353 := n3_; have BK360 := n4_; have HB := n5_; clear n0_ n1_ n2_ n3_ n4_ n5_; (try clear hb); (try clear hb2); (try clear hk); (try clear hi)) | ((with_reducible refine gate_dst (N := 15) rfl ?_); (try (refine gate_guard (by rfl) ?_; dsimp only)); refine box_event ?hg (N := 15) ?hd (cs := #[.int .i64 0, .int .i64 0, .int .i64 0, .int .i64 0, .int .i64 0]) (t := 23) ?hr ?_; (case hd => rfl); (case hg => rfl); (case hr => first | (go_simp; done) | (go_simp; rfl)); intro gb367 hg w246 hbox hb; have n0_ := Aside0.mk (Kd.R_below (by (with_reducible repeat (first | apply Kd.R_alloc | apply Kd.R_drewN | apply Kd.R_drew)); exact HO_7.out) hb); have n1_ := bst HB hb; have n2_ := Aside0.mk (hbox); have n3_ := bsz HB hg; have n4_ := bsz HB hg; have n5_ := bn1 BK335 hg; have n6_ := bn2 BK335 hg; have n7_ := bn1 BK336 hg; have n8_ := bn2 BK336 hg; have n9_ := bn1 BK353 hg; have n10_ := bn2 BK353 hg; have n11_ := bn1 BK360 hg; have n12_ := bn2 BK360 hg; replace BK335 := bbw BK335 hb; replace BK336 := bbw BK336 hb; replace BK353 := bbw BK353 hb; replace BK360 := bbw BK360 hb; clear HO_7; clear HB; have HO_7 := n0_; have HB := n1_; have BK367 := n2_; have GW367 := n3_; have GE367 := n4_; have NB335_367 := n5_; have NB367_335 := n6_; have NB336_367 := n7_; have NB367_336 := n8_; have NB353_367 := n9_; have NB367_353 := n10_; have NB360_367 := n11_; have NB367_360 := n12_; clear n0_ n1_ n2_ n3_ n4_ n5_ n6_ n7_ n8_ n9_ n10_ n11_ n12_; clear hb hbox hg; have hnb247 := NB367_335.out; have hnc247 := NB335_367.out; have hnb248 := NB367_336.out; have hnc248 := NB336_367.out; have hnb249 := NB367_353.out; have hnc249 := NB353_367.out; have hnb250 := NB367_360.out; have hnc250 := NB360_367.out; have hcz251_0 := hcz BK367 0; have hcz251_1 := hcz BK367 1; have hcz251_2 := hcz BK367 2; have hcz251_3 := hcz BK367 3; have hcz251_4 := hcz BK367 4; have hfz251_0 := blk_frozen BK367.out 0; have hfz251_1 := blk_frozen BK367.out 1; have hfz251_2 := blk_frozen BK367.out 2; have hfz251_3 := blk_frozen BK367.out 3; have hfz251_4 := blk_frozen BK367.out 4) | (go_at_call 17; (with_reducible refine (linear_Fit.calls kj11 t361 t362 t363 t364 t365 true _ A218.out).mono ?_); rintro e w252 ⟨rfl, hb⟩; have n0_ := Aside0.mk (Kd.R_below (by (with_reducible repeat (first | apply Kd.R_alloc | apply Kd.R_drewN | apply Kd.R_drew)); exact (Kd.R_mono (Kd.R_far (p := ⟨gb367, 4, none⟩) (Kd.R_far (p := ⟨gb367, 3, none⟩) (Kd.R_far (p := ⟨gb367, 2, none⟩) (Kd.R_far (p := ⟨gb367, 1, none⟩) (Kd.R_far (p := ⟨gb367, 0, none⟩) (Kd.R_types HO_7.out BK367.out (by decide)) (fun _ hk => hk.2) (.int .i64 t361)) (fun _ hk => hk.2) (.int .i64 t362)) (fun _ hk => hk.2) (.int .i64 t363)) (fun _ hk => hk.2) (.int .i64 t364)) (fun _ hk => hk.2) (.int .i64 t365)) (fun _ h_ => h_.1))) hb); have n1_ := Aside0.mk (blk_below (g := gb335) (o := .cells #[.int .i64 a0_0, .int .i64 a0_1, .int .i64 a0_2, .int .i64 a0_3, .int .i64 a0_4] 23 (0, 0)) (by refine pkB ?_; refine blk_far ?_ NB335_367.out _; refine pkB ?_; refine blk_far ?_ NB335_367.out _; refine pkB ?_; refine blk_far ?_ NB335_367.out _; refine pkB ?_; refine blk_far ?_ NB335_367.out _; refine pkB ?_; refine blk_far ?_ NB335_367.out _; refine pkB ?_; exact BK335.out) hb); have n2_ := Aside0.mk (blk_below (g := gb336) (o := .cells #[.int .i64 a1_0, .int .i64 a1_1, .int .i64 a1_2, .int .i64 a1_3, .int .i64 a1_4] 23 (0, 0)) (by refine pkB ?_; refine blk_far ?_ NB336_367.out _; refine pkB ?_; refine blk_far ?_ NB336_367.out _; refine pkB ?_; refine blk_far ?_ NB336_367.out _; refine pkB ?_; refine blk_far ?_ NB336_367.out _; refine pkB ?_; refine blk_far ?_ NB336_367.out _; refine pkB ?_; exact BK336.out) hb); have n3_ := Aside0.mk (blk_below (g := gb353) (o := .cells #[.int .i64 t347, .int .i64 t348, .int .i64 t349, .int .i64 t350, .int .i64 t351] 23 (0, 0)) (by refine pkB ?_; refine blk_far ?_ NB353_367.out _; refine pkB ?_; refine blk_far ?_ NB353_367.out _; refine pkB ?_; refine blk_far ?_ NB353_367.out _; refine pkB ?_; refine blk_far ?_ NB353_367.out _; refine pkB ?_; refine blk_far ?_ NB353_367.out _; refine pkB ?_; exact BK353.out) hb); have n4_ := Aside0.mk (blk_below (g := gb360) (o := .cells #[.int .i64 t354, .int .i64 t355, .int .i64 t356, .int .i64 t357, .int .i64 t358] 23 (0, 0)) (by refine pkB ?_; refine blk_far ?_ NB360_367.out _; refine pkB ?_; refine blk_far ?_ NB360_367.out _; refine pkB ?_; refine blk_far ?_ NB360_367.out _; refine pkB ?_; refine blk_far ?_ NB360_367.out _; refine pkB ?_; refine blk_far ?_ NB360_367.out _; refine pkB ?_; exact BK360.out) hb); have n5_ := Aside0.mk (blk_below (g := gb367) (o := .cells #[.int .i64 t361, .int .i64 t362, .int .i64 t363, .int .i64 t364, .int .i64 t365] 23 (0, 0)) (by refine pkB ?_; refine blk_put (cs := #[.int .i64 t361, .int .i64 t362, .int .i64 t363, .int .i64 t364, .int .i64 0]) ?_ 4 _ (by first | rfl | (subst_vars; rfl)); refine pkB ?_; refine blk_put (cs := #[.int .i64 t361, .int .i64 t362, .int .i64 t363, .int .i64 0, .int .i64 0]) ?_ 3 _ (by first | rfl | (subst_vars; rfl)); refine pkB ?_; refine blk_put (cs := #[.int .i64 t361, .int .i64 t362, .int .i64 0, .int .i64 0, .int .i64 0]) ?_ 2 _ (by first | rfl | (subst_vars; rfl)); refine pkB ?_; refine blk_put (cs := #[.int .i64 t361, .int .i64 0, .int .i64 0, .int .i64 0, .int .i64 0]) ?_ 1 _ (by first | rfl | (subst_vars; rfl)); refine pkB ?_; refine blk_put (cs := #[.int .i64 0, .int .i64 0, .int .i64 0, .int .i64 0, .int .i64 0]) ?_ 0 _ (by first | rfl | (subst_vars; rfl)); refine pkB ?_; exact BK367.out) hb); have n6_ := bst HB hb; clear HO_7; clear BK335; clear BK336; clear BK353; clear BK360; clear BK367; clear HB; have HO_7 := n0_; have BK335 := n1_; have BK336 := n2_; have BK353 := n3_; have BK360 := n4_; have BK367 := n5_; have HB := n6_; clear n0_ n1_ n2_ n3_ n4_ n5_ n6_; (try clear hb); (try clear hb2); (try clear hk); (try clear hi); have hcz253_0 := hcz BK367 0; have hcz253_1 := hcz BK367 1; have hcz253_2 := hcz BK367 2; have hcz253_3 := hcz BK367 3; have hcz253_4 := hcz BK367 4; have hfz253_0 := blk_frozen BK367.out 0; have hfz253_1 := blk_frozen BK367.out 1; have hfz253_2 := blk_frozen BK367.out 2; have hfz253_3 := blk_frozen BK367.out 3; have hfz253_4 := blk_frozen BK367.out 4) | (go_at_call 8; (with_reducible refine (linear_Value.calls kj11 t361 t362 t363 t364 t365 _ _ x7_1 t384 _ ?side1 ?side2 A220.out).mono ?_); (case side1 => repeat (first | exact (Kd.R_reads' HO_7.out).2.2 | (with_reducible refine Kd.C_alloc ?_ _) | (with_reducible refine Kd.C_drewN ?_ _) | (with_reducible refine Kd.C_drew ?_))); (case side2 => exact (Kd.R_reads' HO_7.out).2.1); rintro e w254 ⟨rfl, hb⟩; have n0_ := Aside0.mk (Kd.R_below (by (with_reducible repeat (first | apply Kd.R_alloc | apply Kd.R_drewN | apply Kd.R_drew)); exact HO_7.out) hb); have n1_ := bst HB hb; replace BK335 := bbw BK335 hb; replace BK336 := bbw BK336 hb; replace BK353 := bbw BK353 hb; replace BK360 := bbw BK360 hb; replace BK367 := bbw BK367 hb; clear HO_7; clear HB; have HO_7 := n0_; have HB := n1_; clear n0_ n1_; (try clear hb); (try clear hb2); (try clear hk); (try clear hi)) | (go_at_call 10; (with_reducible refine (gimballaw14_awake.calls kj11  t385 _ A222.out).mono ?_); rintro e w255 ⟨rfl, hb⟩; have n0_ := Aside0.mk (Kd.R_below (by (with_reducible repeat (first | apply Kd.R_alloc | apply Kd.R_drewN | apply Kd.R_drew)); exact HO_7.out) hb); have n1_ := bst HB hb; replace BK335 := bbw BK335 hb; replace BK336 := bbw BK336 hb; replace BK353 := bbw BK353 hb; replace BK360 := bbw BK360 hb; replace BK367 := bbw BK367 hb; clear HO_7; clear HB; have HO_7 := n0_; have HB := n1_; clear n0_ n1_; (try clear hb); (try clear hb2); (try clear hk); (try clear hi)))
             go_ret
             exact ⟨by first | rfl | (simp [errW_none, errW_some] <;> rfl) | (simp [*, errW_none, errW_some] <;> rfl) | kernel_rfl, by repeat (first | (with_reducible first | exact HB.out | apply below_alloc | apply pw_below_drewN | apply below_drew1 | refine below_set ?_ GE335.out | refine below_set ?_ GE336.out | refine below_set ?_ GE353.out | refine below_set ?_ GE360.out | refine below_set ?_ GE367.out) | exact HB.out)⟩
            ·
             rw [if_neg c221] at H
             have c221b0 : (t384 == (wrap64 (-t345))) = false := beq_eq_false_iff_ne.mpr c221
             have c221b1 : (t384 != (wrap64 (-t345))) = true := bne_iff_ne.mpr c221
             exact absurd H (by simp)
           ·
            replace c219 := Bool.eq_false_iff.mpr c219
            subst c219
            have H1 : (some false) = some true := by rw [if_neg (show ¬ (false = true) by decide)] at H; exact H
            clear H
            have H := H1
            clear H1
            exact absurd H (by simp)
          ·
           replace c217 := Bool.eq_false_iff.mpr c217
           subst c217
           have H1 : (some false) = some true := by rw [if_neg (show ¬ (false = true) by decide)] at H; exact H
           clear H
           have H := H1
           clear H1
           exact absurd H (by simp)
/-- THE ONE PURE STATEMENT of gimballaw14_LinearSums: yours. -/
def gimballaw14_LinearSums.Pure : Prop := ∀ (a0_0 : Int) (a0_1 : Int) (a0_2 : Int) (a0_3 : Int) (a0_4 : Int) (a1_0 : Int) (a1_1 : Int) (a1_2 : Int) (a1_3 : Int) (a1_4 : Int) (l2 : List Int), (Lit.int .i64 a0_0).wf = true → (Lit.int .i64 a0_1).wf = true → (Lit.int .i64 a0_2).wf = true → (Lit.int .i64 a0_3).wf = true → (Lit.int .i64 a0_4).wf = true → (Lit.int .i64 a1_0).wf = true → (Lit.int .i64 a1_1).wf = true → (Lit.int .i64 a1_2).wf = true → (Lit.int .i64 a1_3).wf = true → (Lit.int .i64 a1_4).wf = true → l2.length ≤ maxLen → l2.length * 8 ≤ 140737488351232 → (∀ x ∈ l2, (Lit.int .i64 x).wf = true) → ∃ k, gimballaw14_LinearSums.f k a0_0 a0_1 a0_2 a0_3 a0_4 a1_0 a1_1 a1_2 a1_3 a1_4 l2 = some true
theorem gimballaw14_LinearSums.walk (P : gimballaw14_LinearSums.Pure) (a0_0 : Int) (a0_1 : Int) (a0_2 : Int) (a0_3 : Int) (a0_4 : Int) (a1_0 : Int) (a1_1 : Int) (a1_2 : Int) (a1_3 : Int) (a1_4 : Int) (a2 : Option Addr) (len2 cap2 : Nat) (z2 : List Int) (w : World) (w0_0 : (Lit.int .i64 a0_0).wf = true) (w0_1 : (Lit.int .i64 a0_1).wf = true) (w0_2 : (Lit.int .i64 a0_2).wf = true) (w0_3 : (Lit.int .i64 a0_3).wf = true) (w0_4 : (Lit.int .i64 a0_4).wf = true) (w1_0 : (Lit.int .i64 a1_0).wf = true) (w1_1 : (Lit.int .i64 a1_1).wf = true) (w1_2 : (Lit.int .i64 a1_2).wf = true) (w1_3 : (Lit.int .i64 a1_3).wf = true) (w1_4 : (Lit.int .i64 a1_4).wf = true) (w2 : (a2 = none ∧ len2 = 0 ∧ cap2 = 0 ∧ z2 = []) ∨ ∃ x, a2 = some x ∧ len2 ≤ cap2 ∧ cap2 ≤ maxLen ∧ z2.length = cap2 ∧ (∀ i, i < z2.length → w.cell? (x.add i) = some (.int .i64 (z2.getD i 0))) ∧ ∀ n ∈ z2, (Lit.int .i64 n).wf = true) (y2 : len2 * 8 ≤ 140737488351232) :
    Calls Try.prog 5 #[.agg #[.int .i64 a0_0, .int .i64 a0_1, .int .i64 a0_2, .int .i64 a0_3, .int .i64 a0_4], .agg #[.int .i64 a1_0, .int .i64 a1_1, .int .i64 a1_2, .int .i64 a1_3, .int .i64 a1_4], .slice a2 len2 cap2] w fun e w' => e = .returned (.bool true) ∧ Below w.heap.size w w' := by
  obtain ⟨l2, rfl, hr2, hm2, hw2, hc2⟩ := ReadsInt.ofRowC w2
  obtain ⟨k, h⟩ := P a0_0 a0_1 a0_2 a0_3 a0_4 a1_0 a1_1 a1_2 a1_3 a1_4 l2 w0_0 w0_1 w0_2 w0_3 w0_4 w1_0 w1_1 w1_2 w1_3 w1_4 hm2 y2 hw2
  refine (gimballaw14_LinearSums.calls k a0_0 a0_1 a0_2 a0_3 a0_4 a1_0 a1_1 a1_2 a1_3 a1_4 _ _ l2  w (Kd.C_of_reads (d := (0 : Int)) (h1 := fun _ => rfl) hr2) hc2 h).mono ?_
  rintro e w' ⟨rfl, hd⟩
  exact ⟨rfl, hd⟩
end Go.Proofs.Ytllfopbchdahoaa.P
