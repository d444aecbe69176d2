/- What the law's proof needs of Px36. -/
import Derived.Test.YtiemdfdebdmchaaTrSU2
import Derived.Test.YtiemdfdebdmchaaTrSU
import Derived.Test.YtiemdfdebdmchaaTrSPx0
import Derived.Test.YtiemdfdebdmchaaTrSPx5
import Derived.Test.YtiemdfdebdmchaaTrSPx6
import Derived.Test.YtiemdfdebdmchaaTrSPx60
import Derived.Test.YtiemdfdebdmchaaTrSS5
-- PRINTED by print.py (a twelfth state) out of the translation. Not trusted: Lean checks it.
namespace Go.Proofs.Ytiemdfdebdmchaa.P
open Go.RowKit Go.Proofs.YtiemdfdebdmchaaW.PrintWords Go.Proofs.YtiemdfdebdmchaaW.PrintLast Go.Proofs.YtiemdfdebdmchaaW.PrintMore Go.Proofs.YtiemdfdebdmchaaO
attribute [local go_sem] max2_int min2_int max_two min_two max_three min_three max_four min_four   -- for this text's walks alone
set_option linter.unusedVariables false
set_option linter.unusedSimpArgs false
mutual
def gimballaw33_TraceSpoilt.l0 : Nat → Int → Int → List Int → Int → Bool → Int → Option (Bool)
  | 0, _, _, _, _, _, _ => none
  | k + 1, x1, x2, x9, x13, x14, x15 => if x15 < 32 then (gimballaw33_TraceSpoilt.j1 k x1 x2 x9 x13 x14 x15 (decide ((wrap64 (x1 + x15)) < x13))) else (gimballaw33_TraceSpoilt.j1 k x1 x2 x9 x13 x14 x15 false)
def gimballaw33_TraceSpoilt.j1 : Nat → Int → Int → List Int → Int → Bool → Int → Bool → Option (Bool)
  | 0, _, _, _, _, _, _, _ => none
  | k + 1, x1, x2, x9, x13, x14, x15, x67 => if x67 = true then (if 0 ≤ (IntKind.u64.wrap (x15)) then (if (Go.bits .and .u32 (shr .u32 x2 (IntKind.u64.wrap (x15))) 1) = 1 then (if 0 ≤ (wrap64 (5 + (wrap64 (Int.tdiv (wrap64 (x1 + x15)) 8)))) then (if (wrap64 (5 + (wrap64 (Int.tdiv (wrap64 (x1 + x15)) 8)))) < (x9.length : Int) then (if 0 ≤ (IntKind.u64.wrap (Int.tmod (wrap64 (x1 + x15)) 8)) then (gimballaw33_TraceSpoilt.l0 k x1 x2 (x9.set ((wrap64 (5 + (wrap64 (Int.tdiv (wrap64 (x1 + x15)) 8)))) : Int).toNat (Go.bits .xor .u8 (rd x9 (wrap64 (5 + (wrap64 (Int.tdiv (wrap64 (x1 + x15)) 8))))) (shl .u8 1 (IntKind.u64.wrap (Int.tmod (wrap64 (x1 + x15)) 8))))) x13 true (wrap64 (x15 + 1))) else (none)) else (none)) else (none)) else (gimballaw33_TraceSpoilt.l0 k x1 x2 x9 x13 x14 (wrap64 (x15 + 1)))) else (none)) else ((trace_Decode.f k x9).bind fun bt816 => (if ((bt816.2.2.2.2.2.2.2.2.2.2 == 332) == x14) = true then (if ((bt816.2.2.2.2.2.2.2.2.2.2 == 0) == (!x14)) = true then ((gimballaw33_awake.f k).bind fun t836 => (some t836)) else (some false)) else (some false)))
end
def gimballaw33_TraceSpoilt.f (k : Nat) (a0_0 : Int) (l0_1 : List Int) (a0_2 : Int) (a0_3 : Int) (a0_4 : Int) (a0_5 : Int) (a0_6 : Int) (l0_7 : List Int) (l0_8 : List (List Int)) (l0_9 : List (List Int)) (a1 : Int) (a2 : Int) (a3 : Int) : Option (Bool) := (trace_Encode.f k a0_0 l0_1 a0_2 a0_3 a0_4 a0_5 a0_6 l0_7 l0_8 l0_9).bind fun bt784 => (if bt784.2 = 0 then (if (bt784.1.length : Int) < 9 then (some false) else (if (IntKind.u64.wrap ((bt784.1.length : Int))) = 0 then (none) else (if 0 ≤ (wrap64 (Int.tmod (IntKind.u64.wrap (a3)) (IntKind.u64.wrap ((bt784.1.length : Int))))) then (if (wrap64 (Int.tmod (IntKind.u64.wrap (a3)) (IntKind.u64.wrap ((bt784.1.length : Int))))) ≤ (bt784.1.length : Int) then ((trace_Decode.f k (bt784.1.take ((wrap64 (Int.tmod (IntKind.u64.wrap (a3)) (IntKind.u64.wrap ((bt784.1.length : Int))))) : Int).toNat)).bind fun bt794 => (if bt794.2.2.2.2.2.2.2.2.2.2 = 0 then (some false) else (if (IntKind.u64.wrap (wrap64 (8 * (wrap64 ((bt784.1.length : Int) - 5))))) = 0 then (none) else (gimballaw33_TraceSpoilt.l0 k (wrap64 (Int.tmod (IntKind.u64.wrap (a1)) (IntKind.u64.wrap (wrap64 (8 * (wrap64 ((bt784.1.length : Int) - 5))))))) a2 bt784.1 (wrap64 (8 * (wrap64 ((bt784.1.length : Int) - 5)))) false 0)))) else (none)) else (none)))) else ((gimbalref33_Fit.f a0_0 l0_1 a0_2 a0_3 a0_4 a0_5 a0_6 l0_7 l0_8 l0_9).bind fun t788 => (if t788 = true then (some false) else ((gimballaw33_awake.f k).bind fun t789 => (some t789)))))
set_option maxHeartbeats 8000000 in
set_option maxRecDepth 100000 in
theorem gimballaw33_TraceSpoilt.calls (k : Nat) (a0_0 : Int) (A0_1 : Option Addr) (c0_1 : Nat) (l0_1 : List Int) (a0_2 : Int) (a0_3 : Int) (a0_4 : Int) (a0_5 : Int) (a0_6 : Int) (A0_7 : Option Addr) (c0_7 : Nat) (l0_7 : List Int) (A0_8 : Option Addr) (c0_8 : Nat) (l0_8 : List (List Int)) (A0_9 : Option Addr) (c0_9 : Nat) (l0_9 : List (List Int)) (a1 : Int) (a2 : Int) (a3 : Int) (w : World) (hr0_1 : Kd.C (Kd.int .i64) w A0_1 l0_1.length l0_1) (hc0_1 : l0_1.length ≤ c0_1) (hr0_7 : Kd.C (Kd.int .i64) w A0_7 l0_7.length l0_7) (hc0_7 : l0_7.length ≤ c0_7) (hr0_8 : Kd.C (Kd.slice 2 (Kd.int .i64)) w A0_8 l0_8.length l0_8) (hc0_8 : l0_8.length ≤ c0_8) (hr0_9 : Kd.C (Kd.slice 2 (Kd.int .i64)) w A0_9 l0_9.length l0_9) (hc0_9 : l0_9.length ≤ c0_9) (h : gimballaw33_TraceSpoilt.f k a0_0 l0_1 a0_2 a0_3 a0_4 a0_5 a0_6 l0_7 l0_8 l0_9 a1 a2 a3 = some true) :
    Calls Try.prog 7 #[.agg #[.int .i64 a0_0, .slice A0_1 l0_1.length c0_1, .int .i64 a0_2, .int .i64 a0_3, .int .i64 a0_4, .int .i64 a0_5, .int .i64 a0_6, .slice A0_7 l0_7.length c0_7, .slice A0_8 l0_8.length c0_8, .slice A0_9 l0_9.length c0_9], .int .i64 a1, .int .u32 a2, .int .i64 a3] w fun e w' => e = .returned (.bool true) ∧ Below w.heap.size w w' := by
  have hu27 := Try.underlying27
  have HR0_1 := Aside0.mk hr0_1
  have HC0_1 := Aside0.mk hc0_1
  clear hr0_1 hc0_1
  have HR0_7 := Aside0.mk hr0_7
  have HC0_7 := Aside0.mk hc0_7
  clear hr0_7 hc0_7
  have HR0_8 := Aside0.mk hr0_8
  have HC0_8 := Aside0.mk hc0_8
  clear hr0_8 hc0_8
  have HR0_9 := Aside0.mk hr0_9
  have HC0_9 := Aside0.mk hc0_9
  clear hr0_9 hc0_9
  have HB := Aside0.mk (Below.refl w.heap.size w)
  have H : ((trace_Encode.f k a0_0 l0_1 a0_2 a0_3 a0_4 a0_5 a0_6 l0_7 l0_8 l0_9).bind fun bt784 => (if bt784.2 = 0 then (if (bt784.1.length : Int) < 9 then (some false) else (if (IntKind.u64.wrap ((bt784.1.length : Int))) = 0 then (none) else (if 0 ≤ (wrap64 (Int.tmod (IntKind.u64.wrap (a3)) (IntKind.u64.wrap ((bt784.1.length : Int))))) then (if (wrap64 (Int.tmod (IntKind.u64.wrap (a3)) (IntKind.u64.wrap ((bt784.1.length : Int))))) ≤ (bt784.1.length : Int) then ((trace_Decode.f k (bt784.1.take ((wrap64 (Int.tmod (IntKind.u64.wrap (a3)) (IntKind.u64.wrap ((bt784.1.length : Int))))) : Int).toNat)).bind fun bt794 => (if bt794.2.2.2.2.2.2.2.2.2.2 = 0 then (some false) else (if (IntKind.u64.wrap (wrap64 (8 * (wrap64 ((bt784.1.length : Int) - 5))))) = 0 then (none) else (gimballaw33_TraceSpoilt.l0 k (wrap64 (Int.tmod (IntKind.u64.wrap (a1)) (IntKind.u64.wrap (wrap64 (8 * (wrap64 ((bt784.1.length : Int) - 5))))))) a2 bt784.1 (wrap64 (8 * (wrap64 ((bt784.1.length : Int) - 5)))) false 0)))) else (none)) else (none)))) else ((gimbalref33_Fit.f a0_0 l0_1 a0_2 a0_3 a0_4 a0_5 a0_6 l0_7 l0_8 l0_9).bind fun t788 => (if t788 = true then (some false) else ((gimballaw33_awake.f k).bind fun t789 => (some t789)))))) = some true := h
  clear h
  replace H := Option.bind_eq_some_iff.mp H
  obtain ⟨⟨t784, t787⟩, A50, H⟩ := H
  replace H : (if t787 = 0 then (if (t784.length : Int) < 9 then (some false) else (if (IntKind.u64.wrap ((t784.length : Int))) = 0 then (none) else (if 0 ≤ (wrap64 (Int.tmod (IntKind.u64.wrap (a3)) (IntKind.u64.wrap ((t784.length : Int))))) then (if (wrap64 (Int.tmod (IntKind.u64.wrap (a3)) (IntKind.u64.wrap ((t784.length : Int))))) ≤ (t784.length : Int) then ((trace_Decode.f k (t784.take ((wrap64 (Int.tmod (IntKind.u64.wrap (a3)) (IntKind.u64.wrap ((t784.length : Int))))) : Int).toNat)).bind fun bt794 => (if bt794.2.2.2.2.2.2.2.2.2.2 = 0 then (some false) else (if (IntKind.u64.wrap (wrap64 (8 * (wrap64 ((t784.length : Int) - 5))))) = 0 then (none) else (gimballaw33_TraceSpoilt.l0 k (wrap64 (Int.tmod (IntKind.u64.wrap (a1)) (IntKind.u64.wrap (wrap64 (8 * (wrap64 ((t784.length : Int) - 5))))))) a2 t784 (wrap64 (8 * (wrap64 ((t784.length : Int) - 5)))) false 0)))) else (none)) else (none)))) else ((gimbalref33_Fit.f a0_0 l0_1 a0_2 a0_3 a0_4 a0_5 a0_6 l0_7 l0_8 l0_9).bind fun t788 => (if t788 = true then (some false) else ((gimballaw33_awake.f k).bind fun t789 => (some t789))))) = some true := H
  have A5 := Aside0.mk A50
  clear A50
  by_cases c6 : t787 = 0
  ·
   rw [if_pos c6] at H
   have c6b0 : (t787 == 0) = true := beq_iff_eq.mpr c6
   have c6b1 : (t787 != 0) = false := bne_eq_false_iff_eq.mpr c6
   clear c6
   by_cases c7 : (t784.length : Int) < 9
   ·
    rw [if_pos c7] at H
    have c7b0 : decide ((t784.length : Int) < 9) = true := decide_eq_true c7
    have c7b1 : decide (t784.length < 9) = true := decide_eq_true (by omega)
    clear c7
    exact absurd H (by simp)
   ·
    rw [if_neg c7] at H
    have c7b0 : decide ((t784.length : Int) < 9) = false := decide_eq_false c7
    have c7b1 : decide (t784.length < 9) = false := decide_eq_false (by omega)
    clear c7
    by_cases c8 : (IntKind.u64.wrap ((t784.length : Int))) = 0
    ·
     rw [if_pos c8] at H
     exact absurd H (by simp)
    ·
     rw [if_neg c8] at H
     have c8b0 : ((IntKind.u64.wrap ((t784.length : Int))) == 0) = false := beq_eq_false_iff_ne.mpr c8
     have c8b1 : ((IntKind.u64.wrap ((t784.length : Int))) != 0) = true := bne_iff_ne.mpr c8
     obtain ⟨ji9, hji9⟩ : ∃ j_ : Int, (wrap64 (Int.tmod (IntKind.u64.wrap (a3)) (IntKind.u64.wrap ((t784.length : Int))))) = j_ := ⟨_, rfl⟩
     replace H : (if 0 ≤ (ji9) then (if (ji9) ≤ (t784.length : Int) then ((trace_Decode.f k (t784.take ((ji9) : Int).toNat)).bind fun bt794 => (if bt794.2.2.2.2.2.2.2.2.2.2 = 0 then (some false) else (if (IntKind.u64.wrap (wrap64 (8 * (wrap64 ((t784.length : Int) - 5))))) = 0 then (none) else (gimballaw33_TraceSpoilt.l0 k (wrap64 (Int.tmod (IntKind.u64.wrap (a1)) (IntKind.u64.wrap (wrap64 (8 * (wrap64 ((t784.length : Int) - 5))))))) a2 t784 (wrap64 (8 * (wrap64 ((t784.length : Int) - 5)))) false 0)))) else (none)) else (none)) = some true := by first | (rw [hji9] at H; exact H) | (simp only [hji9] at H ⊢; exact H)
     (try rw [hji9] at A5)
     have hji9w : (IntKind.i64.wrap (Int.tmod (IntKind.u64.wrap (a3)) (IntKind.u64.wrap ((t784.length : Int))))) = ji9 := (i64_w _).trans hji9
     by_cases c10 : 0 ≤ (ji9)
     ·
      rw [if_pos c10] at H
      have c10b0 := eq_true c10
      have c10b1 : decide (0 ≤ (ji9)) = true := decide_eq_true c10
      clear c10
      by_cases c11 : (ji9) ≤ (t784.length : Int)
      ·
       rw [if_pos c11] at H
       have c11b0 := eq_true c11
       have c11b1 : decide ((ji9) ≤ (t784.length : Int)) = true := decide_eq_true c11
       clear c11
       obtain ⟨y790, hy790⟩ : ∃ y_ : List Int, y_ = (t784.take ((ji9) : Int).toNat) := ⟨_, rfl⟩
       replace H : ((trace_Decode.f k y790).bind fun bt794 => (if bt794.2.2.2.2.2.2.2.2.2.2 = 0 then (some false) else (if (IntKind.u64.wrap (wrap64 (8 * (wrap64 ((t784.length : Int) - 5))))) = 0 then (none) else (gimballaw33_TraceSpoilt.l0 k (wrap64 (Int.tmod (IntKind.u64.wrap (a1)) (IntKind.u64.wrap (wrap64 (8 * (wrap64 ((t784.length : Int) - 5))))))) a2 t784 (wrap64 (8 * (wrap64 ((t784.length : Int) - 5)))) false 0)))) = some true := by first | (rw [hy790]; with_reducible exact H) | (have H2_ := (Option.bind_some _ _).symm.trans H; rw [hy790]; with_reducible exact H2_) | (have H2_ := (Option.bind_some _ _).symm.trans H; with_reducible exact H2_) | with_reducible exact H | (rw [hy790]; exact H) | exact H
       have Ny790 := Aside0.mk hy790
       clear hy790
       replace H := Option.bind_eq_some_iff.mp H
       obtain ⟨⟨t794, t795, t798, t799, t800, t801, t802, t803, t806, t809, t812⟩, A120, H⟩ := H
       replace H : (if t812 = 0 then (some false) else (if (IntKind.u64.wrap (wrap64 (8 * (wrap64 ((t784.length : Int) - 5))))) = 0 then (none) else (gimballaw33_TraceSpoilt.l0 k (wrap64 (Int.tmod (IntKind.u64.wrap (a1)) (IntKind.u64.wrap (wrap64 (8 * (wrap64 ((t784.length : Int) - 5))))))) a2 t784 (wrap64 (8 * (wrap64 ((t784.length : Int) - 5)))) false 0))) = some true := H
       have A12 := Aside0.mk A120
       clear A120
       by_cases c13 : t812 = 0
       ·
        rw [if_pos c13] at H
        have c13b0 : (t812 == 0) = true := beq_iff_eq.mpr c13
        have c13b1 : (t812 != 0) = false := bne_eq_false_iff_eq.mpr c13
        clear c13
        exact absurd H (by simp)
       ·
        rw [if_neg c13] at H
        have c13b0 : (t812 == 0) = false := beq_eq_false_iff_ne.mpr c13
        have c13b1 : (t812 != 0) = true := bne_iff_ne.mpr c13
        by_cases c14 : (IntKind.u64.wrap (wrap64 (8 * (wrap64 ((t784.length : Int) - 5))))) = 0
        ·
         rw [if_pos c14] at H
         exact absurd H (by simp)
        ·
         rw [if_neg c14] at H
         have c14b0 : ((IntKind.u64.wrap (wrap64 (8 * (wrap64 ((t784.length : Int) - 5))))) == 0) = false := beq_eq_false_iff_ne.mpr c14
         have c14b1 : ((IntKind.u64.wrap (wrap64 (8 * (wrap64 ((t784.length : Int) - 5))))) != 0) = true := bne_iff_ne.mpr c14
         have H' := Aside0.mk H
         clear H
         go_enter Try.func7, Try.ntmps7
         go_wp2_with (first | ((with_reducible refine gate_dst (N := 4) rfl ?_); refine box_event ?hg (N := 4) ?hd (cs := #[.int .i64 a0_0, .slice A0_1 l0_1.length c0_1, .int .i64 a0_2, .int .i64 a0_3, .int .i64 a0_4, .int .i64 a0_5, .int .i64 a0_6, .slice A0_7 l0_7.length c0_7, .slice A0_8 l0_8.length c0_8, .slice A0_9 l0_9.length c0_9]) (t := 27) ?hr ?_; (case hd => rfl); (case hg => rfl); (case hr => first | (go_simp; done) | (go_simp; rfl)); intro gb783 hg w15 hbox hb; have n0_ := bst HB hb; have n1_ := Aside0.mk (hbox); have n2_ := bsz HB hg; have n3_ := bsz HB hg; clear HB; have HB := n0_; have BK783 := n1_; have GW783 := n2_; have GE783 := n3_; clear n0_ n1_ n2_ n3_; clear hb hbox hg; have hcz16_0 := hcz BK783 0; have hcz16_1 := hcz BK783 1; have hcz16_2 := hcz BK783 2; have hcz16_3 := hcz BK783 3; have hcz16_4 := hcz BK783 4; have hcz16_5 := hcz BK783 5; have hcz16_6 := hcz BK783 6; have hcz16_7 := hcz BK783 7; have hcz16_8 := hcz BK783 8; have hcz16_9 := hcz BK783 9; have hfz16_0 := blk_frozen BK783.out 0; have hfz16_1 := blk_frozen BK783.out 1; have hfz16_2 := blk_frozen BK783.out 2; have hfz16_3 := blk_frozen BK783.out 3; have hfz16_4 := blk_frozen BK783.out 4; have hfz16_5 := blk_frozen BK783.out 5; have hfz16_6 := blk_frozen BK783.out 6; have hfz16_7 := blk_frozen BK783.out 7; have hfz16_8 := blk_frozen BK783.out 8; have hfz16_9 := blk_frozen BK783.out 9) | ((with_reducible refine gate_callee (f := 8) rfl ?_); refine goesL_ (some 20) rfl rfl Try.func8 (by kernel_rfl) rfl #[.agg #[.int .i64 a0_0, .slice A0_1 l0_1.length c0_1, .int .i64 a0_2, .int .i64 a0_3, .int .i64 a0_4, .int .i64 a0_5, .int .i64 a0_6, .slice A0_7 l0_7.length c0_7, .slice A0_8 l0_8.length c0_8, .slice A0_9 l0_9.length c0_9]] rfl (by (try simp only [List.map_toArray, List.map_cons, List.map_nil]); first | done | rfl | (simp only [List.length_drop, List.length_take]; rfl)) ?_; (with_reducible refine (trace_Encode.calls k a0_0 _ _ l0_1 a0_2 a0_3 a0_4 a0_5 a0_6 _ _ l0_7 _ _ l0_8 (fun k_ => k_ < w.heap.size) _ _ l0_9 t784 t787 _ ?side1 ?side2 ?side3 ?side4 ?side5 ?side6 ?side7 A5.out).mono ?_); (case side1 => repeat (first | exact (Kd.C_below HR0_1.out HB.out) | (with_reducible refine Kd.C_alloc ?_ _) | (with_reducible refine Kd.C_drewN ?_ _) | (with_reducible refine Kd.C_drew ?_))); (case side2 => exact HC0_1.out); (case side3 => repeat (first | exact (Kd.C_below HR0_7.out HB.out) | (with_reducible refine Kd.C_alloc ?_ _) | (with_reducible refine Kd.C_drewN ?_ _) | (with_reducible refine Kd.C_drew ?_))); (case side4 => exact HC0_7.out); (case side5 => repeat (first | exact (Kd.C_below HR0_8.out HB.out) | (with_reducible refine Kd.C_alloc ?_ _) | (with_reducible refine Kd.C_drewN ?_ _) | (with_reducible refine Kd.C_drew ?_))); (case side6 => exact HC0_8.out); (case side7 => exact Kd.V_mk HC0_9.out (Kd.F_below (Kd.C_F (Kd.heap_slice 2 (Kd.heap_int .i64)) HR0_9.out) (by repeat (first | (with_reducible first | exact HB.out | apply below_alloc | apply pw_below_drewN | apply below_drew1 | refine below_set ?_ GE783.out) | exact HB.out)))); rintro e w17 ⟨v785, rfl, ho0, hb⟩; refine ⟨_, rfl, ?_⟩; have n0_ := Aside0.mk (Kd.R_lower (Kd.R_mono (ok' := fun k_ => True) ho0 (fun _ hk_ => trivial)) (below_size (by repeat (first | (with_reducible first | exact HB.out | apply below_alloc | apply pw_below_drewN | apply below_drew1 | refine below_set ?_ GE783.out) | exact HB.out)))); have n1_ := bst HB hb; replace BK783 := bbw BK783 hb; clear HB; have HO786 := n0_; have HB := n1_; clear n0_ n1_; (try clear hb); (try clear hb2); (try clear hk); (try clear hi); (try clear ho0); obtain ⟨Ao18, co18, eo18⟩ := Kd.R_slice HO786.out; subst eo18; have q19 : ((ji9) : Int) ≤ ((t784.length : Int) : Int) := of_decide_eq_true (by first | (with_reducible assumption) | assumption); obtain ⟨i019, hi019, _, hsz19, _⟩ := info_parts info5; have hroom19 : t784.length ≤ co18 := (Kd.R_reads' HO786.out).2.1; have hC19 : Kd.C (Kd.int .u8) _ Ao18 t784.length t784 := (Kd.R_reads' HO786.out).2.2; have hcut19 := cut_to (P := Try.prog) 28 5 .i64 Try.underlying28 hi019 Ao18 t784.length co18 (ji9) (of_decide_eq_true (by first | (with_reducible assumption) | assumption)) q19 hroom19; have hr19 := Kd.C_take (m := ((ji9) : Int).toNat) hC19 (by omega); have hy19 : y790.length = ((ji9) : Int).toNat := (by rw [Ny790.out, List.length_take]; omega); rw [← Ny790.out] at hr19; rw [← hy19] at hcut19; have HR793 := Aside0.mk hr19; have HC793 := Aside0.mk (show y790.length ≤ co18 from by omega); clear hr19 hC19 hroom19 hi019 hsz19; have KY19 := Aside0.mk hy19; clear hy19; have KL19 := Aside0.mk (show ((ji9) : Int).toNat ≤ t784.length from by omega); replace q19 := eq_true q19) | ((with_reducible refine gate_callee (f := 14) rfl ?_); refine goesL_ (some 44) rfl rfl Try.func14 (by kernel_rfl) rfl #[.slice Ao18 y790.length co18] rfl (by (try simp only [List.map_toArray, List.map_cons, List.map_nil]); first | done | rfl | (simp only [List.length_drop, List.length_take]; rfl)) ?_; (with_reducible refine (trace_Decode.calls k _ _ y790 t794 t795 t798 t799 t800 t801 t802 t803 t806 t809 t812 _ ?side1 ?side2 A12.out).mono ?_); (case side1 => repeat (first | exact (by repeat (first | (with_reducible exact HR793.out) | (with_reducible refine Kd.C_alloc ?_ _) | (with_reducible refine Kd.C_drewN ?_ _) | (with_reducible refine Kd.C_drew ?_) | exact HR793.out)) | (with_reducible refine Kd.C_alloc ?_ _) | (with_reducible refine Kd.C_drewN ?_ _) | (with_reducible refine Kd.C_drew ?_))); (case side2 => exact HC793.out); rintro e w20 ⟨v796, v804, v807, v810, rfl, ho0, ho1, ho2, ho3, hb⟩; refine ⟨_, rfl, ?_⟩; have n0_ := Aside0.mk (Kd.R_below (by (with_reducible repeat (first | apply Kd.R_alloc | apply Kd.R_drewN | apply Kd.R_drew)); exact HO786.out) hb); have n1_ := Aside0.mk (Kd.R_lower ho0 (below_size (by repeat (first | (with_reducible first | exact HB.out | apply below_alloc | apply pw_below_drewN | apply below_drew1 | refine below_set ?_ GE783.out) | exact HB.out)))); have n2_ := Aside0.mk (Kd.R_lower ho1 (below_size (by repeat (first | (with_reducible first | exact HB.out | apply below_alloc | apply pw_below_drewN | apply below_drew1 | refine below_set ?_ GE783.out) | exact HB.out)))); have n3_ := Aside0.mk (Kd.S_lower ho2 (below_size (by repeat (first | (with_reducible first | exact HB.out | apply below_alloc | apply pw_below_drewN | apply below_drew1 | refine below_set ?_ GE783.out) | exact HB.out)))); have n4_ := Aside0.mk (Kd.S_lower ho3 (below_size (by repeat (first | (with_reducible first | exact HB.out | apply below_alloc | apply pw_below_drewN | apply below_drew1 | refine below_set ?_ GE783.out) | exact HB.out)))); have n5_ := Aside0.mk (Kd.C_below (by repeat (first | (with_reducible exact HR793.out) | (with_reducible refine Kd.C_alloc ?_ _) | (with_reducible refine Kd.C_drewN ?_ _) | (with_reducible refine Kd.C_drew ?_) | exact HR793.out)) hb); have n6_ := bst HB hb; replace BK783 := bbw BK783 hb; clear HO786; clear HR793; clear HB; have HO786 := n0_; have HO797 := n1_; have HO805 := n2_; have HO808 := n3_; have HO811 := n4_; have HR793 := n5_; have HB := n6_; clear n0_ n1_ n2_ n3_ n4_ n5_ n6_; (try clear hb); (try clear hb2); (try clear hk); (try clear hi); (try clear ho0); (try clear ho1); (try clear ho2); (try clear ho3)) | ((with_reducible refine gate_dst (N := 11) rfl ?_); refine box_event ?hg (N := 11) ?hd (cs := #[.int .i64 0, .slice none 0 0, .int .i64 0, .int .i64 0, .int .i64 0, .int .i64 0, .int .i64 0, .slice none 0 0, .slice none 0 0, .slice none 0 0]) (t := 27) ?hr ?_; (case hd => rfl); (case hg => rfl); (case hr => first | (go_simp; done) | (go_simp; rfl)); intro gb813 hg w21 hbox hb; have n0_ := Aside0.mk (Kd.R_below (by (with_reducible repeat (first | apply Kd.R_alloc | apply Kd.R_drewN | apply Kd.R_drew)); exact HO786.out) hb); have n1_ := Aside0.mk (Kd.R_below (by (with_reducible repeat (first | apply Kd.R_alloc | apply Kd.R_drewN | apply Kd.R_drew)); exact HO797.out) hb); have n2_ := Aside0.mk (Kd.R_below (by (with_reducible repeat (first | apply Kd.R_alloc | apply Kd.R_drewN | apply Kd.R_drew)); exact HO805.out) hb); have n3_ := Aside0.mk (Kd.S_below (by (with_reducible repeat (first | apply Kd.S_alloc | apply Kd.S_drewN | apply Kd.S_drew)); exact HO808.out) hb); have n4_ := Aside0.mk (Kd.S_below (by (with_reducible repeat (first | apply Kd.S_alloc | apply Kd.S_drewN | apply Kd.S_drew)); exact HO811.out) hb); have n5_ := Aside0.mk (Kd.C_below (by repeat (first | (with_reducible exact HR793.out) | (with_reducible refine Kd.C_alloc ?_ _) | (with_reducible refine Kd.C_drewN ?_ _) | (with_reducible refine Kd.C_drew ?_) | exact HR793.out)) hb); have n6_ := bst HB hb; have n7_ := Aside0.mk (hbox); have n8_ := bsz HB hg; have n9_ := bsz HB hg; have n10_ := bn1 BK783 hg; have n11_ := bn2 BK783 hg; replace BK783 := bbw BK783 hb; clear HO786; clear HO797; clear HO805; clear HO808; clear HO811; clear HR793; clear HB; have HO786 := n0_; have HO797 := n1_; have HO805 := n2_; have HO808 := n3_; have HO811 := n4_; have HR793 := n5_; have HB := n6_; have BK813 := n7_; have GW813 := n8_; have GE813 := n9_; have NB783_813 := n10_; have NB813_783 := n11_; clear n0_ n1_ n2_ n3_ n4_ n5_ n6_ n7_ n8_ n9_ n10_ n11_; clear hb hbox hg; have hnb22 := NB813_783.out; have hnc22 := NB783_813.out; have hcz23_0 := hcz BK813 0; have hcz23_1 := hcz BK813 1; have hcz23_2 := hcz BK813 2; have hcz23_3 := hcz BK813 3; have hcz23_4 := hcz BK813 4; have hcz23_5 := hcz BK813 5; have hcz23_6 := hcz BK813 6; have hcz23_7 := hcz BK813 7; have hcz23_8 := hcz BK813 8; have hcz23_9 := hcz BK813 9; have hfz23_0 := blk_frozen BK813.out 0; have hfz23_1 := blk_frozen BK813.out 1; have hfz23_2 := blk_frozen BK813.out 2; have hfz23_3 := blk_frozen BK813.out 3; have hfz23_4 := blk_frozen BK813.out 4; have hfz23_5 := blk_frozen BK813.out 5; have hfz23_6 := blk_frozen BK813.out 6; have hfz23_7 := blk_frozen BK813.out 7; have hfz23_8 := blk_frozen BK813.out 8; have hfz23_9 := blk_frozen BK813.out 9; obtain ⟨Ao24, co24, eo24⟩ := Kd.R_slice HO797.out; subst eo24; obtain ⟨Ao25, co25, eo25⟩ := Kd.R_slice HO805.out; subst eo25; obtain ⟨Ao26, co26, eo26⟩ := Kd.S_slice HO808.out; subst eo26; obtain ⟨Ao27, co27, eo27⟩ := Kd.S_slice HO811.out; subst eo27))
         go_loopg [14, 15] k (fun kq v14 v15 w' => ∃ (x9_1 : List Int) (x14_1 : Bool) (x15_1 : Int), v14 = .bool x14_1 ∧ v15 = .int .i64 x15_1 ∧ Aside0 (gimballaw33_TraceSpoilt.l0 kq (wrap64 (Int.tmod (IntKind.u64.wrap (a1)) (IntKind.u64.wrap (wrap64 (8 * (wrap64 ((t784.length : Int) - 5))))))) a2 x9_1 (wrap64 (8 * (wrap64 ((t784.length : Int) - 5)))) x14_1 x15_1 = some true) ∧ Aside0 (kq ≤ k) ∧ Aside0 (Kd.R (Kd.int .u8) 5 w' w.heap.size (fun _ => True) (.slice Ao18 t784.length co18) x9_1) ∧ Aside0 (Kd.R (Kd.int .i64) 2 w' w.heap.size (fun k_ => some k_ ≠ ((.slice Ao25 t803.length co25) : Value).ownBlock) (.slice Ao24 t795.length co24) t795) ∧ Aside0 (Kd.R (Kd.int .i64) 2 w' w.heap.size (fun k_ => some k_ ≠ ((.slice Ao24 t795.length co24) : Value).ownBlock) (.slice Ao25 t803.length co25) t803) ∧ Aside0 (Kd.S (Kd.slice 2 (Kd.int .i64)) 22 w' w.heap.size (fun k_ => some k_ ≠ ((.slice Ao24 t795.length co24) : Value).ownBlock ∧ some k_ ≠ ((.slice Ao25 t803.length co25) : Value).ownBlock ∧ some k_ ≠ ((.slice Ao27 t809.length co27) : Value).ownBlock) (.slice Ao26 t806.length co26) t806) ∧ Aside0 (Kd.S (Kd.slice 2 (Kd.int .i64)) 22 w' w.heap.size (fun k_ => some k_ ≠ ((.slice Ao24 t795.length co24) : Value).ownBlock ∧ some k_ ≠ ((.slice Ao25 t803.length co25) : Value).ownBlock ∧ some k_ ≠ ((.slice Ao26 t806.length co26) : Value).ownBlock) (.slice Ao27 t809.length co27) t809) ∧ Aside0 (w'.heap[gb783]? = some (.cells #[.int .i64 a0_0, (.slice A0_1 l0_1.length c0_1), .int .i64 a0_2, .int .i64 a0_3, .int .i64 a0_4, .int .i64 a0_5, .int .i64 a0_6, (.slice A0_7 l0_7.length c0_7), (.slice A0_8 l0_8.length c0_8), (.slice A0_9 l0_9.length c0_9)] 27 (0, 0))) ∧ Aside0 (w'.heap[gb813]? = some (.cells #[.int .i64 t794, (.slice Ao24 t795.length co24), .int .i64 t798, .int .i64 t799, .int .i64 t800, .int .i64 t801, .int .i64 t802, (.slice Ao25 t803.length co25), (.slice Ao26 t806.length co26), (.slice Ao27 t809.length co27)] 27 (0, 0))) ∧ Aside0 (Below w.heap.size w w'))
         case atStart => exact ⟨(t784), (false), (0), (by first | rfl | (simp; done) | (simp [*]; done)), (by first | rfl | (simp; done) | (simp [*]; done)), H', ⟨Nat.le_refl _⟩, ⟨by (with_reducible repeat (first | apply Kd.R_alloc | apply Kd.R_drewN | apply Kd.R_drew)); exact Kd.R_mono (Kd.R_far (p := ⟨gb813, 9, none⟩) (Kd.R_far (p := ⟨gb813, 8, none⟩) (Kd.R_far (p := ⟨gb813, 7, none⟩) (Kd.R_far (p := ⟨gb813, 6, none⟩) (Kd.R_far (p := ⟨gb813, 5, none⟩) (Kd.R_far (p := ⟨gb813, 4, none⟩) (Kd.R_far (p := ⟨gb813, 3, none⟩) (Kd.R_far (p := ⟨gb813, 2, none⟩) (Kd.R_far (p := ⟨gb813, 1, none⟩) (Kd.R_far (p := ⟨gb813, 0, none⟩) (Kd.R_types HO786.out BK813.out (by decide)) (fun _ hk => hk.2) (.int .i64 t794)) (fun _ hk => hk.2) (.slice Ao24 t795.length co24)) (fun _ hk => hk.2) (.int .i64 t798)) (fun _ hk => hk.2) (.int .i64 t799)) (fun _ hk => hk.2) (.int .i64 t800)) (fun _ hk => hk.2) (.int .i64 t801)) (fun _ hk => hk.2) (.int .i64 t802)) (fun _ hk => hk.2) (.slice Ao25 t803.length co25)) (fun _ hk => hk.2) (.slice Ao26 t806.length co26)) (fun _ hk => hk.2) (.slice Ao27 t809.length co27)) (fun _ hk => trivial)⟩, ⟨by (with_reducible repeat (first | apply Kd.R_alloc | apply Kd.R_drewN | apply Kd.R_drew)); exact Kd.R_mono (Kd.R_far (p := ⟨gb813, 9, none⟩) (Kd.R_far (p := ⟨gb813, 8, none⟩) (Kd.R_far (p := ⟨gb813, 7, none⟩) (Kd.R_far (p := ⟨gb813, 6, none⟩) (Kd.R_far (p := ⟨gb813, 5, none⟩) (Kd.R_far (p := ⟨gb813, 4, none⟩) (Kd.R_far (p := ⟨gb813, 3, none⟩) (Kd.R_far (p := ⟨gb813, 2, none⟩) (Kd.R_far (p := ⟨gb813, 1, none⟩) (Kd.R_far (p := ⟨gb813, 0, none⟩) (Kd.R_types HO797.out BK813.out (by decide)) (fun _ hk => hk.2) (.int .i64 t794)) (fun _ hk => hk.2) (.slice Ao24 t795.length co24)) (fun _ hk => hk.2) (.int .i64 t798)) (fun _ hk => hk.2) (.int .i64 t799)) (fun _ hk => hk.2) (.int .i64 t800)) (fun _ hk => hk.2) (.int .i64 t801)) (fun _ hk => hk.2) (.int .i64 t802)) (fun _ hk => hk.2) (.slice Ao25 t803.length co25)) (fun _ hk => hk.2) (.slice Ao26 t806.length co26)) (fun _ hk => hk.2) (.slice Ao27 t809.length co27)) (fun _ hk => hk.1)⟩, ⟨by (with_reducible repeat (first | apply Kd.R_alloc | apply Kd.R_drewN | apply Kd.R_drew)); exact Kd.R_mono (Kd.R_far (p := ⟨gb813, 9, none⟩) (Kd.R_far (p := ⟨gb813, 8, none⟩) (Kd.R_far (p := ⟨gb813, 7, none⟩) (Kd.R_far (p := ⟨gb813, 6, none⟩) (Kd.R_far (p := ⟨gb813, 5, none⟩) (Kd.R_far (p := ⟨gb813, 4, none⟩) (Kd.R_far (p := ⟨gb813, 3, none⟩) (Kd.R_far (p := ⟨gb813, 2, none⟩) (Kd.R_far (p := ⟨gb813, 1, none⟩) (Kd.R_far (p := ⟨gb813, 0, none⟩) (Kd.R_types HO805.out BK813.out (by decide)) (fun _ hk => hk.2) (.int .i64 t794)) (fun _ hk => hk.2) (.slice Ao24 t795.length co24)) (fun _ hk => hk.2) (.int .i64 t798)) (fun _ hk => hk.2) (.int .i64 t799)) (fun _ hk => hk.2) (.int .i64 t800)) (fun _ hk => hk.2) (.int .i64 t801)) (fun _ hk => hk.2) (.int .i64 t802)) (fun _ hk => hk.2) (.slice Ao25 t803.length co25)) (fun _ hk => hk.2) (.slice Ao26 t806.length co26)) (fun _ hk => hk.2) (.slice Ao27 t809.length co27)) (fun _ hk => hk.1)⟩, ⟨by (with_reducible repeat (first | apply Kd.S_alloc | apply Kd.S_drewN | apply Kd.S_drew)); exact Kd.S_mono (Kd.S_far (p := ⟨gb813, 9, none⟩) (Kd.S_far (p := ⟨gb813, 8, none⟩) (Kd.S_far (p := ⟨gb813, 7, none⟩) (Kd.S_far (p := ⟨gb813, 6, none⟩) (Kd.S_far (p := ⟨gb813, 5, none⟩) (Kd.S_far (p := ⟨gb813, 4, none⟩) (Kd.S_far (p := ⟨gb813, 3, none⟩) (Kd.S_far (p := ⟨gb813, 2, none⟩) (Kd.S_far (p := ⟨gb813, 1, none⟩) (Kd.S_far (p := ⟨gb813, 0, none⟩) (Kd.S_types HO808.out BK813.out (by decide)) (fun _ hk => hk.2) (.int .i64 t794)) (fun _ hk => hk.2) (.slice Ao24 t795.length co24)) (fun _ hk => hk.2) (.int .i64 t798)) (fun _ hk => hk.2) (.int .i64 t799)) (fun _ hk => hk.2) (.int .i64 t800)) (fun _ hk => hk.2) (.int .i64 t801)) (fun _ hk => hk.2) (.int .i64 t802)) (fun _ hk => hk.2) (.slice Ao25 t803.length co25)) (fun _ hk => hk.2) (.slice Ao26 t806.length co26)) (fun _ hk => hk.2) (.slice Ao27 t809.length co27)) (fun _ hk => ⟨hk.1.1, ⟨hk.1.2.1, hk.1.2.2⟩⟩)⟩, ⟨by (with_reducible repeat (first | apply Kd.S_alloc | apply Kd.S_drewN | apply Kd.S_drew)); exact Kd.S_mono (Kd.S_far (p := ⟨gb813, 9, none⟩) (Kd.S_far (p := ⟨gb813, 8, none⟩) (Kd.S_far (p := ⟨gb813, 7, none⟩) (Kd.S_far (p := ⟨gb813, 6, none⟩) (Kd.S_far (p := ⟨gb813, 5, none⟩) (Kd.S_far (p := ⟨gb813, 4, none⟩) (Kd.S_far (p := ⟨gb813, 3, none⟩) (Kd.S_far (p := ⟨gb813, 2, none⟩) (Kd.S_far (p := ⟨gb813, 1, none⟩) (Kd.S_far (p := ⟨gb813, 0, none⟩) (Kd.S_types HO811.out BK813.out (by decide)) (fun _ hk => hk.2) (.int .i64 t794)) (fun _ hk => hk.2) (.slice Ao24 t795.length co24)) (fun _ hk => hk.2) (.int .i64 t798)) (fun _ hk => hk.2) (.int .i64 t799)) (fun _ hk => hk.2) (.int .i64 t800)) (fun _ hk => hk.2) (.int .i64 t801)) (fun _ hk => hk.2) (.int .i64 t802)) (fun _ hk => hk.2) (.slice Ao25 t803.length co25)) (fun _ hk => hk.2) (.slice Ao26 t806.length co26)) (fun _ hk => hk.2) (.slice Ao27 t809.length co27)) (fun _ hk => ⟨hk.1.1, ⟨hk.1.2.1, hk.1.2.2⟩⟩)⟩, ⟨by refine pkB ?_; refine blk_far ?_ NB783_813.out _; refine pkB ?_; refine blk_far ?_ NB783_813.out _; refine pkB ?_; refine blk_far ?_ NB783_813.out _; refine pkB ?_; refine blk_far ?_ NB783_813.out _; refine pkB ?_; refine blk_far ?_ NB783_813.out _; refine pkB ?_; refine blk_far ?_ NB783_813.out _; refine pkB ?_; refine blk_far ?_ NB783_813.out _; refine pkB ?_; refine blk_far ?_ NB783_813.out _; refine pkB ?_; refine blk_far ?_ NB783_813.out _; refine pkB ?_; refine blk_far ?_ NB783_813.out _; refine pkB ?_; exact BK783.out⟩, ⟨by refine pkB ?_; refine blk_put (cs := #[.int .i64 t794, .slice Ao24 t795.length co24, .int .i64 t798, .int .i64 t799, .int .i64 t800, .int .i64 t801, .int .i64 t802, .slice Ao25 t803.length co25, .slice Ao26 t806.length co26, .slice none 0 0]) ?_ 9 _ (by first | rfl | (subst_vars; rfl)); refine pkB ?_; refine blk_put (cs := #[.int .i64 t794, .slice Ao24 t795.length co24, .int .i64 t798, .int .i64 t799, .int .i64 t800, .int .i64 t801, .int .i64 t802, .slice Ao25 t803.length co25, .slice none 0 0, .slice none 0 0]) ?_ 8 _ (by first | rfl | (subst_vars; rfl)); refine pkB ?_; refine blk_put (cs := #[.int .i64 t794, .slice Ao24 t795.length co24, .int .i64 t798, .int .i64 t799, .int .i64 t800, .int .i64 t801, .int .i64 t802, .slice none 0 0, .slice none 0 0, .slice none 0 0]) ?_ 7 _ (by first | rfl | (subst_vars; rfl)); refine pkB ?_; refine blk_put (cs := #[.int .i64 t794, .slice Ao24 t795.length co24, .int .i64 t798, .int .i64 t799, .int .i64 t800, .int .i64 t801, .int .i64 0, .slice none 0 0, .slice none 0 0, .slice none 0 0]) ?_ 6 _ (by first | rfl | (subst_vars; rfl)); refine pkB ?_; refine blk_put (cs := #[.int .i64 t794, .slice Ao24 t795.length co24, .int .i64 t798, .int .i64 t799, .int .i64 t800, .int .i64 0, .int .i64 0, .slice none 0 0, .slice none 0 0, .slice none 0 0]) ?_ 5 _ (by first | rfl | (subst_vars; rfl)); refine pkB ?_; refine blk_put (cs := #[.int .i64 t794, .slice Ao24 t795.length co24, .int .i64 t798, .int .i64 t799, .int .i64 0, .int .i64 0, .int .i64 0, .slice none 0 0, .slice none 0 0, .slice none 0 0]) ?_ 4 _ (by first | rfl | (subst_vars; rfl)); refine pkB ?_; refine blk_put (cs := #[.int .i64 t794, .slice Ao24 t795.length co24, .int .i64 t798, .int .i64 0, .int .i64 0, .int .i64 0, .int .i64 0, .slice none 0 0, .slice none 0 0, .slice none 0 0]) ?_ 3 _ (by first | rfl | (subst_vars; rfl)); refine pkB ?_; refine blk_put (cs := #[.int .i64 t794, .slice Ao24 t795.length co24, .int .i64 0, .int .i64 0, .int .i64 0, .int .i64 0, .int .i64 0, .slice none 0 0, .slice none 0 0, .slice none 0 0]) ?_ 2 _ (by first | rfl | (subst_vars; rfl)); refine pkB ?_; refine blk_put (cs := #[.int .i64 t794, .slice none 0 0, .int .i64 0, .int .i64 0, .int .i64 0, .int .i64 0, .int .i64 0, .slice none 0 0, .slice none 0 0, .slice none 0 0]) ?_ 1 _ (by first | rfl | (subst_vars; rfl)); refine pkB ?_; refine blk_put (cs := #[.int .i64 0, .slice none 0 0, .int .i64 0, .int .i64 0, .int .i64 0, .int .i64 0, .int .i64 0, .slice none 0 0, .slice none 0 0, .slice none 0 0]) ?_ 0 _ (by first | rfl | (subst_vars; rfl)); refine pkB ?_; exact BK813.out⟩, bpk HB⟩
         case round =>
          clear H'
          try clear c1
          try clear q1
          try clear c2
          try clear p2
          try clear c6
          try clear c6b0
          try clear c6b1
          try clear p6
          try clear c7
          try clear c7b0
          try clear c7b1
          try clear c8
          try clear c8b0
          try clear c8b1
          try clear c10
          try clear c10b0
          try clear c10b1
          try clear c11
          try clear c11b0
          try clear c11b1
          try clear c13
          try clear c13b0
          try clear c13b1
          try clear c14
          try clear c14b0
          try clear c14b1
          try clear q19
          try clear c22
          try clear hcz16_0
          try clear hcz16_1
          try clear hcz16_2
          try clear hcz16_3
          try clear hcz16_4
          try clear hcz16_5
          try clear hcz16_6
          try clear hcz16_7
          try clear hcz16_8
          try clear hcz16_9
          try clear hcz23_0
          try clear hcz23_1
          try clear hcz23_2
          try clear hcz23_3
          try clear hcz23_4
          try clear hcz23_5
          try clear hcz23_6
          try clear hcz23_7
          try clear hcz23_8
          try clear hcz23_9
          try clear hfz16_0
          try clear hfz16_1
          try clear hfz16_2
          try clear hfz16_3
          try clear hfz16_4
          try clear hfz16_5
          try clear hfz16_6
          try clear hfz16_7
          try clear hfz16_8
          try clear hfz16_9
          try clear hfz23_0
          try clear hfz23_1
          try clear hfz23_2
          try clear hfz23_3
          try clear hfz23_4
          try clear hfz23_5
          try clear hfz23_6
          try clear hfz23_7
          try clear hfz23_8
          try clear hfz23_9
          try clear q19
          obtain ⟨x9_1, x14_1, x15_1, rfl, rfl, HA, HK1, HO_9, HO_814001, HO_814007, HO_814008, HO_814009, BK783, BK813, HB⟩ := hrel
          have hl9_1 := (Kd.R_reads' HO_9.out).1
          rw [hl9_1] at HO_9
          (try simp only [hl9_1])
          (try simp only [hl9_1] at BK783)
          (try simp only [hl9_1] at BK813)
          (try simp only [hl9_1] at HO_814001)
          (try simp only [hl9_1] at HO_814007)
          (try simp only [hl9_1] at HO_814008)
          (try simp only [hl9_1] at HO_814009)
          cases gk with
          | zero => exact absurd HA.out (by simp [gimballaw33_TraceSpoilt.l0])
          | succ k1 =>
           have H := HA.out
           clear HA
           simp only [gimballaw33_TraceSpoilt.l0] at H
           have HC28 := Aside0.mk H
           clear H
           go_upto_region 13 with (fail)
           go_cut [67] (fun v67 wc => ∃ (kq : Nat) (x67_27 : Bool), v67 = .bool x67_27 ∧ Aside0 (gimballaw33_TraceSpoilt.j1 kq (wrap64 (Int.tmod (IntKind.u64.wrap (a1)) (IntKind.u64.wrap (wrap64 (8 * (wrap64 ((t784.length : Int) - 5))))))) a2 x9_1 (wrap64 (8 * (wrap64 ((t784.length : Int) - 5)))) x14_1 x15_1 x67_27 = some true) ∧ Aside0 (kq ≤ k1) ∧ Aside0 (Kd.R (Kd.int .u8) 5 wc w.heap.size (fun _ => True) (.slice Ao18 x9_1.length co18) x9_1) ∧ Aside0 (Kd.R (Kd.int .i64) 2 wc w.heap.size (fun k_ => some k_ ≠ ((.slice Ao25 t803.length co25) : Value).ownBlock) (.slice Ao24 t795.length co24) t795) ∧ Aside0 (Kd.R (Kd.int .i64) 2 wc w.heap.size (fun k_ => some k_ ≠ ((.slice Ao24 t795.length co24) : Value).ownBlock) (.slice Ao25 t803.length co25) t803) ∧ Aside0 (Kd.S (Kd.slice 2 (Kd.int .i64)) 22 wc w.heap.size (fun k_ => some k_ ≠ ((.slice Ao24 t795.length co24) : Value).ownBlock ∧ some k_ ≠ ((.slice Ao25 t803.length co25) : Value).ownBlock ∧ some k_ ≠ ((.slice Ao27 t809.length co27) : Value).ownBlock) (.slice Ao26 t806.length co26) t806) ∧ Aside0 (Kd.S (Kd.slice 2 (Kd.int .i64)) 22 wc w.heap.size (fun k_ => some k_ ≠ ((.slice Ao24 t795.length co24) : Value).ownBlock ∧ some k_ ≠ ((.slice Ao25 t803.length co25) : Value).ownBlock ∧ some k_ ≠ ((.slice Ao26 t806.length co26) : Value).ownBlock) (.slice Ao27 t809.length co27) t809) ∧ Aside0 (wc.heap[gb783]? = some (.cells #[.int .i64 a0_0, (.slice A0_1 l0_1.length c0_1), .int .i64 a0_2, .int .i64 a0_3, .int .i64 a0_4, .int .i64 a0_5, .int .i64 a0_6, (.slice A0_7 l0_7.length c0_7), (.slice A0_8 l0_8.length c0_8), (.slice A0_9 l0_9.length c0_9)] 27 (0, 0))) ∧ Aside0 (wc.heap[gb813]? = some (.cells #[.int .i64 t794, (.slice Ao24 t795.length co24), .int .i64 t798, .int .i64 t799, .int .i64 t800, .int .i64 t801, .int .i64 t802, (.slice Ao25 t803.length co25), (.slice Ao26 t806.length co26), (.slice Ao27 t809.length co27)] 27 (0, 0))) ∧ Aside0 (Below w.heap.size w wc))
           case first =>
            have H := HC28.out
            clear HC28
            by_cases c29 : x15_1 < 32
            ·
             rw [if_pos c29] at H
             have c29b0 : decide (x15_1 < 32) = true := decide_eq_true c29
             (try simp only [hl9_1] at c29b0)
             clear c29
             (first | rw [c29b0] | (simp only [i64_w, i32_w]; rw [c29b0]) | skip)
             have H' := Aside0.mk H
             clear H
             go_wp2
             go_meet
             case rel => exact ⟨_, (decide ((wrap64 ((wrap64 (Int.tmod (IntKind.u64.wrap (a1)) (IntKind.u64.wrap (wrap64 (8 * (wrap64 ((t784.length : Int) - 5))))))) + x15_1)) < (wrap64 (8 * (wrap64 ((t784.length : Int) - 5)))))), (by first | rfl | (simp; done) | (simp [*]; done)), H', ⟨by have := HK1.out; first | omega | exact Nat.le_refl _⟩, ⟨by (try simp only [hl9_1]); (with_reducible repeat (first | apply Kd.R_alloc | apply Kd.R_drewN | apply Kd.R_drew)); exact HO_9.out⟩, ⟨by (try simp only [hl9_1]); (with_reducible repeat (first | apply Kd.R_alloc | apply Kd.R_drewN | apply Kd.R_drew)); exact HO_814001.out⟩, ⟨by (try simp only [hl9_1]); (with_reducible repeat (first | apply Kd.R_alloc | apply Kd.R_drewN | apply Kd.R_drew)); exact HO_814007.out⟩, ⟨by (try simp only [hl9_1]); (with_reducible repeat (first | apply Kd.S_alloc | apply Kd.S_drewN | apply Kd.S_drew)); exact HO_814008.out⟩, ⟨by (try simp only [hl9_1]); (with_reducible repeat (first | apply Kd.S_alloc | apply Kd.S_drewN | apply Kd.S_drew)); exact HO_814009.out⟩, ⟨by (try simp only [hl9_1]); refine pkB ?_; exact BK783.out⟩, ⟨by (try simp only [hl9_1]); refine pkB ?_; exact BK813.out⟩, bpk HB⟩
            ·
             rw [if_neg c29] at H
             have c29b0 : decide (x15_1 < 32) = false := decide_eq_false c29
             (try simp only [hl9_1] at c29b0)
             clear c29
             (first | rw [c29b0] | (simp only [i64_w, i32_w]; rw [c29b0]) | skip)
             have H' := Aside0.mk H
             clear H
             go_wp2
             go_meet
             case rel => exact ⟨_, (false), (by first | rfl | (simp; done) | (simp [*]; done)), H', ⟨by have := HK1.out; first | omega | exact Nat.le_refl _⟩, ⟨by (try simp only [hl9_1]); (with_reducible repeat (first | apply Kd.R_alloc | apply Kd.R_drewN | apply Kd.R_drew)); exact HO_9.out⟩, ⟨by (try simp only [hl9_1]); (with_reducible repeat (first | apply Kd.R_alloc | apply Kd.R_drewN | apply Kd.R_drew)); exact HO_814001.out⟩, ⟨by (try simp only [hl9_1]); (with_reducible repeat (first | apply Kd.R_alloc | apply Kd.R_drewN | apply Kd.R_drew)); exact HO_814007.out⟩, ⟨by (try simp only [hl9_1]); (with_reducible repeat (first | apply Kd.S_alloc | apply Kd.S_drewN | apply Kd.S_drew)); exact HO_814008.out⟩, ⟨by (try simp only [hl9_1]); (with_reducible repeat (first | apply Kd.S_alloc | apply Kd.S_drewN | apply Kd.S_drew)); exact HO_814009.out⟩, ⟨by (try simp only [hl9_1]); refine pkB ?_; exact BK783.out⟩, ⟨by (try simp only [hl9_1]); refine pkB ?_; exact BK813.out⟩, bpk HB⟩
           case rest =>
            clear HC28
            try clear c1
            try clear q1
            try clear c2
            try clear p2
            try clear c6
            try clear c6b0
            try clear c6b1
            try clear p6
            try clear c7
            try clear c7b0
            try clear c7b1
            try clear c8
            try clear c8b0
            try clear c8b1
            try clear c10
            try clear c10b0
            try clear c10b1
            try clear c11
            try clear c11b0
            try clear c11b1
            try clear c13
            try clear c13b0
            try clear c13b1
            try clear c14
            try clear c14b0
            try clear c14b1
            try clear q19
            try clear c22
            try clear c29
            try clear c29b0
            try clear hcz16_0
            try clear hcz16_1
            try clear hcz16_2
            try clear hcz16_3
            try clear hcz16_4
            try clear hcz16_5
            try clear hcz16_6
            try clear hcz16_7
            try clear hcz16_8
            try clear hcz16_9
            try clear hcz23_0
            try clear hcz23_1
            try clear hcz23_2
            try clear hcz23_3
            try clear hcz23_4
            try clear hcz23_5
            try clear hcz23_6
            try clear hcz23_7
            try clear hcz23_8
            try clear hcz23_9
            try clear hfz16_0
            try clear hfz16_1
            try clear hfz16_2
            try clear hfz16_3
            try clear hfz16_4
            try clear hfz16_5
            try clear hfz16_6
            try clear hfz16_7
            try clear hfz16_8
            try clear hfz16_9
            try clear hfz23_0
            try clear hfz23_1
            try clear hfz23_2
            try clear hfz23_3
            try clear hfz23_4
            try clear hfz23_5
            try clear hfz23_6
            try clear hfz23_7
            try clear hfz23_8
            try clear hfz23_9
            try clear p2
            try clear p6
            try clear q1
            try clear q19
            obtain ⟨kq, x67_27, rfl, HA, HJ27, HO_9, HO_814001, HO_814007, HO_814008, HO_814009, BK783, BK813, HB⟩ := hcut
            cases kq with
            | zero => exact absurd HA.out (by simp [gimballaw33_TraceSpoilt.j1])
            | succ kj27 =>
             have H := HA.out
             clear HA
             simp only [gimballaw33_TraceSpoilt.j1] at H
             by_cases c30 : x67_27 = true
             ·
              subst c30
              have H1 : (if 0 ≤ (IntKind.u64.wrap (x15_1)) then (if (Go.bits .and .u32 (shr .u32 a2 (IntKind.u64.wrap (x15_1))) 1) = 1 then (if 0 ≤ (wrap64 (5 + (wrap64 (Int.tdiv (wrap64 ((wrap64 (Int.tmod (IntKind.u64.wrap (a1)) (IntKind.u64.wrap (wrap64 (8 * (wrap64 ((t784.length : Int) - 5))))))) + x15_1)) 8)))) then (if (wrap64 (5 + (wrap64 (Int.tdiv (wrap64 ((wrap64 (Int.tmod (IntKind.u64.wrap (a1)) (IntKind.u64.wrap (wrap64 (8 * (wrap64 ((t784.length : Int) - 5))))))) + x15_1)) 8)))) < (x9_1.length : Int) then (if 0 ≤ (IntKind.u64.wrap (Int.tmod (wrap64 ((wrap64 (Int.tmod (IntKind.u64.wrap (a1)) (IntKind.u64.wrap (wrap64 (8 * (wrap64 ((t784.length : Int) - 5))))))) + x15_1)) 8)) then (gimballaw33_TraceSpoilt.l0 kj27 (wrap64 (Int.tmod (IntKind.u64.wrap (a1)) (IntKind.u64.wrap (wrap64 (8 * (wrap64 ((t784.length : Int) - 5))))))) a2 (x9_1.set ((wrap64 (5 + (wrap64 (Int.tdiv (wrap64 ((wrap64 (Int.tmod (IntKind.u64.wrap (a1)) (IntKind.u64.wrap (wrap64 (8 * (wrap64 ((t784.length : Int) - 5))))))) + x15_1)) 8)))) : Int).toNat (Go.bits .xor .u8 (rd x9_1 (wrap64 (5 + (wrap64 (Int.tdiv (wrap64 ((wrap64 (Int.tmod (IntKind.u64.wrap (a1)) (IntKind.u64.wrap (wrap64 (8 * (wrap64 ((t784.length : Int) - 5))))))) + x15_1)) 8))))) (shl .u8 1 (IntKind.u64.wrap (Int.tmod (wrap64 ((wrap64 (Int.tmod (IntKind.u64.wrap (a1)) (IntKind.u64.wrap (wrap64 (8 * (wrap64 ((t784.length : Int) - 5))))))) + x15_1)) 8))))) (wrap64 (8 * (wrap64 ((t784.length : Int) - 5)))) true (wrap64 (x15_1 + 1))) else (none)) else (none)) else (none)) else (gimballaw33_TraceSpoilt.l0 kj27 (wrap64 (Int.tmod (IntKind.u64.wrap (a1)) (IntKind.u64.wrap (wrap64 (8 * (wrap64 ((t784.length : Int) - 5))))))) a2 x9_1 (wrap64 (8 * (wrap64 ((t784.length : Int) - 5)))) x14_1 (wrap64 (x15_1 + 1)))) else (none)) = some true := by rw [if_pos rfl] at H; exact H
              clear H
              have H := H1
              clear H1
              obtain ⟨ji31, hji31⟩ : ∃ j_ : Int, (IntKind.u64.wrap (x15_1)) = j_ := ⟨_, rfl⟩
              replace H : (if 0 ≤ (ji31) then (if (Go.bits .and .u32 (shr .u32 a2 (ji31)) 1) = 1 then (if 0 ≤ (wrap64 (5 + (wrap64 (Int.tdiv (wrap64 ((wrap64 (Int.tmod (IntKind.u64.wrap (a1)) (IntKind.u64.wrap (wrap64 (8 * (wrap64 ((t784.length : Int) - 5))))))) + x15_1)) 8)))) then (if (wrap64 (5 + (wrap64 (Int.tdiv (wrap64 ((wrap64 (Int.tmod (IntKind.u64.wrap (a1)) (IntKind.u64.wrap (wrap64 (8 * (wrap64 ((t784.length : Int) - 5))))))) + x15_1)) 8)))) < (x9_1.length : Int) then (if 0 ≤ (IntKind.u64.wrap (Int.tmod (wrap64 ((wrap64 (Int.tmod (IntKind.u64.wrap (a1)) (IntKind.u64.wrap (wrap64 (8 * (wrap64 ((t784.length : Int) - 5))))))) + x15_1)) 8)) then (gimballaw33_TraceSpoilt.l0 kj27 (wrap64 (Int.tmod (IntKind.u64.wrap (a1)) (IntKind.u64.wrap (wrap64 (8 * (wrap64 ((t784.length : Int) - 5))))))) a2 (x9_1.set ((wrap64 (5 + (wrap64 (Int.tdiv (wrap64 ((wrap64 (Int.tmod (IntKind.u64.wrap (a1)) (IntKind.u64.wrap (wrap64 (8 * (wrap64 ((t784.length : Int) - 5))))))) + x15_1)) 8)))) : Int).toNat (Go.bits .xor .u8 (rd x9_1 (wrap64 (5 + (wrap64 (Int.tdiv (wrap64 ((wrap64 (Int.tmod (IntKind.u64.wrap (a1)) (IntKind.u64.wrap (wrap64 (8 * (wrap64 ((t784.length : Int) - 5))))))) + x15_1)) 8))))) (shl .u8 1 (IntKind.u64.wrap (Int.tmod (wrap64 ((wrap64 (Int.tmod (IntKind.u64.wrap (a1)) (IntKind.u64.wrap (wrap64 (8 * (wrap64 ((t784.length : Int) - 5))))))) + x15_1)) 8))))) (wrap64 (8 * (wrap64 ((t784.length : Int) - 5)))) true (wrap64 (x15_1 + 1))) else (none)) else (none)) else (none)) else (gimballaw33_TraceSpoilt.l0 kj27 (wrap64 (Int.tmod (IntKind.u64.wrap (a1)) (IntKind.u64.wrap (wrap64 (8 * (wrap64 ((t784.length : Int) - 5))))))) a2 x9_1 (wrap64 (8 * (wrap64 ((t784.length : Int) - 5)))) x14_1 (wrap64 (x15_1 + 1)))) else (none)) = some true := by first | (rw [hji31] at H; exact H) | (simp only [hji31] at H ⊢; exact H)
              by_cases c32 : 0 ≤ (ji31)
              ·
               rw [if_pos c32] at H
               have c32b0 := eq_true c32
               have c32b1 : decide (0 ≤ (ji31)) = true := decide_eq_true c32
               clear c32
               obtain ⟨ji33, hji33⟩ : ∃ j_ : Int, (shr .u32 a2 (ji31)) = j_ := ⟨_, rfl⟩
               replace H : (if (Go.bits .and .u32 (ji33) 1) = 1 then (if 0 ≤ (wrap64 (5 + (wrap64 (Int.tdiv (wrap64 ((wrap64 (Int.tmod (IntKind.u64.wrap (a1)) (IntKind.u64.wrap (wrap64 (8 * (wrap64 ((t784.length : Int) - 5))))))) + x15_1)) 8)))) then (if (wrap64 (5 + (wrap64 (Int.tdiv (wrap64 ((wrap64 (Int.tmod (IntKind.u64.wrap (a1)) (IntKind.u64.wrap (wrap64 (8 * (wrap64 ((t784.length : Int) - 5))))))) + x15_1)) 8)))) < (x9_1.length : Int) then (if 0 ≤ (IntKind.u64.wrap (Int.tmod (wrap64 ((wrap64 (Int.tmod (IntKind.u64.wrap (a1)) (IntKind.u64.wrap (wrap64 (8 * (wrap64 ((t784.length : Int) - 5))))))) + x15_1)) 8)) then (gimballaw33_TraceSpoilt.l0 kj27 (wrap64 (Int.tmod (IntKind.u64.wrap (a1)) (IntKind.u64.wrap (wrap64 (8 * (wrap64 ((t784.length : Int) - 5))))))) a2 (x9_1.set ((wrap64 (5 + (wrap64 (Int.tdiv (wrap64 ((wrap64 (Int.tmod (IntKind.u64.wrap (a1)) (IntKind.u64.wrap (wrap64 (8 * (wrap64 ((t784.length : Int) - 5))))))) + x15_1)) 8)))) : Int).toNat (Go.bits .xor .u8 (rd x9_1 (wrap64 (5 + (wrap64 (Int.tdiv (wrap64 ((wrap64 (Int.tmod (IntKind.u64.wrap (a1)) (IntKind.u64.wrap (wrap64 (8 * (wrap64 ((t784.length : Int) - 5))))))) + x15_1)) 8))))) (shl .u8 1 (IntKind.u64.wrap (Int.tmod (wrap64 ((wrap64 (Int.tmod (IntKind.u64.wrap (a1)) (IntKind.u64.wrap (wrap64 (8 * (wrap64 ((t784.length : Int) - 5))))))) + x15_1)) 8))))) (wrap64 (8 * (wrap64 ((t784.length : Int) - 5)))) true (wrap64 (x15_1 + 1))) else (none)) else (none)) else (none)) else (gimballaw33_TraceSpoilt.l0 kj27 (wrap64 (Int.tmod (IntKind.u64.wrap (a1)) (IntKind.u64.wrap (wrap64 (8 * (wrap64 ((t784.length : Int) - 5))))))) a2 x9_1 (wrap64 (8 * (wrap64 ((t784.length : Int) - 5)))) x14_1 (wrap64 (x15_1 + 1)))) = some true := by first | (rw [hji33] at H; exact H) | (simp only [hji33] at H ⊢; exact H)
               have hji33_ : (a2 / 2 ^ min (ji31).toNat 32) = ji33 := hji33
               have hji33z : (ji31) ≤ 32 → (a2 / 2 ^ (ji31).toNat) = ji33 := shr_small hji33
               by_cases c34 : (Go.bits .and .u32 (ji33) 1) = 1
               ·
                rw [if_pos c34] at H
                have c34b0 : ((Go.bits .and .u32 (ji33) 1) == 1) = true := beq_iff_eq.mpr c34
                (try simp only [hl9_1] at c34b0)
                have c34b1 : ((Go.bits .and .u32 (ji33) 1) != 1) = false := bne_eq_false_iff_eq.mpr c34
                (try simp only [hl9_1] at c34b1)
                clear c34
                obtain ⟨ji35, hji35⟩ : ∃ j_ : Int, (wrap64 (5 + (wrap64 (Int.tdiv (wrap64 ((wrap64 (Int.tmod (IntKind.u64.wrap (a1)) (IntKind.u64.wrap (wrap64 (8 * (wrap64 ((t784.length : Int) - 5))))))) + x15_1)) 8)))) = j_ := ⟨_, rfl⟩
                replace H : (if 0 ≤ (ji35) then (if (ji35) < (x9_1.length : Int) then (if 0 ≤ (IntKind.u64.wrap (Int.tmod (wrap64 ((wrap64 (Int.tmod (IntKind.u64.wrap (a1)) (IntKind.u64.wrap (wrap64 (8 * (wrap64 ((t784.length : Int) - 5))))))) + x15_1)) 8)) then (gimballaw33_TraceSpoilt.l0 kj27 (wrap64 (Int.tmod (IntKind.u64.wrap (a1)) (IntKind.u64.wrap (wrap64 (8 * (wrap64 ((t784.length : Int) - 5))))))) a2 (x9_1.set ((ji35) : Int).toNat (Go.bits .xor .u8 (rd x9_1 (ji35)) (shl .u8 1 (IntKind.u64.wrap (Int.tmod (wrap64 ((wrap64 (Int.tmod (IntKind.u64.wrap (a1)) (IntKind.u64.wrap (wrap64 (8 * (wrap64 ((t784.length : Int) - 5))))))) + x15_1)) 8))))) (wrap64 (8 * (wrap64 ((t784.length : Int) - 5)))) true (wrap64 (x15_1 + 1))) else (none)) else (none)) else (none)) = some true := by first | (rw [hji35] at H; exact H) | (simp only [hji35] at H ⊢; exact H)
                have hji35w : (IntKind.i64.wrap (5 + (wrap64 (Int.tdiv (wrap64 ((wrap64 (Int.tmod (IntKind.u64.wrap (a1)) (IntKind.u64.wrap (wrap64 (8 * (wrap64 ((t784.length : Int) - 5))))))) + x15_1)) 8)))) = ji35 := (i64_w _).trans hji35
                by_cases c36 : 0 ≤ (ji35)
                ·
                 rw [if_pos c36] at H
                 have c36b0 : decide (0 ≤ (ji35)) = true := decide_eq_true c36
                 (try simp only [hl9_1] at c36b0)
                 clear c36
                 by_cases c37 : (ji35) < (x9_1.length : Int)
                 ·
                  rw [if_pos c37] at H
                  have c37b0 : decide ((ji35) < (x9_1.length : Int)) = true := decide_eq_true c37
                  (try simp only [hl9_1] at c37b0)
                  clear c37
                  obtain ⟨ji38, hji38⟩ : ∃ j_ : Int, (IntKind.u64.wrap (Int.tmod (wrap64 ((wrap64 (Int.tmod (IntKind.u64.wrap (a1)) (IntKind.u64.wrap (wrap64 (8 * (wrap64 ((t784.length : Int) - 5))))))) + x15_1)) 8)) = j_ := ⟨_, rfl⟩
                  replace H : (if 0 ≤ (ji38) then (gimballaw33_TraceSpoilt.l0 kj27 (wrap64 (Int.tmod (IntKind.u64.wrap (a1)) (IntKind.u64.wrap (wrap64 (8 * (wrap64 ((t784.length : Int) - 5))))))) a2 (x9_1.set ((ji35) : Int).toNat (Go.bits .xor .u8 (rd x9_1 (ji35)) (shl .u8 1 (ji38)))) (wrap64 (8 * (wrap64 ((t784.length : Int) - 5)))) true (wrap64 (x15_1 + 1))) else (none)) = some true := by first | (rw [hji38] at H; exact H) | (simp only [hji38] at H ⊢; exact H)
                  by_cases c39 : 0 ≤ (ji38)
                  ·
                   rw [if_pos c39] at H
                   have c39b0 := eq_true c39
                   have c39b1 : decide (0 ≤ (ji38)) = true := decide_eq_true c39
                   clear c39
                   obtain ⟨ji40, hji40⟩ : ∃ j_ : Int, (shl .u8 1 (ji38)) = j_ := ⟨_, rfl⟩
                   replace H : (gimballaw33_TraceSpoilt.l0 kj27 (wrap64 (Int.tmod (IntKind.u64.wrap (a1)) (IntKind.u64.wrap (wrap64 (8 * (wrap64 ((t784.length : Int) - 5))))))) a2 (x9_1.set ((ji35) : Int).toNat (Go.bits .xor .u8 (rd x9_1 (ji35)) (ji40))) (wrap64 (8 * (wrap64 ((t784.length : Int) - 5)))) true (wrap64 (x15_1 + 1))) = some true := by first | (rw [hji40] at H; exact H) | (simp only [hji40] at H ⊢; exact H)
                   have hji40_ : (IntKind.u8.wrap (1 * 2 ^ min (ji38).toNat 8)) = ji40 := hji40
                   have hji40z : (ji38) ≤ 8 → (IntKind.u8.wrap (1 * 2 ^ (ji38).toNat)) = ji40 := shl_small hji40
                   have hji40u : (IntKind.u8.wrap (2 ^ min (ji38).toNat 8)) = ji40 := by have h_ := hji40_; rw [Int.one_mul] at h_; exact h_
                   have hji40v : (ji38) ≤ 8 → (IntKind.u8.wrap (2 ^ (ji38).toNat)) = ji40 := fun hle_ => by have h_ := hji40z hle_; rw [Int.one_mul] at h_; exact h_
                   obtain ⟨y815, hy815⟩ : ∃ y_ : List Int, y_ = (x9_1.set ((ji35) : Int).toNat (Go.bits .xor .u8 (rd x9_1 (ji35)) (ji40))) := ⟨_, rfl⟩
                   replace H : (gimballaw33_TraceSpoilt.l0 kj27 (wrap64 (Int.tmod (IntKind.u64.wrap (a1)) (IntKind.u64.wrap (wrap64 (8 * (wrap64 ((t784.length : Int) - 5))))))) a2 y815 (wrap64 (8 * (wrap64 ((t784.length : Int) - 5)))) true (wrap64 (x15_1 + 1))) = some true := by first | (rw [hy815]; with_reducible exact H) | (have H2_ := (Option.bind_some _ _).symm.trans H; rw [hy815]; with_reducible exact H2_) | (have H2_ := (Option.bind_some _ _).symm.trans H; with_reducible exact H2_) | with_reducible exact H | (rw [hy815]; exact H) | exact H
                   have Ny815 := Aside0.mk hy815
                   clear hy815
                   have H' := Aside0.mk H
                   clear H
                   have p42 : 0 ≤ ((ji35) : Int) := of_decide_eq_true (by first | (with_reducible assumption) | assumption)
                   have q42 : ((ji35) : Int) < ((x9_1.length : Int) : Int) := of_decide_eq_true (by first | (with_reducible assumption) | assumption)
                   obtain ⟨go42, co42, eo42, gb42, gl42, cl42, HG42⟩ := Kd.R_form HO_9.out (by omega)
                   (first | cases eo42 | (injection eo42 with ea_ en_ ec_; (first | subst ea_ | (injection ea_ with ea_; subst ea_)); subst ec_; clear en_))
                   have GB42 := Aside0.mk gb42
                   have GG42 := Aside0.mk HG42
                   clear gb42 gl42 HG42
                   clear p42 q42
                   have p814 : 0 ≤ ((ji35) : Int) := of_decide_eq_true (by first | (with_reducible assumption) | assumption)
                   have q814 : (ji35) < (x9_1.length : Int) := of_decide_eq_true (by first | (with_reducible assumption) | assumption)
                   obtain ⟨ad814, e814, hx814_0⟩ := Kd.at_int (Kd.R_reads' HO_9.out).2.2 (ji35) p814 q814
                   obtain rfl : (⟨go42, 0, none⟩ : Addr) = ad814 := (by injection e814)
                   (first | simp only [add_plain] at hx814_0 | simp only [add_at] at hx814_0 | simp only [Addr.add, Nat.zero_add] at hx814_0 | skip)
                   replace p814 := eq_true p814
                   replace q814 := eq_true q814
                   have p41 : 0 ≤ ((ji35) : Int) := of_decide_eq_true (by first | (with_reducible assumption) | assumption)
                   have q41 : ((ji35) : Int) < ((x9_1.length : Int) : Int) := of_decide_eq_true (by first | (with_reducible assumption) | assumption)
                   obtain ⟨hx41_0, hf41_0⟩ := Kd.R_celln 0 HO_9.out ((ji35) : Int) p41 q41
                   replace p41 := eq_true p41
                   replace q41 := eq_true q41
                   (try simp only [hl9_1] at hji38 hji35 hji35w)
                   have HP43 := Kd.R_putg HO_9.out ((ji35) : Int) (Go.bits .xor .u8 (rd x9_1 (ji35)) (ji40))
                   go_wp2_with (first | ((with_reducible refine gate_store (t := 5) (p := 91) rfl ?_); refine store_event (t := 5) (p := 91) (v := ?vo_w44) (w1 := (wc.setCell ⟨go42, ((ji35) : Int).toNat, none⟩ (.int .u8 (Go.bits .xor .u8 (rd x9_1 (ji35)) (ji40))))) ?hg ?ho ?hn ?hr ?_; (case ho => rfl); (case hg => rfl); (case hn => rfl); (case hr => first | (go_simp; done) | (go_simp; rfl)); intro w44 hw; have hg : wc.grownBy w44 (some go42) := (by rw [hw]; exact HP43.2); have hp_ : Kd.R (Kd.int .u8) 5 w44 w.heap.size (fun _ => True) (.slice (some ⟨go42, 0, none⟩) x9_1.length co18) y815 := (by rw [hw, Ny815.out]; exact HP43.1); clear HP43; have n0_ := Aside0.mk (hp_); have n1_ := Aside0.mk (Kd.R_over' (v := (.slice (some ⟨go42, 0, none⟩) x9_1.length co18)) (by (with_reducible repeat (first | apply Kd.R_alloc | apply Kd.R_drewN | apply Kd.R_drew)); exact HO_814001.out) (Kd.R_typed HO_9.out) (by decide) hg); have n2_ := Aside0.mk (Kd.R_over' (v := (.slice (some ⟨go42, 0, none⟩) x9_1.length co18)) (by (with_reducible repeat (first | apply Kd.R_alloc | apply Kd.R_drewN | apply Kd.R_drew)); exact HO_814007.out) (Kd.R_typed HO_9.out) (by decide) hg); have n3_ := Aside0.mk (Kd.S_over' (v := (.slice (some ⟨go42, 0, none⟩) x9_1.length co18)) (by (with_reducible repeat (first | apply Kd.S_alloc | apply Kd.S_drewN | apply Kd.S_drew)); exact HO_814008.out) (Kd.R_typed HO_9.out) (by decide) hg); have n4_ := Aside0.mk (Kd.S_over' (v := (.slice (some ⟨go42, 0, none⟩) x9_1.length co18)) (by (with_reducible repeat (first | apply Kd.S_alloc | apply Kd.S_drewN | apply Kd.S_drew)); exact HO_814009.out) (Kd.R_typed HO_9.out) (by decide) hg); have n5_ := Aside0.mk (blk_grown (g := gb783) (o := .cells #[.int .i64 a0_0, .slice A0_1 l0_1.length c0_1, .int .i64 a0_2, .int .i64 a0_3, .int .i64 a0_4, .int .i64 a0_5, .int .i64 a0_6, .slice A0_7 l0_7.length c0_7, .slice A0_8 l0_8.length c0_8, .slice A0_9 l0_9.length c0_9] 27 (0, 0)) (pk BK783.out) hg (Kd.R_ne HO_9.out BK783.out (by decide))); have n6_ := Aside0.mk (blk_grown (g := gb813) (o := .cells #[.int .i64 t794, .slice Ao24 t795.length co24, .int .i64 t798, .int .i64 t799, .int .i64 t800, .int .i64 t801, .int .i64 t802, .slice Ao25 t803.length co25, .slice Ao26 t806.length co26, .slice Ao27 t809.length co27] 27 (0, 0)) (pk BK813.out) hg (Kd.R_ne HO_9.out BK813.out (by decide))); have n7_ := Aside0.mk ((by rw [hw]; exact below_set (HB.out) GB42.out : Below w.heap.size w w44)); clear HO_9; clear HO_814001; clear HO_814007; clear HO_814008; clear HO_814009; clear BK783; clear BK813; clear HB; have HO_9 := n0_; have HO_814001 := n1_; have HO_814007 := n2_; have HO_814008 := n3_; have HO_814009 := n4_; have BK783 := n5_; have BK813 := n6_; have HB := n7_; clear n0_ n1_ n2_ n3_ n4_ n5_ n6_ n7_; clear hg hw hp_))
                   (try simp only [← hl9_1])
                   go_roundg kj27
                   case measure => have := HK1.out; have := HJ27.out; omega
                   case rel => exact ⟨(y815), (true), (wrap64 (x15_1 + 1)), (by first | rfl | (simp; done) | (simp [*]; done)), (by first | rfl | (simp; done) | (simp [*]; done)), H', ⟨by have := HK1.out; have := HJ27.out; omega⟩, ⟨by (try simp only [hl9_1]); (with_reducible repeat (first | apply Kd.R_alloc | apply Kd.R_drewN | apply Kd.R_drew)); exact HO_9.out⟩, ⟨by (try simp only [hl9_1]); (with_reducible repeat (first | apply Kd.R_alloc | apply Kd.R_drewN | apply Kd.R_drew)); exact HO_814001.out⟩, ⟨by (try simp only [hl9_1]); (with_reducible repeat (first | apply Kd.R_alloc | apply Kd.R_drewN | apply Kd.R_drew)); exact HO_814007.out⟩, ⟨by (try simp only [hl9_1]); (with_reducible repeat (first | apply Kd.S_alloc | apply Kd.S_drewN | apply Kd.S_drew)); exact HO_814008.out⟩, ⟨by (try simp only [hl9_1]); (with_reducible repeat (first | apply Kd.S_alloc | apply Kd.S_drewN | apply Kd.S_drew)); exact HO_814009.out⟩, ⟨by (try simp only [hl9_1]); refine pkB ?_; exact BK783.out⟩, ⟨by (try simp only [hl9_1]); refine pkB ?_; exact BK813.out⟩, bpk HB⟩
                  ·
                   rw [if_neg c39] at H
                   exact absurd H (by simp)
                 ·
                  rw [if_neg c37] at H
                  exact absurd H (by simp)
                ·
                 rw [if_neg c36] at H
                 exact absurd H (by simp)
               ·
                rw [if_neg c34] at H
                have c34b0 : ((Go.bits .and .u32 (ji33) 1) == 1) = false := beq_eq_false_iff_ne.mpr c34
                (try simp only [hl9_1] at c34b0)
                have c34b1 : ((Go.bits .and .u32 (ji33) 1) != 1) = true := bne_iff_ne.mpr c34
                (try simp only [hl9_1] at c34b1)
                have H' := Aside0.mk H
                clear H
                go_wp2
                (try simp only [← hl9_1])
                go_roundg kj27
                case measure => have := HK1.out; have := HJ27.out; omega
                case rel => exact ⟨(x9_1), (x14_1), (wrap64 (x15_1 + 1)), (by first | rfl | (simp; done) | (simp [*]; done)), (by first | rfl | (simp; done) | (simp [*]; done)), H', ⟨by have := HK1.out; have := HJ27.out; omega⟩, ⟨by (try simp only [hl9_1]); (with_reducible repeat (first | apply Kd.R_alloc | apply Kd.R_drewN | apply Kd.R_drew)); exact HO_9.out⟩, ⟨by (try simp only [hl9_1]); (with_reducible repeat (first | apply Kd.R_alloc | apply Kd.R_drewN | apply Kd.R_drew)); exact HO_814001.out⟩, ⟨by (try simp only [hl9_1]); (with_reducible repeat (first | apply Kd.R_alloc | apply Kd.R_drewN | apply Kd.R_drew)); exact HO_814007.out⟩, ⟨by (try simp only [hl9_1]); (with_reducible repeat (first | apply Kd.S_alloc | apply Kd.S_drewN | apply Kd.S_drew)); exact HO_814008.out⟩, ⟨by (try simp only [hl9_1]); (with_reducible repeat (first | apply Kd.S_alloc | apply Kd.S_drewN | apply Kd.S_drew)); exact HO_814009.out⟩, ⟨by (try simp only [hl9_1]); refine pkB ?_; exact BK783.out⟩, ⟨by (try simp only [hl9_1]); refine pkB ?_; exact BK813.out⟩, bpk HB⟩
              ·
               rw [if_neg c32] at H
               exact absurd H (by simp)
             ·
              replace c30 := Bool.eq_false_iff.mpr c30
              subst c30
              have H1 : ((trace_Decode.f kj27 x9_1).bind fun bt816 => (if ((bt816.2.2.2.2.2.2.2.2.2.2 == 332) == x14_1) = true then (if ((bt816.2.2.2.2.2.2.2.2.2.2 == 0) == (!x14_1)) = true then ((gimballaw33_awake.f kj27).bind fun t836 => (some t836)) else (some false)) else (some false))) = some true := by rw [if_neg (show ¬ (false = true) by decide)] at H; exact H
              clear H
              have H := H1
              clear H1
              replace H := Option.bind_eq_some_iff.mp H
              obtain ⟨⟨t816, t817, t820, t821, t822, t823, t824, t825, t828, t831, t834⟩, A450, H⟩ := H
              replace H : (if ((t834 == 332) == x14_1) = true then (if ((t834 == 0) == (!x14_1)) = true then ((gimballaw33_awake.f kj27).bind fun t836 => (some t836)) else (some false)) else (some false)) = some true := H
              have A45 := Aside0.mk A450
              clear A450
              by_cases c46 : ((t834 == 332) == x14_1) = true
              ·
               rw [if_pos c46] at H
               have c46b0 : ((t834 == 332) == x14_1) = true := c46
               (try simp only [hl9_1] at c46b0)
               (try (have c46b1 : decide ((t834 == 332) = x14_1) = true := by simpa using c46))
               (try simp only [hl9_1] at c46b1)
               (try (have c46b2 : ((t834 == 332) == x14_1) = true := by simpa using c46))
               (try simp only [hl9_1] at c46b2)
               clear c46
               by_cases c47 : ((t834 == 0) == (!x14_1)) = true
               ·
                rw [if_pos c47] at H
                have c47b0 : ((t834 == 0) == (!x14_1)) = true := c47
                (try simp only [hl9_1] at c47b0)
                (try (have c47b1 : decide ((t834 == 0) = (!x14_1)) = true := by simpa using c47))
                (try simp only [hl9_1] at c47b1)
                (try (have c47b2 : ((t834 == 0) == (!x14_1)) = true := by simpa using c47))
                (try simp only [hl9_1] at c47b2)
                clear c47
                replace H := Option.bind_eq_some_iff.mp H
                obtain ⟨t836, A480, H⟩ := H
                replace H : (some t836) = some true := H
                have A48 := Aside0.mk A480
                clear A480
                have hret_ := Option.some.inj H
                clear H
                go_wp2_with (first | ((with_reducible refine gate_callee (f := 14) rfl ?_); refine goesL_ (some 94) rfl rfl Try.func14 (by kernel_rfl) rfl #[.slice Ao18 x9_1.length co18] rfl (by (try simp only [List.map_toArray, List.map_cons, List.map_nil]); first | done | rfl | (simp only [List.length_drop, List.length_take]; rfl)) ?_; (with_reducible refine (trace_Decode.calls kj27 _ _ x9_1 t816 t817 t820 t821 t822 t823 t824 t825 t828 t831 t834 _ ?side1 ?side2 A45.out).mono ?_); (case side1 => repeat (first | exact (Kd.R_reads' HO_9.out).2.2 | (with_reducible refine Kd.C_alloc ?_ _) | (with_reducible refine Kd.C_drewN ?_ _) | (with_reducible refine Kd.C_drew ?_))); (case side2 => exact (Kd.R_reads' HO_9.out).2.1); rintro e w49 ⟨v818, v826, v829, v832, rfl, ho0, ho1, ho2, ho3, hb⟩; refine ⟨_, rfl, ?_⟩; have n0_ := Aside0.mk (Kd.R_below (by (with_reducible repeat (first | apply Kd.R_alloc | apply Kd.R_drewN | apply Kd.R_drew)); exact HO_9.out) hb); have n1_ := Aside0.mk (Kd.R_mono (Kd.R_told (Kd.R_told (Kd.R_old (by (with_reducible repeat (first | apply Kd.R_alloc | apply Kd.R_drewN | apply Kd.R_drew)); exact HO_814001.out) hb) (Kd.R_base ho0)) (Kd.R_base ho1)) (fun _ h_ => h_.1)); have n2_ := Aside0.mk (Kd.R_mono (Kd.R_told (Kd.R_told (Kd.R_old (by (with_reducible repeat (first | apply Kd.R_alloc | apply Kd.R_drewN | apply Kd.R_drew)); exact HO_814007.out) hb) (Kd.R_base ho0)) (Kd.R_base ho1)) (fun _ h_ => h_.1)); have n3_ := Aside0.mk (Kd.S_mono (Kd.S_told (Kd.S_told (Kd.S_told (Kd.S_told (Kd.S_old (by (with_reducible repeat (first | apply Kd.S_alloc | apply Kd.S_drewN | apply Kd.S_drew)); exact HO_814008.out) hb) (Kd.R_base ho0)) (Kd.R_base ho1)) (Kd.S_base ho2)) (Kd.S_base ho3)) (fun _ h_ => h_.1)); have n4_ := Aside0.mk (Kd.S_mono (Kd.S_told (Kd.S_told (Kd.S_told (Kd.S_told (Kd.S_old (by (with_reducible repeat (first | apply Kd.S_alloc | apply Kd.S_drewN | apply Kd.S_drew)); exact HO_814009.out) hb) (Kd.R_base ho0)) (Kd.R_base ho1)) (Kd.S_base ho2)) (Kd.S_base ho3)) (fun _ h_ => h_.1)); have n5_ := Aside0.mk (Kd.R_lower (Kd.R_new' (Kd.R_new' ho0 (Kd.R_lt (by (with_reducible repeat (first | apply Kd.R_alloc | apply Kd.R_drewN | apply Kd.R_drew)); exact HO_814001.out))) (Kd.R_lt (by (with_reducible repeat (first | apply Kd.R_alloc | apply Kd.R_drewN | apply Kd.R_drew)); exact HO_814007.out))) (below_size (by repeat (first | (with_reducible first | exact HB.out | apply below_alloc | apply pw_below_drewN | apply below_drew1 | refine below_set ?_ GE783.out | refine below_set ?_ GE813.out) | exact HB.out)))); have n6_ := Aside0.mk (Kd.R_lower (Kd.R_new' (Kd.R_new' ho1 (Kd.R_lt (by (with_reducible repeat (first | apply Kd.R_alloc | apply Kd.R_drewN | apply Kd.R_drew)); exact HO_814001.out))) (Kd.R_lt (by (with_reducible repeat (first | apply Kd.R_alloc | apply Kd.R_drewN | apply Kd.R_drew)); exact HO_814007.out))) (below_size (by repeat (first | (with_reducible first | exact HB.out | apply below_alloc | apply pw_below_drewN | apply below_drew1 | refine below_set ?_ GE783.out | refine below_set ?_ GE813.out) | exact HB.out)))); have n7_ := Aside0.mk (Kd.S_lower (Kd.S_new' (Kd.S_new' (Kd.S_new' (Kd.S_new' ho2 (Kd.R_lt (by (with_reducible repeat (first | apply Kd.R_alloc | apply Kd.R_drewN | apply Kd.R_drew)); exact HO_814001.out))) (Kd.R_lt (by (with_reducible repeat (first | apply Kd.R_alloc | apply Kd.R_drewN | apply Kd.R_drew)); exact HO_814007.out))) (Kd.S_lt (by (with_reducible repeat (first | apply Kd.S_alloc | apply Kd.S_drewN | apply Kd.S_drew)); exact HO_814008.out))) (Kd.S_lt (by (with_reducible repeat (first | apply Kd.S_alloc | apply Kd.S_drewN | apply Kd.S_drew)); exact HO_814009.out))) (below_size (by repeat (first | (with_reducible first | exact HB.out | apply below_alloc | apply pw_below_drewN | apply below_drew1 | refine below_set ?_ GE783.out | refine below_set ?_ GE813.out) | exact HB.out)))); have n8_ := Aside0.mk (Kd.S_lower (Kd.S_new' (Kd.S_new' (Kd.S_new' (Kd.S_new' ho3 (Kd.R_lt (by (with_reducible repeat (first | apply Kd.R_alloc | apply Kd.R_drewN | apply Kd.R_drew)); exact HO_814001.out))) (Kd.R_lt (by (with_reducible repeat (first | apply Kd.R_alloc | apply Kd.R_drewN | apply Kd.R_drew)); exact HO_814007.out))) (Kd.S_lt (by (with_reducible repeat (first | apply Kd.S_alloc | apply Kd.S_drewN | apply Kd.S_drew)); exact HO_814008.out))) (Kd.S_lt (by (with_reducible repeat (first | apply Kd.S_alloc | apply Kd.S_drewN | apply Kd.S_drew)); exact HO_814009.out))) (below_size (by repeat (first | (with_reducible first | exact HB.out | apply below_alloc | apply pw_below_drewN | apply below_drew1 | refine below_set ?_ GE783.out | refine below_set ?_ GE813.out) | exact HB.out)))); have n9_ := bst HB hb; replace BK783 := bbw BK783 hb; replace BK813 := bbw BK813 hb; clear HO_9; clear HO_814001; clear HO_814007; clear HO_814008; clear HO_814009; clear HB; have HO_9 := n0_; have HO_814001 := n1_; have HO_814007 := n2_; have HO_814008 := n3_; have HO_814009 := n4_; have HO819 := n5_; have HO827 := n6_; have HO830 := n7_; have HO833 := n8_; have HB := n9_; clear n0_ n1_ n2_ n3_ n4_ n5_ n6_ n7_ n8_ n9_; (try clear hb); (try clear hb2); (try clear hk); (try clear hi); (try clear ho0); (try clear ho1); (try clear ho2); (try clear ho3)) | ((with_reducible refine gate_dst (N := 16) rfl ?_); refine box_event ?hg (N := 16) ?hd (cs := #[.int .i64 0, .slice none 0 0, .int .i64 0, .int .i64 0, .int .i64 0, .int .i64 0, .int .i64 0, .slice none 0 0, .slice none 0 0, .slice none 0 0]) (t := 27) ?hr ?_; (case hd => rfl); (case hg => rfl); (case hr => first | (go_simp; done) | (go_simp; rfl)); intro gb835 hg w50 hbox hb; have n0_ := Aside0.mk (Kd.R_below (by (with_reducible repeat (first | apply Kd.R_alloc | apply Kd.R_drewN | apply Kd.R_drew)); exact HO_9.out) hb); have n1_ := Aside0.mk (Kd.R_below (by (with_reducible repeat (first | apply Kd.R_alloc | apply Kd.R_drewN | apply Kd.R_drew)); exact HO_814001.out) hb); have n2_ := Aside0.mk (Kd.R_below (by (with_reducible repeat (first | apply Kd.R_alloc | apply Kd.R_drewN | apply Kd.R_drew)); exact HO_814007.out) hb); have n3_ := Aside0.mk (Kd.S_below (by (with_reducible repeat (first | apply Kd.S_alloc | apply Kd.S_drewN | apply Kd.S_drew)); exact HO_814008.out) hb); have n4_ := Aside0.mk (Kd.S_below (by (with_reducible repeat (first | apply Kd.S_alloc | apply Kd.S_drewN | apply Kd.S_drew)); exact HO_814009.out) hb); have n5_ := Aside0.mk (Kd.R_below (by (with_reducible repeat (first | apply Kd.R_alloc | apply Kd.R_drewN | apply Kd.R_drew)); exact HO819.out) hb); have n6_ := Aside0.mk (Kd.R_below (by (with_reducible repeat (first | apply Kd.R_alloc | apply Kd.R_drewN | apply Kd.R_drew)); exact HO827.out) hb); have n7_ := Aside0.mk (Kd.S_below (by (with_reducible repeat (first | apply Kd.S_alloc | apply Kd.S_drewN | apply Kd.S_drew)); exact HO830.out) hb); have n8_ := Aside0.mk (Kd.S_below (by (with_reducible repeat (first | apply Kd.S_alloc | apply Kd.S_drewN | apply Kd.S_drew)); exact HO833.out) hb); have n9_ := bst HB hb; have n10_ := Aside0.mk (hbox); have n11_ := bsz HB hg; have n12_ := bsz HB hg; have n13_ := bn1 BK783 hg; have n14_ := bn2 BK783 hg; have n15_ := bn1 BK813 hg; have n16_ := bn2 BK813 hg; replace BK783 := bbw BK783 hb; replace BK813 := bbw BK813 hb; clear HO_9; clear HO_814001; clear HO_814007; clear HO_814008; clear HO_814009; clear HO819; clear HO827; clear HO830; clear HO833; clear HB; have HO_9 := n0_; have HO_814001 := n1_; have HO_814007 := n2_; have HO_814008 := n3_; have HO_814009 := n4_; have HO819 := n5_; have HO827 := n6_; have HO830 := n7_; have HO833 := n8_; have HB := n9_; have BK835 := n10_; have GW835 := n11_; have GE835 := n12_; have NB783_835 := n13_; have NB835_783 := n14_; have NB813_835 := n15_; have NB835_813 := n16_; clear n0_ n1_ n2_ n3_ n4_ n5_ n6_ n7_ n8_ n9_ n10_ n11_ n12_ n13_ n14_ n15_ n16_; clear hb hbox hg; have hnb51 := NB835_783.out; have hnc51 := NB783_835.out; have hnb52 := NB835_813.out; have hnc52 := NB813_835.out; have hcz53_0 := hcz BK835 0; have hcz53_1 := hcz BK835 1; have hcz53_2 := hcz BK835 2; have hcz53_3 := hcz BK835 3; have hcz53_4 := hcz BK835 4; have hcz53_5 := hcz BK835 5; have hcz53_6 := hcz BK835 6; have hcz53_7 := hcz BK835 7; have hcz53_8 := hcz BK835 8; have hcz53_9 := hcz BK835 9; have hfz53_0 := blk_frozen BK835.out 0; have hfz53_1 := blk_frozen BK835.out 1; have hfz53_2 := blk_frozen BK835.out 2; have hfz53_3 := blk_frozen BK835.out 3; have hfz53_4 := blk_frozen BK835.out 4; have hfz53_5 := blk_frozen BK835.out 5; have hfz53_6 := blk_frozen BK835.out 6; have hfz53_7 := blk_frozen BK835.out 7; have hfz53_8 := blk_frozen BK835.out 8; have hfz53_9 := blk_frozen BK835.out 9; obtain ⟨Ao54, co54, eo54⟩ := Kd.R_slice HO819.out; subst eo54; obtain ⟨Ao55, co55, eo55⟩ := Kd.R_slice HO827.out; subst eo55; obtain ⟨Ao56, co56, eo56⟩ := Kd.S_slice HO830.out; subst eo56; obtain ⟨Ao57, co57, eo57⟩ := Kd.S_slice HO833.out; subst eo57) | (go_at_call 10; (with_reducible refine (gimballaw33_awake.calls kj27  t836 _ A48.out).mono ?_); rintro e w58 ⟨rfl, hb⟩; have n0_ := Aside0.mk (Kd.R_below (by (with_reducible repeat (first | apply Kd.R_alloc | apply Kd.R_drewN | apply Kd.R_drew)); exact (Kd.R_mono (Kd.R_far (p := ⟨gb835, 9, none⟩) (Kd.R_far (p := ⟨gb835, 8, none⟩) (Kd.R_far (p := ⟨gb835, 7, none⟩) (Kd.R_far (p := ⟨gb835, 6, none⟩) (Kd.R_far (p := ⟨gb835, 5, none⟩) (Kd.R_far (p := ⟨gb835, 4, none⟩) (Kd.R_far (p := ⟨gb835, 3, none⟩) (Kd.R_far (p := ⟨gb835, 2, none⟩) (Kd.R_far (p := ⟨gb835, 1, none⟩) (Kd.R_far (p := ⟨gb835, 0, none⟩) (Kd.R_types HO_9.out BK835.out (by decide)) (fun _ hk => hk.2) (.int .i64 t816)) (fun _ hk => hk.2) (.slice Ao54 t817.length co54)) (fun _ hk => hk.2) (.int .i64 t820)) (fun _ hk => hk.2) (.int .i64 t821)) (fun _ hk => hk.2) (.int .i64 t822)) (fun _ hk => hk.2) (.int .i64 t823)) (fun _ hk => hk.2) (.int .i64 t824)) (fun _ hk => hk.2) (.slice Ao55 t825.length co55)) (fun _ hk => hk.2) (.slice Ao56 t828.length co56)) (fun _ hk => hk.2) (.slice Ao57 t831.length co57)) (fun _ h_ => h_.1))) hb); have n1_ := Aside0.mk (Kd.R_below (by (with_reducible repeat (first | apply Kd.R_alloc | apply Kd.R_drewN | apply Kd.R_drew)); exact (Kd.R_mono (Kd.R_far (p := ⟨gb835, 9, none⟩) (Kd.R_far (p := ⟨gb835, 8, none⟩) (Kd.R_far (p := ⟨gb835, 7, none⟩) (Kd.R_far (p := ⟨gb835, 6, none⟩) (Kd.R_far (p := ⟨gb835, 5, none⟩) (Kd.R_far (p := ⟨gb835, 4, none⟩) (Kd.R_far (p := ⟨gb835, 3, none⟩) (Kd.R_far (p := ⟨gb835, 2, none⟩) (Kd.R_far (p := ⟨gb835, 1, none⟩) (Kd.R_far (p := ⟨gb835, 0, none⟩) (Kd.R_types HO_814001.out BK835.out (by decide)) (fun _ hk => hk.2) (.int .i64 t816)) (fun _ hk => hk.2) (.slice Ao54 t817.length co54)) (fun _ hk => hk.2) (.int .i64 t820)) (fun _ hk => hk.2) (.int .i64 t821)) (fun _ hk => hk.2) (.int .i64 t822)) (fun _ hk => hk.2) (.int .i64 t823)) (fun _ hk => hk.2) (.int .i64 t824)) (fun _ hk => hk.2) (.slice Ao55 t825.length co55)) (fun _ hk => hk.2) (.slice Ao56 t828.length co56)) (fun _ hk => hk.2) (.slice Ao57 t831.length co57)) (fun _ h_ => h_.1))) hb); have n2_ := Aside0.mk (Kd.R_below (by (with_reducible repeat (first | apply Kd.R_alloc | apply Kd.R_drewN | apply Kd.R_drew)); exact (Kd.R_mono (Kd.R_far (p := ⟨gb835, 9, none⟩) (Kd.R_far (p := ⟨gb835, 8, none⟩) (Kd.R_far (p := ⟨gb835, 7, none⟩) (Kd.R_far (p := ⟨gb835, 6, none⟩) (Kd.R_far (p := ⟨gb835, 5, none⟩) (Kd.R_far (p := ⟨gb835, 4, none⟩) (Kd.R_far (p := ⟨gb835, 3, none⟩) (Kd.R_far (p := ⟨gb835, 2, none⟩) (Kd.R_far (p := ⟨gb835, 1, none⟩) (Kd.R_far (p := ⟨gb835, 0, none⟩) (Kd.R_types HO_814007.out BK835.out (by decide)) (fun _ hk => hk.2) (.int .i64 t816)) (fun _ hk => hk.2) (.slice Ao54 t817.length co54)) (fun _ hk => hk.2) (.int .i64 t820)) (fun _ hk => hk.2) (.int .i64 t821)) (fun _ hk => hk.2) (.int .i64 t822)) (fun _ hk => hk.2) (.int .i64 t823)) (fun _ hk => hk.2) (.int .i64 t824)) (fun _ hk => hk.2) (.slice Ao55 t825.length co55)) (fun _ hk => hk.2) (.slice Ao56 t828.length co56)) (fun _ hk => hk.2) (.slice Ao57 t831.length co57)) (fun _ h_ => h_.1))) hb); have n3_ := Aside0.mk (Kd.S_below (by (with_reducible repeat (first | apply Kd.S_alloc | apply Kd.S_drewN | apply Kd.S_drew)); exact (Kd.S_mono (Kd.S_far (p := ⟨gb835, 9, none⟩) (Kd.S_far (p := ⟨gb835, 8, none⟩) (Kd.S_far (p := ⟨gb835, 7, none⟩) (Kd.S_far (p := ⟨gb835, 6, none⟩) (Kd.S_far (p := ⟨gb835, 5, none⟩) (Kd.S_far (p := ⟨gb835, 4, none⟩) (Kd.S_far (p := ⟨gb835, 3, none⟩) (Kd.S_far (p := ⟨gb835, 2, none⟩) (Kd.S_far (p := ⟨gb835, 1, none⟩) (Kd.S_far (p := ⟨gb835, 0, none⟩) (Kd.S_types HO_814008.out BK835.out (by decide)) (fun _ hk => hk.2) (.int .i64 t816)) (fun _ hk => hk.2) (.slice Ao54 t817.length co54)) (fun _ hk => hk.2) (.int .i64 t820)) (fun _ hk => hk.2) (.int .i64 t821)) (fun _ hk => hk.2) (.int .i64 t822)) (fun _ hk => hk.2) (.int .i64 t823)) (fun _ hk => hk.2) (.int .i64 t824)) (fun _ hk => hk.2) (.slice Ao55 t825.length co55)) (fun _ hk => hk.2) (.slice Ao56 t828.length co56)) (fun _ hk => hk.2) (.slice Ao57 t831.length co57)) (fun _ h_ => h_.1))) hb); have n4_ := Aside0.mk (Kd.S_below (by (with_reducible repeat (first | apply Kd.S_alloc | apply Kd.S_drewN | apply Kd.S_drew)); exact (Kd.S_mono (Kd.S_far (p := ⟨gb835, 9, none⟩) (Kd.S_far (p := ⟨gb835, 8, none⟩) (Kd.S_far (p := ⟨gb835, 7, none⟩) (Kd.S_far (p := ⟨gb835, 6, none⟩) (Kd.S_far (p := ⟨gb835, 5, none⟩) (Kd.S_far (p := ⟨gb835, 4, none⟩) (Kd.S_far (p := ⟨gb835, 3, none⟩) (Kd.S_far (p := ⟨gb835, 2, none⟩) (Kd.S_far (p := ⟨gb835, 1, none⟩) (Kd.S_far (p := ⟨gb835, 0, none⟩) (Kd.S_types HO_814009.out BK835.out (by decide)) (fun _ hk => hk.2) (.int .i64 t816)) (fun _ hk => hk.2) (.slice Ao54 t817.length co54)) (fun _ hk => hk.2) (.int .i64 t820)) (fun _ hk => hk.2) (.int .i64 t821)) (fun _ hk => hk.2) (.int .i64 t822)) (fun _ hk => hk.2) (.int .i64 t823)) (fun _ hk => hk.2) (.int .i64 t824)) (fun _ hk => hk.2) (.slice Ao55 t825.length co55)) (fun _ hk => hk.2) (.slice Ao56 t828.length co56)) (fun _ hk => hk.2) (.slice Ao57 t831.length co57)) (fun _ h_ => h_.1))) hb); have n5_ := Aside0.mk (Kd.R_below (by (with_reducible repeat (first | apply Kd.R_alloc | apply Kd.R_drewN | apply Kd.R_drew)); exact (Kd.R_mono (Kd.R_far (p := ⟨gb835, 9, none⟩) (Kd.R_far (p := ⟨gb835, 8, none⟩) (Kd.R_far (p := ⟨gb835, 7, none⟩) (Kd.R_far (p := ⟨gb835, 6, none⟩) (Kd.R_far (p := ⟨gb835, 5, none⟩) (Kd.R_far (p := ⟨gb835, 4, none⟩) (Kd.R_far (p := ⟨gb835, 3, none⟩) (Kd.R_far (p := ⟨gb835, 2, none⟩) (Kd.R_far (p := ⟨gb835, 1, none⟩) (Kd.R_far (p := ⟨gb835, 0, none⟩) (Kd.R_types HO819.out BK835.out (by decide)) (fun _ hk => hk.2) (.int .i64 t816)) (fun _ hk => hk.2) (.slice Ao54 t817.length co54)) (fun _ hk => hk.2) (.int .i64 t820)) (fun _ hk => hk.2) (.int .i64 t821)) (fun _ hk => hk.2) (.int .i64 t822)) (fun _ hk => hk.2) (.int .i64 t823)) (fun _ hk => hk.2) (.int .i64 t824)) (fun _ hk => hk.2) (.slice Ao55 t825.length co55)) (fun _ hk => hk.2) (.slice Ao56 t828.length co56)) (fun _ hk => hk.2) (.slice Ao57 t831.length co57)) (fun _ h_ => h_.1))) hb); have n6_ := Aside0.mk (Kd.R_below (by (with_reducible repeat (first | apply Kd.R_alloc | apply Kd.R_drewN | apply Kd.R_drew)); exact (Kd.R_mono (Kd.R_far (p := ⟨gb835, 9, none⟩) (Kd.R_far (p := ⟨gb835, 8, none⟩) (Kd.R_far (p := ⟨gb835, 7, none⟩) (Kd.R_far (p := ⟨gb835, 6, none⟩) (Kd.R_far (p := ⟨gb835, 5, none⟩) (Kd.R_far (p := ⟨gb835, 4, none⟩) (Kd.R_far (p := ⟨gb835, 3, none⟩) (Kd.R_far (p := ⟨gb835, 2, none⟩) (Kd.R_far (p := ⟨gb835, 1, none⟩) (Kd.R_far (p := ⟨gb835, 0, none⟩) (Kd.R_types HO827.out BK835.out (by decide)) (fun _ hk => hk.2) (.int .i64 t816)) (fun _ hk => hk.2) (.slice Ao54 t817.length co54)) (fun _ hk => hk.2) (.int .i64 t820)) (fun _ hk => hk.2) (.int .i64 t821)) (fun _ hk => hk.2) (.int .i64 t822)) (fun _ hk => hk.2) (.int .i64 t823)) (fun _ hk => hk.2) (.int .i64 t824)) (fun _ hk => hk.2) (.slice Ao55 t825.length co55)) (fun _ hk => hk.2) (.slice Ao56 t828.length co56)) (fun _ hk => hk.2) (.slice Ao57 t831.length co57)) (fun _ h_ => h_.1))) hb); have n7_ := Aside0.mk (Kd.S_below (by (with_reducible repeat (first | apply Kd.S_alloc | apply Kd.S_drewN | apply Kd.S_drew)); exact (Kd.S_mono (Kd.S_far (p := ⟨gb835, 9, none⟩) (Kd.S_far (p := ⟨gb835, 8, none⟩) (Kd.S_far (p := ⟨gb835, 7, none⟩) (Kd.S_far (p := ⟨gb835, 6, none⟩) (Kd.S_far (p := ⟨gb835, 5, none⟩) (Kd.S_far (p := ⟨gb835, 4, none⟩) (Kd.S_far (p := ⟨gb835, 3, none⟩) (Kd.S_far (p := ⟨gb835, 2, none⟩) (Kd.S_far (p := ⟨gb835, 1, none⟩) (Kd.S_far (p := ⟨gb835, 0, none⟩) (Kd.S_types HO830.out BK835.out (by decide)) (fun _ hk => hk.2) (.int .i64 t816)) (fun _ hk => hk.2) (.slice Ao54 t817.length co54)) (fun _ hk => hk.2) (.int .i64 t820)) (fun _ hk => hk.2) (.int .i64 t821)) (fun _ hk => hk.2) (.int .i64 t822)) (fun _ hk => hk.2) (.int .i64 t823)) (fun _ hk => hk.2) (.int .i64 t824)) (fun _ hk => hk.2) (.slice Ao55 t825.length co55)) (fun _ hk => hk.2) (.slice Ao56 t828.length co56)) (fun _ hk => hk.2) (.slice Ao57 t831.length co57)) (fun _ h_ => h_.1))) hb); have n8_ := Aside0.mk (Kd.S_below (by (with_reducible repeat (first | apply Kd.S_alloc | apply Kd.S_drewN | apply Kd.S_drew)); exact (Kd.S_mono (Kd.S_far (p := ⟨gb835, 9, none⟩) (Kd.S_far (p := ⟨gb835, 8, none⟩) (Kd.S_far (p := ⟨gb835, 7, none⟩) (Kd.S_far (p := ⟨gb835, 6, none⟩) (Kd.S_far (p := ⟨gb835, 5, none⟩) (Kd.S_far (p := ⟨gb835, 4, none⟩) (Kd.S_far (p := ⟨gb835, 3, none⟩) (Kd.S_far (p := ⟨gb835, 2, none⟩) (Kd.S_far (p := ⟨gb835, 1, none⟩) (Kd.S_far (p := ⟨gb835, 0, none⟩) (Kd.S_types HO833.out BK835.out (by decide)) (fun _ hk => hk.2) (.int .i64 t816)) (fun _ hk => hk.2) (.slice Ao54 t817.length co54)) (fun _ hk => hk.2) (.int .i64 t820)) (fun _ hk => hk.2) (.int .i64 t821)) (fun _ hk => hk.2) (.int .i64 t822)) (fun _ hk => hk.2) (.int .i64 t823)) (fun _ hk => hk.2) (.int .i64 t824)) (fun _ hk => hk.2) (.slice Ao55 t825.length co55)) (fun _ hk => hk.2) (.slice Ao56 t828.length co56)) (fun _ hk => hk.2) (.slice Ao57 t831.length co57)) (fun _ h_ => h_.1))) hb); have n9_ := Aside0.mk (blk_below (g := gb783) (o := .cells #[.int .i64 a0_0, .slice A0_1 l0_1.length c0_1, .int .i64 a0_2, .int .i64 a0_3, .int .i64 a0_4, .int .i64 a0_5, .int .i64 a0_6, .slice A0_7 l0_7.length c0_7, .slice A0_8 l0_8.length c0_8, .slice A0_9 l0_9.length c0_9] 27 (0, 0)) (by refine pkB ?_; refine blk_far ?_ NB783_835.out _; refine pkB ?_; refine blk_far ?_ NB783_835.out _; refine pkB ?_; refine blk_far ?_ NB783_835.out _; refine pkB ?_; refine blk_far ?_ NB783_835.out _; refine pkB ?_; refine blk_far ?_ NB783_835.out _; refine pkB ?_; refine blk_far ?_ NB783_835.out _; refine pkB ?_; refine blk_far ?_ NB783_835.out _; refine pkB ?_; refine blk_far ?_ NB783_835.out _; refine pkB ?_; refine blk_far ?_ NB783_835.out _; refine pkB ?_; refine blk_far ?_ NB783_835.out _; refine pkB ?_; exact BK783.out) hb); have n10_ := Aside0.mk (blk_below (g := gb813) (o := .cells #[.int .i64 t794, .slice Ao24 t795.length co24, .int .i64 t798, .int .i64 t799, .int .i64 t800, .int .i64 t801, .int .i64 t802, .slice Ao25 t803.length co25, .slice Ao26 t806.length co26, .slice Ao27 t809.length co27] 27 (0, 0)) (by refine pkB ?_; refine blk_far ?_ NB813_835.out _; refine pkB ?_; refine blk_far ?_ NB813_835.out _; refine pkB ?_; refine blk_far ?_ NB813_835.out _; refine pkB ?_; refine blk_far ?_ NB813_835.out _; refine pkB ?_; refine blk_far ?_ NB813_835.out _; refine pkB ?_; refine blk_far ?_ NB813_835.out _; refine pkB ?_; refine blk_far ?_ NB813_835.out _; refine pkB ?_; refine blk_far ?_ NB813_835.out _; refine pkB ?_; refine blk_far ?_ NB813_835.out _; refine pkB ?_; refine blk_far ?_ NB813_835.out _; refine pkB ?_; exact BK813.out) hb); have n11_ := Aside0.mk (blk_below (g := gb835) (o := .cells #[.int .i64 t816, .slice Ao54 t817.length co54, .int .i64 t820, .int .i64 t821, .int .i64 t822, .int .i64 t823, .int .i64 t824, .slice Ao55 t825.length co55, .slice Ao56 t828.length co56, .slice Ao57 t831.length co57] 27 (0, 0)) (by refine pkB ?_; refine blk_put (cs := #[.int .i64 t816, .slice Ao54 t817.length co54, .int .i64 t820, .int .i64 t821, .int .i64 t822, .int .i64 t823, .int .i64 t824, .slice Ao55 t825.length co55, .slice Ao56 t828.length co56, .slice none 0 0]) ?_ 9 _ (by first | rfl | (subst_vars; rfl)); refine pkB ?_; refine blk_put (cs := #[.int .i64 t816, .slice Ao54 t817.length co54, .int .i64 t820, .int .i64 t821, .int .i64 t822, .int .i64 t823, .int .i64 t824, .slice Ao55 t825.length co55, .slice none 0 0, .slice none 0 0]) ?_ 8 _ (by first | rfl | (subst_vars; rfl)); refine pkB ?_; refine blk_put (cs := #[.int .i64 t816, .slice Ao54 t817.length co54, .int .i64 t820, .int .i64 t821, .int .i64 t822, .int .i64 t823, .int .i64 t824, .slice none 0 0, .slice none 0 0, .slice none 0 0]) ?_ 7 _ (by first | rfl | (subst_vars; rfl)); refine pkB ?_; refine blk_put (cs := #[.int .i64 t816, .slice Ao54 t817.length co54, .int .i64 t820, .int .i64 t821, .int .i64 t822, .int .i64 t823, .int .i64 0, .slice none 0 0, .slice none 0 0, .slice none 0 0]) ?_ 6 _ (by first | rfl | (subst_vars; rfl)); refine pkB ?_; refine blk_put (cs := #[.int .i64 t816, .slice Ao54 t817.length co54, .int .i64 t820, .int .i64 t821, .int .i64 t822, .int .i64 0, .int .i64 0, .slice none 0 0, .slice none 0 0, .slice none 0 0]) ?_ 5 _ (by first | rfl | (subst_vars; rfl)); refine pkB ?_; refine blk_put (cs := #[.int .i64 t816, .slice Ao54 t817.length co54, .int .i64 t820, .int .i64 t821, .int .i64 0, .int .i64 0, .int .i64 0, .slice none 0 0, .slice none 0 0, .slice none 0 0]) ?_ 4 _ (by first | rfl | (subst_vars; rfl)); refine pkB ?_; refine blk_put (cs := #[.int .i64 t816, .slice Ao54 t817.length co54, .int .i64 t820, .int .i64 0, .int .i64 0, .int .i64 0, .int .i64 0, .slice none 0 0, .slice none 0 0, .slice none 0 0]) ?_ 3 _ (by first | rfl | (subst_vars; rfl)); refine pkB ?_; refine blk_put (cs := #[.int .i64 t816, .slice Ao54 t817.length co54, .int .i64 0, .int .i64 0, .int .i64 0, .int .i64 0, .int .i64 0, .slice none 0 0, .slice none 0 0, .slice none 0 0]) ?_ 2 _ (by first | rfl | (subst_vars; rfl)); refine pkB ?_; refine blk_put (cs := #[.int .i64 t816, .slice none 0 0, .int .i64 0, .int .i64 0, .int .i64 0, .int .i64 0, .int .i64 0, .slice none 0 0, .slice none 0 0, .slice none 0 0]) ?_ 1 _ (by first | rfl | (subst_vars; rfl)); refine pkB ?_; refine blk_put (cs := #[.int .i64 0, .slice none 0 0, .int .i64 0, .int .i64 0, .int .i64 0, .int .i64 0, .int .i64 0, .slice none 0 0, .slice none 0 0, .slice none 0 0]) ?_ 0 _ (by first | rfl | (subst_vars; rfl)); refine pkB ?_; exact BK835.out) hb); have n12_ := bst HB hb; clear HO_9; clear HO_814001; clear HO_814007; clear HO_814008; clear HO_814009; clear HO819; clear HO827; clear HO830; clear HO833; clear BK783; clear BK813; clear BK835; clear HB; have HO_9 := n0_; have HO_814001 := n1_; have HO_814007 := n2_; have HO_814008 := n3_; have HO_814009 := n4_; have HO819 := n5_; have HO827 := n6_; have HO830 := n7_; have HO833 := n8_; have BK783 := n9_; have BK813 := n10_; have BK835 := n11_; have HB := n12_; clear n0_ n1_ n2_ n3_ n4_ n5_ n6_ n7_ n8_ n9_ n10_ n11_ n12_; (try clear hb); (try clear hb2); (try clear hk); (try clear hi)))
                go_ret
                exact ⟨by first | rfl | (simp [errW_none, errW_some] <;> rfl) | (simp only [← hji9]; first | rfl | (simp [errW_none, errW_some] <;> rfl)) | (simp [*, errW_none, errW_some] <;> rfl) | kernel_rfl, by repeat (first | (with_reducible first | exact HB.out | apply below_alloc | apply pw_below_drewN | apply below_drew1 | refine below_set ?_ GE783.out | refine below_set ?_ GE813.out | refine below_set ?_ GE835.out) | exact HB.out)⟩
               ·
                rw [if_neg c47] at H
                have c47b0 : ((t834 == 0) == (!x14_1)) = false := by simpa using c47
                (try simp only [hl9_1] at c47b0)
                (try (have c47b1 : decide ((t834 == 0) = (!x14_1)) = false := by simpa using c47))
                (try simp only [hl9_1] at c47b1)
                (try (have c47b2 : ((t834 == 0) == (!x14_1)) = false := by simpa using c47))
                (try simp only [hl9_1] at c47b2)
                (try (have c47b3 : ¬ ((t834 == 0) = (!x14_1)) := by simpa using c47))
                (try simp only [hl9_1] at c47b3)
                clear c47
                exact absurd H (by simp)
              ·
               rw [if_neg c46] at H
               have c46b0 : ((t834 == 332) == x14_1) = false := by simpa using c46
               (try simp only [hl9_1] at c46b0)
               (try (have c46b1 : decide ((t834 == 332) = x14_1) = false := by simpa using c46))
               (try simp only [hl9_1] at c46b1)
               (try (have c46b2 : ((t834 == 332) == x14_1) = false := by simpa using c46))
               (try simp only [hl9_1] at c46b2)
               (try (have c46b3 : ¬ ((t834 == 332) = x14_1) := by simpa using c46))
               (try simp only [hl9_1] at c46b3)
               clear c46
               exact absurd H (by simp)
      ·
       rw [if_neg c11] at H
       exact absurd H (by simp)
     ·
      rw [if_neg c10] at H
      exact absurd H (by simp)
  ·
   rw [if_neg c6] at H
   have c6b0 : (t787 == 0) = false := beq_eq_false_iff_ne.mpr c6
   have c6b1 : (t787 != 0) = true := bne_iff_ne.mpr c6
   replace H := Option.bind_eq_some_iff.mp H
   obtain ⟨t788, A590, H⟩ := H
   replace H : (if t788 = true then (some false) else ((gimballaw33_awake.f k).bind fun t789 => (some t789))) = some true := H
   have A59 := Aside0.mk A590
   clear A590
   by_cases c60 : t788 = true
   ·
    subst c60
    have H1 : (some false) = some true := by rw [if_pos rfl] at H; exact H
    clear H
    have H := H1
    clear H1
    exact absurd H (by simp)
   ·
    replace c60 := Bool.eq_false_iff.mpr c60
    subst c60
    have H1 : ((gimballaw33_awake.f k).bind fun t789 => (some t789)) = some true := by rw [if_neg (show ¬ (false = true) by decide)] at H; exact H
    clear H
    have H := H1
    clear H1
    replace H := Option.bind_eq_some_iff.mp H
    obtain ⟨t789, A610, H⟩ := H
    replace H : (some t789) = some true := H
    have A61 := Aside0.mk A610
    clear A610
    have hret_ := Option.some.inj H
    clear H
    go_enter Try.func7, Try.ntmps7
    go_wp2_with (first | ((with_reducible refine gate_dst (N := 4) rfl ?_); refine box_event ?hg (N := 4) ?hd (cs := #[.int .i64 a0_0, .slice A0_1 l0_1.length c0_1, .int .i64 a0_2, .int .i64 a0_3, .int .i64 a0_4, .int .i64 a0_5, .int .i64 a0_6, .slice A0_7 l0_7.length c0_7, .slice A0_8 l0_8.length c0_8, .slice A0_9 l0_9.length c0_9]) (t := 27) ?hr ?_; (case hd => rfl); (case hg => rfl); (case hr => first | (go_simp; done) | (go_simp; rfl)); intro gb783 hg w62 hbox hb; have n0_ := bst HB hb; have n1_ := Aside0.mk (hbox); have n2_ := bsz HB hg; have n3_ := bsz HB hg; clear HB; have HB := n0_; have BK783 := n1_; have GW783 := n2_; have GE783 := n3_; clear n0_ n1_ n2_ n3_; clear hb hbox hg; have hcz63_0 := hcz BK783 0; have hcz63_1 := hcz BK783 1; have hcz63_2 := hcz BK783 2; have hcz63_3 := hcz BK783 3; have hcz63_4 := hcz BK783 4; have hcz63_5 := hcz BK783 5; have hcz63_6 := hcz BK783 6; have hcz63_7 := hcz BK783 7; have hcz63_8 := hcz BK783 8; have hcz63_9 := hcz BK783 9; have hfz63_0 := blk_frozen BK783.out 0; have hfz63_1 := blk_frozen BK783.out 1; have hfz63_2 := blk_frozen BK783.out 2; have hfz63_3 := blk_frozen BK783.out 3; have hfz63_4 := blk_frozen BK783.out 4; have hfz63_5 := blk_frozen BK783.out 5; have hfz63_6 := blk_frozen BK783.out 6; have hfz63_7 := blk_frozen BK783.out 7; have hfz63_8 := blk_frozen BK783.out 8; have hfz63_9 := blk_frozen BK783.out 9) | ((with_reducible refine gate_callee (f := 8) rfl ?_); refine goesL_ (some 20) rfl rfl Try.func8 (by kernel_rfl) rfl #[.agg #[.int .i64 a0_0, .slice A0_1 l0_1.length c0_1, .int .i64 a0_2, .int .i64 a0_3, .int .i64 a0_4, .int .i64 a0_5, .int .i64 a0_6, .slice A0_7 l0_7.length c0_7, .slice A0_8 l0_8.length c0_8, .slice A0_9 l0_9.length c0_9]] rfl (by (try simp only [List.map_toArray, List.map_cons, List.map_nil]); first | done | rfl | (simp only [List.length_drop, List.length_take]; rfl)) ?_; (with_reducible refine (trace_Encode.calls k a0_0 _ _ l0_1 a0_2 a0_3 a0_4 a0_5 a0_6 _ _ l0_7 _ _ l0_8 (fun k_ => k_ < w.heap.size) _ _ l0_9 t784 t787 _ ?side1 ?side2 ?side3 ?side4 ?side5 ?side6 ?side7 A5.out).mono ?_); (case side1 => repeat (first | exact (Kd.C_below HR0_1.out HB.out) | (with_reducible refine Kd.C_alloc ?_ _) | (with_reducible refine Kd.C_drewN ?_ _) | (with_reducible refine Kd.C_drew ?_))); (case side2 => exact HC0_1.out); (case side3 => repeat (first | exact (Kd.C_below HR0_7.out HB.out) | (with_reducible refine Kd.C_alloc ?_ _) | (with_reducible refine Kd.C_drewN ?_ _) | (with_reducible refine Kd.C_drew ?_))); (case side4 => exact HC0_7.out); (case side5 => repeat (first | exact (Kd.C_below HR0_8.out HB.out) | (with_reducible refine Kd.C_alloc ?_ _) | (with_reducible refine Kd.C_drewN ?_ _) | (with_reducible refine Kd.C_drew ?_))); (case side6 => exact HC0_8.out); (case side7 => exact Kd.V_mk HC0_9.out (Kd.F_below (Kd.C_F (Kd.heap_slice 2 (Kd.heap_int .i64)) HR0_9.out) (by repeat (first | (with_reducible first | exact HB.out | apply below_alloc | apply pw_below_drewN | apply below_drew1 | refine below_set ?_ GE783.out) | exact HB.out)))); rintro e w64 ⟨v785, rfl, ho0, hb⟩; refine ⟨_, rfl, ?_⟩; have n0_ := Aside0.mk (Kd.R_lower (Kd.R_mono (ok' := fun k_ => True) ho0 (fun _ hk_ => trivial)) (below_size (by repeat (first | (with_reducible first | exact HB.out | apply below_alloc | apply pw_below_drewN | apply below_drew1 | refine below_set ?_ GE783.out) | exact HB.out)))); have n1_ := bst HB hb; replace BK783 := bbw BK783 hb; clear HB; have HO786 := n0_; have HB := n1_; clear n0_ n1_; (try clear hb); (try clear hb2); (try clear hk); (try clear hi); (try clear ho0); have hcz65_0 := hcz BK783 0; have hcz65_1 := hcz BK783 1; have hcz65_2 := hcz BK783 2; have hcz65_3 := hcz BK783 3; have hcz65_4 := hcz BK783 4; have hcz65_5 := hcz BK783 5; have hcz65_6 := hcz BK783 6; have hcz65_7 := hcz BK783 7; have hcz65_8 := hcz BK783 8; have hcz65_9 := hcz BK783 9; have hfz65_0 := blk_frozen BK783.out 0; have hfz65_1 := blk_frozen BK783.out 1; have hfz65_2 := blk_frozen BK783.out 2; have hfz65_3 := blk_frozen BK783.out 3; have hfz65_4 := blk_frozen BK783.out 4; have hfz65_5 := blk_frozen BK783.out 5; have hfz65_6 := blk_frozen BK783.out 6; have hfz65_7 := blk_frozen BK783.out 7; have hfz65_8 := blk_frozen BK783.out 8; have hfz65_9 := blk_frozen BK783.out 9) | ((with_reducible refine gate_callee (f := 17) rfl ?_); refine goesL_ (some 26) rfl rfl Try.func17 (by kernel_rfl) rfl #[.agg #[.int .i64 a0_0, .slice A0_1 l0_1.length c0_1, .int .i64 a0_2, .int .i64 a0_3, .int .i64 a0_4, .int .i64 a0_5, .int .i64 a0_6, .slice A0_7 l0_7.length c0_7, .slice A0_8 l0_8.length c0_8, .slice A0_9 l0_9.length c0_9]] rfl (by (try simp only [List.map_toArray, List.map_cons, List.map_nil]); first | done | rfl | (simp only [List.length_drop, List.length_take]; rfl)) ?_; (with_reducible refine (gimbalref33_Fit.calls a0_0 _ _ l0_1 a0_2 a0_3 a0_4 a0_5 a0_6 _ _ l0_7 _ _ l0_8 _ _ l0_9 false _ ?side1 ?side2 ?side3 ?side4 ?side5 ?side6 ?side7 ?side8 A59.out).mono ?_); (case side1 => repeat (first | exact (Kd.C_below HR0_1.out HB.out) | (with_reducible refine Kd.C_alloc ?_ _) | (with_reducible refine Kd.C_drewN ?_ _) | (with_reducible refine Kd.C_drew ?_))); (case side2 => exact HC0_1.out); (case side3 => repeat (first | exact (Kd.C_below HR0_7.out HB.out) | (with_reducible refine Kd.C_alloc ?_ _) | (with_reducible refine Kd.C_drewN ?_ _) | (with_reducible refine Kd.C_drew ?_))); (case side4 => exact HC0_7.out); (case side5 => repeat (first | exact (Kd.C_below HR0_8.out HB.out) | (with_reducible refine Kd.C_alloc ?_ _) | (with_reducible refine Kd.C_drewN ?_ _) | (with_reducible refine Kd.C_drew ?_))); (case side6 => exact HC0_8.out); (case side7 => repeat (first | exact (Kd.C_below HR0_9.out HB.out) | (with_reducible refine Kd.C_alloc ?_ _) | (with_reducible refine Kd.C_drewN ?_ _) | (with_reducible refine Kd.C_drew ?_))); (case side8 => exact HC0_9.out); rintro e w66 ⟨rfl, hb⟩; refine ⟨_, rfl, ?_⟩; have n0_ := Aside0.mk (Kd.R_below (by (with_reducible repeat (first | apply Kd.R_alloc | apply Kd.R_drewN | apply Kd.R_drew)); exact HO786.out) hb); have n1_ := bst HB hb; replace BK783 := bbw BK783 hb; clear HO786; clear HB; have HO786 := n0_; have HB := n1_; clear n0_ n1_; (try clear hb); (try clear hb2); (try clear hk); (try clear hi)) | (go_at_call 10; (with_reducible refine (gimballaw33_awake.calls k  t789 _ A61.out).mono ?_); rintro e w67 ⟨rfl, hb⟩; have n0_ := Aside0.mk (Kd.R_below (by (with_reducible repeat (first | apply Kd.R_alloc | apply Kd.R_drewN | apply Kd.R_drew)); exact HO786.out) hb); have n1_ := bst HB hb; replace BK783 := bbw BK783 hb; clear HO786; clear HB; have HO786 := n0_; have HB := n1_; clear n0_ n1_; (try clear hb); (try clear hb2); (try clear hk); (try clear hi)))
    go_ret
    exact ⟨by first | rfl | (simp [errW_none, errW_some] <;> rfl) | (simp [*, errW_none, errW_some] <;> rfl) | kernel_rfl, by repeat (first | (with_reducible first | exact HB.out | apply below_alloc | apply pw_below_drewN | apply below_drew1 | refine below_set ?_ GE783.out) | exact HB.out)⟩
end Go.Proofs.Ytiemdfdebdmchaa.P
