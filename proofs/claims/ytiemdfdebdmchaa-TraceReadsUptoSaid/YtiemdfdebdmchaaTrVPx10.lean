/- What the law's proof needs of Px10. -/
import Derived.Test.YtiemdfdebdmchaaTrVU4
import Derived.Test.YtiemdfdebdmchaaTrVU
import Derived.Test.YtiemdfdebdmchaaTrVPx0
import Derived.Test.YtiemdfdebdmchaaTrVPx9
-- PRINTED by print.py (a twelfth state) out of the translation. Not trusted: Lean checks it.
namespace Go.Proofs.Ytiemdfdebdmchaa.P
open Go.RowKit Go.Proofs.YtiemdfdebdmchaaW.PrintWords Go.Proofs.YtiemdfdebdmchaaW.PrintLast Go.Proofs.YtiemdfdebdmchaaW.PrintMore Go.Proofs.YtiemdfdebdmchaaO
attribute [local go_sem] max2_int min2_int max_two min_two max_three min_three max_four min_four   -- for this text's walks alone
set_option linter.unusedVariables false
set_option linter.unusedSimpArgs false
mutual
def gimbalref33_row.l0 : Nat → List Int → List Int → Bool → List Int → List Int → Int → Int → Option (List Int)
  | 0, _, _, _, _, _, _, _ => none
  | k + 1, x0, x1, x2, x7, x14, x15, x16 => if x16 < x15 then (if 0 ≤ x16 then (if x16 < (x14.length : Int) then (if x2 = true then (gimbalref33_row.j1 k x0 x1 x2 x7 x16 (rd x14 x16) 0 x14 x15 x16 (decide (x16 > 0))) else (gimbalref33_row.j1 k x0 x1 x2 x7 x16 (rd x14 x16) 0 x14 x15 x16 false)) else (none)) else (none)) else (some x7)
def gimbalref33_row.j1 : Nat → List Int → List Int → Bool → List Int → Int → Int → Int → List Int → Int → Int → Bool → Option (List Int)
  | 0, _, _, _, _, _, _, _, _, _, _, _ => none
  | k + 1, x0, x1, x2, x7, x8, x9, x10, x14, x15, x16, x25 => if x25 = true then (if 0 ≤ (wrap64 (x8 - 1)) then (if (wrap64 (x8 - 1)) < (x0.length : Int) then (if x2 = true then ((gimbalref33_signed.f k (wrap64 (x9 - (rd x0 (wrap64 (x8 - 1)))))).bind fun t192 => (if x7.length + t192.length < 140737488355328 then (gimbalref33_row.l0 k x0 x1 x2 (x7 ++ t192) x14 x15 (wrap64 (x16 + 1))) else (none))) else (if x8 < (x1.length : Int) then (if 0 ≤ x8 then ((gimbalref33_signed.f k (wrap64 (x9 - (rd x1 x8)))).bind fun t199 => (if x7.length + t199.length < 140737488355328 then (gimbalref33_row.l0 k x0 x1 x2 (x7 ++ t199) x14 x15 (wrap64 (x16 + 1))) else (none))) else (none)) else ((gimbalref33_signed.f k (wrap64 (x9 - (rd x0 (wrap64 (x8 - 1)))))).bind fun t205 => (if x7.length + t205.length < 140737488355328 then (gimbalref33_row.l0 k x0 x1 x2 (x7 ++ t205) x14 x15 (wrap64 (x16 + 1))) else (none))))) else (none)) else (none)) else (if x2 = true then ((gimbalref33_signed.f k (wrap64 (x9 - x10))).bind fun t211 => (if x7.length + t211.length < 140737488355328 then (gimbalref33_row.l0 k x0 x1 x2 (x7 ++ t211) x14 x15 (wrap64 (x16 + 1))) else (none))) else (if x8 < (x1.length : Int) then (if 0 ≤ x8 then ((gimbalref33_signed.f k (wrap64 (x9 - (rd x1 x8)))).bind fun t218 => (if x7.length + t218.length < 140737488355328 then (gimbalref33_row.l0 k x0 x1 x2 (x7 ++ t218) x14 x15 (wrap64 (x16 + 1))) else (none))) else (none)) else ((gimbalref33_signed.f k (wrap64 (x9 - x10))).bind fun t224 => (if x7.length + t224.length < 140737488355328 then (gimbalref33_row.l0 k x0 x1 x2 (x7 ++ t224) x14 x15 (wrap64 (x16 + 1))) else (none)))))
end
def gimbalref33_row.f (k : Nat) (l0 : List Int) (l1 : List Int) (a2 : Bool) : Option (List Int) := (gimbalref33_count.f k (l0.length : Int)).bind fun t187 => (gimbalref33_row.l0 k l0 l1 a2 t187 l0 (l0.length : Int) 0)
set_option maxHeartbeats 8000000 in
set_option maxRecDepth 100000 in
theorem gimbalref33_row.calls (k : Nat) (A0 : Option Addr) (c0 : Nat) (l0 : List Int) (A1 : Option Addr) (c1 : Nat) (l1 : List Int) (a2 : Bool) (r : List Int) (w : World) (hr0 : Kd.C (Kd.int .i64) w A0 l0.length l0) (hc0 : l0.length ≤ c0) (hr1 : Kd.C (Kd.int .i64) w A1 l1.length l1) (hc1 : l1.length ≤ c1) (h : gimbalref33_row.f k l0 l1 a2 = some r) :
    Calls Try.prog 39 #[.slice A0 l0.length c0, .slice A1 l1.length c1, .bool a2] w fun e w' => ∃ v0_ : Value, e = .returned (v0_) ∧ Kd.R (Kd.int .u8) 5 w' w.heap.size (fun _ => True) v0_ r ∧ Below w.heap.size w w' := by
  have HR0 := Aside0.mk hr0; have HC0 := Aside0.mk hc0; clear hr0 hc0; have HR1 := Aside0.mk hr1; have HC1 := Aside0.mk hc1; clear hr1 hc1
  have HB := Aside0.mk (Below.refl w.heap.size w)
  have H : ((gimbalref33_count.f k (l0.length : Int)).bind fun t187 => (gimbalref33_row.l0 k l0 l1 a2 t187 l0 (l0.length : Int) 0)) = some r := h
  clear h; replace H := bnH H; obtain ⟨t187, A40, H⟩ := H
  try dsimp only at H
  have A4 := Aside0.mk A40; clear A40
  have H' := Aside0.mk H
  clear H
  go_enter Try.func39, Try.ntmps39
  go_wp2_with (first | ((with_reducible refine gate_callee (f := 41) rfl ?_); refine goesL_ (some 13) rfl rfl Try.func41 (by kernel_rfl) rfl #[.int .i64 (l0.length : Int)] rfl (by (try simp only [List.map_toArray, List.map_cons, List.map_nil]); first | done | rfl | (simp only [List.length_drop, List.length_take]; rfl)) ?_; (with_reducible refine (gimbalref33_count.calls k (l0.length : Int) t187 _ A4.out).mono ?_); rintro e w5 ⟨v188, rfl, ho0, hb⟩; refine ⟨_, rfl, ?_⟩; have n0_ := Aside0.mk (Kd.R_lower ho0 (below_size (by repeat (first | (with_reducible first | exact HB.out | apply below_alloc | apply pw_below_drewN | apply below_drew1) | exact HB.out)))); have n1_ := bst HB hb; clear HB; have HO189 := n0_; have HB := n1_; clear n0_ n1_; (try clear hb); (try clear hb2); (try clear hk); (try clear hi); (try clear ho0)))
  go_loopg [7, 16] k (fun kq v7 v16 w' => ∃ (x7_1 : List Int) (x16_1 : Int), v16 = .int .i64 x16_1 ∧ Aside0 (gimbalref33_row.l0 kq l0 l1 a2 x7_1 l0 (l0.length : Int) x16_1 = some r) ∧ Aside0 (kq ≤ k) ∧ Aside0 (Kd.R (Kd.int .u8) 5 w' w.heap.size (fun _ => True) v7 x7_1) ∧ Aside0 (Below w.heap.size w w'))
  case atStart => exact ⟨(t187), (0), (by first | rfl | (simp; done) | (simp [*]; done)), H', ⟨Nat.le_refl _⟩, ⟨rup HO189⟩, bpk HB⟩
  case round =>
   clear H'
   (try clear c1); (try clear p2); (try clear c3); (try clear c4); obtain ⟨x7_1, x16_1, rfl, HA, HK1, HO_7, HB⟩ := hrel
   cases gk with
   | zero => exact absurd HA.out (by simp [gimbalref33_row.l0])
   | succ k1 =>
    have H := HA.out
    clear HA
    simp only [gimbalref33_row.l0] at H
    by_cases c6 : x16_1 < (l0.length : Int)
    ·
     rw [if_pos c6] at H
     have c6b0 : decide (x16_1 < (l0.length : Int)) = true := decide_eq_true c6
     clear c6
     by_cases c7 : 0 ≤ x16_1
     case neg => rw [if_neg c7] at H; exact absurd H (by simp)
     rw [if_pos c7] at H
     have c7b0 : decide (0 ≤ x16_1) = true := decide_eq_true c7
     clear c7
     by_cases c8 : x16_1 < (l0.length : Int)
     case neg => rw [if_neg c8] at H; exact absurd H (by simp)
     rw [if_pos c8] at H
     have c8b0 : decide (x16_1 < (l0.length : Int)) = true := decide_eq_true c8
     clear c8; have HC9 := Aside0.mk H; clear H
     have p190 : 0 ≤ (x16_1 : Int) := of_decide_eq_true (by first | (with_reducible assumption) | assumption)
     have q190 : x16_1 < (l0.length : Int) := of_decide_eq_true (by first | (with_reducible assumption) | assumption)
     obtain ⟨ad190, e190, hx190_0⟩ := Kd.at_int HR0.out x16_1 p190 q190
     cases e190
     replace hx190_0 := (HB.out.cell (World.block_lt_of_cell? w _ hx190_0)).trans hx190_0
     replace p190 := eq_true p190; replace q190 := eq_true q190
     go_upto_region 6 with (fail)
     go_cut [25] (fun v25 wc => ∃ (kq : Nat) (x25_8 : Bool), v25 = .bool x25_8 ∧ Aside0 (gimbalref33_row.j1 kq l0 l1 a2 x7_1 x16_1 (rd l0 x16_1) 0 l0 (l0.length : Int) x16_1 x25_8 = some r) ∧ Aside0 (kq ≤ k1) ∧ Aside0 (Kd.R (Kd.int .u8) 5 wc w.heap.size (fun _ => True) u7 x7_1) ∧ Aside0 (Below w.heap.size w wc))
     case first =>
      have H := HC9.out
      clear HC9
      by_cases c10 : a2 = true
      ·
       subst c10
       have H1 : (gimbalref33_row.j1 k1 l0 l1 true x7_1 x16_1 (rd l0 x16_1) 0 l0 (l0.length : Int) x16_1 (decide (x16_1 > 0))) = some r := by rw [if_pos rfl] at H; exact H
       clear H; have H := H1; clear H1
       have H' := Aside0.mk H
       clear H
       go_wp2
       go_meet
       case rel => exact ⟨_, (decide (x16_1 > 0)), (by first | rfl | (simp; done) | (simp [*]; done)), H', ⟨by have := HK1.out; first | omega | exact Nat.le_refl _⟩, ⟨rup HO_7⟩, bpk HB⟩
      ·
       replace c10 := Bool.eq_false_iff.mpr c10
       subst c10
       have H1 : (gimbalref33_row.j1 k1 l0 l1 false x7_1 x16_1 (rd l0 x16_1) 0 l0 (l0.length : Int) x16_1 false) = some r := by rw [if_neg (show ¬ (false = true) by decide)] at H; exact H
       clear H; have H := H1; clear H1
       have H' := Aside0.mk H
       clear H
       go_wp2
       go_meet
       case rel => exact ⟨_, (false), (by first | rfl | (simp; done) | (simp [*]; done)), H', ⟨by have := HK1.out; first | omega | exact Nat.le_refl _⟩, ⟨rup HO_7⟩, bpk HB⟩
     case rest =>
      clear HC9; (try clear c1); (try clear p1); (try clear q1); (try clear hx1); (try clear p2); (try clear c3); (try clear c4); (try clear c6); (try clear c6b0); (try clear c7); (try clear c7b0); (try clear c8); (try clear c8b0); (try clear c10); (try clear hx190_0); (try clear p190); (try clear p2); (try clear q190); obtain ⟨kq, x25_8, rfl, HA, HJ8, HO_7, HB⟩ := hcut
      cases kq with
      | zero => exact absurd HA.out (by simp [gimbalref33_row.j1])
      | succ kj8 =>
       have H := HA.out
       clear HA
       simp only [gimbalref33_row.j1] at H
       by_cases c11 : x25_8 = true
       ·
        subst c11
        have H1 : (if 0 ≤ (wrap64 (x16_1 - 1)) then (if (wrap64 (x16_1 - 1)) < (l0.length : Int) then (if a2 = true then ((gimbalref33_signed.f kj8 (wrap64 ((rd l0 x16_1) - (rd l0 (wrap64 (x16_1 - 1)))))).bind fun t192 => (if x7_1.length + t192.length < 140737488355328 then (gimbalref33_row.l0 kj8 l0 l1 a2 (x7_1 ++ t192) l0 (l0.length : Int) (wrap64 (x16_1 + 1))) else (none))) else (if x16_1 < (l1.length : Int) then (if 0 ≤ x16_1 then ((gimbalref33_signed.f kj8 (wrap64 ((rd l0 x16_1) - (rd l1 x16_1)))).bind fun t199 => (if x7_1.length + t199.length < 140737488355328 then (gimbalref33_row.l0 kj8 l0 l1 a2 (x7_1 ++ t199) l0 (l0.length : Int) (wrap64 (x16_1 + 1))) else (none))) else (none)) else ((gimbalref33_signed.f kj8 (wrap64 ((rd l0 x16_1) - (rd l0 (wrap64 (x16_1 - 1)))))).bind fun t205 => (if x7_1.length + t205.length < 140737488355328 then (gimbalref33_row.l0 kj8 l0 l1 a2 (x7_1 ++ t205) l0 (l0.length : Int) (wrap64 (x16_1 + 1))) else (none))))) else (none)) else (none)) = some r := by rw [if_pos rfl] at H; exact H
        clear H; have H := H1; clear H1
        obtain ⟨ji12, hji12⟩ : ∃ j_ : Int, (wrap64 (x16_1 - 1)) = j_ := ⟨_, rfl⟩
        replace H : (if 0 ≤ (ji12) then (if (ji12) < (l0.length : Int) then (if a2 = true then ((gimbalref33_signed.f kj8 (wrap64 ((rd l0 x16_1) - (rd l0 (ji12))))).bind fun t192 => (if x7_1.length + t192.length < 140737488355328 then (gimbalref33_row.l0 kj8 l0 l1 a2 (x7_1 ++ t192) l0 (l0.length : Int) (wrap64 (x16_1 + 1))) else (none))) else (if x16_1 < (l1.length : Int) then (if 0 ≤ x16_1 then ((gimbalref33_signed.f kj8 (wrap64 ((rd l0 x16_1) - (rd l1 x16_1)))).bind fun t199 => (if x7_1.length + t199.length < 140737488355328 then (gimbalref33_row.l0 kj8 l0 l1 a2 (x7_1 ++ t199) l0 (l0.length : Int) (wrap64 (x16_1 + 1))) else (none))) else (none)) else ((gimbalref33_signed.f kj8 (wrap64 ((rd l0 x16_1) - (rd l0 (ji12))))).bind fun t205 => (if x7_1.length + t205.length < 140737488355328 then (gimbalref33_row.l0 kj8 l0 l1 a2 (x7_1 ++ t205) l0 (l0.length : Int) (wrap64 (x16_1 + 1))) else (none))))) else (none)) else (none)) = some r := by first | (rw [hji12] at H; exact H) | (simp only [hji12] at H ⊢; exact H)
        have hji12w : (IntKind.i64.wrap (x16_1 - 1)) = ji12 := (i64_w _).trans hji12
        by_cases c13 : 0 ≤ (ji12)
        case neg => rw [if_neg c13] at H; exact absurd H (by simp)
        rw [if_pos c13] at H
        have c13b0 : decide (0 ≤ (ji12)) = true := decide_eq_true c13
        clear c13
        by_cases c14 : (ji12) < (l0.length : Int)
        case neg => rw [if_neg c14] at H; exact absurd H (by simp)
        rw [if_pos c14] at H
        have c14b0 : decide ((ji12) < (l0.length : Int)) = true := decide_eq_true c14
        clear c14
        by_cases c15 : a2 = true
        ·
         subst c15
         have H1 : ((gimbalref33_signed.f kj8 (wrap64 ((rd l0 x16_1) - (rd l0 (ji12))))).bind fun t192 => (if x7_1.length + t192.length < 140737488355328 then (gimbalref33_row.l0 kj8 l0 l1 true (x7_1 ++ t192) l0 (l0.length : Int) (wrap64 (x16_1 + 1))) else (none))) = some r := by rw [if_pos rfl] at H; exact H
         clear H; have H := H1; clear H1; replace H := bnH H; obtain ⟨t192, A160, H⟩ := H
         try dsimp only at H
         have A16 := Aside0.mk A160; clear A160
         by_cases c17 : x7_1.length + t192.length < 140737488355328
         case neg => rw [if_neg c17] at H; exact absurd H (by simp)
         rw [if_pos c17] at H; have LMc17 := Aside0.mk c17; clear c17
         obtain ⟨y195, hy195⟩ : ∃ y_ : List Int, y_ = (x7_1 ++ t192) := ⟨_, rfl⟩
         replace H : (gimbalref33_row.l0 kj8 l0 l1 true y195 l0 (l0.length : Int) (wrap64 (x16_1 + 1))) = some r := by first | (rw [hy195]; with_reducible exact H) | (have H2_ := (Option.bind_some _ _).symm.trans H; rw [hy195]; with_reducible exact H2_) | (have H2_ := (Option.bind_some _ _).symm.trans H; with_reducible exact H2_) | with_reducible exact H | (rw [hy195]; exact H) | exact H
         have Ny195 := Aside0.mk hy195; clear hy195
         have H' := Aside0.mk H
         clear H
         have p191 : 0 ≤ ((ji12) : Int) := of_decide_eq_true (by first | (with_reducible assumption) | assumption)
         have q191 : (ji12) < (l0.length : Int) := of_decide_eq_true (by first | (with_reducible assumption) | assumption)
         obtain ⟨ad191, e191, hx191_0⟩ := Kd.at_int HR0.out (ji12) p191 q191
         obtain rfl : ad190 = ad191 := (by injection e191)
         replace hx191_0 := (HB.out.cell (World.block_lt_of_cell? w _ hx191_0)).trans hx191_0
         replace p191 := eq_true p191; replace q191 := eq_true q191
         go_wp2_with (first | ((with_reducible refine gate_callee (f := 38) rfl ?_); refine goesL_ (some 47) rfl rfl Try.func38 (by kernel_rfl) rfl #[.int .i64 (wrap64 ((rd l0 x16_1) - (rd l0 (ji12))))] rfl (by (try simp only [List.map_toArray, List.map_cons, List.map_nil]); first | done | (simp only [hji12]; rfl) | rfl | (simp only [List.length_drop, List.length_take]; rfl)) ?_; (with_reducible refine (gimbalref33_signed.calls kj8 (wrap64 ((rd l0 x16_1) - (rd l0 (ji12)))) t192 _ A16.out).mono ?_); rintro e w18 ⟨v193, rfl, ho0, hb⟩; refine ⟨_, rfl, ?_⟩; have n0_ := Aside0.mk (Kd.R_elder' (rup HO_7) (Kd.R_base ho0) hb); have n1_ := Aside0.mk (Kd.R_lower (Kd.R_new' ho0 (Kd.R_lt (rup HO_7))) (below_size (by repeat (first | (with_reducible first | exact HB.out | apply below_alloc | apply pw_below_drewN | apply below_drew1) | exact HB.out)))); have n2_ := bst HB hb; clear HO_7; clear HB; have HO_7 := n0_; have HO194 := n1_; have HB := n2_; clear n0_ n1_ n2_; (try clear hb); (try clear hb2); (try clear hk); (try clear hi); (try clear ho0); obtain ⟨Ao20, co20, eo20⟩ := Kd.R_slice HO194.out; subst eo20) | ((with_reducible refine gate_builtin (b := .append) (xs := #[.tmp 43, .tmp 47]) rfl ?_); (try (refine gate_guard (by rfl) ?_; dsimp only)); at_builtin; refine Kd.R_append_rows (Kd.int .u8) (w0 := w) w.heap.size rfl (.tmp 43) (.tmp 47) 28 5 (.int .u8 0) 1 rfl Try.underlying28 info5 rfl (by decide) (by omega) u7 x7_1 t192 _ _ _ (fun k_ => some k_ ≠ (.slice Ao20 t192.length co20 : Value).ownBlock) (fun _ => False) rfl rfl ?aO ?aR (fun _ _ h => h) (fun _ h => h.elim) ?aF ?aB ?aS ?aL ?_; (case aR => repeat (first | exact (Kd.R_reads' HO194.out).2.2 | (with_reducible refine Kd.C_alloc ?_ _) | (with_reducible refine Kd.C_drewN ?_ _) | (with_reducible refine Kd.C_drew ?_))); (case aB => exact (by repeat (first | (with_reducible first | exact HB.out | apply below_alloc | apply pw_below_drewN | apply below_drew1) | exact HB.out))); (case aF => exact (fun k_ hk => Kd.fresh' (Kd.R_lt (rup HO194)) k_ hk)); (case aO => exact (by (with_reducible repeat (first | apply Kd.R_alloc | apply Kd.R_drewN | apply Kd.R_drew)); exact Kd.R_mono HO_7.out (fun _ hk => hk.2))); (case aS => exact (below_size (by repeat (first | (with_reducible first | exact HB.out | apply below_alloc | apply pw_below_drewN | apply below_drew1) | exact HB.out)))); (case aL => have := LMc17.out; omega); intro v196 w19 ho hb hg hat; rw [← Ny195.out] at ho; have n0_ := Aside0.mk (Kd.R_after (ok := (fun _ => True)) (rup HO194) hg hat); have n1_ := Aside0.mk (hb); have n2_ := Aside0.mk (ho); clear HO194; clear HB; clear HO_7; have HO194 := n0_; have HB := n1_; have HO197 := n2_; clear n0_ n1_ n2_; clear ho hb hg hat))
         go_roundg kj8
         case measure => have := HK1.out; have := HJ8.out; omega
         case rel => exact ⟨(y195), (wrap64 (x16_1 + 1)), (by first | rfl | (simp; done) | (simp [*]; done)), H', ⟨by have := HK1.out; have := HJ8.out; omega⟩, ⟨by (with_reducible repeat (first | apply Kd.R_alloc | apply Kd.R_drewN | apply Kd.R_drew)); exact Kd.R_mono HO197.out (fun _ hk => trivial)⟩, bpk HB⟩
        ·
         replace c15 := Bool.eq_false_iff.mpr c15
         subst c15
         have H1 : (if x16_1 < (l1.length : Int) then (if 0 ≤ x16_1 then ((gimbalref33_signed.f kj8 (wrap64 ((rd l0 x16_1) - (rd l1 x16_1)))).bind fun t199 => (if x7_1.length + t199.length < 140737488355328 then (gimbalref33_row.l0 kj8 l0 l1 false (x7_1 ++ t199) l0 (l0.length : Int) (wrap64 (x16_1 + 1))) else (none))) else (none)) else ((gimbalref33_signed.f kj8 (wrap64 ((rd l0 x16_1) - (rd l0 (ji12))))).bind fun t205 => (if x7_1.length + t205.length < 140737488355328 then (gimbalref33_row.l0 kj8 l0 l1 false (x7_1 ++ t205) l0 (l0.length : Int) (wrap64 (x16_1 + 1))) else (none)))) = some r := by rw [if_neg (show ¬ (false = true) by decide)] at H; exact H
         clear H; have H := H1; clear H1
         by_cases c21 : x16_1 < (l1.length : Int)
         ·
          rw [if_pos c21] at H
          have c21b0 : decide (x16_1 < (l1.length : Int)) = true := decide_eq_true c21
          clear c21
          by_cases c22 : 0 ≤ x16_1
          case neg => rw [if_neg c22] at H; exact absurd H (by simp)
          rw [if_pos c22] at H
          have c22b0 : decide (0 ≤ x16_1) = true := decide_eq_true c22
          clear c22; replace H := bnH H; obtain ⟨t199, A230, H⟩ := H
          try dsimp only at H
          have A23 := Aside0.mk A230; clear A230
          by_cases c24 : x7_1.length + t199.length < 140737488355328
          case neg => rw [if_neg c24] at H; exact absurd H (by simp)
          rw [if_pos c24] at H; have LMc24 := Aside0.mk c24; clear c24
          obtain ⟨y202, hy202⟩ : ∃ y_ : List Int, y_ = (x7_1 ++ t199) := ⟨_, rfl⟩
          replace H : (gimbalref33_row.l0 kj8 l0 l1 false y202 l0 (l0.length : Int) (wrap64 (x16_1 + 1))) = some r := by first | (rw [hy202]; with_reducible exact H) | (have H2_ := (Option.bind_some _ _).symm.trans H; rw [hy202]; with_reducible exact H2_) | (have H2_ := (Option.bind_some _ _).symm.trans H; with_reducible exact H2_) | with_reducible exact H | (rw [hy202]; exact H) | exact H
          have Ny202 := Aside0.mk hy202; clear hy202
          have H' := Aside0.mk H
          clear H
          have p191 : 0 ≤ ((ji12) : Int) := of_decide_eq_true (by first | (with_reducible assumption) | assumption)
          have q191 : (ji12) < (l0.length : Int) := of_decide_eq_true (by first | (with_reducible assumption) | assumption)
          obtain ⟨ad191, e191, hx191_0⟩ := Kd.at_int HR0.out (ji12) p191 q191
          obtain rfl : ad190 = ad191 := (by injection e191)
          replace hx191_0 := (HB.out.cell (World.block_lt_of_cell? w _ hx191_0)).trans hx191_0
          replace p191 := eq_true p191; replace q191 := eq_true q191
          have p198 : 0 ≤ (x16_1 : Int) := of_decide_eq_true (by first | (with_reducible assumption) | assumption)
          have q198 : x16_1 < (l1.length : Int) := of_decide_eq_true (by first | (with_reducible assumption) | assumption)
          obtain ⟨ad198, e198, hx198_0⟩ := Kd.at_int HR1.out x16_1 p198 q198
          cases e198
          replace hx198_0 := (HB.out.cell (World.block_lt_of_cell? w _ hx198_0)).trans hx198_0
          replace p198 := eq_true p198; replace q198 := eq_true q198
          go_wp2_with (first | ((with_reducible refine gate_callee (f := 38) rfl ?_); refine goesL_ (some 47) rfl rfl Try.func38 (by kernel_rfl) rfl #[.int .i64 (wrap64 ((rd l0 x16_1) - (rd l1 x16_1)))] rfl (by (try simp only [List.map_toArray, List.map_cons, List.map_nil]); first | done | rfl | (simp only [List.length_drop, List.length_take]; rfl)) ?_; (with_reducible refine (gimbalref33_signed.calls kj8 (wrap64 ((rd l0 x16_1) - (rd l1 x16_1))) t199 _ A23.out).mono ?_); rintro e w25 ⟨v200, rfl, ho0, hb⟩; refine ⟨_, rfl, ?_⟩; have n0_ := Aside0.mk (Kd.R_elder' (rup HO_7) (Kd.R_base ho0) hb); have n1_ := Aside0.mk (Kd.R_lower (Kd.R_new' ho0 (Kd.R_lt (rup HO_7))) (below_size (by repeat (first | (with_reducible first | exact HB.out | apply below_alloc | apply pw_below_drewN | apply below_drew1) | exact HB.out)))); have n2_ := bst HB hb; clear HO_7; clear HB; have HO_7 := n0_; have HO201 := n1_; have HB := n2_; clear n0_ n1_ n2_; (try clear hb); (try clear hb2); (try clear hk); (try clear hi); (try clear ho0); obtain ⟨Ao27, co27, eo27⟩ := Kd.R_slice HO201.out; subst eo27) | ((with_reducible refine gate_builtin (b := .append) (xs := #[.tmp 43, .tmp 47]) rfl ?_); (try (refine gate_guard (by rfl) ?_; dsimp only)); at_builtin; refine Kd.R_append_rows (Kd.int .u8) (w0 := w) w.heap.size rfl (.tmp 43) (.tmp 47) 28 5 (.int .u8 0) 1 rfl Try.underlying28 info5 rfl (by decide) (by omega) u7 x7_1 t199 _ _ _ (fun k_ => some k_ ≠ (.slice Ao27 t199.length co27 : Value).ownBlock) (fun _ => False) rfl rfl ?aO ?aR (fun _ _ h => h) (fun _ h => h.elim) ?aF ?aB ?aS ?aL ?_; (case aR => repeat (first | exact (Kd.R_reads' HO201.out).2.2 | (with_reducible refine Kd.C_alloc ?_ _) | (with_reducible refine Kd.C_drewN ?_ _) | (with_reducible refine Kd.C_drew ?_))); (case aB => exact (by repeat (first | (with_reducible first | exact HB.out | apply below_alloc | apply pw_below_drewN | apply below_drew1) | exact HB.out))); (case aF => exact (fun k_ hk => Kd.fresh' (Kd.R_lt (rup HO201)) k_ hk)); (case aO => exact (by (with_reducible repeat (first | apply Kd.R_alloc | apply Kd.R_drewN | apply Kd.R_drew)); exact Kd.R_mono HO_7.out (fun _ hk => hk.2))); (case aS => exact (below_size (by repeat (first | (with_reducible first | exact HB.out | apply below_alloc | apply pw_below_drewN | apply below_drew1) | exact HB.out)))); (case aL => have := LMc24.out; omega); intro v203 w26 ho hb hg hat; rw [← Ny202.out] at ho; have n0_ := Aside0.mk (Kd.R_after (ok := (fun _ => True)) (rup HO201) hg hat); have n1_ := Aside0.mk (hb); have n2_ := Aside0.mk (ho); clear HO201; clear HB; clear HO_7; have HO201 := n0_; have HB := n1_; have HO204 := n2_; clear n0_ n1_ n2_; clear ho hb hg hat))
          go_roundg kj8
          case measure => have := HK1.out; have := HJ8.out; omega
          case rel => exact ⟨(y202), (wrap64 (x16_1 + 1)), (by first | rfl | (simp; done) | (simp [*]; done)), H', ⟨by have := HK1.out; have := HJ8.out; omega⟩, ⟨by (with_reducible repeat (first | apply Kd.R_alloc | apply Kd.R_drewN | apply Kd.R_drew)); exact Kd.R_mono HO204.out (fun _ hk => trivial)⟩, bpk HB⟩
         ·
          rw [if_neg c21] at H
          have c21b0 : decide (x16_1 < (l1.length : Int)) = false := decide_eq_false c21
          clear c21; replace H := bnH H; obtain ⟨t205, A280, H⟩ := H
          try dsimp only at H
          have A28 := Aside0.mk A280; clear A280
          by_cases c29 : x7_1.length + t205.length < 140737488355328
          case neg => rw [if_neg c29] at H; exact absurd H (by simp)
          rw [if_pos c29] at H; have LMc29 := Aside0.mk c29; clear c29
          obtain ⟨y208, hy208⟩ : ∃ y_ : List Int, y_ = (x7_1 ++ t205) := ⟨_, rfl⟩
          replace H : (gimbalref33_row.l0 kj8 l0 l1 false y208 l0 (l0.length : Int) (wrap64 (x16_1 + 1))) = some r := by first | (rw [hy208]; with_reducible exact H) | (have H2_ := (Option.bind_some _ _).symm.trans H; rw [hy208]; with_reducible exact H2_) | (have H2_ := (Option.bind_some _ _).symm.trans H; with_reducible exact H2_) | with_reducible exact H | (rw [hy208]; exact H) | exact H
          have Ny208 := Aside0.mk hy208; clear hy208
          have H' := Aside0.mk H
          clear H
          have p191 : 0 ≤ ((ji12) : Int) := of_decide_eq_true (by first | (with_reducible assumption) | assumption)
          have q191 : (ji12) < (l0.length : Int) := of_decide_eq_true (by first | (with_reducible assumption) | assumption)
          obtain ⟨ad191, e191, hx191_0⟩ := Kd.at_int HR0.out (ji12) p191 q191
          obtain rfl : ad190 = ad191 := (by injection e191)
          replace hx191_0 := (HB.out.cell (World.block_lt_of_cell? w _ hx191_0)).trans hx191_0
          replace p191 := eq_true p191; replace q191 := eq_true q191
          go_wp2_with (first | ((with_reducible refine gate_callee (f := 38) rfl ?_); refine goesL_ (some 47) rfl rfl Try.func38 (by kernel_rfl) rfl #[.int .i64 (wrap64 ((rd l0 x16_1) - (rd l0 (ji12))))] rfl (by (try simp only [List.map_toArray, List.map_cons, List.map_nil]); first | done | (simp only [hji12]; rfl) | rfl | (simp only [List.length_drop, List.length_take]; rfl)) ?_; (with_reducible refine (gimbalref33_signed.calls kj8 (wrap64 ((rd l0 x16_1) - (rd l0 (ji12)))) t205 _ A28.out).mono ?_); rintro e w30 ⟨v206, rfl, ho0, hb⟩; refine ⟨_, rfl, ?_⟩; have n0_ := Aside0.mk (Kd.R_elder' (rup HO_7) (Kd.R_base ho0) hb); have n1_ := Aside0.mk (Kd.R_lower (Kd.R_new' ho0 (Kd.R_lt (rup HO_7))) (below_size (by repeat (first | (with_reducible first | exact HB.out | apply below_alloc | apply pw_below_drewN | apply below_drew1) | exact HB.out)))); have n2_ := bst HB hb; clear HO_7; clear HB; have HO_7 := n0_; have HO207 := n1_; have HB := n2_; clear n0_ n1_ n2_; (try clear hb); (try clear hb2); (try clear hk); (try clear hi); (try clear ho0); obtain ⟨Ao32, co32, eo32⟩ := Kd.R_slice HO207.out; subst eo32) | ((with_reducible refine gate_builtin (b := .append) (xs := #[.tmp 43, .tmp 47]) rfl ?_); (try (refine gate_guard (by rfl) ?_; dsimp only)); at_builtin; refine Kd.R_append_rows (Kd.int .u8) (w0 := w) w.heap.size rfl (.tmp 43) (.tmp 47) 28 5 (.int .u8 0) 1 rfl Try.underlying28 info5 rfl (by decide) (by omega) u7 x7_1 t205 _ _ _ (fun k_ => some k_ ≠ (.slice Ao32 t205.length co32 : Value).ownBlock) (fun _ => False) rfl rfl ?aO ?aR (fun _ _ h => h) (fun _ h => h.elim) ?aF ?aB ?aS ?aL ?_; (case aR => repeat (first | exact (Kd.R_reads' HO207.out).2.2 | (with_reducible refine Kd.C_alloc ?_ _) | (with_reducible refine Kd.C_drewN ?_ _) | (with_reducible refine Kd.C_drew ?_))); (case aB => exact (by repeat (first | (with_reducible first | exact HB.out | apply below_alloc | apply pw_below_drewN | apply below_drew1) | exact HB.out))); (case aF => exact (fun k_ hk => Kd.fresh' (Kd.R_lt (rup HO207)) k_ hk)); (case aO => exact (by (with_reducible repeat (first | apply Kd.R_alloc | apply Kd.R_drewN | apply Kd.R_drew)); exact Kd.R_mono HO_7.out (fun _ hk => hk.2))); (case aS => exact (below_size (by repeat (first | (with_reducible first | exact HB.out | apply below_alloc | apply pw_below_drewN | apply below_drew1) | exact HB.out)))); (case aL => have := LMc29.out; omega); intro v209 w31 ho hb hg hat; rw [← Ny208.out] at ho; have n0_ := Aside0.mk (Kd.R_after (ok := (fun _ => True)) (rup HO207) hg hat); have n1_ := Aside0.mk (hb); have n2_ := Aside0.mk (ho); clear HO207; clear HB; clear HO_7; have HO207 := n0_; have HB := n1_; have HO210 := n2_; clear n0_ n1_ n2_; clear ho hb hg hat))
          go_roundg kj8
          case measure => have := HK1.out; have := HJ8.out; omega
          case rel => exact ⟨(y208), (wrap64 (x16_1 + 1)), (by first | rfl | (simp; done) | (simp [*]; done)), H', ⟨by have := HK1.out; have := HJ8.out; omega⟩, ⟨by (with_reducible repeat (first | apply Kd.R_alloc | apply Kd.R_drewN | apply Kd.R_drew)); exact Kd.R_mono HO210.out (fun _ hk => trivial)⟩, bpk HB⟩
       ·
        replace c11 := Bool.eq_false_iff.mpr c11
        subst c11
        have H1 : (if a2 = true then ((gimbalref33_signed.f kj8 (wrap64 (rd l0 x16_1))).bind fun t211 => (if x7_1.length + t211.length < 140737488355328 then (gimbalref33_row.l0 kj8 l0 l1 a2 (x7_1 ++ t211) l0 (l0.length : Int) (wrap64 (x16_1 + 1))) else (none))) else (if x16_1 < (l1.length : Int) then (if 0 ≤ x16_1 then ((gimbalref33_signed.f kj8 (wrap64 ((rd l0 x16_1) - (rd l1 x16_1)))).bind fun t218 => (if x7_1.length + t218.length < 140737488355328 then (gimbalref33_row.l0 kj8 l0 l1 a2 (x7_1 ++ t218) l0 (l0.length : Int) (wrap64 (x16_1 + 1))) else (none))) else (none)) else ((gimbalref33_signed.f kj8 (wrap64 (rd l0 x16_1))).bind fun t224 => (if x7_1.length + t224.length < 140737488355328 then (gimbalref33_row.l0 kj8 l0 l1 a2 (x7_1 ++ t224) l0 (l0.length : Int) (wrap64 (x16_1 + 1))) else (none))))) = some r := by rw [if_neg (show ¬ (false = true) by decide)] at H; simp only [Int.sub_zero] at H; exact H
        clear H; have H := H1; clear H1
        by_cases c33 : a2 = true
        ·
         subst c33
         have H1 : ((gimbalref33_signed.f kj8 (wrap64 (rd l0 x16_1))).bind fun t211 => (if x7_1.length + t211.length < 140737488355328 then (gimbalref33_row.l0 kj8 l0 l1 true (x7_1 ++ t211) l0 (l0.length : Int) (wrap64 (x16_1 + 1))) else (none))) = some r := by rw [if_pos rfl] at H; exact H
         clear H; have H := H1; clear H1; replace H := bnH H; obtain ⟨t211, A340, H⟩ := H
         try dsimp only at H
         have A34 := Aside0.mk A340; clear A340
         by_cases c35 : x7_1.length + t211.length < 140737488355328
         case neg => rw [if_neg c35] at H; exact absurd H (by simp)
         rw [if_pos c35] at H; have LMc35 := Aside0.mk c35; clear c35
         obtain ⟨y214, hy214⟩ : ∃ y_ : List Int, y_ = (x7_1 ++ t211) := ⟨_, rfl⟩
         replace H : (gimbalref33_row.l0 kj8 l0 l1 true y214 l0 (l0.length : Int) (wrap64 (x16_1 + 1))) = some r := by first | (rw [hy214]; with_reducible exact H) | (have H2_ := (Option.bind_some _ _).symm.trans H; rw [hy214]; with_reducible exact H2_) | (have H2_ := (Option.bind_some _ _).symm.trans H; with_reducible exact H2_) | with_reducible exact H | (rw [hy214]; exact H) | exact H
         have Ny214 := Aside0.mk hy214; clear hy214
         have H' := Aside0.mk H
         clear H
         go_wp2_with (first | ((with_reducible refine gate_callee (f := 38) rfl ?_); refine goesL_ (some 47) rfl rfl Try.func38 (by kernel_rfl) rfl #[.int .i64 (wrap64 (rd l0 x16_1))] rfl (by (try simp only [List.map_toArray, List.map_cons, List.map_nil]); first | done | rfl | (simp only [List.length_drop, List.length_take]; rfl)) ?_; (with_reducible refine (gimbalref33_signed.calls kj8 (wrap64 (rd l0 x16_1)) t211 _ A34.out).mono ?_); rintro e w36 ⟨v212, rfl, ho0, hb⟩; refine ⟨_, rfl, ?_⟩; have n0_ := Aside0.mk (Kd.R_elder' (rup HO_7) (Kd.R_base ho0) hb); have n1_ := Aside0.mk (Kd.R_lower (Kd.R_new' ho0 (Kd.R_lt (rup HO_7))) (below_size (by repeat (first | (with_reducible first | exact HB.out | apply below_alloc | apply pw_below_drewN | apply below_drew1) | exact HB.out)))); have n2_ := bst HB hb; clear HO_7; clear HB; have HO_7 := n0_; have HO213 := n1_; have HB := n2_; clear n0_ n1_ n2_; (try clear hb); (try clear hb2); (try clear hk); (try clear hi); (try clear ho0); obtain ⟨Ao38, co38, eo38⟩ := Kd.R_slice HO213.out; subst eo38) | ((with_reducible refine gate_builtin (b := .append) (xs := #[.tmp 43, .tmp 47]) rfl ?_); (try (refine gate_guard (by rfl) ?_; dsimp only)); at_builtin; refine Kd.R_append_rows (Kd.int .u8) (w0 := w) w.heap.size rfl (.tmp 43) (.tmp 47) 28 5 (.int .u8 0) 1 rfl Try.underlying28 info5 rfl (by decide) (by omega) u7 x7_1 t211 _ _ _ (fun k_ => some k_ ≠ (.slice Ao38 t211.length co38 : Value).ownBlock) (fun _ => False) rfl rfl ?aO ?aR (fun _ _ h => h) (fun _ h => h.elim) ?aF ?aB ?aS ?aL ?_; (case aR => repeat (first | exact (Kd.R_reads' HO213.out).2.2 | (with_reducible refine Kd.C_alloc ?_ _) | (with_reducible refine Kd.C_drewN ?_ _) | (with_reducible refine Kd.C_drew ?_))); (case aB => exact (by repeat (first | (with_reducible first | exact HB.out | apply below_alloc | apply pw_below_drewN | apply below_drew1) | exact HB.out))); (case aF => exact (fun k_ hk => Kd.fresh' (Kd.R_lt (rup HO213)) k_ hk)); (case aO => exact (by (with_reducible repeat (first | apply Kd.R_alloc | apply Kd.R_drewN | apply Kd.R_drew)); exact Kd.R_mono HO_7.out (fun _ hk => hk.2))); (case aS => exact (below_size (by repeat (first | (with_reducible first | exact HB.out | apply below_alloc | apply pw_below_drewN | apply below_drew1) | exact HB.out)))); (case aL => have := LMc35.out; omega); intro v215 w37 ho hb hg hat; rw [← Ny214.out] at ho; have n0_ := Aside0.mk (Kd.R_after (ok := (fun _ => True)) (rup HO213) hg hat); have n1_ := Aside0.mk (hb); have n2_ := Aside0.mk (ho); clear HO213; clear HB; clear HO_7; have HO213 := n0_; have HB := n1_; have HO216 := n2_; clear n0_ n1_ n2_; clear ho hb hg hat))
         go_roundg kj8
         case measure => have := HK1.out; have := HJ8.out; omega
         case rel => exact ⟨(y214), (wrap64 (x16_1 + 1)), (by first | rfl | (simp; done) | (simp [*]; done)), H', ⟨by have := HK1.out; have := HJ8.out; omega⟩, ⟨by (with_reducible repeat (first | apply Kd.R_alloc | apply Kd.R_drewN | apply Kd.R_drew)); exact Kd.R_mono HO216.out (fun _ hk => trivial)⟩, bpk HB⟩
        ·
         replace c33 := Bool.eq_false_iff.mpr c33
         subst c33
         have H1 : (if x16_1 < (l1.length : Int) then (if 0 ≤ x16_1 then ((gimbalref33_signed.f kj8 (wrap64 ((rd l0 x16_1) - (rd l1 x16_1)))).bind fun t218 => (if x7_1.length + t218.length < 140737488355328 then (gimbalref33_row.l0 kj8 l0 l1 false (x7_1 ++ t218) l0 (l0.length : Int) (wrap64 (x16_1 + 1))) else (none))) else (none)) else ((gimbalref33_signed.f kj8 (wrap64 (rd l0 x16_1))).bind fun t224 => (if x7_1.length + t224.length < 140737488355328 then (gimbalref33_row.l0 kj8 l0 l1 false (x7_1 ++ t224) l0 (l0.length : Int) (wrap64 (x16_1 + 1))) else (none)))) = some r := by rw [if_neg (show ¬ (false = true) by decide)] at H; exact H
         clear H; have H := H1; clear H1
         by_cases c39 : x16_1 < (l1.length : Int)
         ·
          rw [if_pos c39] at H
          have c39b0 : decide (x16_1 < (l1.length : Int)) = true := decide_eq_true c39
          clear c39
          by_cases c40 : 0 ≤ x16_1
          case neg => rw [if_neg c40] at H; exact absurd H (by simp)
          rw [if_pos c40] at H
          have c40b0 : decide (0 ≤ x16_1) = true := decide_eq_true c40
          clear c40; replace H := bnH H; obtain ⟨t218, A410, H⟩ := H
          try dsimp only at H
          have A41 := Aside0.mk A410; clear A410
          by_cases c42 : x7_1.length + t218.length < 140737488355328
          case neg => rw [if_neg c42] at H; exact absurd H (by simp)
          rw [if_pos c42] at H; have LMc42 := Aside0.mk c42; clear c42
          obtain ⟨y221, hy221⟩ : ∃ y_ : List Int, y_ = (x7_1 ++ t218) := ⟨_, rfl⟩
          replace H : (gimbalref33_row.l0 kj8 l0 l1 false y221 l0 (l0.length : Int) (wrap64 (x16_1 + 1))) = some r := by first | (rw [hy221]; with_reducible exact H) | (have H2_ := (Option.bind_some _ _).symm.trans H; rw [hy221]; with_reducible exact H2_) | (have H2_ := (Option.bind_some _ _).symm.trans H; with_reducible exact H2_) | with_reducible exact H | (rw [hy221]; exact H) | exact H
          have Ny221 := Aside0.mk hy221; clear hy221
          have H' := Aside0.mk H
          clear H
          have p217 : 0 ≤ (x16_1 : Int) := of_decide_eq_true (by first | (with_reducible assumption) | assumption)
          have q217 : x16_1 < (l1.length : Int) := of_decide_eq_true (by first | (with_reducible assumption) | assumption)
          obtain ⟨ad217, e217, hx217_0⟩ := Kd.at_int HR1.out x16_1 p217 q217
          cases e217
          replace hx217_0 := (HB.out.cell (World.block_lt_of_cell? w _ hx217_0)).trans hx217_0
          replace p217 := eq_true p217; replace q217 := eq_true q217
          go_wp2_with (first | ((with_reducible refine gate_callee (f := 38) rfl ?_); refine goesL_ (some 47) rfl rfl Try.func38 (by kernel_rfl) rfl #[.int .i64 (wrap64 ((rd l0 x16_1) - (rd l1 x16_1)))] rfl (by (try simp only [List.map_toArray, List.map_cons, List.map_nil]); first | done | rfl | (simp only [List.length_drop, List.length_take]; rfl)) ?_; (with_reducible refine (gimbalref33_signed.calls kj8 (wrap64 ((rd l0 x16_1) - (rd l1 x16_1))) t218 _ A41.out).mono ?_); rintro e w43 ⟨v219, rfl, ho0, hb⟩; refine ⟨_, rfl, ?_⟩; have n0_ := Aside0.mk (Kd.R_elder' (rup HO_7) (Kd.R_base ho0) hb); have n1_ := Aside0.mk (Kd.R_lower (Kd.R_new' ho0 (Kd.R_lt (rup HO_7))) (below_size (by repeat (first | (with_reducible first | exact HB.out | apply below_alloc | apply pw_below_drewN | apply below_drew1) | exact HB.out)))); have n2_ := bst HB hb; clear HO_7; clear HB; have HO_7 := n0_; have HO220 := n1_; have HB := n2_; clear n0_ n1_ n2_; (try clear hb); (try clear hb2); (try clear hk); (try clear hi); (try clear ho0); obtain ⟨Ao45, co45, eo45⟩ := Kd.R_slice HO220.out; subst eo45) | ((with_reducible refine gate_builtin (b := .append) (xs := #[.tmp 43, .tmp 47]) rfl ?_); (try (refine gate_guard (by rfl) ?_; dsimp only)); at_builtin; refine Kd.R_append_rows (Kd.int .u8) (w0 := w) w.heap.size rfl (.tmp 43) (.tmp 47) 28 5 (.int .u8 0) 1 rfl Try.underlying28 info5 rfl (by decide) (by omega) u7 x7_1 t218 _ _ _ (fun k_ => some k_ ≠ (.slice Ao45 t218.length co45 : Value).ownBlock) (fun _ => False) rfl rfl ?aO ?aR (fun _ _ h => h) (fun _ h => h.elim) ?aF ?aB ?aS ?aL ?_; (case aR => repeat (first | exact (Kd.R_reads' HO220.out).2.2 | (with_reducible refine Kd.C_alloc ?_ _) | (with_reducible refine Kd.C_drewN ?_ _) | (with_reducible refine Kd.C_drew ?_))); (case aB => exact (by repeat (first | (with_reducible first | exact HB.out | apply below_alloc | apply pw_below_drewN | apply below_drew1) | exact HB.out))); (case aF => exact (fun k_ hk => Kd.fresh' (Kd.R_lt (rup HO220)) k_ hk)); (case aO => exact (by (with_reducible repeat (first | apply Kd.R_alloc | apply Kd.R_drewN | apply Kd.R_drew)); exact Kd.R_mono HO_7.out (fun _ hk => hk.2))); (case aS => exact (below_size (by repeat (first | (with_reducible first | exact HB.out | apply below_alloc | apply pw_below_drewN | apply below_drew1) | exact HB.out)))); (case aL => have := LMc42.out; omega); intro v222 w44 ho hb hg hat; rw [← Ny221.out] at ho; have n0_ := Aside0.mk (Kd.R_after (ok := (fun _ => True)) (rup HO220) hg hat); have n1_ := Aside0.mk (hb); have n2_ := Aside0.mk (ho); clear HO220; clear HB; clear HO_7; have HO220 := n0_; have HB := n1_; have HO223 := n2_; clear n0_ n1_ n2_; clear ho hb hg hat))
          go_roundg kj8
          case measure => have := HK1.out; have := HJ8.out; omega
          case rel => exact ⟨(y221), (wrap64 (x16_1 + 1)), (by first | rfl | (simp; done) | (simp [*]; done)), H', ⟨by have := HK1.out; have := HJ8.out; omega⟩, ⟨by (with_reducible repeat (first | apply Kd.R_alloc | apply Kd.R_drewN | apply Kd.R_drew)); exact Kd.R_mono HO223.out (fun _ hk => trivial)⟩, bpk HB⟩
         ·
          rw [if_neg c39] at H
          have c39b0 : decide (x16_1 < (l1.length : Int)) = false := decide_eq_false c39
          clear c39; replace H := bnH H; obtain ⟨t224, A460, H⟩ := H
          try dsimp only at H
          have A46 := Aside0.mk A460; clear A460
          by_cases c47 : x7_1.length + t224.length < 140737488355328
          case neg => rw [if_neg c47] at H; exact absurd H (by simp)
          rw [if_pos c47] at H; have LMc47 := Aside0.mk c47; clear c47
          obtain ⟨y227, hy227⟩ : ∃ y_ : List Int, y_ = (x7_1 ++ t224) := ⟨_, rfl⟩
          replace H : (gimbalref33_row.l0 kj8 l0 l1 false y227 l0 (l0.length : Int) (wrap64 (x16_1 + 1))) = some r := by first | (rw [hy227]; with_reducible exact H) | (have H2_ := (Option.bind_some _ _).symm.trans H; rw [hy227]; with_reducible exact H2_) | (have H2_ := (Option.bind_some _ _).symm.trans H; with_reducible exact H2_) | with_reducible exact H | (rw [hy227]; exact H) | exact H
          have Ny227 := Aside0.mk hy227; clear hy227
          have H' := Aside0.mk H
          clear H
          go_wp2_with (first | ((with_reducible refine gate_callee (f := 38) rfl ?_); refine goesL_ (some 47) rfl rfl Try.func38 (by kernel_rfl) rfl #[.int .i64 (wrap64 (rd l0 x16_1))] rfl (by (try simp only [List.map_toArray, List.map_cons, List.map_nil]); first | done | rfl | (simp only [List.length_drop, List.length_take]; rfl)) ?_; (with_reducible refine (gimbalref33_signed.calls kj8 (wrap64 (rd l0 x16_1)) t224 _ A46.out).mono ?_); rintro e w48 ⟨v225, rfl, ho0, hb⟩; refine ⟨_, rfl, ?_⟩; have n0_ := Aside0.mk (Kd.R_elder' (rup HO_7) (Kd.R_base ho0) hb); have n1_ := Aside0.mk (Kd.R_lower (Kd.R_new' ho0 (Kd.R_lt (rup HO_7))) (below_size (by repeat (first | (with_reducible first | exact HB.out | apply below_alloc | apply pw_below_drewN | apply below_drew1) | exact HB.out)))); have n2_ := bst HB hb; clear HO_7; clear HB; have HO_7 := n0_; have HO226 := n1_; have HB := n2_; clear n0_ n1_ n2_; (try clear hb); (try clear hb2); (try clear hk); (try clear hi); (try clear ho0); obtain ⟨Ao50, co50, eo50⟩ := Kd.R_slice HO226.out; subst eo50) | ((with_reducible refine gate_builtin (b := .append) (xs := #[.tmp 43, .tmp 47]) rfl ?_); (try (refine gate_guard (by rfl) ?_; dsimp only)); at_builtin; refine Kd.R_append_rows (Kd.int .u8) (w0 := w) w.heap.size rfl (.tmp 43) (.tmp 47) 28 5 (.int .u8 0) 1 rfl Try.underlying28 info5 rfl (by decide) (by omega) u7 x7_1 t224 _ _ _ (fun k_ => some k_ ≠ (.slice Ao50 t224.length co50 : Value).ownBlock) (fun _ => False) rfl rfl ?aO ?aR (fun _ _ h => h) (fun _ h => h.elim) ?aF ?aB ?aS ?aL ?_; (case aR => repeat (first | exact (Kd.R_reads' HO226.out).2.2 | (with_reducible refine Kd.C_alloc ?_ _) | (with_reducible refine Kd.C_drewN ?_ _) | (with_reducible refine Kd.C_drew ?_))); (case aB => exact (by repeat (first | (with_reducible first | exact HB.out | apply below_alloc | apply pw_below_drewN | apply below_drew1) | exact HB.out))); (case aF => exact (fun k_ hk => Kd.fresh' (Kd.R_lt (rup HO226)) k_ hk)); (case aO => exact (by (with_reducible repeat (first | apply Kd.R_alloc | apply Kd.R_drewN | apply Kd.R_drew)); exact Kd.R_mono HO_7.out (fun _ hk => hk.2))); (case aS => exact (below_size (by repeat (first | (with_reducible first | exact HB.out | apply below_alloc | apply pw_below_drewN | apply below_drew1) | exact HB.out)))); (case aL => have := LMc47.out; omega); intro v228 w49 ho hb hg hat; rw [← Ny227.out] at ho; have n0_ := Aside0.mk (Kd.R_after (ok := (fun _ => True)) (rup HO226) hg hat); have n1_ := Aside0.mk (hb); have n2_ := Aside0.mk (ho); clear HO226; clear HB; clear HO_7; have HO226 := n0_; have HB := n1_; have HO229 := n2_; clear n0_ n1_ n2_; clear ho hb hg hat))
          go_roundg kj8
          case measure => have := HK1.out; have := HJ8.out; omega
          case rel => exact ⟨(y227), (wrap64 (x16_1 + 1)), (by first | rfl | (simp; done) | (simp [*]; done)), H', ⟨by have := HK1.out; have := HJ8.out; omega⟩, ⟨by (with_reducible repeat (first | apply Kd.R_alloc | apply Kd.R_drewN | apply Kd.R_drew)); exact Kd.R_mono HO229.out (fun _ hk => trivial)⟩, bpk HB⟩
    ·
     rw [if_neg c6] at H
     have c6b0 : decide (x16_1 < (l0.length : Int)) = false := decide_eq_false c6
     clear c6
     obtain rfl := Option.some.inj H
     go_wp2
     go_ret
     exact ⟨_, by first | rfl | (simp [errW_none, errW_some] <;> rfl) | (simp [*, errW_none, errW_some] <;> rfl) | kernel_rfl, by (with_reducible repeat (first | apply Kd.R_alloc | apply Kd.R_drewN | apply Kd.R_drew)); exact HO_7.out, (bpk HB).out⟩
end Go.Proofs.Ytiemdfdebdmchaa.P
