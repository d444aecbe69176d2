/- What the law's proof needs of Px16. -/
import Derived.Test.YtllfopbchdahoaaTrFU4
import Derived.Test.YtllfopbchdahoaaTrFPx0
import Derived.Test.YtllfopbchdahoaaTrFPx7
import Derived.Test.YtllfopbchdahoaaTrFPx8
import Derived.Test.YtllfopbchdahoaaTrFPx14
import Derived.Test.YtllfopbchdahoaaTrFPx15
-- PRINTED by print.py (a twelfth state) out of the translation. Not trusted: Lean checks it.
namespace Go.Proofs.Ytllfopbchdahoaa.P
open Go.RowKit Go.Proofs.YtllfopbchdahoaaW.PrintWords Go.Proofs.YtllfopbchdahoaaW.PrintLast Go.Proofs.YtllfopbchdahoaaW.PrintMore Go.Proofs.YtllfopbchdahoaaO
attribute [local go_sem] max2_int min2_int max_two min_two max_three min_three max_four min_four   -- for this text's walks alone
set_option linter.unusedVariables false
set_option linter.unusedSimpArgs false
mutual
def gimbalref14_Add.j0 : Nat → Bool → Int → Int → Int → Int → Int → Int → Int → Int → Int → Int → Option (Int × Int × Int × Int × Int × Bool)
  | 0, _, _, _, _, _, _, _, _, _, _, _ => none
  | k + 1, x16, x249000, x249001, x249002, x249003, x249004, x250000, x250001, x250002, x250003, x250004 => if x16 = true then (some (0, 0, 0, 0, 0, false)) else ((gimbalref14_parts.f x249000 x249001 x249002 x249003 x249004).bind fun t253 => ((gimbalref14_parts.f x250000 x250001 x250002 x250003 x250004).bind fun t256 => (gimbalref14_Add.l0 k t253 t256 0 x249000 x249001 x249002 x249003 x249004 x250000 x250001 x250002 x250003 x250004)))
def gimbalref14_Add.l0 : Nat → List (S56) → List (S56) → Int → Int → Int → Int → Int → Int → Int → Int → Int → Int → Int → Option (Int × Int × Int × Int × Int × Bool)
  | 0, _, _, _, _, _, _, _, _, _, _, _, _, _ => none
  | k + 1, x6, x7, x8, x249000, x249001, x249002, x249003, x249004, x250000, x250001, x250002, x250003, x250004 => if x8 < (x7.length : Int) then (if 0 ≤ x8 then ((gimbalref14_put.f k x6 ((rd_T56 x7 x8).f0) ((rd_T56 x7 x8).f1)).bind fun t260 => (gimbalref14_Add.l0 k t260 x7 (wrap64 (x8 + 1)) x249000 x249001 x249002 x249003 x249004 x250000 x250001 x250002 x250003 x250004)) else (none)) else ((gimbalref14_told.f k x6 (wrap64 (x249004 + x250004))).bind fun bt263 => (some (bt263.1, bt263.2.1, bt263.2.2.1, bt263.2.2.2.1, bt263.2.2.2.2.1, bt263.2.2.2.2.2)))
end
def gimbalref14_Add.f (k : Nat) (a0_0 : Int) (a0_1 : Int) (a0_2 : Int) (a0_3 : Int) (a0_4 : Int) (a1_0 : Int) (a1_1 : Int) (a1_2 : Int) (a1_3 : Int) (a1_4 : Int) : Option (Int × Int × Int × Int × Int × Bool) := (gimbalref14_Fit.f k a0_0 a0_1 a0_2 a0_3 a0_4).bind fun t251 => (if t251 = true then ((gimbalref14_Fit.f k a1_0 a1_1 a1_2 a1_3 a1_4).bind fun t252 => (gimbalref14_Add.j0 k (!t252) a0_0 a0_1 a0_2 a0_3 a0_4 a1_0 a1_1 a1_2 a1_3 a1_4)) else (gimbalref14_Add.j0 k true a0_0 a0_1 a0_2 a0_3 a0_4 a1_0 a1_1 a1_2 a1_3 a1_4))
set_option maxHeartbeats 8000000 in
set_option maxRecDepth 100000 in
theorem gimbalref14_Add.calls (k : Nat) (a0_0 : Int) (a0_1 : Int) (a0_2 : Int) (a0_3 : Int) (a0_4 : Int) (a1_0 : Int) (a1_1 : Int) (a1_2 : Int) (a1_3 : Int) (a1_4 : Int) (r1 : Int) (r2 : Int) (r3 : Int) (r4 : Int) (r5 : Int) (r6 : Bool) (w : World) (h : gimbalref14_Add.f k a0_0 a0_1 a0_2 a0_3 a0_4 a1_0 a1_1 a1_2 a1_3 a1_4 = some (r1, r2, r3, r4, r5, r6)) :
    Calls Try.prog 14 #[.agg #[.int .i64 a0_0, .int .i64 a0_1, .int .i64 a0_2, .int .i64 a0_3, .int .i64 a0_4], .agg #[.int .i64 a1_0, .int .i64 a1_1, .int .i64 a1_2, .int .i64 a1_3, .int .i64 a1_4]] w fun e w' => e = .returned (.tuple #[.agg #[.int .i64 r1, .int .i64 r2, .int .i64 r3, .int .i64 r4, .int .i64 r5], .bool r6]) ∧ Below w.heap.size w w' := by
  have hu23 := Try.underlying23
  have hu56 := Try.underlying56
  have HB := Aside0.mk (Below.refl w.heap.size w)
  have H : ((gimbalref14_Fit.f k a0_0 a0_1 a0_2 a0_3 a0_4).bind fun t251 => (if t251 = true then ((gimbalref14_Fit.f k a1_0 a1_1 a1_2 a1_3 a1_4).bind fun t252 => (gimbalref14_Add.j0 k (!t252) a0_0 a0_1 a0_2 a0_3 a0_4 a1_0 a1_1 a1_2 a1_3 a1_4)) else (gimbalref14_Add.j0 k true a0_0 a0_1 a0_2 a0_3 a0_4 a1_0 a1_1 a1_2 a1_3 a1_4))) = some (r1, r2, r3, r4, r5, r6) := h
  clear h; have HC3 := Aside0.mk H; clear H
  go_enter Try.func14, Try.ntmps14
  go_upto_region 1 with (first | ((with_reducible refine gate_dst (N := 2) rfl ?_); refine box_event ?hg (N := 2) ?hd (cs := #[.int .i64 a0_0, .int .i64 a0_1, .int .i64 a0_2, .int .i64 a0_3, .int .i64 a0_4]) (t := 23) ?hr ?_; (case hd => rfl); (case hg => rfl); (case hr => first | (go_simp; done) | (go_simp; rfl)); intro gb248 hg w4 hbox hb; have n0_ := bst HB hb; have n1_ := Aside0.mk (hbox); have n2_ := bsz HB hg; have n3_ := bsz HB hg; clear HB; have HB := n0_; have BK248 := n1_; have GW248 := n2_; have GE248 := n3_; clear n0_ n1_ n2_ n3_; clear hb hbox hg) | ((with_reducible refine gate_dst (N := 3) rfl ?_); refine box_event ?hg (N := 3) ?hd (cs := #[.int .i64 a1_0, .int .i64 a1_1, .int .i64 a1_2, .int .i64 a1_3, .int .i64 a1_4]) (t := 23) ?hr ?_; (case hd => rfl); (case hg => rfl); (case hr => first | (go_simp; done) | (go_simp; rfl)); intro gb249 hg w5 hbox hb; have n0_ := bst HB hb; have n1_ := Aside0.mk (hbox); have n2_ := bsz HB hg; have n3_ := bsz HB hg; have n4_ := bn1 BK248 hg; have n5_ := bn2 BK248 hg; replace BK248 := bbw BK248 hb; clear HB; have HB := n0_; have BK249 := n1_; have GW249 := n2_; have GE249 := n3_; have NB248_249 := n4_; have NB249_248 := n5_; clear n0_ n1_ n2_ n3_ n4_ n5_; clear hb hbox hg) | ((with_reducible refine gate_dst (N := 4) rfl ?_); refine box_event ?hg (N := 4) ?hd (cs := #[.int .i64 0, .int .i64 0, .int .i64 0, .int .i64 0, .int .i64 0]) (t := 23) ?hr ?_; (case hd => rfl); (case hg => rfl); (case hr => first | (go_simp; done) | (go_simp; rfl)); intro gb250 hg w6 hbox hb; have n0_ := bst HB hb; have n1_ := Aside0.mk (hbox); have n2_ := bsz HB hg; have n3_ := bsz HB hg; have n4_ := bn1 BK248 hg; have n5_ := bn2 BK248 hg; have n6_ := bn1 BK249 hg; have n7_ := bn2 BK249 hg; replace BK248 := bbw BK248 hb; replace BK249 := bbw BK249 hb; clear HB; have HB := n0_; have BK250 := n1_; have GW250 := n2_; have GE250 := n3_; have NB248_250 := n4_; have NB250_248 := n5_; have NB249_250 := n6_; have NB250_249 := n7_; clear n0_ n1_ n2_ n3_ n4_ n5_ n6_ n7_; clear hb hbox hg))
  (try simp only [Act.put, List.setIfInBounds_toArray, List.set_cons_zero, List.set_cons_succ])
  go_cut [16] (fun v16 wc => ∃ (kq : Nat) (x16_2 : Bool), v16 = .bool x16_2 ∧ Aside0 (gimbalref14_Add.j0 kq x16_2 a0_0 a0_1 a0_2 a0_3 a0_4 a1_0 a1_1 a1_2 a1_3 a1_4 = some (r1, r2, r3, r4, r5, r6)) ∧ Aside0 (kq ≤ k) ∧ Aside0 (wc.heap[gb248]? = some (.cells #[.int .i64 a0_0, .int .i64 a0_1, .int .i64 a0_2, .int .i64 a0_3, .int .i64 a0_4] 23 (0, 0))) ∧ Aside0 (wc.heap[gb249]? = some (.cells #[.int .i64 a1_0, .int .i64 a1_1, .int .i64 a1_2, .int .i64 a1_3, .int .i64 a1_4] 23 (0, 0))) ∧ Aside0 (wc.heap[gb250]? = some (.cells #[.int .i64 0, .int .i64 0, .int .i64 0, .int .i64 0, .int .i64 0] 23 (0, 0))) ∧ Aside0 (Below w.heap.size w wc))
  case first =>
   have H := HC3.out
   clear HC3; replace H := bnH H; obtain ⟨t251, A70, H⟩ := H
   try dsimp only at H
   have A7 := Aside0.mk A70; clear A70
   by_cases c8 : t251 = true
   ·
    subst c8
    have H1 : ((gimbalref14_Fit.f k a1_0 a1_1 a1_2 a1_3 a1_4).bind fun t252 => (gimbalref14_Add.j0 k (!t252) a0_0 a0_1 a0_2 a0_3 a0_4 a1_0 a1_1 a1_2 a1_3 a1_4)) = some (r1, r2, r3, r4, r5, r6) := by rw [if_pos rfl] at H; exact H
    clear H; have H := H1; clear H1; replace H := bnH H; obtain ⟨t252, A90, H⟩ := H
    try dsimp only at H
    have A9 := Aside0.mk A90; clear A90
    have H' := Aside0.mk H
    clear H; have hnb10 := nn NB248_249 NB249_248; have hnb11 := nn NB248_250 NB250_248
    obtain ⟨hcz12_0, hcz12_1, hcz12_2, hcz12_3, hcz12_4, hfz12_0, hfz12_1, hfz12_2, hfz12_3, hfz12_4⟩ := hcf5 BK248
    go_wp2_with (first | ((with_reducible refine gate_callee (f := 18) rfl ?_); refine goesL_ (some 10) rfl rfl Try.func18 (by kernel_rfl) rfl #[.agg #[.int .i64 a0_0, .int .i64 a0_1, .int .i64 a0_2, .int .i64 a0_3, .int .i64 a0_4]] rfl (by (try simp only [List.map_toArray, List.map_cons, List.map_nil]); first | done | rfl | (simp only [List.length_drop, List.length_take]; rfl)) ?_; (with_reducible refine (gimbalref14_Fit.calls k a0_0 a0_1 a0_2 a0_3 a0_4 true _ A7.out).mono ?_); rintro e w13 ⟨rfl, hb⟩; refine ⟨_, rfl, ?_⟩; have n0_ := bst HB hb; replace BK248 := bbw BK248 hb; replace BK249 := bbw BK249 hb; replace BK250 := bbw BK250 hb; clear HB; have HB := n0_; clear n0_; (try clear hb); (try clear hb2); (try clear hk); (try clear hi); have hnb14 := nn NB249_250 NB250_249; obtain ⟨hcz15_0, hcz15_1, hcz15_2, hcz15_3, hcz15_4, hfz15_0, hfz15_1, hfz15_2, hfz15_3, hfz15_4⟩ := hcf5 BK249) | (go_at_call 18; (with_reducible refine (gimbalref14_Fit.calls k a1_0 a1_1 a1_2 a1_3 a1_4 t252 _ A9.out).mono ?_); rintro e w16 ⟨rfl, hb⟩; have n0_ := bst HB hb; replace BK248 := bbw BK248 hb; replace BK249 := bbw BK249 hb; replace BK250 := bbw BK250 hb; clear HB; have HB := n0_; clear n0_; (try clear hb); (try clear hb2); (try clear hk); (try clear hi)))
    go_meet
    case rel => exact ⟨_, (!t252), (by first | rfl | (simp; done) | (simp [*]; done)), H', ⟨by first | omega | exact Nat.le_refl _⟩, pkA BK248, pkA BK249, pkA BK250, bpk HB⟩
   ·
    replace c8 := Bool.eq_false_iff.mpr c8
    subst c8
    have H1 : (gimbalref14_Add.j0 k true a0_0 a0_1 a0_2 a0_3 a0_4 a1_0 a1_1 a1_2 a1_3 a1_4) = some (r1, r2, r3, r4, r5, r6) := by rw [if_neg (show ¬ (false = true) by decide)] at H; exact H
    clear H; have H := H1; clear H1
    have H' := Aside0.mk H
    clear H; have hnb17 := nn NB248_249 NB249_248; have hnb18 := nn NB248_250 NB250_248
    obtain ⟨hcz19_0, hcz19_1, hcz19_2, hcz19_3, hcz19_4, hfz19_0, hfz19_1, hfz19_2, hfz19_3, hfz19_4⟩ := hcf5 BK248
    go_wp2_with (first | ((with_reducible refine gate_callee (f := 18) rfl ?_); refine goesL_ (some 10) rfl rfl Try.func18 (by kernel_rfl) rfl #[.agg #[.int .i64 a0_0, .int .i64 a0_1, .int .i64 a0_2, .int .i64 a0_3, .int .i64 a0_4]] rfl (by (try simp only [List.map_toArray, List.map_cons, List.map_nil]); first | done | rfl | (simp only [List.length_drop, List.length_take]; rfl)) ?_; (with_reducible refine (gimbalref14_Fit.calls k a0_0 a0_1 a0_2 a0_3 a0_4 false _ A7.out).mono ?_); rintro e w20 ⟨rfl, hb⟩; refine ⟨_, rfl, ?_⟩; have n0_ := bst HB hb; replace BK248 := bbw BK248 hb; replace BK249 := bbw BK249 hb; replace BK250 := bbw BK250 hb; clear HB; have HB := n0_; clear n0_; (try clear hb); (try clear hb2); (try clear hk); (try clear hi)))
    go_meet
    case rel => exact ⟨_, (true), (by first | rfl | (simp; done) | (simp [*]; done)), H', ⟨by first | omega | exact Nat.le_refl _⟩, pkA BK248, pkA BK249, pkA BK250, bpk HB⟩
  case rest =>
   clear HC3; (try clear c1); (try clear p2); (try clear c8); (try clear c10); (try clear c11); (try clear c14); (try clear c17); (try clear c18); (try clear hcz12_0 hcz12_1 hcz12_2 hcz12_3 hcz12_4); (try clear hcz15_0 hcz15_1 hcz15_2 hcz15_3 hcz15_4); (try clear hcz19_0 hcz19_1 hcz19_2 hcz19_3 hcz19_4); (try clear hfz12_0 hfz12_1 hfz12_2 hfz12_3 hfz12_4); (try clear hfz15_0 hfz15_1 hfz15_2 hfz15_3 hfz15_4); (try clear hfz19_0 hfz19_1 hfz19_2 hfz19_3 hfz19_4); obtain ⟨kq, x16_2, rfl, HA, HJ2, BK248, BK249, BK250, HB⟩ := hcut
   cases kq with
   | zero => exact absurd HA.out (by simp [gimbalref14_Add.j0])
   | succ kj2 =>
    have H := HA.out
    clear HA
    simp only [gimbalref14_Add.j0] at H
    by_cases c21 : x16_2 = true
    ·
     subst c21
     have H1 : (some (0, 0, 0, 0, 0, false)) = some (r1, r2, r3, r4, r5, r6) := by rw [if_pos rfl] at H; exact H
     clear H; have H := H1; clear H1
     simp only [Option.some.injEq, Prod.mk.injEq] at H
     obtain ⟨rfl, rfl, rfl, rfl, rfl, rfl⟩ := H; have hnb22 := nn NB250_248 NB248_250; have hnb23 := nn NB250_249 NB249_250
     obtain ⟨hcz24_0, hcz24_1, hcz24_2, hcz24_3, hcz24_4, hfz24_0, hfz24_1, hfz24_2, hfz24_3, hfz24_4⟩ := hcf5 BK250
     go_wp2
     refine bodyPost_ret (results_ct rfl _ _ gb250 23 #[.int .i64 0, .int .i64 0, .int .i64 0, .int .i64 0, .int .i64 0] (0, 0) _ rfl (by refine pkB ?_; refine bput (cs := #[.int .i64 0, .int .i64 0, .int .i64 0, .int .i64 0, .int .i64 0]) 4 ?_; refine bput (cs := #[.int .i64 0, .int .i64 0, .int .i64 0, .int .i64 0, .int .i64 0]) 3 ?_; refine bput (cs := #[.int .i64 0, .int .i64 0, .int .i64 0, .int .i64 0, .int .i64 0]) 2 ?_; refine bput (cs := #[.int .i64 0, .int .i64 0, .int .i64 0, .int .i64 0, .int .i64 0]) 1 ?_; refine bput (cs := #[.int .i64 0, .int .i64 0, .int .i64 0, .int .i64 0, .int .i64 0]) 0 ?_; exact BK250.out) Try.underlying23 rfl (by kernel_rfl)) rfl ?_
     exact ⟨by first | rfl | (simp [errW_none, errW_some] <;> rfl) | (simp [*, errW_none, errW_some] <;> rfl) | kernel_rfl, (bpk HB).out⟩
    ·
     replace c21 := Bool.eq_false_iff.mpr c21
     subst c21
     have H1 : ((gimbalref14_parts.f a0_0 a0_1 a0_2 a0_3 a0_4).bind fun t253 => ((gimbalref14_parts.f a1_0 a1_1 a1_2 a1_3 a1_4).bind fun t256 => (gimbalref14_Add.l0 kj2 t253 t256 0 a0_0 a0_1 a0_2 a0_3 a0_4 a1_0 a1_1 a1_2 a1_3 a1_4))) = some (r1, r2, r3, r4, r5, r6) := by rw [if_neg (show ¬ (false = true) by decide)] at H; exact H
     clear H; have H := H1; clear H1; replace H := bnH H; obtain ⟨t253, A250, H⟩ := H
     try dsimp only at H
     have A25 := Aside0.mk A250; clear A250; replace H := bnH H; obtain ⟨t256, A260, H⟩ := H
     try dsimp only at H
     have A26 := Aside0.mk A260; clear A260
     have H' := Aside0.mk H
     clear H; have hnb27 := nn NB248_249 NB249_248; have hnb28 := nn NB248_250 NB250_248
     obtain ⟨hcz29_0, hcz29_1, hcz29_2, hcz29_3, hcz29_4, hfz29_0, hfz29_1, hfz29_2, hfz29_3, hfz29_4⟩ := hcf5 BK248
     go_wp2_with (first | ((with_reducible refine gate_callee (f := 26) rfl ?_); refine goesL_ (some 19) rfl rfl Try.func26 (by kernel_rfl) rfl #[.agg #[.int .i64 a0_0, .int .i64 a0_1, .int .i64 a0_2, .int .i64 a0_3, .int .i64 a0_4]] rfl (by (try simp only [List.map_toArray, List.map_cons, List.map_nil]); first | done | rfl | (simp only [List.length_drop, List.length_take]; rfl)) ?_; (with_reducible refine (gimbalref14_parts.calls a0_0 a0_1 a0_2 a0_3 a0_4 t253 _ A25.out).mono ?_); rintro e w30 ⟨v254, rfl, ho0, hb⟩; refine ⟨_, rfl, ?_⟩; have n0_ := Aside0.mk (Kd.R_lower ho0 (below_size (by repeat (first | (with_reducible first | exact HB.out | apply below_alloc | apply pw_below_drewN | apply below_drew1 | refine below_set ?_ GE248.out | refine below_set ?_ GE249.out | refine below_set ?_ GE250.out) | exact HB.out)))); have n1_ := bst HB hb; replace BK248 := bbw BK248 hb; replace BK249 := bbw BK249 hb; replace BK250 := bbw BK250 hb; clear HB; have HO255 := n0_; have HB := n1_; clear n0_ n1_; (try clear hb); (try clear hb2); (try clear hk); (try clear hi); (try clear ho0); have hnb31 := nn NB249_250 NB250_249; obtain ⟨hcz32_0, hcz32_1, hcz32_2, hcz32_3, hcz32_4, hfz32_0, hfz32_1, hfz32_2, hfz32_3, hfz32_4⟩ := hcf5 BK249) | ((with_reducible refine gate_callee (f := 26) rfl ?_); refine goesL_ (some 21) rfl rfl Try.func26 (by kernel_rfl) rfl #[.agg #[.int .i64 a1_0, .int .i64 a1_1, .int .i64 a1_2, .int .i64 a1_3, .int .i64 a1_4]] rfl (by (try simp only [List.map_toArray, List.map_cons, List.map_nil]); first | done | rfl | (simp only [List.length_drop, List.length_take]; rfl)) ?_; (with_reducible refine (gimbalref14_parts.calls a1_0 a1_1 a1_2 a1_3 a1_4 t256 _ A26.out).mono ?_); rintro e w33 ⟨v257, rfl, ho0, hb⟩; refine ⟨_, rfl, ?_⟩; have n0_ := Aside0.mk (Kd.R_elder' (rup HO255) (Kd.R_base ho0) hb); have n1_ := Aside0.mk (Kd.R_lower (Kd.R_new' ho0 (Kd.R_lt (rup HO255))) (below_size (by repeat (first | (with_reducible first | exact HB.out | apply below_alloc | apply pw_below_drewN | apply below_drew1 | refine below_set ?_ GE248.out | refine below_set ?_ GE249.out | refine below_set ?_ GE250.out) | exact HB.out)))); have n2_ := bst HB hb; replace BK248 := bbw BK248 hb; replace BK249 := bbw BK249 hb; replace BK250 := bbw BK250 hb; clear HO255; clear HB; have HO255 := n0_; have HO258 := n1_; have HB := n2_; clear n0_ n1_ n2_; (try clear hb); (try clear hb2); (try clear hk); (try clear hi); (try clear ho0)))
     go_loopg [6, 8] kj2 (fun kq v6 v8 w' => ∃ (x6_2 : List (S56)) (x8_2 : Int), v8 = .int .i64 x8_2 ∧ Aside0 (gimbalref14_Add.l0 kq x6_2 t256 x8_2 a0_0 a0_1 a0_2 a0_3 a0_4 a1_0 a1_1 a1_2 a1_3 a1_4 = some (r1, r2, r3, r4, r5, r6)) ∧ Aside0 (kq ≤ kj2) ∧ Aside0 (Kd.R k56 56 w' w.heap.size (fun k_ => some k_ ≠ (v257 : Value).ownBlock) v6 x6_2) ∧ Aside0 (Kd.R k56 56 w' w.heap.size (fun k_ => some k_ ≠ (v6 : Value).ownBlock) v257 t256) ∧ Aside0 (w'.heap[gb248]? = some (.cells #[.int .i64 a0_0, .int .i64 a0_1, .int .i64 a0_2, .int .i64 a0_3, .int .i64 a0_4] 23 (0, 0))) ∧ Aside0 (w'.heap[gb249]? = some (.cells #[.int .i64 a1_0, .int .i64 a1_1, .int .i64 a1_2, .int .i64 a1_3, .int .i64 a1_4] 23 (0, 0))) ∧ Aside0 (w'.heap[gb250]? = some (.cells #[.int .i64 0, .int .i64 0, .int .i64 0, .int .i64 0, .int .i64 0] 23 (0, 0))) ∧ Aside0 (Below w.heap.size w w'))
     case atStart => exact ⟨(t253), (0), (by first | rfl | (simp; done) | (simp [*]; done)), H', ⟨Nat.le_refl _⟩, ⟨by (with_reducible repeat (first | apply Kd.R_alloc | apply Kd.R_drewN | apply Kd.R_drew)); exact Kd.R_mono HO255.out (fun _ hk => hk.2)⟩, ⟨by (with_reducible repeat (first | apply Kd.R_alloc | apply Kd.R_drewN | apply Kd.R_drew)); exact Kd.R_mono HO258.out (fun _ hk => hk.2)⟩, pkA BK248, pkA BK249, pkA BK250, bpk HB⟩
     case round =>
      clear H'
      (try clear c1); (try clear c2); (try clear p2); (try clear c3); (try clear c8); (try clear c10); (try clear c11); (try clear c14); (try clear c17); (try clear c18); (try clear c21); (try clear c22); (try clear c23); (try clear c26); (try clear c27); (try clear c28); (try clear c31); (try clear hcz12_0 hcz12_1 hcz12_2 hcz12_3 hcz12_4); (try clear hcz15_0 hcz15_1 hcz15_2 hcz15_3 hcz15_4); (try clear hcz19_0 hcz19_1 hcz19_2 hcz19_3 hcz19_4); (try clear hcz24_0 hcz24_1 hcz24_2 hcz24_3 hcz24_4); (try clear hcz29_0 hcz29_1 hcz29_2 hcz29_3 hcz29_4); (try clear hcz32_0 hcz32_1 hcz32_2 hcz32_3 hcz32_4); (try clear hfz12_0 hfz12_1 hfz12_2 hfz12_3 hfz12_4); (try clear hfz15_0 hfz15_1 hfz15_2 hfz15_3 hfz15_4); (try clear hfz19_0 hfz19_1 hfz19_2 hfz19_3 hfz19_4); (try clear hfz24_0 hfz24_1 hfz24_2 hfz24_3 hfz24_4); (try clear hfz29_0 hfz29_1 hfz29_2 hfz29_3 hfz29_4); (try clear hfz32_0 hfz32_1 hfz32_2 hfz32_3 hfz32_4); (try clear p2); obtain ⟨x6_2, x8_2, rfl, HA, HK2, HO_6, HO_7, BK248, BK249, BK250, HB⟩ := hrel
      cases gk with
      | zero => exact absurd HA.out (by simp [gimbalref14_Add.l0])
      | succ k2 =>
       have H := HA.out
       clear HA
       simp only [gimbalref14_Add.l0] at H
       by_cases c34 : x8_2 < (t256.length : Int)
       ·
        rw [if_pos c34] at H
        have c34b0 : decide (x8_2 < (t256.length : Int)) = true := decide_eq_true c34
        clear c34
        by_cases c35 : 0 ≤ x8_2
        case neg => rw [if_neg c35] at H; exact absurd H (by simp)
        rw [if_pos c35] at H
        have c35b0 : decide (0 ≤ x8_2) = true := decide_eq_true c35
        clear c35; replace H := bnH H; obtain ⟨t260, A360, H⟩ := H
        try dsimp only at H
        have A36 := Aside0.mk A360; clear A360
        have H' := Aside0.mk H
        clear H
        obtain ⟨Ao37, co37, eo37⟩ := Kd.R_slice HO_7.out
        subst eo37
        have p259 : 0 ≤ (x8_2 : Int) := of_decide_eq_true (by first | (with_reducible assumption) | assumption)
        have q259 : x8_2 < (t256.length : Int) := of_decide_eq_true (by first | (with_reducible assumption) | assumption)
        obtain ⟨ad259, e259, hx259_0, hx259_1⟩ := at_T56 (Kd.R_reads' HO_7.out).2.2 x8_2 p259 q259
        cases e259; replace p259 := eq_true p259; replace q259 := eq_true q259
        obtain ⟨Ao38, co38, eo38⟩ := Kd.R_slice HO_6.out
        subst eo38
        go_wp2_with (first | ((with_reducible refine gate_callee (f := 28) rfl ?_); refine goesL_ (some 33) rfl rfl Try.func28 (by kernel_rfl) rfl #[.slice Ao38 x6_2.length co38, .agg #[.int .i64 ((rd_T56 t256 x8_2).f0), .int .i64 ((rd_T56 t256 x8_2).f1)]] rfl (by (try simp only [List.map_toArray, List.map_cons, List.map_nil]); first | done | rfl | (simp only [List.length_drop, List.length_take]; rfl)) ?_; (with_reducible refine (gimbalref14_put.calls k2 (fun k_ => some k_ = (.slice Ao38 x6_2.length co38 : Value).ownBlock) (.slice Ao38 x6_2.length co38) x6_2 ((rd_T56 t256 x8_2).f0) ((rd_T56 t256 x8_2).f1) t260 w _ ?side1 ?side2 A36.out).mono ?_); (case side1 => repeat (first | (with_reducible first | exact HB.out | apply below_alloc | apply pw_below_drewN | apply below_drew1 | refine below_set ?_ GE248.out | refine below_set ?_ GE249.out | refine below_set ?_ GE250.out) | exact HB.out)); (case side2 => exact Kd.R_tight rfl HO_6.out); rintro e w39 ⟨v261, rfl, ho0, hb, hkp⟩; refine ⟨_, rfl, ?_⟩; have n0_ := Aside0.mk (Kd.R_mono (ok' := fun k_ => some k_ ≠ (v261 : Value).ownBlock) (Kd.R_keptB (HO_7.out) hkp (fun k_ hk_ hs_ => (hk_) hs_)) (fun k_ hk_ => fun e_ => Or.elim (ho0.1 k_ e_.symm) (fun hs_ => hk_.2.1 hs_) (fun hn_ => Nat.not_le.2 hk_.2.2 hn_))); have n1_ := Aside0.mk (blk_kept (pk BK248.out) hkp (fun hs_ => (fun e_ => (Kd.R_ne HO_6.out BK248.out (by decide)) e_) hs_)); have n2_ := Aside0.mk (blk_kept (pk BK249.out) hkp (fun hs_ => (fun e_ => (Kd.R_ne HO_6.out BK249.out (by decide)) e_) hs_)); have n3_ := Aside0.mk (blk_kept (pk BK250.out) hkp (fun hs_ => (fun e_ => (Kd.R_ne HO_6.out BK250.out (by decide)) e_) hs_)); have n4_ := Aside0.mk (Kd.R_mono (ok' := fun k_ => some k_ ≠ (.slice (some ad259) t256.length co37 : Value).ownBlock) ho0 (fun k_ hk_ => Or.elim hk_ (fun hs_ => fun e_ => (((HO_7.out).1 k_ e_.symm)) hs_) (fun hn_ => (Kd.fresh' (Kd.R_lt (rup HO_7)) k_ hn_)))); have n5_ := Aside0.mk (hb); clear HO_7; clear BK248; clear BK249; clear BK250; clear HB; clear HO_6; have HO_7 := n0_; have BK248 := n1_; have BK249 := n2_; have BK250 := n3_; have HO262 := n4_; have HB := n5_; clear n0_ n1_ n2_ n3_ n4_ n5_; (try clear hb); (try clear hkp); (try clear ho0)))
        go_roundg k2
        case measure => have := HJ2.out; have := HK2.out; omega
        case rel => exact ⟨(t260), (wrap64 (x8_2 + 1)), (by first | rfl | (simp; done) | (simp [*]; done)), H', ⟨by have := HJ2.out; have := HK2.out; omega⟩, ⟨rup HO262⟩, ⟨rup HO_7⟩, pkA BK248, pkA BK249, pkA BK250, bpk HB⟩
       ·
        rw [if_neg c34] at H
        have c34b0 : decide (x8_2 < (t256.length : Int)) = false := decide_eq_false c34
        clear c34; replace H := bnH H; obtain ⟨⟨t263, t264, t265, t266, t267, t268⟩, A400, H⟩ := H
        try dsimp only at H
        have A40 := Aside0.mk A400; clear A400
        simp only [Option.some.injEq, Prod.mk.injEq] at H
        obtain ⟨rfl, rfl, rfl, rfl, rfl, rfl⟩ := H
        obtain ⟨Ao41, co41, eo41⟩ := Kd.R_slice HO_7.out
        subst eo41; have hnb42 := nn NB248_249 NB249_248; have hnb43 := nn NB248_250 NB250_248
        obtain ⟨hcz44_0, hcz44_1, hcz44_2, hcz44_3, hcz44_4, hfz44_0, hfz44_1, hfz44_2, hfz44_3, hfz44_4⟩ := hcf5 BK248
        have hnb45 := nn NB249_250 NB250_249
        obtain ⟨hcz46_0, hcz46_1, hcz46_2, hcz46_3, hcz46_4, hfz46_0, hfz46_1, hfz46_2, hfz46_3, hfz46_4⟩ := hcf5 BK249
        obtain ⟨Ao47, co47, eo47⟩ := Kd.R_slice HO_6.out
        subst eo47
        go_wp2_with (first | ((with_reducible refine gate_callee (f := 29) rfl ?_); refine goesL_ (some 40) rfl rfl Try.func29 (by kernel_rfl) rfl #[.slice Ao47 x6_2.length co47, .int .i64 (wrap64 (a0_4 + a1_4))] rfl (by (try simp only [List.map_toArray, List.map_cons, List.map_nil]); first | done | rfl | (simp only [List.length_drop, List.length_take]; rfl)) ?_; (with_reducible refine (gimbalref14_told.calls k2 _ _ x6_2 (wrap64 (a0_4 + a1_4)) t263 t264 t265 t266 t267 t268 _ ?side1 ?side2 A40.out).mono ?_); (case side1 => exact cuq (Kd.R_reads' HO_6.out).2.2); (case side2 => exact (Kd.R_reads' HO_6.out).2.1); rintro e w48 ⟨rfl, hb⟩; refine ⟨_, rfl, ?_⟩; have n0_ := rbw HO_6 hb; have n1_ := rbw HO_7 hb; have n2_ := bst HB hb; replace BK248 := bbw BK248 hb; replace BK249 := bbw BK249 hb; replace BK250 := bbw BK250 hb; clear HO_6; clear HO_7; clear HB; have HO_6 := n0_; have HO_7 := n1_; have HB := n2_; clear n0_ n1_ n2_; (try clear hb); (try clear hb2); (try clear hk); (try clear hi); obtain ⟨hcz49_0, hcz49_1, hcz49_2, hcz49_3, hcz49_4, hfz49_0, hfz49_1, hfz49_2, hfz49_3, hfz49_4⟩ := hcf5 BK250))
        refine bodyPost_ret (results_ct rfl _ _ gb250 23 #[.int .i64 t263, .int .i64 t264, .int .i64 t265, .int .i64 t266, .int .i64 t267] (0, 0) _ rfl (by refine pkB ?_; refine bput (cs := #[.int .i64 t263, .int .i64 t264, .int .i64 t265, .int .i64 t266, .int .i64 0]) 4 ?_; refine bput (cs := #[.int .i64 t263, .int .i64 t264, .int .i64 t265, .int .i64 0, .int .i64 0]) 3 ?_; refine bput (cs := #[.int .i64 t263, .int .i64 t264, .int .i64 0, .int .i64 0, .int .i64 0]) 2 ?_; refine bput (cs := #[.int .i64 t263, .int .i64 0, .int .i64 0, .int .i64 0, .int .i64 0]) 1 ?_; refine bput (cs := #[.int .i64 0, .int .i64 0, .int .i64 0, .int .i64 0, .int .i64 0]) 0 ?_; exact BK250.out) Try.underlying23 rfl (by kernel_rfl)) rfl ?_
        exact ⟨by first | rfl | (simp [errW_none, errW_some] <;> rfl) | (simp [*, errW_none, errW_some] <;> rfl) | kernel_rfl, (bpk HB).out⟩
end Go.Proofs.Ytllfopbchdahoaa.P
