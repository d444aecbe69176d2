/- What the law's proof needs of S7. -/
import Derived.Test.YtiemdfdebdmchaaTrVU4
import Derived.Test.YtiemdfdebdmchaaTrVU
import Derived.Test.YtiemdfdebdmchaaTrVPx0
import Derived.Test.YtiemdfdebdmchaaTrVPut
import Derived.Test.YtiemdfdebdmchaaTrVS0
import Derived.Test.YtiemdfdebdmchaaTrVPx7
import Derived.Test.YtiemdfdebdmchaaTrVPx60
import Derived.Test.YtiemdfdebdmchaaTrVS5
import Derived.Test.YtiemdfdebdmchaaTrVPx30
import Derived.Test.YtiemdfdebdmchaaTrVPx33
namespace Go.Proofs.Ytiemdfdebdmchaa.P
open Go.RowKit Go.Proofs.YtiemdfdebdmchaaW.PrintWords Go.Proofs.YtiemdfdebdmchaaW.PrintLast Go.Proofs.YtiemdfdebdmchaaW.PrintMore Go.Proofs.YtiemdfdebdmchaaO
attribute [local go_sem] max2_int min2_int max_two min_two max_three min_three max_four min_four   -- for this text's walks alone
set_option linter.unusedVariables false
set_option linter.unusedSimpArgs false
def TB (w : World) (g : Nat) (A1 : Option Addr) (c1 : Nat) (A7 : Option Addr) (c7 : Nat) (A8 : Option Addr) (c8 : Nat) (A9 : Option Addr) (c9 : Nat) (r1 : Int) (r2 : List Int) (r3 r4 r5 r6 r7 : Int) (r8 : List Int) (r9 r10 : List (List Int)) : Prop :=
  w.heap[g]? = some (.cells #[.int .i64 r1, .slice A1 r2.length c1, .int .i64 r3, .int .i64 r4, .int .i64 r5, .int .i64 r6, .int .i64 r7, .slice A7 r8.length c7, .slice A8 r9.length c8, .slice A9 r10.length c9] 27 (0, 0)) ∧ Kd.R (Kd.int .i64) 2 w 0 (fun _ => True) (.slice A1 r2.length c1) r2 ∧ Kd.R (Kd.int .i64) 2 w 0 (fun _ => True) (.slice A7 r8.length c7) r8 ∧ Kd.S (Kd.slice 2 (Kd.int .i64)) 22 w 0 (fun _ => True) (.slice A8 r9.length c8) r9 ∧ Kd.S (Kd.slice 2 (Kd.int .i64)) 22 w 0 (fun _ => True) (.slice A9 r10.length c9) r10
section
variable {w w' : World} {g : Nat} {A1 A7 A8 A9 : Option Addr} {c1 c7 c8 c9 : Nat} {r1 : Int} {r2 : List Int} {r3 r4 r5 r6 r7 : Int} {r8 : List Int} {r9 r10 : List (List Int)}
theorem TB.below (h : TB w g A1 c1 A7 c7 A8 c8 A9 c9 r1 r2 r3 r4 r5 r6 r7 r8 r9 r10) (hb : Below w.heap.size w w') : TB w' g A1 c1 A7 c7 A8 c8 A9 c9 r1 r2 r3 r4 r5 r6 r7 r8 r9 r10 :=
  ⟨(bbw ⟨h.1⟩ hb).out, Kd.R_below h.2.1 hb, Kd.R_below h.2.2.1 hb, Kd.S_below h.2.2.2.1 hb, Kd.S_below h.2.2.2.2 hb⟩
theorem TB.over {base : Nat} {ok : Nat → Prop} {v : Value} {xs : List Int} (h : TB w g A1 c1 A7 c7 A8 c8 A9 c9 r1 r2 r3 r4 r5 r6 r7 r8 r9 r10) (hv : Kd.R (Kd.int .u8) 5 w base ok v xs) {q : Nat} (hq : v.ownBlock = some q) (hg : w.grownBy w' (some q)) : TB w' g A1 c1 A7 c7 A8 c8 A9 c9 r1 r2 r3 r4 r5 r6 r7 r8 r9 r10 :=
  ⟨blk_grown (g := g) h.1 hg (by have := Kd.R_ne hv h.1 (by decide); rw [hq] at this; exact this), Kd.R_over' (v := v) h.2.1 (Kd.R_typed hv) (by decide) (by rw [hq]; exact hg), Kd.R_over' (v := v) h.2.2.1 (Kd.R_typed hv) (by decide) (by rw [hq]; exact hg), Kd.S_over' (v := v) h.2.2.2.1 (Kd.R_typed hv) (by decide) (by rw [hq]; exact hg), Kd.S_over' (v := v) h.2.2.2.2 (Kd.R_typed hv) (by decide) (by rw [hq]; exact hg)⟩
theorem TB.boxed {g2 : Nat} {cs : Array Value} (h : TB w g A1 c1 A7 c7 A8 c8 A9 c9 r1 r2 r3 r4 r5 r6 r7 r8 r9 r10) (hb : w.heap[g2]? = some (.cells cs 27 (0, 0))) (hne : g ≠ g2) (hg : w.grownBy w' (some g2)) : TB w' g A1 c1 A7 c7 A8 c8 A9 c9 r1 r2 r3 r4 r5 r6 r7 r8 r9 r10 :=
  ⟨blk_grown (g := g) h.1 hg (fun e => hne (Option.some.inj e)), R_boxed h.2.1 hb (by decide) hg, R_boxed h.2.2.1 hb (by decide) hg, S_boxed h.2.2.2.1 hb (by decide) hg, S_boxed h.2.2.2.2 hb (by decide) hg⟩
end
section
variable {w w' : World} {g : Nat} {A1 A7 A8 A9 : Option Addr} {c1 c7 c8 c9 : Nat} {r1 : Int} {r2 : List Int} {r3 r4 r5 r6 r7 : Int} {r8 : List Int} {r9 r10 : List (List Int)}
theorem TB.alloc (h : TB w g A1 c1 A7 c7 A8 c8 A9 c9 r1 r2 r3 r4 r5 r6 r7 r8 r9 r10) (o : Obj) : TB (w.alloc o) g A1 c1 A7 c7 A8 c8 A9 c9 r1 r2 r3 r4 r5 r6 r7 r8 r9 r10 := h.below (below_alloc (Below.refl _ _) o)
theorem TB.drew (h : TB w g A1 c1 A7 c7 A8 c8 A9 c9 r1 r2 r3 r4 r5 r6 r7 r8 r9 r10) : TB w.drew g A1 c1 A7 c7 A8 c8 A9 c9 r1 r2 r3 r4 r5 r6 r7 r8 r9 r10 := h.below (below_drew (Below.refl _ _))
theorem TB.drewN (h : TB w g A1 c1 A7 c7 A8 c8 A9 c9 r1 r2 r3 r4 r5 r6 r7 r8 r9 r10) (m : Nat) : TB (w.drewN m) g A1 c1 A7 c7 A8 c8 A9 c9 r1 r2 r3 r4 r5 r6 r7 r8 r9 r10 := h.below (pw_below_drewN (Below.refl _ _) m)
theorem tb_ne (h : TB w g A1 c1 A7 c7 A8 c8 A9 c9 r1 r2 r3 r4 r5 r6 r7 r8 r9 r10) {g2 : Nat} (hg : g2 = w.heap.size) : g ≠ g2 := by
  have := blk_lt h.1
  omega
theorem tbb (h : Aside0 (TB w g A1 c1 A7 c7 A8 c8 A9 c9 r1 r2 r3 r4 r5 r6 r7 r8 r9 r10)) : Aside0 (w.heap[g]? = some (.cells #[.int .i64 r1, .slice A1 r2.length c1, .int .i64 r3, .int .i64 r4, .int .i64 r5, .int .i64 r6, .int .i64 r7, .slice A7 r8.length c7, .slice A8 r9.length c8, .slice A9 r10.length c9] 27 (0, 0))) := ⟨h.out.1⟩
end
def gimballaw33_TraceReads.T12 : Bool × List (List Nat × List Nat) := (true, [([], []), ([], []), ([0, 1], [0, 1]), ([2], [2]), ([3], [3]), ([3], [3]), ([4, 5, 3, 3], [3, 4, 5]), ([6, 3], [3, 6]), ([3, 7], [3, 7]), ([8, 6], [8]), ([9], [9]), ([9], [9]), ([11, 9], [9, 11]), ([10, 12, 9], [9, 10, 12]), ([13, 9], [9, 13]), ([9], [9]), ([15, 9], [9, 15]), ([14, 16, 9], [9, 14, 16]), ([9, 17], [9, 17]), ([18, 9], [18]), ([19], [19]), ([19], [19]), ([21, 19], [19, 21]), ([20, 22, 19], [19, 20, 22]), ([23, 19], [19, 23]), ([24, 19], [19, 24]), ([19, 25], [19, 25])])
def gimballaw33_TraceReads.B12 : List Nat := [0, 0, 3, 7, 15, 15, 63, 127, 255, 511, 1023, 1023, 3071, 8191, 16383, 1023, 33791, 131071, 262143, 524287, 1048575, 1048575, 3145727, 8388607, 16777215, 33554431, 67108863]
theorem gimballaw33_TraceReads.tab12 : rtab .any (opsOf Try.f5 12) = gimballaw33_TraceReads.T12 := by kernel_rfl
theorem gimballaw33_TraceReads.bits12 : waitsOk gimballaw33_TraceReads.T12.2 gimballaw33_TraceReads.B12 = true := by kernel_rfl
set_option maxHeartbeats 8000000 in
set_option maxRecDepth 100000 in
theorem gimballaw33_TraceReads.calls2 (k : Nat) (A9 : Option Addr) (c9 : Nat) (l9 : List Int) (a1 : Bool) (t599 : Int) (l0 : List Int) (r1 : Int) (r2 : List Int) (r3 r4 r5 r6 r7 : Int) (r8 : List Int) (r9 r10 : List (List Int)) (r11 q11 : Int) (wb : World)
    (hr0 : Kd.C (Kd.int .u8) wb A9 l9.length l9) (hc0 : l9.length ≤ c9)
    (hs : a1 = true → gimbalref27_Sum.f k ([71, 84, 82, 67] ++ [1] ++ l9) = some t599)
    (hF1 : a1 = true → l0 = [71, 84, 82, 67] ++ [1] ++ l9 ++ [(t599) % 256, (t599 / 256) % 256, (t599 / 65536) % 256, (t599 / 16777216) % 256])
    (hF2 : a1 = false → l0 = l9) (hL : l9.length + 20 < 140737488355328)
    (hd : trace_Decode.f k l0 = some (r1, r2, r3, r4, r5, r6, r7, r8, r9, r10, r11)) (hd2 : gimbalref33_Decode.f k l0 = some (r1, r2, r3, r4, r5, r6, r7, r8, r9, r10, q11)) (hq : r11 = q11)
    (hsame : gimbalref33_Same.f k r1 r2 r3 r4 r5 r6 r7 r8 r9 r10 r1 r2 r3 r4 r5 r6 r7 r8 r9 r10 = some true) (haw : gimballaw33_awake.f k = some true) :
    Calls Try.prog 5 #[.slice A9 l9.length c9, .bool a1] wb fun e w' => e = .returned (.bool true) ∧ Below wb.heap.size wb w' := by
  have hu27 := Try.underlying27
  have HR9 := Aside0.mk hr0; have HC9 := Aside0.mk hc0; have HS := Aside0.mk hs; have HF1 := Aside0.mk hF1; have HF2 := Aside0.mk hF2; have HL := Aside0.mk hL; have AD := Aside0.mk hd; have A97 := Aside0.mk hd2; have AQ := Aside0.mk hq; have AS := Aside0.mk hsame; have AW := Aside0.mk haw
  have HLL : Aside0 (l0.length + 2 < 140737488355328) := ⟨by
    cases a1
    · rw [hF2 rfl]; omega
    · rw [hF1 rfl]; simp only [List.length_append, List.length_cons, List.length_nil]; omega⟩
  clear hr0 hc0 hs hF1 hF2 hL hd hd2 hq hsame haw
  have HB := Aside0.mk (Below.refl wb.heap.size wb)
  go_enter Try.func5, Try.ntmps5
  go_upto_if 14 with (fail)
  go_cut [5] from 13 (fun v5 wc => ∃ (A0 : Option Addr) (c0 : Nat), v5 = .slice A0 l0.length c0 ∧ Aside0 (Kd.C (Kd.int .u8) wc A0 l0.length l0) ∧ Aside0 (l0.length ≤ c0) ∧ Aside0 (Below wb.heap.size wb wc))
  case first =>
   cases a1
   case false =>
    have e_ := HF2.out rfl
    subst e_
    go_wp2
    go_meet
    case rel => exact ⟨_, _, rfl, HR9, HC9, HB⟩
   case true =>
    obtain ⟨y586, hy586⟩ : ∃ y_ : List Int, y_ = (([71, 84, 82, 67] : List Int)) := ⟨_, rfl⟩
    obtain ⟨y590, hy590⟩ : ∃ y_ : List Int, y_ = (([1] : List Int)) := ⟨_, rfl⟩
    obtain ⟨y593, hy593⟩ : ∃ y_ : List Int, y_ = (y586 ++ y590) := ⟨_, rfl⟩
    obtain ⟨y596, hy596⟩ : ∃ y_ : List Int, y_ = (y593 ++ l9) := ⟨_, rfl⟩
    obtain ⟨y600, hy600⟩ : ∃ y_ : List Int, y_ = (([(t599) % 256, (t599 / 256) % 256, (t599 / 65536) % 256, (t599 / 16777216) % 256] : List Int)) := ⟨_, rfl⟩
    obtain ⟨y603, hy603⟩ : ∃ y_ : List Int, y_ = (y596 ++ y600) := ⟨_, rfl⟩
    have A6 : Aside0 (gimbalref27_Sum.f k y596 = some t599) := ⟨by rw [hy596, hy593, hy586, hy590]; exact HS.out rfl⟩
    have e603 : Aside0 (y603 = l0) := ⟨by rw [hy603, hy596, hy593, hy586, hy590, hy600]; exact (HF1.out rfl).symm⟩
    have LMc4 : Aside0 (y586.length + y590.length < 140737488355328) := ⟨by rw [hy586, hy590]; decide⟩
    have LMc5 : Aside0 (y593.length + l9.length < 140737488355328) := ⟨by have := HL.out; rw [hy593, hy586, hy590]; simp only [List.length_append, List.length_cons, List.length_nil]; omega⟩
    have LMc7 : Aside0 (y596.length + y600.length < 140737488355328) := ⟨by have := HL.out; rw [hy596, hy593, hy586, hy590, hy600]; simp only [List.length_append, List.length_cons, List.length_nil]; omega⟩
    have Ny586 := Aside0.mk hy586; have Ny590 := Aside0.mk hy590; have Ny593 := Aside0.mk hy593; have Ny596 := Aside0.mk hy596; have Ny600 := Aside0.mk hy600; have Ny603 := Aside0.mk hy603; clear hy586 hy590 hy593 hy596 hy600 hy603
    go_wp2_with (first | ((with_reducible refine gate_dst (N := 15) rfl ?_); (try (refine gate_guard (by rfl) ?_; dsimp only)); refine lit_mark (N := 15) (N2 := 16) rfl rfl rfl rfl ([71, 84, 82, 67] : List Int) Try.underlying28 Try.underlying5 rfl (fun _ => rfl) (by simp) ?hr ?_; (case hr => first | (go_simp; done) | (go_simp; rfl)); intro A15 w16 hC_ hb; rw [← Ny586.out] at hC_ ⊢; have n0_ := bst HB hb; have n1_ := Aside0.mk (hC_); have n2_ := Aside0.mk ((Nat.le_refl y586.length)); clear HB; have HB := n0_; have HR589 := n1_; have HC589 := n2_; clear n0_ n1_ n2_; clear hb hC_) | ((with_reducible refine gate_dst (N := 17) rfl ?_); (try (refine gate_guard (by rfl) ?_; dsimp only)); refine Kd.R_lit (Kd.int .u8) _ 5 ?hg (N := 17) ?hd (xs := ([1] : List Int)) (inner := [.int .u8 1]) (ok := fun _ => True) (okp := fun _ => True) ?hr ?hp (fun _ hk => hk) trivial (Below.refl _ _) (Nat.le_refl _) (by simp) ?_; (case hd => rfl); (case hg => rfl); (case hr => first | (go_simp; done) | (go_simp; rfl)); (case hp => exact (Reps.one (show Kd.M (Kd.int .u8) _ _ _ 1 [.int .u8 1] from rfl) (Reps.none _ _))); intro v591 w17 ho18 hb hg_ hnew_; clear hg_ hnew_; (first | rw [← Ny590.out] at ho18 | (simp only [Int.reduceToNat] at ho18; rw [← Ny590.out] at ho18)); have n0_ := Aside0.mk (Kd.R_lower ho18 (below_size (by repeat (first | (with_reducible first | exact HB.out | apply below_alloc | apply pw_below_drewN | apply below_drew1) | exact HB.out)))); have n1_ := Aside0.mk (Kd.C_below (cup HR589) hb); have n2_ := bst HB hb; clear HR589; clear HB; have HO592 := n0_; have HR589 := n1_; have HB := n2_; clear n0_ n1_ n2_; clear hb ho18; obtain ⟨Ao20, co20, eo20⟩ := Kd.R_slice HO592.out; subst eo20) | ((with_reducible refine gate_builtin (b := .append) (xs := #[.tmp 16, .tmp 17]) rfl ?_); (try (refine gate_guard (by rfl) ?_; dsimp only)); at_builtin; refine Kd.R_append_full (Kd.int .u8) (w0 := wb) wb.heap.size rfl (.tmp 16) (.tmp 17) 28 5 (.int .u8 0) 1 rfl Try.underlying28 info5 rfl (by decide) (by omega) y586 y590 _ _ _ _ _ (fun k_ => some k_ ≠ (.slice Ao20 y590.length co20 : Value).ownBlock) (fun _ => False) rfl rfl ?aO ?aX ?aR ?aM (fun _ _ h => h) (fun _ _ h => h) (fun _ h => h.elim) ?aF ?aB ?aS ?aL ?_; (case aX => repeat (first | exact (cup HR589) | (with_reducible refine Kd.C_alloc ?_ _) | (with_reducible refine Kd.C_drewN ?_ _) | (with_reducible refine Kd.C_drew ?_))); (case aM => have e_ := congrArg List.length Ny590.out; (try rw [List.length_append] at e_); simp only [List.length_cons, List.length_nil] at e_; omega); (case aR => repeat (first | exact (Kd.R_reads' HO592.out).2.2 | (with_reducible refine Kd.C_alloc ?_ _) | (with_reducible refine Kd.C_drewN ?_ _) | (with_reducible refine Kd.C_drew ?_))); (case aB => exact (by repeat (first | (with_reducible first | exact HB.out | apply below_alloc | apply pw_below_drewN | apply below_drew1) | exact HB.out))); (case aF => exact (fun k_ hk => Kd.fresh' (Kd.R_lt (rup HO592)) k_ hk)); (case aO => exact ((Kd.R_nil _ _ _ _ (fun k_ => some k_ ≠ (.slice Ao20 y590.length co20 : Value).ownBlock)))); (case aS => exact (below_size (by repeat (first | (with_reducible first | exact HB.out | apply below_alloc | apply pw_below_drewN | apply below_drew1) | exact HB.out)))); (case aL => have := LMc4.out; omega); intro v594 w19 ho hb hg hat; rw [← Ny593.out] at ho; have n0_ := Aside0.mk (Kd.R_after (Kd.R_apart_nil (rup HO592)) hg hat); have n1_ := Aside0.mk (hb); have n2_ := Aside0.mk (ho); clear HO592; clear HB; have HO592 := n0_; have HB := n1_; have HO595 := n2_; clear n0_ n1_ n2_; clear ho hb hg hat) | ((with_reducible refine gate_builtin (b := .append) (xs := #[.tmp 19, .tmp 20]) rfl ?_); (try (refine gate_guard (by rfl) ?_; dsimp only)); at_builtin; refine Kd.R_append_rows (Kd.int .u8) (w0 := wb) wb.heap.size rfl (.tmp 19) (.tmp 20) 28 5 (.int .u8 0) 1 rfl Try.underlying28 info5 rfl (by decide) (by omega) v594 y593 l9 _ _ _ (fun k_ => some k_ ≠ (.slice Ao20 y590.length co20 : Value).ownBlock) (fun _ => False) rfl rfl ?aO ?aR (fun _ _ h => h) (fun _ h => h.elim) ?aF ?aB ?aS ?aL ?_; (case aR => repeat (first | exact (Kd.C_below HR9.out HB.out) | (with_reducible refine Kd.C_alloc ?_ _) | (with_reducible refine Kd.C_drewN ?_ _) | (with_reducible refine Kd.C_drew ?_))); (case aB => exact (by repeat (first | (with_reducible first | exact HB.out | apply below_alloc | apply pw_below_drewN | apply below_drew1) | exact HB.out))); (case aF => exact (fun k_ hk => Kd.fresh' (Kd.R_lt (rup HO592)) k_ hk)); (case aO => exact (rup HO595)); (case aS => exact (below_size (by repeat (first | (with_reducible first | exact HB.out | apply below_alloc | apply pw_below_drewN | apply below_drew1) | exact HB.out)))); (case aL => have := LMc5.out; omega); intro v597 w21 ho hb hg hat; rw [← Ny596.out] at ho; have n0_ := Aside0.mk (Kd.R_after (ok := (fun _ => True)) (rup HO592) hg hat); have n1_ := Aside0.mk (hb); have n2_ := Aside0.mk (ho); clear HO592; clear HB; clear HO595; have HO592 := n0_; have HB := n1_; have HO598 := n2_; clear n0_ n1_ n2_; clear ho hb hg hat; obtain ⟨Ao22, co22, eo22⟩ := Kd.R_slice HO598.out; subst eo22) | ((with_reducible refine gate_callee (f := 13) rfl ?_); refine goesL_ (some 23) rfl rfl Try.func13 (by kernel_rfl) rfl #[.slice Ao22 y596.length co22] rfl (by (try simp only [List.map_toArray, List.map_cons, List.map_nil]); first | done | rfl | (simp only [List.length_drop, List.length_take]; rfl)) ?_; (with_reducible refine (gimbalref27_Sum.calls k _ _ y596 t599 _ ?side1 ?side2 A6.out).mono ?_); (case side1 => exact cuq (Kd.R_reads' HO598.out).2.2); (case side2 => exact (Kd.R_reads' HO598.out).2.1); rintro e w' ⟨rfl, ⟨nd, rfl⟩⟩; refine ⟨_, rfl, ?_⟩; (try (rw [drewN_self w21]; generalize hq_ : World.drewN w21 _ = w21; have n0_ : Aside0 (Kd.R (Kd.int .u8) 5 w21 wb.heap.size (fun k_ => some k_ ≠ (.slice Ao22 y596.length co22 : Value).ownBlock) (.slice Ao20 y590.length co20) y590) := ⟨by rw [← hq_]; exact (by (with_reducible repeat (first | apply Kd.R_alloc | apply Kd.R_drewN | apply Kd.R_drew)); exact Kd.R_mono HO592.out (fun _ hk => hk.2))⟩; have n1_ : Aside0 (Kd.R (Kd.int .u8) 5 w21 wb.heap.size (fun k_ => some k_ ≠ (.slice Ao20 y590.length co20 : Value).ownBlock) (.slice Ao22 y596.length co22) y596) := ⟨by rw [← hq_]; exact (rup HO598)⟩; have n2_ : Aside0 (Below wb.heap.size wb w21) := ⟨by rw [← hq_]; exact (by repeat (first | (with_reducible first | exact HB.out | apply below_alloc | apply pw_below_drewN | apply below_drew1) | exact HB.out))⟩; clear HO592 HO598 HB hq_; have HO592 := n0_; have HO598 := n1_; have HB := n2_; clear n0_ n1_ n2_))) | ((with_reducible refine gate_dst (N := 36) rfl ?_); (try (refine gate_guard (by rfl) ?_; dsimp only)); refine Kd.R_lit (Kd.int .u8) _ 5 ?hg (N := 36) ?hd (xs := ([(t599) % 256, (t599 / 256) % 256, (t599 / 65536) % 256, (t599 / 16777216) % 256] : List Int)) (inner := [.int .u8 ((t599) % 256), .int .u8 ((t599 / 256) % 256), .int .u8 ((t599 / 65536) % 256), .int .u8 ((t599 / 16777216) % 256)]) (ok := fun _ => True) (okp := fun _ => True) ?hr ?hp (fun _ hk => hk) trivial (Below.refl _ _) (Nat.le_refl _) (by simp) ?_; (case hd => rfl); (case hg => rfl); (case hr => first | (go_simp; done) | (go_simp; rfl)); (case hp => exact (Reps.one (show Kd.M (Kd.int .u8) _ _ _ ((t599) % 256) [.int .u8 ((t599) % 256)] from rfl) (Reps.one (show Kd.M (Kd.int .u8) _ _ _ ((t599 / 256) % 256) [.int .u8 ((t599 / 256) % 256)] from rfl) (Reps.one (show Kd.M (Kd.int .u8) _ _ _ ((t599 / 65536) % 256) [.int .u8 ((t599 / 65536) % 256)] from rfl) (Reps.one (show Kd.M (Kd.int .u8) _ _ _ ((t599 / 16777216) % 256) [.int .u8 ((t599 / 16777216) % 256)] from rfl) (Reps.none _ _)))))); intro v601 w23 ho24 hb hg_ hnew_; clear hg_ hnew_; (first | rw [← Ny600.out] at ho24 | (simp only [Int.reduceToNat] at ho24; rw [← Ny600.out] at ho24)); have n0_ := Aside0.mk (Kd.R_elder' (rup HO592) (Kd.R_base ho24) hb); have n1_ := Aside0.mk (Kd.R_elder' (rup HO598) (Kd.R_base ho24) hb); have n2_ := Aside0.mk (Kd.R_lower (Kd.R_new' (Kd.R_new' ho24 (Kd.R_lt (rup HO592))) (Kd.R_lt (rup HO598))) (below_size (by repeat (first | (with_reducible first | exact HB.out | apply below_alloc | apply pw_below_drewN | apply below_drew1) | exact HB.out)))); have n3_ := bst HB hb; clear HO592; clear HO598; clear HB; have HO592 := n0_; have HO598 := n1_; have HO602 := n2_; have HB := n3_; clear n0_ n1_ n2_ n3_; clear hb ho24; obtain ⟨Ao26, co26, eo26⟩ := Kd.R_slice HO602.out; subst eo26) | ((with_reducible refine gate_builtin (b := .append) (xs := #[.tmp 24, .tmp 36]) rfl ?_); (try (refine gate_guard (by rfl) ?_; dsimp only)); at_builtin; refine Kd.R_append_rows (Kd.int .u8) (w0 := wb) wb.heap.size rfl (.tmp 24) (.tmp 36) 28 5 (.int .u8 0) 1 rfl Try.underlying28 info5 rfl (by decide) (by omega) (.slice Ao22 y596.length co22) y596 y600 _ _ _ (fun k_ => some k_ ≠ (.slice Ao20 y590.length co20 : Value).ownBlock ∧ some k_ ≠ (.slice Ao26 y600.length co26 : Value).ownBlock) (fun _ => False) rfl rfl ?aO ?aR (fun _ _ h => h) (fun _ h => h.elim) ?aF ?aB ?aS ?aL ?_; (case aR => repeat (first | exact (Kd.R_reads' HO602.out).2.2 | (with_reducible refine Kd.C_alloc ?_ _) | (with_reducible refine Kd.C_drewN ?_ _) | (with_reducible refine Kd.C_drew ?_))); (case aB => exact (by repeat (first | (with_reducible first | exact HB.out | apply below_alloc | apply pw_below_drewN | apply below_drew1) | exact HB.out))); (case aF => exact (fun k_ hk => ⟨Kd.fresh' (Kd.R_lt (rup HO592)) k_ hk, Kd.fresh' (Kd.R_lt (rup HO602)) k_ hk⟩)); (case aO => exact (rup HO598)); (case aS => exact (below_size (by repeat (first | (with_reducible first | exact HB.out | apply below_alloc | apply pw_below_drewN | apply below_drew1) | exact HB.out)))); (case aL => have := LMc7.out; omega); intro v604 w25 ho hb hg hat; rw [← Ny603.out] at ho; have n2_ := Aside0.mk (hb); have n3_ := Aside0.mk (ho); clear HB; clear HO598; have HB := n2_; have HO605 := n3_; clear n2_ n3_; clear ho hb hg hat; obtain ⟨Ao28, co28, eo28⟩ := Kd.R_slice HO605.out; subst eo28))
    go_meet
    case rel => exact ⟨_, _, by rw [e603.out], ⟨by rw [← e603.out]; exact (Kd.R_reads' HO605.out).2.2⟩, ⟨by rw [← e603.out]; exact (Kd.R_reads' HO605.out).2.1⟩, bpk HB⟩
  case rest =>
   clear HB
   rename World => wz
   obtain ⟨A0, c0, rfl, HR0, HC0, HB9⟩ := hcut
   have HB := Aside0.mk (Below.refl wz.heap.size wz)
   obtain ⟨y668, hy668⟩ : ∃ y_ : List Int, y_ = (([] : List Int) ++ l0) := ⟨_, rfl⟩
   obtain ⟨y671, hy671⟩ : ∃ y_ : List Int, y_ = ([9] : List Int) := ⟨_, rfl⟩
   obtain ⟨y674, hy674⟩ : ∃ y_ : List Int, y_ = y668 ++ y671 := ⟨_, rfl⟩
   obtain ⟨y677, hy677⟩ : ∃ y_ : List Int, y_ = (y674.take ((l0.length : Int) : Int).toNat) := ⟨_, rfl⟩
   have e677 : y677 = l0 := by rw [hy677, hy674, hy668, hy671]; simp
   have A96 : Aside0 (trace_Decode.f k y677 = some (r1, r2, r3, r4, r5, r6, r7, r8, r9, r10, r11)) := ⟨by rw [e677]; exact AD.out⟩
   have LMc92 : Aside0 (([] : List Int).length + l0.length < 140737488355328) := ⟨by have := HLL.out; simp only [List.length_nil]; omega⟩
   have LMc93 : Aside0 (y668.length + y671.length < 140737488355328) := ⟨by have := HLL.out; rw [hy668, hy671]; simp only [List.length_append, List.length_cons, List.length_nil]; omega⟩
   have hl674 : y674.length = l0.length + 1 := by rw [hy674, hy668, hy671]; simp
   have HY : Aside0 (y674.length = l0.length + 1) := ⟨hl674⟩
   have HRD : Aside0 (rd y674 (l0.length : Int) = 9) := ⟨by rw [hy674, hy668, hy671]; simp [rd]⟩
   have c94b1 : decide (0 ≤ (l0.length : Int)) = true := decide_eq_true (by omega)
   have c94b0 := eq_true (of_decide_eq_true c94b1)
   have c95b1 : decide ((l0.length : Int) ≤ (y674.length : Int)) = true := decide_eq_true (by omega)
   have c95b0 := eq_true (of_decide_eq_true c95b1)
   have E677 := Aside0.mk e677; have Ny668 := Aside0.mk hy668; have Ny671 := Aside0.mk hy671; have Ny674 := Aside0.mk hy674; have Ny677 := Aside0.mk hy677; clear hy668 hy671 hy674 hy677 hl674 e677
   go_upto_region 12 with (first | ((with_reducible refine gate_builtin (b := .append) (xs := #[.tmp 38, .tmp 39]) rfl ?_); (try (refine gate_guard (by rfl) ?_; dsimp only)); at_builtin; refine Kd.R_append_rows (Kd.int .u8) (w0 := wz) wz.heap.size rfl (.tmp 38) (.tmp 39) 28 5 (.int .u8 0) 1 rfl Try.underlying28 info5 rfl (by decide) (by omega) (.slice none 0 0) ([] : List Int) l0 _ _ _ (fun _ => True) (fun _ => False) rfl rfl ?aO ?aR (fun _ _ h => h) (fun _ h => h.elim) ?aF ?aB ?aS ?aL ?_; (case aR => repeat (first | exact HR0.out | (with_reducible refine Kd.C_alloc ?_ _) | (with_reducible refine Kd.C_drewN ?_ _) | (with_reducible refine Kd.C_drew ?_))); (case aB => exact (by repeat (first | (with_reducible first | exact HB.out | apply below_alloc | apply pw_below_drewN | apply below_drew1) | exact HB.out))); (case aF => exact (fun _ _ => trivial)); (case aO => exact ((Kd.R_nil _ _ _ _ (fun _ => True)))); (case aS => exact (below_size (by repeat (first | (with_reducible first | exact HB.out | apply below_alloc | apply pw_below_drewN | apply below_drew1) | exact HB.out)))); (case aL => have := LMc92.out; omega); intro v669 w99 ho hb hg hat; rw [← Ny668.out] at ho; have n0_ := Aside0.mk (hb); have n1_ := Aside0.mk (ho); clear HB; have HB := n0_; have HO670 := n1_; clear n0_ n1_; clear ho hb hg hat) | ((with_reducible refine gate_dst (N := 42) rfl ?_); (try (refine gate_guard (by rfl) ?_; dsimp only)); refine Kd.R_lit (Kd.int .u8) _ 5 ?hg (N := 42) ?hd (xs := ([9] : List Int)) (inner := [.int .u8 9]) (ok := fun _ => True) (okp := fun _ => True) ?hr ?hp (fun _ hk => hk) trivial (Below.refl _ _) (Nat.le_refl _) (by simp) ?_; (case hd => rfl); (case hg => rfl); (case hr => first | (go_simp; done) | (go_simp; rfl)); (case hp => exact (Reps.one (show Kd.M (Kd.int .u8) _ _ _ 9 [.int .u8 9] from rfl) (Reps.none _ _))); intro v672 w100 ho101 hb hg_ hnew_; clear hg_ hnew_; (first | rw [← Ny671.out] at ho101 | (simp only [Int.reduceToNat] at ho101; rw [← Ny671.out] at ho101)); have n0_ := Aside0.mk (Kd.R_elder' (rup HO670) (Kd.R_base ho101) hb); have n1_ := Aside0.mk (Kd.R_lower (Kd.R_new' ho101 (Kd.R_lt (rup HO670))) (below_size (by repeat (first | (with_reducible first | exact HB.out | apply below_alloc | apply pw_below_drewN | apply below_drew1) | exact HB.out)))); have n2_ := bst HB hb; clear HO670; clear HB; have HO670 := n0_; have HO673 := n1_; have HB := n2_; clear n0_ n1_ n2_; clear hb ho101; obtain ⟨Ao103, co103, eo103⟩ := Kd.R_slice HO673.out; subst eo103) | ((with_reducible refine gate_builtin (b := .append) (xs := #[.tmp 41, .tmp 42]) rfl ?_); (try (refine gate_guard (by rfl) ?_; dsimp only)); at_builtin; refine Kd.R_append_rows (Kd.int .u8) (w0 := wz) wz.heap.size rfl (.tmp 41) (.tmp 42) 28 5 (.int .u8 0) 1 rfl Try.underlying28 info5 rfl (by decide) (by omega) v669 y668 y671 _ _ _ (fun k_ => some k_ ≠ (.slice Ao103 y671.length co103 : Value).ownBlock) (fun _ => False) rfl rfl ?aO ?aR (fun _ _ h => h) (fun _ h => h.elim) ?aF ?aB ?aS ?aL ?_; (case aR => repeat (first | exact (Kd.R_reads' HO673.out).2.2 | (with_reducible refine Kd.C_alloc ?_ _) | (with_reducible refine Kd.C_drewN ?_ _) | (with_reducible refine Kd.C_drew ?_))); (case aB => exact (by repeat (first | (with_reducible first | exact HB.out | apply below_alloc | apply pw_below_drewN | apply below_drew1) | exact HB.out))); (case aF => exact (fun k_ hk => Kd.fresh' (Kd.R_lt (rup HO673)) k_ hk)); (case aO => exact (by (with_reducible repeat (first | apply Kd.R_alloc | apply Kd.R_drewN | apply Kd.R_drew)); exact Kd.R_mono HO670.out (fun _ hk => hk.2))); (case aS => exact (below_size (by repeat (first | (with_reducible first | exact HB.out | apply below_alloc | apply pw_below_drewN | apply below_drew1) | exact HB.out)))); (case aL => have := LMc93.out; omega); intro v675 w102 ho hb hg hat; rw [← Ny674.out] at ho; have n0_ := Aside0.mk (Kd.R_after (ok := (fun _ => True)) (rup HO673) hg hat); have n1_ := Aside0.mk (hb); have n2_ := Aside0.mk (ho); clear HO673; clear HB; clear HO670; have HO673 := n0_; have HB := n1_; have HO676 := n2_; clear n0_ n1_ n2_; clear ho hb hg hat; obtain ⟨Ao105, co105, eo105⟩ := Kd.R_slice HO676.out; subst eo105; have q104 : ((l0.length : Int) : Int) ≤ ((y674.length : Int) : Int) := of_decide_eq_true (by first | (with_reducible assumption) | assumption); obtain ⟨i0104, hi0104, _, hsz104, _⟩ := info_parts info5; have hroom104 : y674.length ≤ co105 := (Kd.R_reads' HO676.out).2.1; have hC104 : Kd.C (Kd.int .u8) _ Ao105 y674.length y674 := (Kd.R_reads' HO676.out).2.2; have hcut104 := cut_to (P := Try.prog) 28 5 .i64 Try.underlying28 hi0104 Ao105 y674.length co105 (l0.length : Int) (of_decide_eq_true (by first | (with_reducible assumption) | assumption)) q104 hroom104; have hr104 := Kd.C_take (m := ((l0.length : Int) : Int).toNat) hC104 (by omega); have hy104 : y677.length = ((l0.length : Int) : Int).toNat := (by rw [Ny677.out, List.length_take]; omega); rw [← Ny677.out] at hr104; rw [← hy104] at hcut104; have HR680 := Aside0.mk hr104; have HC680 := Aside0.mk (show y677.length ≤ co105 from by omega); clear hr104 hC104 hroom104 hi0104 hsz104; have KY104 := Aside0.mk hy104; clear hy104; have KL104 := Aside0.mk (show ((l0.length : Int) : Int).toNat ≤ y674.length from by omega); replace q104 := eq_true q104) | ((with_reducible refine gate_callee (f := 14) rfl ?_); refine goesL_ (some 49) rfl rfl Try.func14 (by kernel_rfl) rfl #[.slice Ao105 y677.length co105] rfl (by (try simp only [List.map_toArray, List.map_cons, List.map_nil]); first | done | rfl | (simp only [List.length_drop, List.length_take]; rfl)) ?_; (with_reducible refine (trace_Decode.calls k _ _ y677 r1 r2 r3 r4 r5 r6 r7 r8 r9 r10 r11 _ ?side1 ?side2 A96.out).mono ?_); (case side1 => exact cuq (HR680.out)); (case side2 => exact HC680.out); rintro e wn_ ⟨v1, v7, v8, v9, rfl, ho0, ho1, ho2, ho3, hb⟩; refine ⟨_, rfl, ?_⟩; have n0_ := rbw HO676 hb; have n7_ := bst HB hb; clear HR680; clear HO676; clear HB; have HO676 := n0_; have HB := n7_; clear n0_ n7_; have D0 := Aside0.mk (Kd.R_mono (ok' := fun _ => True) (Kd.R_lower ho0 (Nat.zero_le _)) (fun _ _ => trivial)); have D1 := Aside0.mk (Kd.R_mono (ok' := fun _ => True) (Kd.R_lower ho1 (Nat.zero_le _)) (fun _ _ => trivial)); have D2 := Aside0.mk (Kd.S_mono (ok' := fun _ => True) (Kd.S_lower ho2 (Nat.zero_le _)) (fun _ _ => trivial)); have D3 := Aside0.mk (Kd.S_mono (ok' := fun _ => True) (Kd.S_lower ho3 (Nat.zero_le _)) (fun _ _ => trivial)); clear hb ho0 ho1 ho2 ho3; obtain ⟨A1, c1, e_⟩ := Kd.R_slice D0.out; subst e_; obtain ⟨A7, c7, e_⟩ := Kd.R_slice D1.out; subst e_; obtain ⟨A8, c8, e_⟩ := Kd.S_slice D2.out; subst e_; obtain ⟨A9, c9, e_⟩ := Kd.S_slice D3.out; subst e_) | ((with_reducible refine gate_dst (N := 8) rfl ?_); (try (refine gate_guard (by rfl) ?_; dsimp only)); refine box_event ?hg (N := 8) ?hd (cs := #[.int .i64 0, .slice none 0 0, .int .i64 0, .int .i64 0, .int .i64 0, .int .i64 0, .int .i64 0, .slice none 0 0, .slice none 0 0, .slice none 0 0]) (t := 27) ?hr ?_; (case hd => rfl); (case hg => rfl); (case hr => first | (go_simp; done) | (go_simp; rfl)); intro gb700 hg wn_ hbox hb; have n0_ := rbw HO676 hb; have n1_ := rbw D0 hb; have n2_ := rbw D1 hb; have n3_ := sbw D2 hb; have n4_ := sbw D3 hb; have n5_ := bst HB hb; have n6_ := Aside0.mk hbox; have n7_ := bsz HB hg; clear HO676; clear D0; clear D1; clear D2; clear D3; clear HB; clear hb hbox hg; have HO676 := n0_; have D0 := n1_; have D1 := n2_; have D2 := n3_; have D3 := n4_; have HB := n5_; have BKgb700 := n6_; have GEgb700 := n7_; clear n0_ n1_ n2_ n3_ n4_ n5_ n6_ n7_) | ((with_reducible refine gate_store (p := 8) (t := 27) rfl ?_); refine store_box rfl rfl rfl gb700 27 _ #[.int .i64 r1, .slice A1 r2.length c1, .int .i64 r3, .int .i64 r4, .int .i64 r5, .int .i64 r6, .int .i64 r7, .slice A7 r8.length c7, .slice A8 r9.length c8, .slice A9 r10.length c9] (pkA BKgb700).out rfl rfl (by kernel_rfl) rfl (by kernel_rfl) ?_; intro wsgb700 hbs_ hgs_; have n0_ := Aside0.mk (R_boxed (rup HO676) (pkA BKgb700).out (by decide) hgs_); have n1_ : Aside0 (TB wsgb700 gb700 A1 c1 A7 c7 A8 c8 A9 c9 r1 r2 r3 r4 r5 r6 r7 r8 r9 r10) := ⟨hbs_, R_boxed (rup D0) (pkA BKgb700).out (by decide) hgs_, R_boxed (rup D1) (pkA BKgb700).out (by decide) hgs_, S_boxed (sup D2) (pkA BKgb700).out (by decide) hgs_, S_boxed (sup D3) (pkA BKgb700).out (by decide) hgs_⟩; have n2_ := Aside0.mk (Below_boxed (bpk HB).out (Nat.le_refl _) GEgb700.out hgs_); clear HO676; clear D0; clear D1; clear D2; clear D3; clear HB; clear BKgb700; clear hbs_ hgs_; have HO676 := n0_; have T1 := n1_; have HB := n2_; clear n0_ n1_ n2_) | ((with_reducible refine gate_callee (f := 15) rfl ?_); refine goesL_ (some 54) rfl rfl Try.func15 (by kernel_rfl) rfl #[.slice A0 l0.length c0] rfl (by (try simp only [List.map_toArray, List.map_cons, List.map_nil]); first | done | rfl | (simp only [List.length_drop, List.length_take]; rfl)) ?_; (with_reducible refine (gimbalref33_Decode.calls k _ _ l0 r1 r2 r3 r4 r5 r6 r7 r8 r9 r10 q11 _ ?side1 ?side2 A97.out).mono ?_); (case side1 => exact cuq (Kd.C_below HR0.out HB.out)); (case side2 => exact HC0.out); rintro e wn_ ⟨v1, v7, v8, v9, rfl, ho0, ho1, ho2, ho3, hb⟩; refine ⟨_, rfl, ?_⟩; have n0_ := rbw HO676 hb; have n7_ := bst HB hb; have m1_ := Aside0.mk (TB.below (by (with_reducible repeat (first | apply TB.alloc | apply TB.drewN | apply TB.drew)); exact T1.out) hb); clear T1; have T1 := m1_; clear m1_; clear HO676; clear HB; have HO676 := n0_; have HB := n7_; clear n0_ n7_; have D0 := Aside0.mk (Kd.R_mono (ok' := fun _ => True) (Kd.R_lower ho0 (Nat.zero_le _)) (fun _ _ => trivial)); have D1 := Aside0.mk (Kd.R_mono (ok' := fun _ => True) (Kd.R_lower ho1 (Nat.zero_le _)) (fun _ _ => trivial)); have D2 := Aside0.mk (Kd.S_mono (ok' := fun _ => True) (Kd.S_lower ho2 (Nat.zero_le _)) (fun _ _ => trivial)); have D3 := Aside0.mk (Kd.S_mono (ok' := fun _ => True) (Kd.S_lower ho3 (Nat.zero_le _)) (fun _ _ => trivial)); clear hb ho0 ho1 ho2 ho3; obtain ⟨A1b, c1b, e_⟩ := Kd.R_slice D0.out; subst e_; obtain ⟨A7b, c7b, e_⟩ := Kd.R_slice D1.out; subst e_; obtain ⟨A8b, c8b, e_⟩ := Kd.S_slice D2.out; subst e_; obtain ⟨A9b, c9b, e_⟩ := Kd.S_slice D3.out; subst e_) | ((with_reducible refine gate_dst (N := 10) rfl ?_); (try (refine gate_guard (by rfl) ?_; dsimp only)); refine box_event ?hg (N := 10) ?hd (cs := #[.int .i64 0, .slice none 0 0, .int .i64 0, .int .i64 0, .int .i64 0, .int .i64 0, .int .i64 0, .slice none 0 0, .slice none 0 0, .slice none 0 0]) (t := 27) ?hr ?_; (case hd => rfl); (case hg => rfl); (case hr => first | (go_simp; done) | (go_simp; rfl)); intro gb720 hg wn_ hbox hb; have n0_ := rbw HO676 hb; have n1_ := rbw D0 hb; have n2_ := rbw D1 hb; have n3_ := sbw D2 hb; have n4_ := sbw D3 hb; have n5_ := bst HB hb; have n6_ := Aside0.mk hbox; have n7_ := bsz HB hg; have m1_ := Aside0.mk (TB.below (by (with_reducible repeat (first | apply TB.alloc | apply TB.drewN | apply TB.drew)); exact T1.out) hb); have NE := Aside0.mk (tb_ne T1.out hg); clear T1; have T1 := m1_; clear m1_; clear HO676; clear D0; clear D1; clear D2; clear D3; clear HB; clear hb hbox hg; have HO676 := n0_; have D0 := n1_; have D1 := n2_; have D2 := n3_; have D3 := n4_; have HB := n5_; have BKgb720 := n6_; have GEgb720 := n7_; clear n0_ n1_ n2_ n3_ n4_ n5_ n6_ n7_) | ((with_reducible refine gate_store (p := 10) (t := 27) rfl ?_); refine store_box rfl rfl rfl gb720 27 _ #[.int .i64 r1, .slice A1b r2.length c1b, .int .i64 r3, .int .i64 r4, .int .i64 r5, .int .i64 r6, .int .i64 r7, .slice A7b r8.length c7b, .slice A8b r9.length c8b, .slice A9b r10.length c9b] (pkA BKgb720).out rfl rfl (by kernel_rfl) rfl (by kernel_rfl) ?_; intro wsgb720 hbs_ hgs_; have n0_ := Aside0.mk (R_boxed (rup HO676) (pkA BKgb720).out (by decide) hgs_); have n1_ : Aside0 (TB wsgb720 gb720 A1b c1b A7b c7b A8b c8b A9b c9b r1 r2 r3 r4 r5 r6 r7 r8 r9 r10) := ⟨hbs_, R_boxed (rup D0) (pkA BKgb720).out (by decide) hgs_, R_boxed (rup D1) (pkA BKgb720).out (by decide) hgs_, S_boxed (sup D2) (pkA BKgb720).out (by decide) hgs_, S_boxed (sup D3) (pkA BKgb720).out (by decide) hgs_⟩; have n2_ := Aside0.mk (Below_boxed (bpk HB).out (Nat.le_refl _) GEgb720.out hgs_); have m1_ := Aside0.mk (TB.boxed (by (with_reducible repeat (first | apply TB.alloc | apply TB.drewN | apply TB.drew)); exact T1.out) (pkA BKgb720).out NE.out hgs_); clear T1; have T1 := m1_; clear m1_; clear HO676; clear D0; clear D1; clear D2; clear D3; clear HB; clear BKgb720; clear hbs_ hgs_; have HO676 := n0_; have T2 := n1_; have HB := n2_; clear n0_ n1_ n2_))
   (try simp only [Act.put, List.setIfInBounds_toArray, List.set_cons_zero, List.set_cons_succ])
   go_cut [83] (fun v83 wd => v83 = .bool false ∧ Aside0 (Kd.R (Kd.int .u8) 5 wd wz.heap.size (fun _ => True) (.slice Ao105 y674.length co105) y674) ∧ Aside0 (TB wd gb700 A1 c1 A7 c7 A8 c8 A9 c9 r1 r2 r3 r4 r5 r6 r7 r8 r9 r10) ∧ Aside0 (TB wd gb720 A1b c1b A7b c7b A8b c8b A9b c9b r1 r2 r3 r4 r5 r6 r7 r8 r9 r10) ∧ Aside0 (Below wz.heap.size wz wd))
   case first =>
    have c122b0 : (r11 == q11) = true := beq_iff_eq.mpr AQ.out
    have c122b1 : (r11 != q11) = false := bne_eq_false_iff_eq.mpr AQ.out
    have c125b0 := eq_true (of_decide_eq_true (by first | (with_reducible assumption) | assumption) : 0 ≤ (l0.length : Int))
    have c126b0 := eq_true (of_decide_eq_true (by first | (with_reducible assumption) | assumption) : (l0.length : Int) ≤ (y674.length : Int))
    have c127b0 : ((strOfNums y677).toList == (strOfNums l0).toList) = true := by rw [E677.out]; exact beq_self_eq_true _
    have c127b1 : ((strOfNums y677).toList != (strOfNums l0).toList) = false := by rw [E677.out]; exact bne_self_eq_false _
    have c128b0 : decide ((l0.length : Int) < (y674.length : Int)) = true := decide_eq_true (by have := HY.out; omega)
    have c128b1 : decide (l0.length < y674.length) = true := decide_eq_true (by have := HY.out; omega)
    have n0_ := Aside0.mk (Kd.R_drew HO676.out)
    have n1_ := Aside0.mk (TB.drew T1.out)
    have n2_ := Aside0.mk (TB.drew T2.out)
    have n3_ := Aside0.mk (below_drew1 HB.out); clear HO676 T1 T2 HB; have HO676 := n0_; have T1 := n1_; have T2 := n2_; have HB := n3_; clear n0_ n1_ n2_ n3_
    have p726 : 0 ≤ ((l0.length : Int) : Int) := of_decide_eq_true (by first | (with_reducible assumption) | assumption)
    have q726 : (l0.length : Int) < (y674.length : Int) := of_decide_eq_true (by first | (with_reducible assumption) | assumption)
    obtain ⟨ad726, e726, hx726_0⟩ := Kd.at_int (Kd.R_reads' HO676.out).2.2 (l0.length : Int) p726 q726
    cases e726
    (try simp only [Go.IntWalk.toNatUp] at hx726_0)
    have hC1 : Aside0 (Kd.C (Kd.int .u8) _ (some ad726) y677.length y677) := ⟨by have h1_ := Kd.C_take (m := ((l0.length : Int) : Int).toNat) (Kd.R_reads' HO676.out).2.2 (by omega); have h2_ : y677.length = ((l0.length : Int) : Int).toNat := (by rw [Ny677.out, List.length_take]; omega); rw [← Ny677.out] at h1_; exact h1_⟩
    replace p726 := eq_true p726; replace q726 := eq_true q726
    refine start_ (n := 27) (S := fun w' => w'.cell? ⟨gb700, 0, none⟩ = some (.int .i64 r1) ∧ w'.cell? ⟨gb700, 1, none⟩ = some (.slice A1 r2.length c1) ∧ w'.cell? ⟨gb700, 2, none⟩ = some (.int .i64 r3) ∧ w'.cell? ⟨gb700, 3, none⟩ = some (.int .i64 r4) ∧ w'.cell? ⟨gb700, 4, none⟩ = some (.int .i64 r5) ∧ w'.cell? ⟨gb700, 5, none⟩ = some (.int .i64 r6) ∧ w'.cell? ⟨gb700, 6, none⟩ = some (.int .i64 r7) ∧ w'.cell? ⟨gb700, 7, none⟩ = some (.slice A7 r8.length c7) ∧ w'.cell? ⟨gb700, 8, none⟩ = some (.slice A8 r9.length c8) ∧ w'.cell? ⟨gb700, 9, none⟩ = some (.slice A9 r10.length c9) ∧ w'.cell? ⟨gb720, 0, none⟩ = some (.int .i64 r1) ∧ w'.cell? ⟨gb720, 1, none⟩ = some (.slice A1b r2.length c1b) ∧ w'.cell? ⟨gb720, 2, none⟩ = some (.int .i64 r3) ∧ w'.cell? ⟨gb720, 3, none⟩ = some (.int .i64 r4) ∧ w'.cell? ⟨gb720, 4, none⟩ = some (.int .i64 r5) ∧ w'.cell? ⟨gb720, 5, none⟩ = some (.int .i64 r6) ∧ w'.cell? ⟨gb720, 6, none⟩ = some (.int .i64 r7) ∧ w'.cell? ⟨gb720, 7, none⟩ = some (.slice A7b r8.length c7b) ∧ w'.cell? ⟨gb720, 8, none⟩ = some (.slice A8b r9.length c8b) ∧ w'.cell? ⟨gb720, 9, none⟩ = some (.slice A9b r10.length c9b) ∧ w'.cell? (ad726.add l0.length) = some (.int .u8 (rd y674 (l0.length : Int))) ∧ Kd.C (Kd.int .u8) w' (some ad726) y677.length y677 ∧ Kd.C (Kd.int .u8) w' A0 l0.length l0) (ds := []) #[false, false, false, false, false, false, false, false, false, false, false, false, false, false, false, false, false, false, false, false, false, false, false, false, false, false, false] (by kernel_rfl) rfl rfl ⟨hcz (tbb T1) 0, hcz (tbb T1) 1, hcz (tbb T1) 2, hcz (tbb T1) 3, hcz (tbb T1) 4, hcz (tbb T1) 5, hcz (tbb T1) 6, hcz (tbb T1) 7, hcz (tbb T1) 8, hcz (tbb T1) 9, hcz (tbb T2) 0, hcz (tbb T2) 1, hcz (tbb T2) 2, hcz (tbb T2) 3, hcz (tbb T2) 4, hcz (tbb T2) 5, hcz (tbb T2) 6, hcz (tbb T2) 7, hcz (tbb T2) 8, hcz (tbb T2) 9, (by first | exact hx726_0 | (simpa only [Int.toNat_natCast] using hx726_0)), hC1.out, Kd.C_below HR0.out HB.out⟩ (fun hHeld => ?_); refine with_tabW gimballaw33_TraceReads.tab12 gimballaw33_TraceReads.bits12 (fun HT_ HW_ => ?_)
    generalize wsgb720.drew = w130 at HO676 T1 T2 HB hx726_0 hC1 hHeld ⊢
    refine pureQ 0 57 HT_.out ?_; refine pureQ 1 58 HT_.out ?_; refine pureQ 2 59 HT_.out ?_; refine pureQ 3 60 HT_.out ?_; refine takeQ 4 61 HT_.out HW_.out hHeld ?_; refine takeQ 5 62 HT_.out HW_.out hHeld ?_
    refine oneQ 6 63 HT_.out (fun K hK => ?_)
    refine goesQ Try.func16 #[.agg #[.int .i64 r1, .slice A1 r2.length c1, .int .i64 r3, .int .i64 r4, .int .i64 r5, .int .i64 r6, .int .i64 r7, .slice A7 r8.length c7, .slice A8 r9.length c8, .slice A9 r10.length c9], .agg #[.int .i64 r1, .slice A1b r2.length c1b, .int .i64 r3, .int .i64 r4, .int .i64 r5, .int .i64 r6, .int .i64 r7, .slice A7b r8.length c7b, .slice A8b r9.length c8b, .slice A9b r10.length c9b]] ?_
    with_reducible refine (gimbalref33_Same.calls k r1 _ _ r2 r3 r4 r5 r6 r7 _ _ r8 _ _ r9 _ _ r10 r1 _ _ r2 r3 r4 r5 r6 r7 _ _ r8 _ _ r9 _ _ r10 true _ ?side1 ?side2 ?side3 ?side4 ?side5 ?side6 ?side7 ?side8 ?side9 ?side10 ?side11 ?side12 ?side13 ?side14 ?side15 ?side16 AS.out).mono ?_
    (case side1 => exact cuq (Kd.R_reads' T1.out.2.1).2.2)
    (case side2 => exact (Kd.R_reads' T1.out.2.1).2.1)
    (case side3 => exact cuq (Kd.R_reads' T1.out.2.2.1).2.2)
    (case side4 => exact (Kd.R_reads' T1.out.2.2.1).2.1)
    (case side5 => exact cuq (Kd.S_reads' T1.out.2.2.2.1).2.2)
    (case side6 => exact (Kd.S_reads' T1.out.2.2.2.1).2.1)
    (case side7 => exact cuq (Kd.S_reads' T1.out.2.2.2.2).2.2)
    (case side8 => exact (Kd.S_reads' T1.out.2.2.2.2).2.1)
    (case side9 => exact cuq (Kd.R_reads' T2.out.2.1).2.2)
    (case side10 => exact (Kd.R_reads' T2.out.2.1).2.1)
    (case side11 => exact cuq (Kd.R_reads' T2.out.2.2.1).2.2)
    (case side12 => exact (Kd.R_reads' T2.out.2.2.1).2.1)
    (case side13 => exact cuq (Kd.S_reads' T2.out.2.2.2.1).2.2)
    (case side14 => exact (Kd.S_reads' T2.out.2.2.2.1).2.1)
    (case side15 => exact cuq (Kd.S_reads' T2.out.2.2.2.2).2.2)
    (case side16 => exact (Kd.S_reads' T2.out.2.2.2.2).2.1)
    rintro e w131 ⟨rfl, hb⟩
    have HS20_ := (hb.cell (World.block_lt_of_cell? _ _ (hHeld.2.2.2.2.2.2.2.2.2.2.2.2.2.2.2.2.2.2.2.2.1))).trans (hHeld.2.2.2.2.2.2.2.2.2.2.2.2.2.2.2.2.2.2.2.2.1)
    have HS21_ := Kd.C_below hHeld.2.2.2.2.2.2.2.2.2.2.2.2.2.2.2.2.2.2.2.2.2.1 hb
    have HS22_ := Kd.C_below hHeld.2.2.2.2.2.2.2.2.2.2.2.2.2.2.2.2.2.2.2.2.2.2 hb
    refine ⟨_, rfl, ?_⟩
    have n0_ := rbw HO676 hb
    have n1_ := Aside0.mk (TB.below (by (with_reducible repeat (first | apply TB.alloc | apply TB.drewN | apply TB.drew)); exact T1.out) hb)
    have n2_ := Aside0.mk (TB.below (by (with_reducible repeat (first | apply TB.alloc | apply TB.drewN | apply TB.drew)); exact T2.out) hb)
    have n3_ := bst HB hb
    clear HO676 T1 T2 HB; have HO676 := n0_; have T1 := n1_; have T2 := n2_; have HB := n3_; clear n0_ n1_ n2_ n3_ hb
    have q132 : ((l0.length : Int) : Int) ≤ ((y674.length : Int) : Int) := of_decide_eq_true (by first | (with_reducible assumption) | assumption)
    obtain ⟨i0132, hi0132, _, hsz132, _⟩ := info_parts info5
    have hroom132 : y674.length ≤ co105 := (Kd.R_reads' HO676.out).2.1
    have hC132 : Kd.C (Kd.int .u8) _ (some ad726) y674.length y674 := (Kd.R_reads' HO676.out).2.2
    have hcut132 := cut_to (P := Try.prog) 28 5 .i64 Try.underlying28 hi0132 (some ad726) y674.length co105 (l0.length : Int) (of_decide_eq_true (by first | (with_reducible assumption) | assumption)) q132 hroom132
    have hr132 := Kd.C_take (m := ((l0.length : Int) : Int).toNat) hC132 (by omega)
    have hy132 : y677.length = ((l0.length : Int) : Int).toNat := (by rw [Ny677.out, List.length_take]; omega)
    rw [← Ny677.out] at hr132
    rw [← hy132] at hcut132
    have HR725 := Aside0.mk hr132
    have HC725 := Aside0.mk (show y677.length ≤ co105 from by omega)
    clear hr132 hC132 hroom132 hi0132 hsz132; have KY132 := Aside0.mk hy132; clear hy132
    have KL132 := Aside0.mk (show ((l0.length : Int) : Int).toNat ≤ y674.length from by omega)
    replace q132 := eq_true q132
    refine hK.out _ _ ⟨hcz (tbb T1) 0, hcz (tbb T1) 1, hcz (tbb T1) 2, hcz (tbb T1) 3, hcz (tbb T1) 4, hcz (tbb T1) 5, hcz (tbb T1) 6, hcz (tbb T1) 7, hcz (tbb T1) 8, hcz (tbb T1) 9, hcz (tbb T2) 0, hcz (tbb T2) 1, hcz (tbb T2) 2, hcz (tbb T2) 3, hcz (tbb T2) 4, hcz (tbb T2) 5, hcz (tbb T2) 6, hcz (tbb T2) 7, hcz (tbb T2) 8, hcz (tbb T2) 9, HS20_, HS21_, HS22_⟩ (fun hHeld => ?_)
    clear hK K
    refine normQ (N := 63) ?_
    refine pureQ 7 64 HT_.out ?_; refine pureQ 8 65 HT_.out ?_; refine pureQ 9 66 HT_.out ?_; refine pureQ 10 67 HT_.out ?_; refine pureQ 11 68 HT_.out ?_; refine pureQ 12 69 HT_.out ?_; refine pureQ 13 70 HT_.out ?_
    refine takeQ 14 71 HT_.out HW_.out hHeld ?_ (hy := by (intro w' hs_; have hcvq_ := Kd.C_string (P := Try.prog) (A := (some ad726)) (c := co105) Try.underlying28 Try.underlying5 Try.underlying9 hs_.2.2.2.2.2.2.2.2.2.2.2.2.2.2.2.2.2.2.2.2.2.1; go_simp; with_reducible rfl))
    refine pureQ 15 72 HT_.out ?_
    refine takeQ 16 73 HT_.out HW_.out hHeld ?_ (hy := by (intro w' hs_; have hcvq_ := Kd.C_string (P := Try.prog) (A := A0) (c := c0) Try.underlying28 Try.underlying5 Try.underlying9 hs_.2.2.2.2.2.2.2.2.2.2.2.2.2.2.2.2.2.2.2.2.2.2; go_simp; with_reducible rfl))
    refine pureQ 17 74 HT_.out ?_; refine pureQ 18 75 HT_.out ?_; refine pureQ 19 76 HT_.out ?_; refine pureQ 20 77 HT_.out ?_; refine pureQ 21 78 HT_.out ?_; refine pureQ 22 79 HT_.out ?_; refine pureQ 23 80 HT_.out ?_; refine takeQ 24 81 HT_.out HW_.out hHeld ?_; refine pureQ 25 82 HT_.out ?_; refine pureQ 26 83 HT_.out ?_
    refine done_ (done_of HT_.out (by kernel_rfl)) ?_
    try go_wp2
    go_meet
    case rel => exact ⟨by have h_ := HRD.out; first | (simp [h_]; done) | (rw [h_]; rfl), ⟨by (with_reducible repeat (first | apply Kd.R_alloc | apply Kd.R_drewN | apply Kd.R_drew)); exact Kd.R_mono HO676.out (fun _ _ => trivial)⟩, T1, T2, bpk HB⟩
   case rest =>
    obtain ⟨rfl, HO676, T1, T2, HB⟩ := hcut
    obtain ⟨go, co, eo, gb, gl, cl, HG⟩ := Kd.R_form HO676.out (by have := HY.out; omega)
    (first | cases eo | (injection eo with ea_ en_ ec_; (first | subst ea_ | (injection ea_ with ea_; subst ea_)); subst ec_; clear en_))
    have GB := Aside0.mk gb; clear gb gl cl HG
    go_wp2
    go_loopg [86] y674.length (fun kq v86 w' => ∃ (x7 : List Int) (i : Int), v86 = .int .i64 i ∧ Aside0 (0 ≤ i ∧ (kq : Int) + i = (y674.length : Int)) ∧ Aside0 (Kd.R (Kd.int .u8) 5 w' wz.heap.size (fun _ => True) (.slice (some ⟨go, 0, none⟩) y674.length co105) x7) ∧ Aside0 (TB w' gb700 A1 c1 A7 c7 A8 c8 A9 c9 r1 r2 r3 r4 r5 r6 r7 r8 r9 r10) ∧ Aside0 (TB w' gb720 A1b c1b A7b c7b A8b c8b A9b c9b r1 r2 r3 r4 r5 r6 r7 r8 r9 r10) ∧ Aside0 (Below wz.heap.size wz w'))
    case atStart => exact ⟨y674, 0, (by first | rfl | (simp; done) | (simp [*]; done)), ⟨⟨Int.le_refl _, by omega⟩⟩, HO676, T1, T2, bpk HB⟩
    case round =>
     obtain ⟨x7, i, rfl, HI, HO_7, T1, T2, HB⟩ := hrel
     have hl7 := Aside0.mk (Kd.R_reads' HO_7.out).1
     cases gk with
     | zero =>
      have c149b0 : decide (i < (y674.length : Int)) = false := decide_eq_false (by have := HI.out; omega)
      have c149b1 : decide ((y674.length : Int) ≤ i) = true := decide_eq_true (by have := HI.out; omega)
      have hcy_0 := hcz (tbb T1) 0
      have hcy_1 := hcz (tbb T1) 1
      have hcy_2 := hcz (tbb T1) 2
      have hcy_3 := hcz (tbb T1) 3
      have hcy_4 := hcz (tbb T1) 4
      have hcy_5 := hcz (tbb T1) 5
      have hcy_6 := hcz (tbb T1) 6
      have hcy_7 := hcz (tbb T1) 7
      have hcy_8 := hcz (tbb T1) 8
      have hcy_9 := hcz (tbb T1) 9
      have hfy_0 := blk_frozen (tbb T1).out 0
      have hfy_1 := blk_frozen (tbb T1).out 1
      have hfy_2 := blk_frozen (tbb T1).out 2
      have hfy_3 := blk_frozen (tbb T1).out 3
      have hfy_4 := blk_frozen (tbb T1).out 4
      have hfy_5 := blk_frozen (tbb T1).out 5
      have hfy_6 := blk_frozen (tbb T1).out 6
      have hfy_7 := blk_frozen (tbb T1).out 7
      have hfy_8 := blk_frozen (tbb T1).out 8
      have hfy_9 := blk_frozen (tbb T1).out 9
      have hcx_0 := hcz (tbb T2) 0
      have hcx_1 := hcz (tbb T2) 1
      have hcx_2 := hcz (tbb T2) 2
      have hcx_3 := hcz (tbb T2) 3
      have hcx_4 := hcz (tbb T2) 4
      have hcx_5 := hcz (tbb T2) 5
      have hcx_6 := hcz (tbb T2) 6
      have hcx_7 := hcz (tbb T2) 7
      have hcx_8 := hcz (tbb T2) 8
      have hcx_9 := hcz (tbb T2) 9
      have hfx_0 := blk_frozen (tbb T2).out 0
      have hfx_1 := blk_frozen (tbb T2).out 1
      have hfx_2 := blk_frozen (tbb T2).out 2
      have hfx_3 := blk_frozen (tbb T2).out 3
      have hfx_4 := blk_frozen (tbb T2).out 4
      have hfx_5 := blk_frozen (tbb T2).out 5
      have hfx_6 := blk_frozen (tbb T2).out 6
      have hfx_7 := blk_frozen (tbb T2).out 7
      have hfx_8 := blk_frozen (tbb T2).out 8
      have hfx_9 := blk_frozen (tbb T2).out 9
      go_wp2_with (first | ((with_reducible refine gate_callee (f := 16) rfl ?_); refine goesL_ (some 95) rfl rfl Try.func16 (by kernel_rfl) rfl #[.agg #[.int .i64 r1, .slice A1 r2.length c1, .int .i64 r3, .int .i64 r4, .int .i64 r5, .int .i64 r6, .int .i64 r7, .slice A7 r8.length c7, .slice A8 r9.length c8, .slice A9 r10.length c9], .agg #[.int .i64 r1, .slice A1b r2.length c1b, .int .i64 r3, .int .i64 r4, .int .i64 r5, .int .i64 r6, .int .i64 r7, .slice A7b r8.length c7b, .slice A8b r9.length c8b, .slice A9b r10.length c9b]] rfl (by (try simp only [List.map_toArray, List.map_cons, List.map_nil]); first | done | rfl | (simp only [List.length_drop, List.length_take]; rfl)) ?_; (with_reducible refine (gimbalref33_Same.calls k r1 _ _ r2 r3 r4 r5 r6 r7 _ _ r8 _ _ r9 _ _ r10 r1 _ _ r2 r3 r4 r5 r6 r7 _ _ r8 _ _ r9 _ _ r10 true _ ?side1 ?side2 ?side3 ?side4 ?side5 ?side6 ?side7 ?side8 ?side9 ?side10 ?side11 ?side12 ?side13 ?side14 ?side15 ?side16 AS.out).mono ?_); (case side1 => exact cuq (Kd.R_reads' T1.out.2.1).2.2); (case side2 => exact (Kd.R_reads' T1.out.2.1).2.1); (case side3 => exact cuq (Kd.R_reads' T1.out.2.2.1).2.2); (case side4 => exact (Kd.R_reads' T1.out.2.2.1).2.1); (case side5 => exact cuq (Kd.S_reads' T1.out.2.2.2.1).2.2); (case side6 => exact (Kd.S_reads' T1.out.2.2.2.1).2.1); (case side7 => exact cuq (Kd.S_reads' T1.out.2.2.2.2).2.2); (case side8 => exact (Kd.S_reads' T1.out.2.2.2.2).2.1); (case side9 => exact cuq (Kd.R_reads' T2.out.2.1).2.2); (case side10 => exact (Kd.R_reads' T2.out.2.1).2.1); (case side11 => exact cuq (Kd.R_reads' T2.out.2.2.1).2.2); (case side12 => exact (Kd.R_reads' T2.out.2.2.1).2.1); (case side13 => exact cuq (Kd.S_reads' T2.out.2.2.2.1).2.2); (case side14 => exact (Kd.S_reads' T2.out.2.2.2.1).2.1); (case side15 => exact cuq (Kd.S_reads' T2.out.2.2.2.2).2.2); (case side16 => exact (Kd.S_reads' T2.out.2.2.2.2).2.1); rintro e w161 ⟨rfl, hb⟩; refine ⟨_, rfl, ?_⟩; have n3_ := bst HB hb; clear HB; have HB := n3_; clear n3_ hb) | (go_at_call 10; (with_reducible refine (gimballaw33_awake.calls k true _ AW.out).mono ?_); rintro e w162 ⟨rfl, hb⟩; have n3_ := bst HB hb; clear HB; have HB := n3_; clear n3_ hb))
      go_ret
      exact ⟨by first | rfl | (simp [errW_none, errW_some] <;> rfl) | (simp [*, errW_none, errW_some] <;> rfl) | kernel_rfl, (bst HB9 (bpk HB).out).out⟩
     | succ k2 =>
      have c149b0 : decide (i < (y674.length : Int)) = true := decide_eq_true (by have := HI.out; omega)
      have c150b0 : decide (0 ≤ i) = true := decide_eq_true HI.out.1
      obtain ⟨hx152_0, hf152_0⟩ := Kd.R_celln 0 HO_7.out i HI.out.1 (of_decide_eq_true c149b0)
      have HP153 := Kd.R_putg HO_7.out i 1
      have p152 := eq_true HI.out.1
      have q152 := eq_true (of_decide_eq_true c149b0)
      go_wp2_with (first | ((with_reducible refine gate_store (t := 5) (p := 91) rfl ?_); refine store_event (t := 5) (p := 91) (v := ?vo_w154) (w1 := (wr.setCell ⟨go, i.toNat, none⟩ (.int .u8 1))) ?hg ?ho ?hn ?hr ?_; (case ho => rfl); (case hg => rfl); (case hn => rfl); (case hr => first | (go_simp; done) | (go_simp; rfl)); intro w154 hw; have hg : wr.grownBy w154 (some go) := (by rw [hw]; exact HP153.2); have n0_ : Aside0 (Kd.R (Kd.int .u8) 5 w154 wz.heap.size (fun _ => True) (.slice (some ⟨go, 0, none⟩) y674.length co105) (x7.set i.toNat 1)) := ⟨(by rw [hw]; exact HP153.1)⟩; have n1_ := Aside0.mk (TB.over T1.out HO_7.out (q := go) rfl hg); have n2_ := Aside0.mk (TB.over T2.out HO_7.out (q := go) rfl hg); have n3_ : Aside0 (Below wz.heap.size wz w154) := ⟨(by rw [hw]; exact below_set HB.out GB.out)⟩; clear HO_7 T1 T2 HB HP153 hw hg; have HO_7 := n0_; have T1 := n1_; have T2 := n2_; have HB := n3_; clear n0_ n1_ n2_ n3_))
      go_roundg k2
      case measure => omega
      case rel => exact ⟨_, wrap64 (i + 1), (by first | rfl | (simp; done) | (simp [*]; done)), ⟨by have h1 := HI.out; have h2 := HLL.out; have h3 := HY.out; have e_ : wrap64 (i + 1) = i + 1 := (by unfold wrap64; omega); rw [e_]; omega⟩, HO_7, T1, T2, bpk HB⟩
end Go.Proofs.Ytiemdfdebdmchaa.P
