/- What the law's proof needs of Px22. -/
import Derived.Test.YtbbnpipmjadpoaaTrTPx0
import Derived.Test.YtbbnpipmjadpoaaTrTPx2
import Derived.Test.YtbbnpipmjadpoaaTrTPx3
import Derived.Test.YtbbnpipmjadpoaaTrTPx7
import Derived.Test.YtbbnpipmjadpoaaTrTPx11
import Derived.Test.YtbbnpipmjadpoaaTrTPx18
import Derived.Test.YtbbnpipmjadpoaaTrTPx19
import Derived.Test.YtbbnpipmjadpoaaTrTPx20
import Derived.Test.YtbbnpipmjadpoaaTrTPx21
-- PRINTED by print.py (a twelfth state) out of the translation. Not trusted: Lean checks it.
namespace Go.Proofs.Ytbbnpipmjadpoaa.P
open Go.RowKit Go.Proofs.YtbbnpipmjadpoaaW.PrintWords Go.Proofs.YtbbnpipmjadpoaaW.PrintLast Go.Proofs.YtbbnpipmjadpoaaW.PrintMore Go.Proofs.YtbbnpipmjadpoaaO
attribute [local go_sem] max2_int min2_int max_two min_two max_three min_three max_four min_four   -- for this text's walks alone
set_option linter.unusedVariables false
set_option linter.unusedSimpArgs false
def gimbalref02_Test.j0 : Nat → Int → Bool → Int → Int → Int → Int → Option (Int × Int × Int × Int)
  | 0, _, _, _, _, _, _ => none
  | k + 1, x0, x29, x485000, x485001, x486000, x486001 => if x29 = true then ((gimbalref02_Empty.f).bind fun bt496 => ((gimbalref02_Empty.f).bind fun bt498 => (some (bt496.1, bt496.2, bt498.1, bt498.2)))) else (if x0 = 14 then ((gimbalref02_Meet.f k x485000 x485001 x486000 x486001).bind fun bt500 => ((gimbalref02_Meet.f k x485000 x485001 x486000 x486001).bind fun bt502 => (some (bt500.1, bt500.2, bt502.1, bt502.2)))) else (if x0 = 15 then ((gimbalref02_without.f k x485000 x485001 x486000 x486001).bind fun bt504 => ((gimbalref02_without.f k x486000 x486001 x485000 x485001).bind fun bt506 => (some (bt504.1, bt504.2, bt506.1, bt506.2)))) else (if x0 = 16 then ((gimbalref02_below.f k x485000 x485001 x486000 x486001 1).bind fun bt508 => ((gimbalref02_above.f k x486000 x486001 x485000 x485001 1).bind fun bt510 => (some (bt508.1, bt508.2, bt510.1, bt510.2)))) else (if x0 = 17 then ((gimbalref02_below.f k x485000 x485001 x486000 x486001 0).bind fun bt512 => ((gimbalref02_above.f k x486000 x486001 x485000 x485001 0).bind fun bt514 => (some (bt512.1, bt512.2, bt514.1, bt514.2)))) else (if x0 = 18 then ((gimbalref02_above.f k x485000 x485001 x486000 x486001 1).bind fun bt516 => ((gimbalref02_below.f k x486000 x486001 x485000 x485001 1).bind fun bt518 => (some (bt516.1, bt516.2, bt518.1, bt518.2)))) else ((gimbalref02_above.f k x485000 x485001 x486000 x486001 0).bind fun bt520 => ((gimbalref02_below.f k x486000 x486001 x485000 x485001 0).bind fun bt522 => (some (bt520.1, bt520.2, bt522.1, bt522.2)))))))))
def gimbalref02_Test.f (k : Nat) (a0 : Int) (a1_0 : Int) (a1_1 : Int) (a2_0 : Int) (a2_1 : Int) : Option (Int × Int × Int × Int) := (gimbalref02_norm.f k a1_0 a1_1).bind fun bt488 => ((gimbalref02_norm.f k a2_0 a2_1).bind fun bt490 => ((gimbalref02_compares.f a0).bind fun t492 => (if t492 = true then ((gimbalref02_None.f bt488.1 bt488.2).bind fun t493 => (if t493 = true then (gimbalref02_Test.j0 k a0 true bt488.1 bt488.2 bt490.1 bt490.2) else ((gimbalref02_None.f bt490.1 bt490.2).bind fun t494 => (if t494 = true then (gimbalref02_Test.j0 k a0 true bt488.1 bt488.2 bt490.1 bt490.2) else ((gimbalref02_pair.f k a0 bt488.1 bt488.2 bt490.1 bt490.2).bind fun t495 => (gimbalref02_Test.j0 k a0 (!t495) bt488.1 bt488.2 bt490.1 bt490.2)))))) else (some (bt488.1, bt488.2, bt490.1, bt490.2)))))
def gimbalref02_Test.T9 : Bool × List (List Nat × List Nat) := (true, [([], []), ([], []), ([0, 1], [0, 1]), ([], []), ([], []), ([3, 4, 2], [3, 4]), ([2, 5, 0, 1, 2], [2]), ([5, 6, 0, 1, 2, 3, 4, 5, 6], [5])])
def gimbalref02_Test.B9 : List Nat := [0, 0, 3, 0, 0, 31, 63, 127]
theorem gimbalref02_Test.tab9 : rtab .any (opsOf Try.f37 9) = gimbalref02_Test.T9 := by kernel_rfl
theorem gimbalref02_Test.bits9 : waitsOk gimbalref02_Test.T9.2 gimbalref02_Test.B9 = true := by kernel_rfl
def gimbalref02_Test.T11 : Bool × List (List Nat × List Nat) := (true, [([], []), ([], []), ([0, 1], [0, 1]), ([], []), ([], []), ([3, 4, 2], [3, 4]), ([2, 5, 0, 1, 2], [2]), ([5, 6, 0, 1, 2, 3, 4, 5, 6], [5])])
def gimbalref02_Test.B11 : List Nat := [0, 0, 3, 0, 0, 31, 63, 127]
theorem gimbalref02_Test.tab11 : rtab .any (opsOf Try.f37 11) = gimbalref02_Test.T11 := by kernel_rfl
theorem gimbalref02_Test.bits11 : waitsOk gimbalref02_Test.T11.2 gimbalref02_Test.B11 = true := by kernel_rfl
def gimbalref02_Test.T13 : Bool × List (List Nat × List Nat) := (true, [([], []), ([], []), ([0, 1], [0, 1]), ([], []), ([], []), ([3, 4, 2], [3, 4]), ([2, 5, 0, 1, 2], [2]), ([5, 6, 0, 1, 2, 3, 4, 5, 6], [5])])
def gimbalref02_Test.B13 : List Nat := [0, 0, 3, 0, 0, 31, 63, 127]
theorem gimbalref02_Test.tab13 : rtab .any (opsOf Try.f37 13) = gimbalref02_Test.T13 := by kernel_rfl
theorem gimbalref02_Test.bits13 : waitsOk gimbalref02_Test.T13.2 gimbalref02_Test.B13 = true := by kernel_rfl
def gimbalref02_Test.T15 : Bool × List (List Nat × List Nat) := (true, [([], []), ([], []), ([0, 1], [0, 1]), ([], []), ([], []), ([3, 4, 2], [3, 4]), ([2, 5, 0, 1, 2], [2]), ([5, 6, 0, 1, 2, 3, 4, 5, 6], [5])])
def gimbalref02_Test.B15 : List Nat := [0, 0, 3, 0, 0, 31, 63, 127]
theorem gimbalref02_Test.tab15 : rtab .any (opsOf Try.f37 15) = gimbalref02_Test.T15 := by kernel_rfl
theorem gimbalref02_Test.bits15 : waitsOk gimbalref02_Test.T15.2 gimbalref02_Test.B15 = true := by kernel_rfl
def gimbalref02_Test.T17 : Bool × List (List Nat × List Nat) := (true, [([], []), ([], []), ([0, 1], [0, 1]), ([], []), ([], []), ([3, 4, 2], [3, 4]), ([2, 5, 0, 1, 2], [2]), ([5, 6, 0, 1, 2, 3, 4, 5, 6], [5])])
def gimbalref02_Test.B17 : List Nat := [0, 0, 3, 0, 0, 31, 63, 127]
theorem gimbalref02_Test.tab17 : rtab .any (opsOf Try.f37 17) = gimbalref02_Test.T17 := by kernel_rfl
theorem gimbalref02_Test.bits17 : waitsOk gimbalref02_Test.T17.2 gimbalref02_Test.B17 = true := by kernel_rfl
def gimbalref02_Test.T18 : Bool × List (List Nat × List Nat) := (true, [([], []), ([], []), ([0, 1], [0, 1]), ([], []), ([], []), ([3, 4, 2], [3, 4]), ([2, 5, 0, 1, 2], [2]), ([5, 6, 0, 1, 2, 3, 4, 5, 6], [5])])
def gimbalref02_Test.B18 : List Nat := [0, 0, 3, 0, 0, 31, 63, 127]
theorem gimbalref02_Test.tab18 : rtab .any (opsOf Try.f37 18) = gimbalref02_Test.T18 := by kernel_rfl
theorem gimbalref02_Test.bits18 : waitsOk gimbalref02_Test.T18.2 gimbalref02_Test.B18 = true := by kernel_rfl
set_option maxHeartbeats 8000000 in
set_option maxRecDepth 100000 in
theorem gimbalref02_Test.calls (k : Nat) (a0 : Int) (a1_0 : Int) (a1_1 : Int) (a2_0 : Int) (a2_1 : Int) (r1 : Int) (r2 : Int) (r3 : Int) (r4 : Int) (w : World) (h : gimbalref02_Test.f k a0 a1_0 a1_1 a2_0 a2_1 = some (r1, r2, r3, r4)) :
    Calls Try.prog 37 #[.int .i64 a0, .agg #[.int .i64 a1_0, .int .i64 a1_1], .agg #[.int .i64 a2_0, .int .i64 a2_1]] w fun e w' => e = .returned (.tuple #[.agg #[.int .i64 r1, .int .i64 r2], .agg #[.int .i64 r3, .int .i64 r4]]) ∧ Below w.heap.size w w' := by
  have hu23 := Try.underlying23
  have HB := Aside0.mk (Below.refl w.heap.size w)
  have H : ((gimbalref02_norm.f k a1_0 a1_1).bind fun bt488 => ((gimbalref02_norm.f k a2_0 a2_1).bind fun bt490 => ((gimbalref02_compares.f a0).bind fun t492 => (if t492 = true then ((gimbalref02_None.f bt488.1 bt488.2).bind fun t493 => (if t493 = true then (gimbalref02_Test.j0 k a0 true bt488.1 bt488.2 bt490.1 bt490.2) else ((gimbalref02_None.f bt490.1 bt490.2).bind fun t494 => (if t494 = true then (gimbalref02_Test.j0 k a0 true bt488.1 bt488.2 bt490.1 bt490.2) else ((gimbalref02_pair.f k a0 bt488.1 bt488.2 bt490.1 bt490.2).bind fun t495 => (gimbalref02_Test.j0 k a0 (!t495) bt488.1 bt488.2 bt490.1 bt490.2)))))) else (some (bt488.1, bt488.2, bt490.1, bt490.2)))))) = some (r1, r2, r3, r4) := h
  clear h
  replace H := Option.bind_eq_some_iff.mp H
  obtain ⟨⟨t488, t489⟩, A40, H⟩ := H
  replace H : ((gimbalref02_norm.f k a2_0 a2_1).bind fun bt490 => ((gimbalref02_compares.f a0).bind fun t492 => (if t492 = true then ((gimbalref02_None.f t488 t489).bind fun t493 => (if t493 = true then (gimbalref02_Test.j0 k a0 true t488 t489 bt490.1 bt490.2) else ((gimbalref02_None.f bt490.1 bt490.2).bind fun t494 => (if t494 = true then (gimbalref02_Test.j0 k a0 true t488 t489 bt490.1 bt490.2) else ((gimbalref02_pair.f k a0 t488 t489 bt490.1 bt490.2).bind fun t495 => (gimbalref02_Test.j0 k a0 (!t495) t488 t489 bt490.1 bt490.2)))))) else (some (t488, t489, bt490.1, bt490.2))))) = some (r1, r2, r3, r4) := H
  have A4 := Aside0.mk A40
  clear A40
  replace H := Option.bind_eq_some_iff.mp H
  obtain ⟨⟨t490, t491⟩, A50, H⟩ := H
  replace H : ((gimbalref02_compares.f a0).bind fun t492 => (if t492 = true then ((gimbalref02_None.f t488 t489).bind fun t493 => (if t493 = true then (gimbalref02_Test.j0 k a0 true t488 t489 t490 t491) else ((gimbalref02_None.f t490 t491).bind fun t494 => (if t494 = true then (gimbalref02_Test.j0 k a0 true t488 t489 t490 t491) else ((gimbalref02_pair.f k a0 t488 t489 t490 t491).bind fun t495 => (gimbalref02_Test.j0 k a0 (!t495) t488 t489 t490 t491)))))) else (some (t488, t489, t490, t491)))) = some (r1, r2, r3, r4) := H
  have A5 := Aside0.mk A50
  clear A50
  replace H := Option.bind_eq_some_iff.mp H
  obtain ⟨t492, A60, H⟩ := H
  replace H : (if t492 = true then ((gimbalref02_None.f t488 t489).bind fun t493 => (if t493 = true then (gimbalref02_Test.j0 k a0 true t488 t489 t490 t491) else ((gimbalref02_None.f t490 t491).bind fun t494 => (if t494 = true then (gimbalref02_Test.j0 k a0 true t488 t489 t490 t491) else ((gimbalref02_pair.f k a0 t488 t489 t490 t491).bind fun t495 => (gimbalref02_Test.j0 k a0 (!t495) t488 t489 t490 t491)))))) else (some (t488, t489, t490, t491))) = some (r1, r2, r3, r4) := H
  have A6 := Aside0.mk A60
  clear A60
  by_cases c7 : t492 = true
  ·
   subst c7
   have H1 : ((gimbalref02_None.f t488 t489).bind fun t493 => (if t493 = true then (gimbalref02_Test.j0 k a0 true t488 t489 t490 t491) else ((gimbalref02_None.f t490 t491).bind fun t494 => (if t494 = true then (gimbalref02_Test.j0 k a0 true t488 t489 t490 t491) else ((gimbalref02_pair.f k a0 t488 t489 t490 t491).bind fun t495 => (gimbalref02_Test.j0 k a0 (!t495) t488 t489 t490 t491)))))) = some (r1, r2, r3, r4) := by rw [if_pos rfl] at H; exact H
   clear H
   have H := H1
   clear H1
   have HC8 := Aside0.mk H
   clear H
   go_enter Try.func37, Try.ntmps37
   go_upto_region 5 with (first | ((with_reducible refine gate_dst (N := 4) rfl ?_); refine box_event ?hg (N := 4) ?hd (cs := #[.int .i64 a1_0, .int .i64 a1_1]) (t := 23) ?hr ?_; (case hd => rfl); (case hg => rfl); (case hr => first | (go_simp; done) | (go_simp; rfl)); intro gb484 hg w9 hbox hb; have n0_ := Aside0.mk (below_step (by repeat (first | (with_reducible first | exact HB.out | apply below_alloc | apply pw_below_drewN | apply below_drew1) | exact HB.out)) hb); have n1_ := Aside0.mk (hbox); have n2_ := Aside0.mk ((by rw [hg]; exact (below_size (by repeat (first | (with_reducible first | exact HB.out | apply below_alloc | apply pw_below_drewN | apply below_drew1) | exact HB.out))) : w.heap.size ≤ gb484)); have n3_ := Aside0.mk ((by rw [hg]; exact (below_size (by repeat (first | (with_reducible first | exact HB.out | apply below_alloc | apply pw_below_drewN | apply below_drew1) | exact HB.out))) : w.heap.size ≤ gb484)); clear HB; have HB := n0_; have BK484 := n1_; have GW484 := n2_; have GE484 := n3_; clear n0_ n1_ n2_ n3_; clear hb hbox hg) | ((with_reducible refine gate_dst (N := 5) rfl ?_); refine box_event ?hg (N := 5) ?hd (cs := #[.int .i64 a2_0, .int .i64 a2_1]) (t := 23) ?hr ?_; (case hd => rfl); (case hg => rfl); (case hr => first | (go_simp; done) | (go_simp; rfl)); intro gb485 hg w10 hbox hb; have n0_ := Aside0.mk (below_step (by repeat (first | (with_reducible first | exact HB.out | apply below_alloc | apply pw_below_drewN | apply below_drew1 | refine below_set ?_ GE484.out) | exact HB.out)) hb); have n1_ := Aside0.mk (hbox); have n2_ := Aside0.mk ((by rw [hg]; exact (below_size (by repeat (first | (with_reducible first | exact HB.out | apply below_alloc | apply pw_below_drewN | apply below_drew1 | refine below_set ?_ GE484.out) | exact HB.out))) : w.heap.size ≤ gb485)); have n3_ := Aside0.mk ((by rw [hg]; exact (below_size (by repeat (first | (with_reducible first | exact HB.out | apply below_alloc | apply pw_below_drewN | apply below_drew1 | refine below_set ?_ GE484.out) | exact HB.out))) : w.heap.size ≤ gb485)); have n4_ := Aside0.mk ((by rw [hg]; exact Nat.ne_of_lt (blk_lt (g := gb484) (o := .cells #[.int .i64 a1_0, .int .i64 a1_1] 23 (0, 0)) (pk BK484.out)) : gb484 ≠ gb485)); have n5_ := Aside0.mk ((by rw [hg]; exact Nat.ne_of_gt (blk_lt (g := gb484) (o := .cells #[.int .i64 a1_0, .int .i64 a1_1] 23 (0, 0)) (pk BK484.out)) : gb485 ≠ gb484)); replace BK484 := bbw BK484 hb; clear HB; have HB := n0_; have BK485 := n1_; have GW485 := n2_; have GE485 := n3_; have NB484_485 := n4_; have NB485_484 := n5_; clear n0_ n1_ n2_ n3_ n4_ n5_; clear hb hbox hg) | ((with_reducible refine gate_dst (N := 6) rfl ?_); refine box_event ?hg (N := 6) ?hd (cs := #[.int .i64 0, .int .i64 0]) (t := 23) ?hr ?_; (case hd => rfl); (case hg => rfl); (case hr => first | (go_simp; done) | (go_simp; rfl)); intro gb486 hg w11 hbox hb; have n0_ := Aside0.mk (below_step (by repeat (first | (with_reducible first | exact HB.out | apply below_alloc | apply pw_below_drewN | apply below_drew1 | refine below_set ?_ GE484.out | refine below_set ?_ GE485.out) | exact HB.out)) hb); have n1_ := Aside0.mk (hbox); have n2_ := Aside0.mk ((by rw [hg]; exact (below_size (by repeat (first | (with_reducible first | exact HB.out | apply below_alloc | apply pw_below_drewN | apply below_drew1 | refine below_set ?_ GE484.out | refine below_set ?_ GE485.out) | exact HB.out))) : w.heap.size ≤ gb486)); have n3_ := Aside0.mk ((by rw [hg]; exact (below_size (by repeat (first | (with_reducible first | exact HB.out | apply below_alloc | apply pw_below_drewN | apply below_drew1 | refine below_set ?_ GE484.out | refine below_set ?_ GE485.out) | exact HB.out))) : w.heap.size ≤ gb486)); have n4_ := Aside0.mk ((by rw [hg]; exact Nat.ne_of_lt (blk_lt (g := gb484) (o := .cells #[.int .i64 a1_0, .int .i64 a1_1] 23 (0, 0)) (pk BK484.out)) : gb484 ≠ gb486)); have n5_ := Aside0.mk ((by rw [hg]; exact Nat.ne_of_gt (blk_lt (g := gb484) (o := .cells #[.int .i64 a1_0, .int .i64 a1_1] 23 (0, 0)) (pk BK484.out)) : gb486 ≠ gb484)); have n6_ := Aside0.mk ((by rw [hg]; exact Nat.ne_of_lt (blk_lt (g := gb485) (o := .cells #[.int .i64 a2_0, .int .i64 a2_1] 23 (0, 0)) (pk BK485.out)) : gb485 ≠ gb486)); have n7_ := Aside0.mk ((by rw [hg]; exact Nat.ne_of_gt (blk_lt (g := gb485) (o := .cells #[.int .i64 a2_0, .int .i64 a2_1] 23 (0, 0)) (pk BK485.out)) : gb486 ≠ gb485)); replace BK484 := bbw BK484 hb; replace BK485 := bbw BK485 hb; clear HB; have HB := n0_; have BK486 := n1_; have GW486 := n2_; have GE486 := n3_; have NB484_486 := n4_; have NB486_484 := n5_; have NB485_486 := n6_; have NB486_485 := n7_; clear n0_ n1_ n2_ n3_ n4_ n5_ n6_ n7_; clear hb hbox hg) | ((with_reducible refine gate_dst (N := 7) rfl ?_); refine box_event ?hg (N := 7) ?hd (cs := #[.int .i64 0, .int .i64 0]) (t := 23) ?hr ?_; (case hd => rfl); (case hg => rfl); (case hr => first | (go_simp; done) | (go_simp; rfl)); intro gb487 hg w12 hbox hb; have n0_ := Aside0.mk (below_step (by repeat (first | (with_reducible first | exact HB.out | apply below_alloc | apply pw_below_drewN | apply below_drew1 | refine below_set ?_ GE484.out | refine below_set ?_ GE485.out | refine below_set ?_ GE486.out) | exact HB.out)) hb); have n1_ := Aside0.mk (hbox); have n2_ := Aside0.mk ((by rw [hg]; exact (below_size (by repeat (first | (with_reducible first | exact HB.out | apply below_alloc | apply pw_below_drewN | apply below_drew1 | refine below_set ?_ GE484.out | refine below_set ?_ GE485.out | refine below_set ?_ GE486.out) | exact HB.out))) : w.heap.size ≤ gb487)); have n3_ := Aside0.mk ((by rw [hg]; exact (below_size (by repeat (first | (with_reducible first | exact HB.out | apply below_alloc | apply pw_below_drewN | apply below_drew1 | refine below_set ?_ GE484.out | refine below_set ?_ GE485.out | refine below_set ?_ GE486.out) | exact HB.out))) : w.heap.size ≤ gb487)); have n4_ := Aside0.mk ((by rw [hg]; exact Nat.ne_of_lt (blk_lt (g := gb484) (o := .cells #[.int .i64 a1_0, .int .i64 a1_1] 23 (0, 0)) (pk BK484.out)) : gb484 ≠ gb487)); have n5_ := Aside0.mk ((by rw [hg]; exact Nat.ne_of_gt (blk_lt (g := gb484) (o := .cells #[.int .i64 a1_0, .int .i64 a1_1] 23 (0, 0)) (pk BK484.out)) : gb487 ≠ gb484)); have n6_ := Aside0.mk ((by rw [hg]; exact Nat.ne_of_lt (blk_lt (g := gb485) (o := .cells #[.int .i64 a2_0, .int .i64 a2_1] 23 (0, 0)) (pk BK485.out)) : gb485 ≠ gb487)); have n7_ := Aside0.mk ((by rw [hg]; exact Nat.ne_of_gt (blk_lt (g := gb485) (o := .cells #[.int .i64 a2_0, .int .i64 a2_1] 23 (0, 0)) (pk BK485.out)) : gb487 ≠ gb485)); have n8_ := Aside0.mk ((by rw [hg]; exact Nat.ne_of_lt (blk_lt (g := gb486) (o := .cells #[.int .i64 0, .int .i64 0] 23 (0, 0)) (pk BK486.out)) : gb486 ≠ gb487)); have n9_ := Aside0.mk ((by rw [hg]; exact Nat.ne_of_gt (blk_lt (g := gb486) (o := .cells #[.int .i64 0, .int .i64 0] 23 (0, 0)) (pk BK486.out)) : gb487 ≠ gb486)); replace BK484 := bbw BK484 hb; replace BK485 := bbw BK485 hb; replace BK486 := bbw BK486 hb; clear HB; have HB := n0_; have BK487 := n1_; have GW487 := n2_; have GE487 := n3_; have NB484_487 := n4_; have NB487_484 := n5_; have NB485_487 := n6_; have NB487_485 := n7_; have NB486_487 := n8_; have NB487_486 := n9_; clear n0_ n1_ n2_ n3_ n4_ n5_ n6_ n7_ n8_ n9_; clear hb hbox hg; have hnb13 := NB484_485.out; have hnc13 := NB485_484.out; have hnb14 := NB484_486.out; have hnc14 := NB486_484.out; have hnb15 := NB484_487.out; have hnc15 := NB487_484.out; have hcz16_0 : w12.cell? ⟨gb484, 0, none⟩ = some (.int .i64 a1_0) := (blk_cell BK484.out 0).trans rfl; have hcz16_1 : w12.cell? ⟨gb484, 1, none⟩ = some (.int .i64 a1_1) := (blk_cell BK484.out 1).trans rfl; have hfz16_0 := blk_frozen BK484.out 0; have hfz16_1 := blk_frozen BK484.out 1) | ((with_reducible refine gate_callee (f := 60) rfl ?_); refine goesL_ (some 9) rfl rfl Try.func60 (by kernel_rfl) rfl #[.agg #[.int .i64 a1_0, .int .i64 a1_1]] rfl (by (try simp only [List.map_toArray, List.map_cons, List.map_nil]); first | done | rfl | (simp only [List.length_drop, List.length_take]; rfl)) ?_; (with_reducible refine (gimbalref02_norm.calls k a1_0 a1_1 t488 t489 _ A4.out).mono ?_); rintro e w17 ⟨rfl, hb⟩; refine ⟨_, rfl, ?_⟩; have n0_ := Aside0.mk (below_step (by repeat (first | (with_reducible first | exact HB.out | apply below_alloc | apply pw_below_drewN | apply below_drew1 | refine below_set ?_ GE484.out | refine below_set ?_ GE485.out | refine below_set ?_ GE486.out | refine below_set ?_ GE487.out) | exact HB.out)) hb); replace BK484 := bbw BK484 hb; replace BK485 := bbw BK485 hb; replace BK486 := bbw BK486 hb; replace BK487 := bbw BK487 hb; clear HB; have HB := n0_; clear n0_; (try clear hb); (try clear hb2); (try clear hk); (try clear hi); have hcz18_0 : w17.cell? ⟨gb484, 0, none⟩ = some (.int .i64 a1_0) := (blk_cell BK484.out 0).trans rfl; have hcz18_1 : w17.cell? ⟨gb484, 1, none⟩ = some (.int .i64 a1_1) := (blk_cell BK484.out 1).trans rfl; have hfz18_0 := blk_frozen BK484.out 0; have hfz18_1 := blk_frozen BK484.out 1; have hnb19 := NB485_486.out; have hnc19 := NB486_485.out; have hnb20 := NB485_487.out; have hnc20 := NB487_485.out; have hcz21_0 : w17.cell? ⟨gb485, 0, none⟩ = some (.int .i64 a2_0) := (blk_cell BK485.out 0).trans rfl; have hcz21_1 : w17.cell? ⟨gb485, 1, none⟩ = some (.int .i64 a2_1) := (blk_cell BK485.out 1).trans rfl; have hfz21_0 := blk_frozen BK485.out 0; have hfz21_1 := blk_frozen BK485.out 1) | ((with_reducible refine gate_callee (f := 60) rfl ?_); refine goesL_ (some 11) rfl rfl Try.func60 (by kernel_rfl) rfl #[.agg #[.int .i64 a2_0, .int .i64 a2_1]] rfl (by (try simp only [List.map_toArray, List.map_cons, List.map_nil]); first | done | rfl | (simp only [List.length_drop, List.length_take]; rfl)) ?_; (with_reducible refine (gimbalref02_norm.calls k a2_0 a2_1 t490 t491 _ A5.out).mono ?_); rintro e w22 ⟨rfl, hb⟩; refine ⟨_, rfl, ?_⟩; have n0_ := Aside0.mk (blk_below (g := gb484) (o := .cells #[.int .i64 t488, .int .i64 t489] 23 (0, 0)) (by (with_reducible repeat (first | refine blk_drewN ?_ _ | refine blk_drew ?_ | refine blk_alloc ?_ _)); refine blk_put (cs := #[.int .i64 t488, .int .i64 a1_1]) ?_ 1 _ (by first | rfl | (subst_vars; rfl)); (with_reducible repeat (first | refine blk_drewN ?_ _ | refine blk_drew ?_ | refine blk_alloc ?_ _)); refine blk_put (cs := #[.int .i64 a1_0, .int .i64 a1_1]) ?_ 0 _ (by first | rfl | (subst_vars; rfl)); (with_reducible repeat (first | refine blk_drewN ?_ _ | refine blk_drew ?_ | refine blk_alloc ?_ _)); exact BK484.out) hb); have n1_ := Aside0.mk (blk_below (g := gb485) (o := .cells #[.int .i64 a2_0, .int .i64 a2_1] 23 (0, 0)) (by (with_reducible repeat (first | refine blk_drewN ?_ _ | refine blk_drew ?_ | refine blk_alloc ?_ _)); refine blk_far ?_ NB485_484.out _; (with_reducible repeat (first | refine blk_drewN ?_ _ | refine blk_drew ?_ | refine blk_alloc ?_ _)); refine blk_far ?_ NB485_484.out _; (with_reducible repeat (first | refine blk_drewN ?_ _ | refine blk_drew ?_ | refine blk_alloc ?_ _)); exact BK485.out) hb); have n2_ := Aside0.mk (blk_below (g := gb486) (o := .cells #[.int .i64 0, .int .i64 0] 23 (0, 0)) (by (with_reducible repeat (first | refine blk_drewN ?_ _ | refine blk_drew ?_ | refine blk_alloc ?_ _)); refine blk_far ?_ NB486_484.out _; (with_reducible repeat (first | refine blk_drewN ?_ _ | refine blk_drew ?_ | refine blk_alloc ?_ _)); refine blk_far ?_ NB486_484.out _; (with_reducible repeat (first | refine blk_drewN ?_ _ | refine blk_drew ?_ | refine blk_alloc ?_ _)); exact BK486.out) hb); have n3_ := Aside0.mk (blk_below (g := gb487) (o := .cells #[.int .i64 0, .int .i64 0] 23 (0, 0)) (by (with_reducible repeat (first | refine blk_drewN ?_ _ | refine blk_drew ?_ | refine blk_alloc ?_ _)); refine blk_far ?_ NB487_484.out _; (with_reducible repeat (first | refine blk_drewN ?_ _ | refine blk_drew ?_ | refine blk_alloc ?_ _)); refine blk_far ?_ NB487_484.out _; (with_reducible repeat (first | refine blk_drewN ?_ _ | refine blk_drew ?_ | refine blk_alloc ?_ _)); exact BK487.out) hb); have n4_ := Aside0.mk (below_step (by repeat (first | (with_reducible first | exact HB.out | apply below_alloc | apply pw_below_drewN | apply below_drew1 | refine below_set ?_ GE484.out | refine below_set ?_ GE485.out | refine below_set ?_ GE486.out | refine below_set ?_ GE487.out) | exact HB.out)) hb); clear BK484; clear BK485; clear BK486; clear BK487; clear HB; have BK484 := n0_; have BK485 := n1_; have BK486 := n2_; have BK487 := n3_; have HB := n4_; clear n0_ n1_ n2_ n3_ n4_; (try clear hb); (try clear hb2); (try clear hk); (try clear hi); have hcz23_0 : w22.cell? ⟨gb485, 0, none⟩ = some (.int .i64 a2_0) := (blk_cell BK485.out 0).trans rfl; have hcz23_1 : w22.cell? ⟨gb485, 1, none⟩ = some (.int .i64 a2_1) := (blk_cell BK485.out 1).trans rfl; have hfz23_0 := blk_frozen BK485.out 0; have hfz23_1 := blk_frozen BK485.out 1) | ((with_reducible refine gate_callee (f := 67) rfl ?_); refine goesL_ (some 13) rfl rfl Try.func67 (by kernel_rfl) rfl #[.int .i64 a0] rfl (by (try simp only [List.map_toArray, List.map_cons, List.map_nil]); first | done | rfl | (simp only [List.length_drop, List.length_take]; rfl)) ?_; (with_reducible refine (gimbalref02_compares.calls a0 true _ A6.out).mono ?_); rintro e w' ⟨rfl, ⟨nd, rfl⟩⟩; refine ⟨_, rfl, ?_⟩))
   (try simp only [Act.put, List.setIfInBounds_toArray, List.set_cons_zero, List.set_cons_succ])
   go_cut [29] (fun v29 wc => ∃ (kq : Nat) (x29_7 : Bool), v29 = .bool x29_7 ∧ Aside0 (gimbalref02_Test.j0 kq a0 x29_7 t488 t489 t490 t491 = some (r1, r2, r3, r4)) ∧ Aside0 (kq ≤ k) ∧ Aside0 (wc.heap[gb484]? = some (.cells #[.int .i64 t488, .int .i64 t489] 23 (0, 0))) ∧ Aside0 (wc.heap[gb485]? = some (.cells #[.int .i64 t490, .int .i64 t491] 23 (0, 0))) ∧ Aside0 (wc.heap[gb486]? = some (.cells #[.int .i64 0, .int .i64 0] 23 (0, 0))) ∧ Aside0 (wc.heap[gb487]? = some (.cells #[.int .i64 0, .int .i64 0] 23 (0, 0))) ∧ Aside0 (Below w.heap.size w wc))
   case first =>
    have H := HC8.out
    clear HC8
    replace H := Option.bind_eq_some_iff.mp H
    obtain ⟨t493, A240, H⟩ := H
    replace H : (if t493 = true then (gimbalref02_Test.j0 k a0 true t488 t489 t490 t491) else ((gimbalref02_None.f t490 t491).bind fun t494 => (if t494 = true then (gimbalref02_Test.j0 k a0 true t488 t489 t490 t491) else ((gimbalref02_pair.f k a0 t488 t489 t490 t491).bind fun t495 => (gimbalref02_Test.j0 k a0 (!t495) t488 t489 t490 t491))))) = some (r1, r2, r3, r4) := H
    have A24 := Aside0.mk A240
    clear A240
    by_cases c25 : t493 = true
    ·
     subst c25
     have H1 : (gimbalref02_Test.j0 k a0 true t488 t489 t490 t491) = some (r1, r2, r3, r4) := by rw [if_pos rfl] at H; exact H
     clear H
     have H := H1
     clear H1
     have H' := Aside0.mk H
     clear H
     have hnb26 := NB484_485.out
     have hnc26 := NB485_484.out
     have hnb27 := NB484_486.out
     have hnc27 := NB486_484.out
     have hnb28 := NB484_487.out
     have hnc28 := NB487_484.out
     have hcz29_0 : w22.cell? ⟨gb484, 0, none⟩ = some (.int .i64 t488) := (blk_cell BK484.out 0).trans rfl
     have hcz29_1 : w22.cell? ⟨gb484, 1, none⟩ = some (.int .i64 t489) := (blk_cell BK484.out 1).trans rfl
     have hfz29_0 := blk_frozen BK484.out 0
     have hfz29_1 := blk_frozen BK484.out 1
     go_wp2_with (first | ((with_reducible refine gate_callee (f := 61) rfl ?_); refine goesL_ (some 18) rfl rfl Try.func61 (by kernel_rfl) rfl #[.agg #[.int .i64 t488, .int .i64 t489]] rfl (by (try simp only [List.map_toArray, List.map_cons, List.map_nil]); first | done | rfl | (simp only [List.length_drop, List.length_take]; rfl)) ?_; (with_reducible refine (gimbalref02_None.calls t488 t489 true _ A24.out).mono ?_); rintro e w30 ⟨rfl, hb⟩; refine ⟨_, rfl, ?_⟩; have n0_ := Aside0.mk (blk_below (g := gb484) (o := .cells #[.int .i64 t488, .int .i64 t489] 23 (0, 0)) (by (with_reducible repeat (first | refine blk_drewN ?_ _ | refine blk_drew ?_ | refine blk_alloc ?_ _)); refine blk_far ?_ NB484_485.out _; (with_reducible repeat (first | refine blk_drewN ?_ _ | refine blk_drew ?_ | refine blk_alloc ?_ _)); refine blk_far ?_ NB484_485.out _; (with_reducible repeat (first | refine blk_drewN ?_ _ | refine blk_drew ?_ | refine blk_alloc ?_ _)); exact BK484.out) hb); have n1_ := Aside0.mk (blk_below (g := gb485) (o := .cells #[.int .i64 t490, .int .i64 t491] 23 (0, 0)) (by (with_reducible repeat (first | refine blk_drewN ?_ _ | refine blk_drew ?_ | refine blk_alloc ?_ _)); refine blk_put (cs := #[.int .i64 t490, .int .i64 a2_1]) ?_ 1 _ (by first | rfl | (subst_vars; rfl)); (with_reducible repeat (first | refine blk_drewN ?_ _ | refine blk_drew ?_ | refine blk_alloc ?_ _)); refine blk_put (cs := #[.int .i64 a2_0, .int .i64 a2_1]) ?_ 0 _ (by first | rfl | (subst_vars; rfl)); (with_reducible repeat (first | refine blk_drewN ?_ _ | refine blk_drew ?_ | refine blk_alloc ?_ _)); exact BK485.out) hb); have n2_ := Aside0.mk (blk_below (g := gb486) (o := .cells #[.int .i64 0, .int .i64 0] 23 (0, 0)) (by (with_reducible repeat (first | refine blk_drewN ?_ _ | refine blk_drew ?_ | refine blk_alloc ?_ _)); refine blk_far ?_ NB486_485.out _; (with_reducible repeat (first | refine blk_drewN ?_ _ | refine blk_drew ?_ | refine blk_alloc ?_ _)); refine blk_far ?_ NB486_485.out _; (with_reducible repeat (first | refine blk_drewN ?_ _ | refine blk_drew ?_ | refine blk_alloc ?_ _)); exact BK486.out) hb); have n3_ := Aside0.mk (blk_below (g := gb487) (o := .cells #[.int .i64 0, .int .i64 0] 23 (0, 0)) (by (with_reducible repeat (first | refine blk_drewN ?_ _ | refine blk_drew ?_ | refine blk_alloc ?_ _)); refine blk_far ?_ NB487_485.out _; (with_reducible repeat (first | refine blk_drewN ?_ _ | refine blk_drew ?_ | refine blk_alloc ?_ _)); refine blk_far ?_ NB487_485.out _; (with_reducible repeat (first | refine blk_drewN ?_ _ | refine blk_drew ?_ | refine blk_alloc ?_ _)); exact BK487.out) hb); have n4_ := Aside0.mk (below_step (by repeat (first | (with_reducible first | exact HB.out | apply below_alloc | apply pw_below_drewN | apply below_drew1 | refine below_set ?_ GE484.out | refine below_set ?_ GE485.out | refine below_set ?_ GE486.out | refine below_set ?_ GE487.out) | exact HB.out)) hb); clear BK484; clear BK485; clear BK486; clear BK487; clear HB; have BK484 := n0_; have BK485 := n1_; have BK486 := n2_; have BK487 := n3_; have HB := n4_; clear n0_ n1_ n2_ n3_ n4_; (try clear hb); (try clear hb2); (try clear hk); (try clear hi)))
     go_meet
     case rel => exact ⟨_, (true), (by first | rfl | (simp; done) | (simp [*]; done)), H', ⟨by first | omega | exact Nat.le_refl _⟩, ⟨by (with_reducible repeat (first | refine blk_drewN ?_ _ | refine blk_drew ?_ | refine blk_alloc ?_ _)); exact BK484.out⟩, ⟨by (with_reducible repeat (first | refine blk_drewN ?_ _ | refine blk_drew ?_ | refine blk_alloc ?_ _)); exact BK485.out⟩, ⟨by (with_reducible repeat (first | refine blk_drewN ?_ _ | refine blk_drew ?_ | refine blk_alloc ?_ _)); exact BK486.out⟩, ⟨by (with_reducible repeat (first | refine blk_drewN ?_ _ | refine blk_drew ?_ | refine blk_alloc ?_ _)); exact BK487.out⟩, ⟨by repeat (first | (with_reducible first | exact HB.out | apply below_alloc | apply pw_below_drewN | apply below_drew1 | refine below_set ?_ GE484.out | refine below_set ?_ GE485.out | refine below_set ?_ GE486.out | refine below_set ?_ GE487.out) | exact HB.out)⟩⟩
    ·
     replace c25 := Bool.eq_false_iff.mpr c25
     subst c25
     have H1 : ((gimbalref02_None.f t490 t491).bind fun t494 => (if t494 = true then (gimbalref02_Test.j0 k a0 true t488 t489 t490 t491) else ((gimbalref02_pair.f k a0 t488 t489 t490 t491).bind fun t495 => (gimbalref02_Test.j0 k a0 (!t495) t488 t489 t490 t491)))) = some (r1, r2, r3, r4) := by rw [if_neg (show ¬ (false = true) by decide)] at H; exact H
     clear H
     have H := H1
     clear H1
     replace H := Option.bind_eq_some_iff.mp H
     obtain ⟨t494, A310, H⟩ := H
     replace H : (if t494 = true then (gimbalref02_Test.j0 k a0 true t488 t489 t490 t491) else ((gimbalref02_pair.f k a0 t488 t489 t490 t491).bind fun t495 => (gimbalref02_Test.j0 k a0 (!t495) t488 t489 t490 t491))) = some (r1, r2, r3, r4) := H
     have A31 := Aside0.mk A310
     clear A310
     by_cases c32 : t494 = true
     ·
      subst c32
      have H1 : (gimbalref02_Test.j0 k a0 true t488 t489 t490 t491) = some (r1, r2, r3, r4) := by rw [if_pos rfl] at H; exact H
      clear H
      have H := H1
      clear H1
      have H' := Aside0.mk H
      clear H
      have hnb33 := NB484_485.out
      have hnc33 := NB485_484.out
      have hnb34 := NB484_486.out
      have hnc34 := NB486_484.out
      have hnb35 := NB484_487.out
      have hnc35 := NB487_484.out
      have hcz36_0 : w22.cell? ⟨gb484, 0, none⟩ = some (.int .i64 t488) := (blk_cell BK484.out 0).trans rfl
      have hcz36_1 : w22.cell? ⟨gb484, 1, none⟩ = some (.int .i64 t489) := (blk_cell BK484.out 1).trans rfl
      have hfz36_0 := blk_frozen BK484.out 0
      have hfz36_1 := blk_frozen BK484.out 1
      go_wp2_with (first | ((with_reducible refine gate_callee (f := 61) rfl ?_); refine goesL_ (some 18) rfl rfl Try.func61 (by kernel_rfl) rfl #[.agg #[.int .i64 t488, .int .i64 t489]] rfl (by (try simp only [List.map_toArray, List.map_cons, List.map_nil]); first | done | rfl | (simp only [List.length_drop, List.length_take]; rfl)) ?_; (with_reducible refine (gimbalref02_None.calls t488 t489 false _ A24.out).mono ?_); rintro e w37 ⟨rfl, hb⟩; refine ⟨_, rfl, ?_⟩; have n0_ := Aside0.mk (blk_below (g := gb484) (o := .cells #[.int .i64 t488, .int .i64 t489] 23 (0, 0)) (by (with_reducible repeat (first | refine blk_drewN ?_ _ | refine blk_drew ?_ | refine blk_alloc ?_ _)); refine blk_far ?_ NB484_485.out _; (with_reducible repeat (first | refine blk_drewN ?_ _ | refine blk_drew ?_ | refine blk_alloc ?_ _)); refine blk_far ?_ NB484_485.out _; (with_reducible repeat (first | refine blk_drewN ?_ _ | refine blk_drew ?_ | refine blk_alloc ?_ _)); exact BK484.out) hb); have n1_ := Aside0.mk (blk_below (g := gb485) (o := .cells #[.int .i64 t490, .int .i64 t491] 23 (0, 0)) (by (with_reducible repeat (first | refine blk_drewN ?_ _ | refine blk_drew ?_ | refine blk_alloc ?_ _)); refine blk_put (cs := #[.int .i64 t490, .int .i64 a2_1]) ?_ 1 _ (by first | rfl | (subst_vars; rfl)); (with_reducible repeat (first | refine blk_drewN ?_ _ | refine blk_drew ?_ | refine blk_alloc ?_ _)); refine blk_put (cs := #[.int .i64 a2_0, .int .i64 a2_1]) ?_ 0 _ (by first | rfl | (subst_vars; rfl)); (with_reducible repeat (first | refine blk_drewN ?_ _ | refine blk_drew ?_ | refine blk_alloc ?_ _)); exact BK485.out) hb); have n2_ := Aside0.mk (blk_below (g := gb486) (o := .cells #[.int .i64 0, .int .i64 0] 23 (0, 0)) (by (with_reducible repeat (first | refine blk_drewN ?_ _ | refine blk_drew ?_ | refine blk_alloc ?_ _)); refine blk_far ?_ NB486_485.out _; (with_reducible repeat (first | refine blk_drewN ?_ _ | refine blk_drew ?_ | refine blk_alloc ?_ _)); refine blk_far ?_ NB486_485.out _; (with_reducible repeat (first | refine blk_drewN ?_ _ | refine blk_drew ?_ | refine blk_alloc ?_ _)); exact BK486.out) hb); have n3_ := Aside0.mk (blk_below (g := gb487) (o := .cells #[.int .i64 0, .int .i64 0] 23 (0, 0)) (by (with_reducible repeat (first | refine blk_drewN ?_ _ | refine blk_drew ?_ | refine blk_alloc ?_ _)); refine blk_far ?_ NB487_485.out _; (with_reducible repeat (first | refine blk_drewN ?_ _ | refine blk_drew ?_ | refine blk_alloc ?_ _)); refine blk_far ?_ NB487_485.out _; (with_reducible repeat (first | refine blk_drewN ?_ _ | refine blk_drew ?_ | refine blk_alloc ?_ _)); exact BK487.out) hb); have n4_ := Aside0.mk (below_step (by repeat (first | (with_reducible first | exact HB.out | apply below_alloc | apply pw_below_drewN | apply below_drew1 | refine below_set ?_ GE484.out | refine below_set ?_ GE485.out | refine below_set ?_ GE486.out | refine below_set ?_ GE487.out) | exact HB.out)) hb); clear BK484; clear BK485; clear BK486; clear BK487; clear HB; have BK484 := n0_; have BK485 := n1_; have BK486 := n2_; have BK487 := n3_; have HB := n4_; clear n0_ n1_ n2_ n3_ n4_; (try clear hb); (try clear hb2); (try clear hk); (try clear hi); have hnb38 := NB485_486.out; have hnc38 := NB486_485.out; have hnb39 := NB485_487.out; have hnc39 := NB487_485.out; have hcz40_0 : w37.cell? ⟨gb485, 0, none⟩ = some (.int .i64 t490) := (blk_cell BK485.out 0).trans rfl; have hcz40_1 : w37.cell? ⟨gb485, 1, none⟩ = some (.int .i64 t491) := (blk_cell BK485.out 1).trans rfl; have hfz40_0 := blk_frozen BK485.out 0; have hfz40_1 := blk_frozen BK485.out 1) | (go_at_call 61; (with_reducible refine (gimbalref02_None.calls t490 t491 true _ A31.out).mono ?_); rintro e w41 ⟨rfl, hb⟩; have n0_ := Aside0.mk (below_step (by repeat (first | (with_reducible first | exact HB.out | apply below_alloc | apply pw_below_drewN | apply below_drew1 | refine below_set ?_ GE484.out | refine below_set ?_ GE485.out | refine below_set ?_ GE486.out | refine below_set ?_ GE487.out) | exact HB.out)) hb); replace BK484 := bbw BK484 hb; replace BK485 := bbw BK485 hb; replace BK486 := bbw BK486 hb; replace BK487 := bbw BK487 hb; clear HB; have HB := n0_; clear n0_; (try clear hb); (try clear hb2); (try clear hk); (try clear hi)))
      go_meet
      case rel => exact ⟨_, (true), (by first | rfl | (simp; done) | (simp [*]; done)), H', ⟨by first | omega | exact Nat.le_refl _⟩, ⟨by (with_reducible repeat (first | refine blk_drewN ?_ _ | refine blk_drew ?_ | refine blk_alloc ?_ _)); exact BK484.out⟩, ⟨by (with_reducible repeat (first | refine blk_drewN ?_ _ | refine blk_drew ?_ | refine blk_alloc ?_ _)); exact BK485.out⟩, ⟨by (with_reducible repeat (first | refine blk_drewN ?_ _ | refine blk_drew ?_ | refine blk_alloc ?_ _)); exact BK486.out⟩, ⟨by (with_reducible repeat (first | refine blk_drewN ?_ _ | refine blk_drew ?_ | refine blk_alloc ?_ _)); exact BK487.out⟩, ⟨by repeat (first | (with_reducible first | exact HB.out | apply below_alloc | apply pw_below_drewN | apply below_drew1 | refine below_set ?_ GE484.out | refine below_set ?_ GE485.out | refine below_set ?_ GE486.out | refine below_set ?_ GE487.out) | exact HB.out)⟩⟩
     ·
      replace c32 := Bool.eq_false_iff.mpr c32
      subst c32
      have H1 : ((gimbalref02_pair.f k a0 t488 t489 t490 t491).bind fun t495 => (gimbalref02_Test.j0 k a0 (!t495) t488 t489 t490 t491)) = some (r1, r2, r3, r4) := by rw [if_neg (show ¬ (false = true) by decide)] at H; exact H
      clear H
      have H := H1
      clear H1
      replace H := Option.bind_eq_some_iff.mp H
      obtain ⟨t495, A420, H⟩ := H
      replace H : (gimbalref02_Test.j0 k a0 (!t495) t488 t489 t490 t491) = some (r1, r2, r3, r4) := H
      have A42 := Aside0.mk A420
      clear A420
      have H' := Aside0.mk H
      clear H
      have hnb43 := NB484_485.out
      have hnc43 := NB485_484.out
      have hnb44 := NB484_486.out
      have hnc44 := NB486_484.out
      have hnb45 := NB484_487.out
      have hnc45 := NB487_484.out
      have hcz46_0 : w22.cell? ⟨gb484, 0, none⟩ = some (.int .i64 t488) := (blk_cell BK484.out 0).trans rfl
      have hcz46_1 : w22.cell? ⟨gb484, 1, none⟩ = some (.int .i64 t489) := (blk_cell BK484.out 1).trans rfl
      have hfz46_0 := blk_frozen BK484.out 0
      have hfz46_1 := blk_frozen BK484.out 1
      go_wp2_with (first | ((with_reducible refine gate_callee (f := 61) rfl ?_); refine goesL_ (some 18) rfl rfl Try.func61 (by kernel_rfl) rfl #[.agg #[.int .i64 t488, .int .i64 t489]] rfl (by (try simp only [List.map_toArray, List.map_cons, List.map_nil]); first | done | rfl | (simp only [List.length_drop, List.length_take]; rfl)) ?_; (with_reducible refine (gimbalref02_None.calls t488 t489 false _ A24.out).mono ?_); rintro e w47 ⟨rfl, hb⟩; refine ⟨_, rfl, ?_⟩; have n0_ := Aside0.mk (blk_below (g := gb484) (o := .cells #[.int .i64 t488, .int .i64 t489] 23 (0, 0)) (by (with_reducible repeat (first | refine blk_drewN ?_ _ | refine blk_drew ?_ | refine blk_alloc ?_ _)); refine blk_far ?_ NB484_485.out _; (with_reducible repeat (first | refine blk_drewN ?_ _ | refine blk_drew ?_ | refine blk_alloc ?_ _)); refine blk_far ?_ NB484_485.out _; (with_reducible repeat (first | refine blk_drewN ?_ _ | refine blk_drew ?_ | refine blk_alloc ?_ _)); exact BK484.out) hb); have n1_ := Aside0.mk (blk_below (g := gb485) (o := .cells #[.int .i64 t490, .int .i64 t491] 23 (0, 0)) (by (with_reducible repeat (first | refine blk_drewN ?_ _ | refine blk_drew ?_ | refine blk_alloc ?_ _)); refine blk_put (cs := #[.int .i64 t490, .int .i64 a2_1]) ?_ 1 _ (by first | rfl | (subst_vars; rfl)); (with_reducible repeat (first | refine blk_drewN ?_ _ | refine blk_drew ?_ | refine blk_alloc ?_ _)); refine blk_put (cs := #[.int .i64 a2_0, .int .i64 a2_1]) ?_ 0 _ (by first | rfl | (subst_vars; rfl)); (with_reducible repeat (first | refine blk_drewN ?_ _ | refine blk_drew ?_ | refine blk_alloc ?_ _)); exact BK485.out) hb); have n2_ := Aside0.mk (blk_below (g := gb486) (o := .cells #[.int .i64 0, .int .i64 0] 23 (0, 0)) (by (with_reducible repeat (first | refine blk_drewN ?_ _ | refine blk_drew ?_ | refine blk_alloc ?_ _)); refine blk_far ?_ NB486_485.out _; (with_reducible repeat (first | refine blk_drewN ?_ _ | refine blk_drew ?_ | refine blk_alloc ?_ _)); refine blk_far ?_ NB486_485.out _; (with_reducible repeat (first | refine blk_drewN ?_ _ | refine blk_drew ?_ | refine blk_alloc ?_ _)); exact BK486.out) hb); have n3_ := Aside0.mk (blk_below (g := gb487) (o := .cells #[.int .i64 0, .int .i64 0] 23 (0, 0)) (by (with_reducible repeat (first | refine blk_drewN ?_ _ | refine blk_drew ?_ | refine blk_alloc ?_ _)); refine blk_far ?_ NB487_485.out _; (with_reducible repeat (first | refine blk_drewN ?_ _ | refine blk_drew ?_ | refine blk_alloc ?_ _)); refine blk_far ?_ NB487_485.out _; (with_reducible repeat (first | refine blk_drewN ?_ _ | refine blk_drew ?_ | refine blk_alloc ?_ _)); exact BK487.out) hb); have n4_ := Aside0.mk (below_step (by repeat (first | (with_reducible first | exact HB.out | apply below_alloc | apply pw_below_drewN | apply below_drew1 | refine below_set ?_ GE484.out | refine below_set ?_ GE485.out | refine below_set ?_ GE486.out | refine below_set ?_ GE487.out) | exact HB.out)) hb); clear BK484; clear BK485; clear BK486; clear BK487; clear HB; have BK484 := n0_; have BK485 := n1_; have BK486 := n2_; have BK487 := n3_; have HB := n4_; clear n0_ n1_ n2_ n3_ n4_; (try clear hb); (try clear hb2); (try clear hk); (try clear hi); have hnb48 := NB485_486.out; have hnc48 := NB486_485.out; have hnb49 := NB485_487.out; have hnc49 := NB487_485.out; have hcz50_0 : w47.cell? ⟨gb485, 0, none⟩ = some (.int .i64 t490) := (blk_cell BK485.out 0).trans rfl; have hcz50_1 : w47.cell? ⟨gb485, 1, none⟩ = some (.int .i64 t491) := (blk_cell BK485.out 1).trans rfl; have hfz50_0 := blk_frozen BK485.out 0; have hfz50_1 := blk_frozen BK485.out 1) | (go_at_call 61; (with_reducible refine (gimbalref02_None.calls t490 t491 false _ A31.out).mono ?_); rintro e w51 ⟨rfl, hb⟩; have n0_ := Aside0.mk (below_step (by repeat (first | (with_reducible first | exact HB.out | apply below_alloc | apply pw_below_drewN | apply below_drew1 | refine below_set ?_ GE484.out | refine below_set ?_ GE485.out | refine below_set ?_ GE486.out | refine below_set ?_ GE487.out) | exact HB.out)) hb); replace BK484 := bbw BK484 hb; replace BK485 := bbw BK485 hb; replace BK486 := bbw BK486 hb; replace BK487 := bbw BK487 hb; clear HB; have HB := n0_; clear n0_; (try clear hb); (try clear hb2); (try clear hk); (try clear hi); have hcz52_0 : w51.cell? ⟨gb484, 0, none⟩ = some (.int .i64 t488) := (blk_cell BK484.out 0).trans rfl; have hcz52_1 : w51.cell? ⟨gb484, 1, none⟩ = some (.int .i64 t489) := (blk_cell BK484.out 1).trans rfl; have hfz52_0 := blk_frozen BK484.out 0; have hfz52_1 := blk_frozen BK484.out 1; have hcz53_0 : w51.cell? ⟨gb485, 0, none⟩ = some (.int .i64 t490) := (blk_cell BK485.out 0).trans rfl; have hcz53_1 : w51.cell? ⟨gb485, 1, none⟩ = some (.int .i64 t491) := (blk_cell BK485.out 1).trans rfl; have hfz53_0 := blk_frozen BK485.out 0; have hfz53_1 := blk_frozen BK485.out 1) | (go_at_call 68; (with_reducible refine (gimbalref02_pair.calls k a0 t488 t489 t490 t491 t495 _ A42.out).mono ?_); rintro e w54 ⟨rfl, hb⟩; have n0_ := Aside0.mk (below_step (by repeat (first | (with_reducible first | exact HB.out | apply below_alloc | apply pw_below_drewN | apply below_drew1 | refine below_set ?_ GE484.out | refine below_set ?_ GE485.out | refine below_set ?_ GE486.out | refine below_set ?_ GE487.out) | exact HB.out)) hb); replace BK484 := bbw BK484 hb; replace BK485 := bbw BK485 hb; replace BK486 := bbw BK486 hb; replace BK487 := bbw BK487 hb; clear HB; have HB := n0_; clear n0_; (try clear hb); (try clear hb2); (try clear hk); (try clear hi)))
      go_meet
      case rel => exact ⟨_, (!t495), (by first | rfl | (simp; done) | (simp [*]; done)), H', ⟨by first | omega | exact Nat.le_refl _⟩, ⟨by (with_reducible repeat (first | refine blk_drewN ?_ _ | refine blk_drew ?_ | refine blk_alloc ?_ _)); exact BK484.out⟩, ⟨by (with_reducible repeat (first | refine blk_drewN ?_ _ | refine blk_drew ?_ | refine blk_alloc ?_ _)); exact BK485.out⟩, ⟨by (with_reducible repeat (first | refine blk_drewN ?_ _ | refine blk_drew ?_ | refine blk_alloc ?_ _)); exact BK486.out⟩, ⟨by (with_reducible repeat (first | refine blk_drewN ?_ _ | refine blk_drew ?_ | refine blk_alloc ?_ _)); exact BK487.out⟩, ⟨by repeat (first | (with_reducible first | exact HB.out | apply below_alloc | apply pw_below_drewN | apply below_drew1 | refine below_set ?_ GE484.out | refine below_set ?_ GE485.out | refine below_set ?_ GE486.out | refine below_set ?_ GE487.out) | exact HB.out)⟩⟩
   case rest =>
    clear HC8
    try clear c1
    try clear c2
    try clear p2
    try clear c3
    try clear c4
    try clear c6
    try clear c7
    try clear c13
    try clear c14
    try clear c15
    try clear c19
    try clear c20
    try clear c25
    try clear c26
    try clear c27
    try clear c28
    try clear c32
    try clear c33
    try clear c34
    try clear c35
    try clear c37
    try clear c38
    try clear c39
    try clear c43
    try clear c44
    try clear c45
    try clear c48
    try clear c49
    try clear hcz16_0
    try clear hcz16_1
    try clear hcz18_0
    try clear hcz18_1
    try clear hcz21_0
    try clear hcz21_1
    try clear hcz23_0
    try clear hcz23_1
    try clear hcz29_0
    try clear hcz29_1
    try clear hcz36_0
    try clear hcz36_1
    try clear hcz40_0
    try clear hcz40_1
    try clear hcz46_0
    try clear hcz46_1
    try clear hcz50_0
    try clear hcz50_1
    try clear hcz52_0
    try clear hcz52_1
    try clear hcz53_0
    try clear hcz53_1
    try clear hfz16_0
    try clear hfz16_1
    try clear hfz18_0
    try clear hfz18_1
    try clear hfz21_0
    try clear hfz21_1
    try clear hfz23_0
    try clear hfz23_1
    try clear hfz29_0
    try clear hfz29_1
    try clear hfz36_0
    try clear hfz36_1
    try clear hfz40_0
    try clear hfz40_1
    try clear hfz46_0
    try clear hfz46_1
    try clear hfz50_0
    try clear hfz50_1
    try clear hfz52_0
    try clear hfz52_1
    try clear hfz53_0
    try clear hfz53_1
    obtain ⟨kq, x29_7, rfl, HA, HJ7, BK484, BK485, BK486, BK487, HB⟩ := hcut
    cases kq with
    | zero => exact absurd HA.out (by simp [gimbalref02_Test.j0])
    | succ kj7 =>
     have H := HA.out
     clear HA
     simp only [gimbalref02_Test.j0] at H
     by_cases c55 : x29_7 = true
     ·
      subst c55
      have H1 : ((gimbalref02_Empty.f).bind fun bt496 => ((gimbalref02_Empty.f).bind fun bt498 => (some (bt496.1, bt496.2, bt498.1, bt498.2)))) = some (r1, r2, r3, r4) := by rw [if_pos rfl] at H; exact H
      clear H
      have H := H1
      clear H1
      replace H := Option.bind_eq_some_iff.mp H
      obtain ⟨⟨t496, t497⟩, A560, H⟩ := H
      replace H : ((gimbalref02_Empty.f).bind fun bt498 => (some (t496, t497, bt498.1, bt498.2))) = some (r1, r2, r3, r4) := H
      have A56 := Aside0.mk A560
      clear A560
      replace H := Option.bind_eq_some_iff.mp H
      obtain ⟨⟨t498, t499⟩, A570, H⟩ := H
      replace H : (some (t496, t497, t498, t499)) = some (r1, r2, r3, r4) := H
      have A57 := Aside0.mk A570
      clear A570
      simp only [Option.some.injEq, Prod.mk.injEq] at H
      obtain ⟨rfl, rfl, rfl, rfl⟩ := H
      go_wp2_with (first | ((with_reducible refine gate_callee (f := 16) rfl ?_); refine goesL_ (some 30) rfl rfl Try.func16 (by kernel_rfl) rfl #[] rfl (by (try simp only [List.map_toArray, List.map_cons, List.map_nil]); first | done | rfl | (simp only [List.length_drop, List.length_take]; rfl)) ?_; (with_reducible refine (gimbalref02_Empty.calls  t496 t497 _ A56.out).mono ?_); rintro e w58 ⟨rfl, hb⟩; refine ⟨_, rfl, ?_⟩; have n0_ := Aside0.mk (below_step (by repeat (first | (with_reducible first | exact HB.out | apply below_alloc | apply pw_below_drewN | apply below_drew1 | refine below_set ?_ GE484.out | refine below_set ?_ GE485.out | refine below_set ?_ GE486.out | refine below_set ?_ GE487.out) | exact HB.out)) hb); replace BK484 := bbw BK484 hb; replace BK485 := bbw BK485 hb; replace BK486 := bbw BK486 hb; replace BK487 := bbw BK487 hb; clear HB; have HB := n0_; clear n0_; (try clear hb); (try clear hb2); (try clear hk); (try clear hi)) | ((with_reducible refine gate_callee (f := 16) rfl ?_); refine goesL_ (some 31) rfl rfl Try.func16 (by kernel_rfl) rfl #[] rfl (by (try simp only [List.map_toArray, List.map_cons, List.map_nil]); first | done | rfl | (simp only [List.length_drop, List.length_take]; rfl)) ?_; (with_reducible refine (gimbalref02_Empty.calls  t498 t499 _ A57.out).mono ?_); rintro e w59 ⟨rfl, hb⟩; refine ⟨_, rfl, ?_⟩; have n0_ := Aside0.mk (below_step (by repeat (first | (with_reducible first | exact HB.out | apply below_alloc | apply pw_below_drewN | apply below_drew1 | refine below_set ?_ GE484.out | refine below_set ?_ GE485.out | refine below_set ?_ GE486.out | refine below_set ?_ GE487.out) | exact HB.out)) hb); replace BK484 := bbw BK484 hb; replace BK485 := bbw BK485 hb; replace BK486 := bbw BK486 hb; replace BK487 := bbw BK487 hb; clear HB; have HB := n0_; clear n0_; (try clear hb); (try clear hb2); (try clear hk); (try clear hi); have hnb60 := NB486_484.out; have hnc60 := NB484_486.out; have hnb61 := NB486_485.out; have hnc61 := NB485_486.out; have hnb62 := NB486_487.out; have hnc62 := NB487_486.out; have hcz63_0 : w59.cell? ⟨gb486, 0, none⟩ = some (.int .i64 0) := (blk_cell BK486.out 0).trans rfl; have hcz63_1 : w59.cell? ⟨gb486, 1, none⟩ = some (.int .i64 0) := (blk_cell BK486.out 1).trans rfl; have hfz63_0 := blk_frozen BK486.out 0; have hfz63_1 := blk_frozen BK486.out 1; have hnb64 := NB487_484.out; have hnc64 := NB484_487.out; have hnb65 := NB487_485.out; have hnc65 := NB485_487.out; have hcz66_0 : w59.cell? ⟨gb487, 0, none⟩ = some (.int .i64 0) := (blk_cell BK487.out 0).trans rfl; have hcz66_1 : w59.cell? ⟨gb487, 1, none⟩ = some (.int .i64 0) := (blk_cell BK487.out 1).trans rfl; have hfz66_0 := blk_frozen BK487.out 0; have hfz66_1 := blk_frozen BK487.out 1))
      refine bodyPost_ret (results_cc rfl _ _ gb486 gb487 23 23 #[.int .i64 t496, .int .i64 t497] #[.int .i64 t498, .int .i64 t499] (0, 0) (0, 0) _ _ rfl (by (with_reducible repeat (first | refine blk_drewN ?_ _ | refine blk_drew ?_ | refine blk_alloc ?_ _)); refine blk_far ?_ NB486_487.out _; (with_reducible repeat (first | refine blk_drewN ?_ _ | refine blk_drew ?_ | refine blk_alloc ?_ _)); refine blk_far ?_ NB486_487.out _; (with_reducible repeat (first | refine blk_drewN ?_ _ | refine blk_drew ?_ | refine blk_alloc ?_ _)); refine blk_put (cs := #[.int .i64 t496, .int .i64 0]) ?_ 1 _ (by first | rfl | (subst_vars; rfl)); (with_reducible repeat (first | refine blk_drewN ?_ _ | refine blk_drew ?_ | refine blk_alloc ?_ _)); refine blk_put (cs := #[.int .i64 0, .int .i64 0]) ?_ 0 _ (by first | rfl | (subst_vars; rfl)); (with_reducible repeat (first | refine blk_drewN ?_ _ | refine blk_drew ?_ | refine blk_alloc ?_ _)); exact BK486.out) Try.underlying23 rfl (by kernel_rfl) rfl (by (with_reducible repeat (first | refine blk_drewN ?_ _ | refine blk_drew ?_ | refine blk_alloc ?_ _)); refine blk_put (cs := #[.int .i64 t498, .int .i64 0]) ?_ 1 _ (by first | rfl | (subst_vars; rfl)); (with_reducible repeat (first | refine blk_drewN ?_ _ | refine blk_drew ?_ | refine blk_alloc ?_ _)); refine blk_put (cs := #[.int .i64 0, .int .i64 0]) ?_ 0 _ (by first | rfl | (subst_vars; rfl)); (with_reducible repeat (first | refine blk_drewN ?_ _ | refine blk_drew ?_ | refine blk_alloc ?_ _)); refine blk_far ?_ NB487_486.out _; (with_reducible repeat (first | refine blk_drewN ?_ _ | refine blk_drew ?_ | refine blk_alloc ?_ _)); refine blk_far ?_ NB487_486.out _; (with_reducible repeat (first | refine blk_drewN ?_ _ | refine blk_drew ?_ | refine blk_alloc ?_ _)); exact BK487.out) Try.underlying23 rfl (by kernel_rfl)) rfl ?_
      exact ⟨by first | rfl | (simp [errW_none, errW_some] <;> rfl) | (simp [*, errW_none, errW_some] <;> rfl) | kernel_rfl, by repeat (first | (with_reducible first | exact HB.out | apply below_alloc | apply pw_below_drewN | apply below_drew1 | refine below_set ?_ GE484.out | refine below_set ?_ GE485.out | refine below_set ?_ GE486.out | refine below_set ?_ GE487.out) | exact HB.out)⟩
     ·
      replace c55 := Bool.eq_false_iff.mpr c55
      subst c55
      have H1 : (if a0 = 14 then ((gimbalref02_Meet.f kj7 t488 t489 t490 t491).bind fun bt500 => ((gimbalref02_Meet.f kj7 t488 t489 t490 t491).bind fun bt502 => (some (bt500.1, bt500.2, bt502.1, bt502.2)))) else (if a0 = 15 then ((gimbalref02_without.f kj7 t488 t489 t490 t491).bind fun bt504 => ((gimbalref02_without.f kj7 t490 t491 t488 t489).bind fun bt506 => (some (bt504.1, bt504.2, bt506.1, bt506.2)))) else (if a0 = 16 then ((gimbalref02_below.f kj7 t488 t489 t490 t491 1).bind fun bt508 => ((gimbalref02_above.f kj7 t490 t491 t488 t489 1).bind fun bt510 => (some (bt508.1, bt508.2, bt510.1, bt510.2)))) else (if a0 = 17 then ((gimbalref02_below.f kj7 t488 t489 t490 t491 0).bind fun bt512 => ((gimbalref02_above.f kj7 t490 t491 t488 t489 0).bind fun bt514 => (some (bt512.1, bt512.2, bt514.1, bt514.2)))) else (if a0 = 18 then ((gimbalref02_above.f kj7 t488 t489 t490 t491 1).bind fun bt516 => ((gimbalref02_below.f kj7 t490 t491 t488 t489 1).bind fun bt518 => (some (bt516.1, bt516.2, bt518.1, bt518.2)))) else ((gimbalref02_above.f kj7 t488 t489 t490 t491 0).bind fun bt520 => ((gimbalref02_below.f kj7 t490 t491 t488 t489 0).bind fun bt522 => (some (bt520.1, bt520.2, bt522.1, bt522.2))))))))) = some (r1, r2, r3, r4) := by rw [if_neg (show ¬ (false = true) by decide)] at H; exact H
      clear H
      have H := H1
      clear H1
      by_cases c67 : a0 = 14
      ·
       rw [if_pos c67] at H
       have c67b0 : (a0 == 14) = true := beq_iff_eq.mpr c67
       have c67b1 : (a0 != 14) = false := bne_eq_false_iff_eq.mpr c67
       clear c67
       replace H := Option.bind_eq_some_iff.mp H
       obtain ⟨⟨t500, t501⟩, A680, H⟩ := H
       replace H : ((gimbalref02_Meet.f kj7 t488 t489 t490 t491).bind fun bt502 => (some (t500, t501, bt502.1, bt502.2))) = some (r1, r2, r3, r4) := H
       have A68 := Aside0.mk A680
       clear A680
       replace H := Option.bind_eq_some_iff.mp H
       obtain ⟨⟨t502, t503⟩, A690, H⟩ := H
       replace H : (some (t500, t501, t502, t503)) = some (r1, r2, r3, r4) := H
       have A69 := Aside0.mk A690
       clear A690
       simp only [Option.some.injEq, Prod.mk.injEq] at H
       obtain ⟨rfl, rfl, rfl, rfl⟩ := H
       try go_wp2
       have n0_ := Aside0.mk (blk_drew BK484.out)
       have n1_ := Aside0.mk (blk_drew BK485.out)
       have n2_ := Aside0.mk (blk_drew BK486.out)
       have n3_ := Aside0.mk (blk_drew BK487.out)
       have n4_ := Aside0.mk (below_drew1 HB.out)
       clear BK484
       clear BK485
       clear BK486
       clear BK487
       clear HB
       have BK484 := n0_
       have BK485 := n1_
       have BK486 := n2_
       have BK487 := n3_
       have HB := n4_
       clear n0_ n1_ n2_ n3_ n4_
       refine start_ (n := 8) (S := fun w' => w'.cell? ⟨gb484, 0, none⟩ = some (.int .i64 t488) ∧ w'.cell? ⟨gb484, 1, none⟩ = some (.int .i64 t489) ∧ w'.cell? ⟨gb485, 0, none⟩ = some (.int .i64 t490) ∧ w'.cell? ⟨gb485, 1, none⟩ = some (.int .i64 t491)) (ds := []) #[false, false, false, false, false, false, false, false] (by kernel_rfl) rfl rfl ⟨(blk_cell BK484.out 0).trans rfl, (blk_cell BK484.out 1).trans rfl, (blk_cell BK485.out 0).trans rfl, (blk_cell BK485.out 1).trans rfl⟩ (fun hHeld => ?_); refine with_tabW gimbalref02_Test.tab9 gimbalref02_Test.bits9 (fun HT_ HW_ => ?_)
       generalize wc.drew = w70 at BK484 BK485 BK486 BK487 HB hHeld ⊢
       refine take_ (i := 0) (N := some 35) (v := ?_) (a' := ?_) #[true, false, false, false, false, false, false, false] rfl rfl (take_ofW HT_.out HW_.out (by kernel_rfl)) (fun _ _ _ h => h) (Or.inl ⟨by rfl, ?_⟩) hHeld ?_ ?_
       rotate_left
       ·
        rintro w' ⟨s0, s1, s2, s3⟩
        go_simp
        with_reducible rfl
       rotate_left
       ·
        simp only [Act.put, List.setIfInBounds_toArray, List.set_cons_zero, List.set_cons_succ, i64_w, i32_w]
        rfl
       refine take_ (i := 1) (N := some 36) (v := ?_) (a' := ?_) #[true, true, false, false, false, false, false, false] rfl rfl (take_ofW HT_.out HW_.out (by kernel_rfl)) (fun _ _ _ h => h) (Or.inl ⟨by rfl, ?_⟩) hHeld ?_ ?_
       rotate_left
       ·
        rintro w' ⟨s0, s1, s2, s3⟩
        go_simp
        with_reducible rfl
       rotate_left
       ·
        simp only [Act.put, List.setIfInBounds_toArray, List.set_cons_zero, List.set_cons_succ, i64_w, i32_w]
        rfl
       refine take_ (i := 3) (N := some 38) (v := ?_) (a' := ?_) #[true, true, false, true, false, false, false, false] rfl rfl (take_ofW HT_.out HW_.out (by kernel_rfl)) (fun _ _ _ h => h) (Or.inl ⟨by rfl, ?_⟩) hHeld ?_ ?_
       rotate_left
       ·
        rintro w' ⟨s0, s1, s2, s3⟩
        go_simp
        with_reducible rfl
       rotate_left
       ·
        simp only [Act.put, List.setIfInBounds_toArray, List.set_cons_zero, List.set_cons_succ, i64_w, i32_w]
        rfl
       refine take_ (i := 4) (N := some 39) (v := ?_) (a' := ?_) #[true, true, false, true, true, false, false, false] rfl rfl (take_ofW HT_.out HW_.out (by kernel_rfl)) (fun _ _ _ h => h) (Or.inl ⟨by rfl, ?_⟩) hHeld ?_ ?_
       rotate_left
       ·
        rintro w' ⟨s0, s1, s2, s3⟩
        go_simp
        with_reducible rfl
       rotate_left
       ·
        simp only [Act.put, List.setIfInBounds_toArray, List.set_cons_zero, List.set_cons_succ, i64_w, i32_w]
        rfl
       refine one_ (i := 2) (N := some 37) #[true, true, true, true, true, false, false, false] rfl rfl (one_of HT_.out (by kernel_rfl)) (by decide) (fun K hK => ?_)
       refine goes_ Try.func29 (by kernel_rfl) rfl #[.agg #[.int .i64 t488, .int .i64 t489], .agg #[.int .i64 t490, .int .i64 t491]] (by rfl) rfl rfl (by (try simp only [List.map_toArray, List.map_cons, List.map_nil]); first | done | rfl | (simp only [List.length_drop, List.length_take]; rfl)) ?_
       with_reducible refine (gimbalref02_Meet.calls kj7 t488 t489 t490 t491 t500 t501 _ A68.out).mono ?_
       rintro e w71 ⟨rfl, hb⟩
       refine ⟨_, rfl, ?_⟩
       have n0_ := Aside0.mk (below_step (by repeat (first | (with_reducible first | exact HB.out | apply below_alloc | apply pw_below_drewN | apply below_drew1 | refine below_set ?_ GE484.out | refine below_set ?_ GE485.out | refine below_set ?_ GE486.out | refine below_set ?_ GE487.out) | exact HB.out)) hb)
       replace BK484 := bbw BK484 hb
       replace BK485 := bbw BK485 hb
       replace BK486 := bbw BK486 hb
       replace BK487 := bbw BK487 hb
       clear HB
       have HB := n0_
       clear n0_
       (try clear hb)
       (try clear hb2)
       (try clear hk)
       (try clear hi)
       refine hK.out _ _ ⟨(blk_cell BK484.out 0).trans rfl, (blk_cell BK484.out 1).trans rfl, (blk_cell BK485.out 0).trans rfl, (blk_cell BK485.out 1).trans rfl⟩ (fun hHeld => ?_)
       clear hK K
       refine norm_ (a' := ?_) ?_ ?_
       rotate_left
       ·
        show Act.put _ (some 37) _ = _
        simp only [Act.put, List.setIfInBounds_toArray, List.set_cons_zero, List.set_cons_succ, i64_w, i32_w]
        rfl
       refine one_ (i := 5) (N := some 40) #[true, true, true, true, true, true, false, false] rfl rfl (one_of HT_.out (by kernel_rfl)) (by decide) (fun K hK => ?_)
       refine goes_ Try.func29 (by kernel_rfl) rfl #[.agg #[.int .i64 t488, .int .i64 t489], .agg #[.int .i64 t490, .int .i64 t491]] (by rfl) rfl rfl (by (try simp only [List.map_toArray, List.map_cons, List.map_nil]); first | done | rfl | (simp only [List.length_drop, List.length_take]; rfl)) ?_
       with_reducible refine (gimbalref02_Meet.calls kj7 t488 t489 t490 t491 t502 t503 _ A69.out).mono ?_
       rintro e w72 ⟨rfl, hb⟩
       refine ⟨_, rfl, ?_⟩
       have n0_ := Aside0.mk (below_step (by repeat (first | (with_reducible first | exact HB.out | apply below_alloc | apply pw_below_drewN | apply below_drew1 | refine below_set ?_ GE484.out | refine below_set ?_ GE485.out | refine below_set ?_ GE486.out | refine below_set ?_ GE487.out) | exact HB.out)) hb)
       replace BK484 := bbw BK484 hb
       replace BK485 := bbw BK485 hb
       replace BK486 := bbw BK486 hb
       replace BK487 := bbw BK487 hb
       clear HB
       have HB := n0_
       clear n0_
       (try clear hb)
       (try clear hb2)
       (try clear hk)
       (try clear hi)
       refine hK.out _ _ ⟨(blk_cell BK484.out 0).trans rfl, (blk_cell BK484.out 1).trans rfl, (blk_cell BK485.out 0).trans rfl, (blk_cell BK485.out 1).trans rfl⟩ (fun hHeld => ?_)
       clear hK K
       refine norm_ (a' := ?_) ?_ ?_
       rotate_left
       ·
        show Act.put _ (some 40) _ = _
        simp only [Act.put, List.setIfInBounds_toArray, List.set_cons_zero, List.set_cons_succ, i64_w, i32_w]
        rfl
       refine one_ (i := 6) (N := none) #[true, true, true, true, true, true, true, false] rfl rfl (one_of HT_.out (by kernel_rfl)) (by decide) (fun K hK => ?_)
       have hs73 : w72.cell? ⟨gb486, 0, none⟩ = some (.int .i64 0) := (blk_cell BK486.out 0).trans rfl
       have hfs73 := blk_frozen BK486.out 0
       have hns73_0 := NB484_486.out
       have hns73_1 := NB485_486.out
       have hns73_3 := NB487_486.out
       have hms73_0 := NB486_484.out
       have hms73_1 := NB486_485.out
       have hms73_3 := NB486_487.out
       have hs74 : w72.cell? ⟨gb486, 1, none⟩ = some (.int .i64 0) := (blk_cell BK486.out 1).trans rfl
       have hfs74 := blk_frozen BK486.out 1
       have hns74_0 := NB484_486.out
       have hns74_1 := NB485_486.out
       have hns74_3 := NB487_486.out
       have hms74_0 := NB486_484.out
       have hms74_1 := NB486_485.out
       have hms74_3 := NB486_487.out
       refine skip_ (w1 := ?_) (by rfl) rfl ?_ ?_
       rotate_left
       ·
        go_simp
        rfl
       refine hK.out _ _ ⟨((cell_far (p := ⟨gb486, _, none⟩) NB484_486.out _).trans (((cell_far (p := ⟨gb486, _, none⟩) NB484_486.out _).trans (hHeld.1)))), ((cell_far (p := ⟨gb486, _, none⟩) NB484_486.out _).trans (((cell_far (p := ⟨gb486, _, none⟩) NB484_486.out _).trans (hHeld.2.1)))), ((cell_far (p := ⟨gb486, _, none⟩) NB485_486.out _).trans (((cell_far (p := ⟨gb486, _, none⟩) NB485_486.out _).trans (hHeld.2.2.1)))), ((cell_far (p := ⟨gb486, _, none⟩) NB485_486.out _).trans (((cell_far (p := ⟨gb486, _, none⟩) NB485_486.out _).trans (hHeld.2.2.2))))⟩ (fun hHeld => ?_)
       clear hK K
       refine one_ (i := 7) (N := none) #[true, true, true, true, true, true, true, true] rfl rfl (one_of HT_.out (by kernel_rfl)) (by decide) (fun K hK => ?_)
       have hs75 : w72.cell? ⟨gb487, 0, none⟩ = some (.int .i64 0) := (blk_cell BK487.out 0).trans rfl
       have hfs75 := blk_frozen BK487.out 0
       have hns75_0 := NB484_487.out
       have hns75_1 := NB485_487.out
       have hns75_2 := NB486_487.out
       have hms75_0 := NB487_484.out
       have hms75_1 := NB487_485.out
       have hms75_2 := NB487_486.out
       have hs76 : w72.cell? ⟨gb487, 1, none⟩ = some (.int .i64 0) := (blk_cell BK487.out 1).trans rfl
       have hfs76 := blk_frozen BK487.out 1
       have hns76_0 := NB484_487.out
       have hns76_1 := NB485_487.out
       have hns76_2 := NB486_487.out
       have hms76_0 := NB487_484.out
       have hms76_1 := NB487_485.out
       have hms76_2 := NB487_486.out
       refine skip_ (w1 := ?_) (by rfl) rfl ?_ ?_
       rotate_left
       ·
        go_simp
        rfl
       refine hK.out _ _ ⟨((cell_far (p := ⟨gb487, _, none⟩) NB484_487.out _).trans (((cell_far (p := ⟨gb487, _, none⟩) NB484_487.out _).trans (hHeld.1)))), ((cell_far (p := ⟨gb487, _, none⟩) NB484_487.out _).trans (((cell_far (p := ⟨gb487, _, none⟩) NB484_487.out _).trans (hHeld.2.1)))), ((cell_far (p := ⟨gb487, _, none⟩) NB485_487.out _).trans (((cell_far (p := ⟨gb487, _, none⟩) NB485_487.out _).trans (hHeld.2.2.1)))), ((cell_far (p := ⟨gb487, _, none⟩) NB485_487.out _).trans (((cell_far (p := ⟨gb487, _, none⟩) NB485_487.out _).trans (hHeld.2.2.2))))⟩ (fun hHeld => ?_)
       clear hK K
       refine done_ (done_of HT_.out (by kernel_rfl)) ?_
       try go_wp2
       refine bodyPost_ret (results_cc rfl _ _ gb486 gb487 23 23 #[.int .i64 t500, .int .i64 t501] #[.int .i64 t502, .int .i64 t503] (0, 0) (0, 0) _ _ rfl (by (with_reducible repeat (first | refine blk_drewN ?_ _ | refine blk_drew ?_ | refine blk_alloc ?_ _)); refine blk_far ?_ NB486_487.out _; (with_reducible repeat (first | refine blk_drewN ?_ _ | refine blk_drew ?_ | refine blk_alloc ?_ _)); refine blk_far ?_ NB486_487.out _; (with_reducible repeat (first | refine blk_drewN ?_ _ | refine blk_drew ?_ | refine blk_alloc ?_ _)); refine blk_put (cs := #[.int .i64 t500, .int .i64 0]) ?_ 1 _ (by first | rfl | (subst_vars; rfl)); (with_reducible repeat (first | refine blk_drewN ?_ _ | refine blk_drew ?_ | refine blk_alloc ?_ _)); refine blk_put (cs := #[.int .i64 0, .int .i64 0]) ?_ 0 _ (by first | rfl | (subst_vars; rfl)); (with_reducible repeat (first | refine blk_drewN ?_ _ | refine blk_drew ?_ | refine blk_alloc ?_ _)); exact BK486.out) Try.underlying23 rfl (by kernel_rfl) rfl (by (with_reducible repeat (first | refine blk_drewN ?_ _ | refine blk_drew ?_ | refine blk_alloc ?_ _)); refine blk_put (cs := #[.int .i64 t502, .int .i64 0]) ?_ 1 _ (by first | rfl | (subst_vars; rfl)); (with_reducible repeat (first | refine blk_drewN ?_ _ | refine blk_drew ?_ | refine blk_alloc ?_ _)); refine blk_put (cs := #[.int .i64 0, .int .i64 0]) ?_ 0 _ (by first | rfl | (subst_vars; rfl)); (with_reducible repeat (first | refine blk_drewN ?_ _ | refine blk_drew ?_ | refine blk_alloc ?_ _)); refine blk_far ?_ NB487_486.out _; (with_reducible repeat (first | refine blk_drewN ?_ _ | refine blk_drew ?_ | refine blk_alloc ?_ _)); refine blk_far ?_ NB487_486.out _; (with_reducible repeat (first | refine blk_drewN ?_ _ | refine blk_drew ?_ | refine blk_alloc ?_ _)); exact BK487.out) Try.underlying23 rfl (by kernel_rfl)) rfl ?_
       exact ⟨by first | rfl | (simp [errW_none, errW_some] <;> rfl) | (simp [*, errW_none, errW_some] <;> rfl) | kernel_rfl, by repeat (first | (with_reducible first | exact HB.out | apply below_alloc | apply pw_below_drewN | apply below_drew1 | refine below_set ?_ GE484.out | refine below_set ?_ GE485.out | refine below_set ?_ GE486.out | refine below_set ?_ GE487.out) | exact HB.out)⟩
      ·
       rw [if_neg c67] at H
       have c67b0 : (a0 == 14) = false := beq_eq_false_iff_ne.mpr c67
       have c67b1 : (a0 != 14) = true := bne_iff_ne.mpr c67
       by_cases c77 : a0 = 15
       ·
        rw [if_pos c77] at H
        have c77b0 : (a0 == 15) = true := beq_iff_eq.mpr c77
        have c77b1 : (a0 != 15) = false := bne_eq_false_iff_eq.mpr c77
        clear c77
        replace H := Option.bind_eq_some_iff.mp H
        obtain ⟨⟨t504, t505⟩, A780, H⟩ := H
        replace H : ((gimbalref02_without.f kj7 t490 t491 t488 t489).bind fun bt506 => (some (t504, t505, bt506.1, bt506.2))) = some (r1, r2, r3, r4) := H
        have A78 := Aside0.mk A780
        clear A780
        replace H := Option.bind_eq_some_iff.mp H
        obtain ⟨⟨t506, t507⟩, A790, H⟩ := H
        replace H : (some (t504, t505, t506, t507)) = some (r1, r2, r3, r4) := H
        have A79 := Aside0.mk A790
        clear A790
        simp only [Option.some.injEq, Prod.mk.injEq] at H
        obtain ⟨rfl, rfl, rfl, rfl⟩ := H
        try go_wp2
        have n0_ := Aside0.mk (blk_drew BK484.out)
        have n1_ := Aside0.mk (blk_drew BK485.out)
        have n2_ := Aside0.mk (blk_drew BK486.out)
        have n3_ := Aside0.mk (blk_drew BK487.out)
        have n4_ := Aside0.mk (below_drew1 HB.out)
        clear BK484
        clear BK485
        clear BK486
        clear BK487
        clear HB
        have BK484 := n0_
        have BK485 := n1_
        have BK486 := n2_
        have BK487 := n3_
        have HB := n4_
        clear n0_ n1_ n2_ n3_ n4_
        refine start_ (n := 8) (S := fun w' => w'.cell? ⟨gb484, 0, none⟩ = some (.int .i64 t488) ∧ w'.cell? ⟨gb484, 1, none⟩ = some (.int .i64 t489) ∧ w'.cell? ⟨gb485, 0, none⟩ = some (.int .i64 t490) ∧ w'.cell? ⟨gb485, 1, none⟩ = some (.int .i64 t491)) (ds := []) #[false, false, false, false, false, false, false, false] (by kernel_rfl) rfl rfl ⟨(blk_cell BK484.out 0).trans rfl, (blk_cell BK484.out 1).trans rfl, (blk_cell BK485.out 0).trans rfl, (blk_cell BK485.out 1).trans rfl⟩ (fun hHeld => ?_); refine with_tabW gimbalref02_Test.tab11 gimbalref02_Test.bits11 (fun HT_ HW_ => ?_)
        generalize wc.drew = w80 at BK484 BK485 BK486 BK487 HB hHeld ⊢
        refine take_ (i := 0) (N := some 43) (v := ?_) (a' := ?_) #[true, false, false, false, false, false, false, false] rfl rfl (take_ofW HT_.out HW_.out (by kernel_rfl)) (fun _ _ _ h => h) (Or.inl ⟨by rfl, ?_⟩) hHeld ?_ ?_
        rotate_left
        ·
         rintro w' ⟨s0, s1, s2, s3⟩
         go_simp
         with_reducible rfl
        rotate_left
        ·
         simp only [Act.put, List.setIfInBounds_toArray, List.set_cons_zero, List.set_cons_succ, i64_w, i32_w]
         rfl
        refine take_ (i := 1) (N := some 44) (v := ?_) (a' := ?_) #[true, true, false, false, false, false, false, false] rfl rfl (take_ofW HT_.out HW_.out (by kernel_rfl)) (fun _ _ _ h => h) (Or.inl ⟨by rfl, ?_⟩) hHeld ?_ ?_
        rotate_left
        ·
         rintro w' ⟨s0, s1, s2, s3⟩
         go_simp
         with_reducible rfl
        rotate_left
        ·
         simp only [Act.put, List.setIfInBounds_toArray, List.set_cons_zero, List.set_cons_succ, i64_w, i32_w]
         rfl
        refine take_ (i := 3) (N := some 46) (v := ?_) (a' := ?_) #[true, true, false, true, false, false, false, false] rfl rfl (take_ofW HT_.out HW_.out (by kernel_rfl)) (fun _ _ _ h => h) (Or.inl ⟨by rfl, ?_⟩) hHeld ?_ ?_
        rotate_left
        ·
         rintro w' ⟨s0, s1, s2, s3⟩
         go_simp
         with_reducible rfl
        rotate_left
        ·
         simp only [Act.put, List.setIfInBounds_toArray, List.set_cons_zero, List.set_cons_succ, i64_w, i32_w]
         rfl
        refine take_ (i := 4) (N := some 47) (v := ?_) (a' := ?_) #[true, true, false, true, true, false, false, false] rfl rfl (take_ofW HT_.out HW_.out (by kernel_rfl)) (fun _ _ _ h => h) (Or.inl ⟨by rfl, ?_⟩) hHeld ?_ ?_
        rotate_left
        ·
         rintro w' ⟨s0, s1, s2, s3⟩
         go_simp
         with_reducible rfl
        rotate_left
        ·
         simp only [Act.put, List.setIfInBounds_toArray, List.set_cons_zero, List.set_cons_succ, i64_w, i32_w]
         rfl
        refine one_ (i := 2) (N := some 45) #[true, true, true, true, true, false, false, false] rfl rfl (one_of HT_.out (by kernel_rfl)) (by decide) (fun K hK => ?_)
        refine goes_ Try.func69 (by kernel_rfl) rfl #[.agg #[.int .i64 t488, .int .i64 t489], .agg #[.int .i64 t490, .int .i64 t491]] (by rfl) rfl rfl (by (try simp only [List.map_toArray, List.map_cons, List.map_nil]); first | done | rfl | (simp only [List.length_drop, List.length_take]; rfl)) ?_
        with_reducible refine (gimbalref02_without.calls kj7 t488 t489 t490 t491 t504 t505 _ A78.out).mono ?_
        rintro e w81 ⟨rfl, hb⟩
        refine ⟨_, rfl, ?_⟩
        have n0_ := Aside0.mk (below_step (by repeat (first | (with_reducible first | exact HB.out | apply below_alloc | apply pw_below_drewN | apply below_drew1 | refine below_set ?_ GE484.out | refine below_set ?_ GE485.out | refine below_set ?_ GE486.out | refine below_set ?_ GE487.out) | exact HB.out)) hb)
        replace BK484 := bbw BK484 hb
        replace BK485 := bbw BK485 hb
        replace BK486 := bbw BK486 hb
        replace BK487 := bbw BK487 hb
        clear HB
        have HB := n0_
        clear n0_
        (try clear hb)
        (try clear hb2)
        (try clear hk)
        (try clear hi)
        refine hK.out _ _ ⟨(blk_cell BK484.out 0).trans rfl, (blk_cell BK484.out 1).trans rfl, (blk_cell BK485.out 0).trans rfl, (blk_cell BK485.out 1).trans rfl⟩ (fun hHeld => ?_)
        clear hK K
        refine norm_ (a' := ?_) ?_ ?_
        rotate_left
        ·
         show Act.put _ (some 45) _ = _
         simp only [Act.put, List.setIfInBounds_toArray, List.set_cons_zero, List.set_cons_succ, i64_w, i32_w]
         rfl
        refine one_ (i := 5) (N := some 48) #[true, true, true, true, true, true, false, false] rfl rfl (one_of HT_.out (by kernel_rfl)) (by decide) (fun K hK => ?_)
        refine goes_ Try.func69 (by kernel_rfl) rfl #[.agg #[.int .i64 t490, .int .i64 t491], .agg #[.int .i64 t488, .int .i64 t489]] (by rfl) rfl rfl (by (try simp only [List.map_toArray, List.map_cons, List.map_nil]); first | done | rfl | (simp only [List.length_drop, List.length_take]; rfl)) ?_
        with_reducible refine (gimbalref02_without.calls kj7 t490 t491 t488 t489 t506 t507 _ A79.out).mono ?_
        rintro e w82 ⟨rfl, hb⟩
        refine ⟨_, rfl, ?_⟩
        have n0_ := Aside0.mk (below_step (by repeat (first | (with_reducible first | exact HB.out | apply below_alloc | apply pw_below_drewN | apply below_drew1 | refine below_set ?_ GE484.out | refine below_set ?_ GE485.out | refine below_set ?_ GE486.out | refine below_set ?_ GE487.out) | exact HB.out)) hb)
        replace BK484 := bbw BK484 hb
        replace BK485 := bbw BK485 hb
        replace BK486 := bbw BK486 hb
        replace BK487 := bbw BK487 hb
        clear HB
        have HB := n0_
        clear n0_
        (try clear hb)
        (try clear hb2)
        (try clear hk)
        (try clear hi)
        refine hK.out _ _ ⟨(blk_cell BK484.out 0).trans rfl, (blk_cell BK484.out 1).trans rfl, (blk_cell BK485.out 0).trans rfl, (blk_cell BK485.out 1).trans rfl⟩ (fun hHeld => ?_)
        clear hK K
        refine norm_ (a' := ?_) ?_ ?_
        rotate_left
        ·
         show Act.put _ (some 48) _ = _
         simp only [Act.put, List.setIfInBounds_toArray, List.set_cons_zero, List.set_cons_succ, i64_w, i32_w]
         rfl
        refine one_ (i := 6) (N := none) #[true, true, true, true, true, true, true, false] rfl rfl (one_of HT_.out (by kernel_rfl)) (by decide) (fun K hK => ?_)
        have hs83 : w82.cell? ⟨gb486, 0, none⟩ = some (.int .i64 0) := (blk_cell BK486.out 0).trans rfl
        have hfs83 := blk_frozen BK486.out 0
        have hns83_0 := NB484_486.out
        have hns83_1 := NB485_486.out
        have hns83_3 := NB487_486.out
        have hms83_0 := NB486_484.out
        have hms83_1 := NB486_485.out
        have hms83_3 := NB486_487.out
        have hs84 : w82.cell? ⟨gb486, 1, none⟩ = some (.int .i64 0) := (blk_cell BK486.out 1).trans rfl
        have hfs84 := blk_frozen BK486.out 1
        have hns84_0 := NB484_486.out
        have hns84_1 := NB485_486.out
        have hns84_3 := NB487_486.out
        have hms84_0 := NB486_484.out
        have hms84_1 := NB486_485.out
        have hms84_3 := NB486_487.out
        refine skip_ (w1 := ?_) (by rfl) rfl ?_ ?_
        rotate_left
        ·
         go_simp
         rfl
        refine hK.out _ _ ⟨((cell_far (p := ⟨gb486, _, none⟩) NB484_486.out _).trans (((cell_far (p := ⟨gb486, _, none⟩) NB484_486.out _).trans (hHeld.1)))), ((cell_far (p := ⟨gb486, _, none⟩) NB484_486.out _).trans (((cell_far (p := ⟨gb486, _, none⟩) NB484_486.out _).trans (hHeld.2.1)))), ((cell_far (p := ⟨gb486, _, none⟩) NB485_486.out _).trans (((cell_far (p := ⟨gb486, _, none⟩) NB485_486.out _).trans (hHeld.2.2.1)))), ((cell_far (p := ⟨gb486, _, none⟩) NB485_486.out _).trans (((cell_far (p := ⟨gb486, _, none⟩) NB485_486.out _).trans (hHeld.2.2.2))))⟩ (fun hHeld => ?_)
        clear hK K
        refine one_ (i := 7) (N := none) #[true, true, true, true, true, true, true, true] rfl rfl (one_of HT_.out (by kernel_rfl)) (by decide) (fun K hK => ?_)
        have hs85 : w82.cell? ⟨gb487, 0, none⟩ = some (.int .i64 0) := (blk_cell BK487.out 0).trans rfl
        have hfs85 := blk_frozen BK487.out 0
        have hns85_0 := NB484_487.out
        have hns85_1 := NB485_487.out
        have hns85_2 := NB486_487.out
        have hms85_0 := NB487_484.out
        have hms85_1 := NB487_485.out
        have hms85_2 := NB487_486.out
        have hs86 : w82.cell? ⟨gb487, 1, none⟩ = some (.int .i64 0) := (blk_cell BK487.out 1).trans rfl
        have hfs86 := blk_frozen BK487.out 1
        have hns86_0 := NB484_487.out
        have hns86_1 := NB485_487.out
        have hns86_2 := NB486_487.out
        have hms86_0 := NB487_484.out
        have hms86_1 := NB487_485.out
        have hms86_2 := NB487_486.out
        refine skip_ (w1 := ?_) (by rfl) rfl ?_ ?_
        rotate_left
        ·
         go_simp
         rfl
        refine hK.out _ _ ⟨((cell_far (p := ⟨gb487, _, none⟩) NB484_487.out _).trans (((cell_far (p := ⟨gb487, _, none⟩) NB484_487.out _).trans (hHeld.1)))), ((cell_far (p := ⟨gb487, _, none⟩) NB484_487.out _).trans (((cell_far (p := ⟨gb487, _, none⟩) NB484_487.out _).trans (hHeld.2.1)))), ((cell_far (p := ⟨gb487, _, none⟩) NB485_487.out _).trans (((cell_far (p := ⟨gb487, _, none⟩) NB485_487.out _).trans (hHeld.2.2.1)))), ((cell_far (p := ⟨gb487, _, none⟩) NB485_487.out _).trans (((cell_far (p := ⟨gb487, _, none⟩) NB485_487.out _).trans (hHeld.2.2.2))))⟩ (fun hHeld => ?_)
        clear hK K
        refine done_ (done_of HT_.out (by kernel_rfl)) ?_
        try go_wp2
        refine bodyPost_ret (results_cc rfl _ _ gb486 gb487 23 23 #[.int .i64 t504, .int .i64 t505] #[.int .i64 t506, .int .i64 t507] (0, 0) (0, 0) _ _ rfl (by (with_reducible repeat (first | refine blk_drewN ?_ _ | refine blk_drew ?_ | refine blk_alloc ?_ _)); refine blk_far ?_ NB486_487.out _; (with_reducible repeat (first | refine blk_drewN ?_ _ | refine blk_drew ?_ | refine blk_alloc ?_ _)); refine blk_far ?_ NB486_487.out _; (with_reducible repeat (first | refine blk_drewN ?_ _ | refine blk_drew ?_ | refine blk_alloc ?_ _)); refine blk_put (cs := #[.int .i64 t504, .int .i64 0]) ?_ 1 _ (by first | rfl | (subst_vars; rfl)); (with_reducible repeat (first | refine blk_drewN ?_ _ | refine blk_drew ?_ | refine blk_alloc ?_ _)); refine blk_put (cs := #[.int .i64 0, .int .i64 0]) ?_ 0 _ (by first | rfl | (subst_vars; rfl)); (with_reducible repeat (first | refine blk_drewN ?_ _ | refine blk_drew ?_ | refine blk_alloc ?_ _)); exact BK486.out) Try.underlying23 rfl (by kernel_rfl) rfl (by (with_reducible repeat (first | refine blk_drewN ?_ _ | refine blk_drew ?_ | refine blk_alloc ?_ _)); refine blk_put (cs := #[.int .i64 t506, .int .i64 0]) ?_ 1 _ (by first | rfl | (subst_vars; rfl)); (with_reducible repeat (first | refine blk_drewN ?_ _ | refine blk_drew ?_ | refine blk_alloc ?_ _)); refine blk_put (cs := #[.int .i64 0, .int .i64 0]) ?_ 0 _ (by first | rfl | (subst_vars; rfl)); (with_reducible repeat (first | refine blk_drewN ?_ _ | refine blk_drew ?_ | refine blk_alloc ?_ _)); refine blk_far ?_ NB487_486.out _; (with_reducible repeat (first | refine blk_drewN ?_ _ | refine blk_drew ?_ | refine blk_alloc ?_ _)); refine blk_far ?_ NB487_486.out _; (with_reducible repeat (first | refine blk_drewN ?_ _ | refine blk_drew ?_ | refine blk_alloc ?_ _)); exact BK487.out) Try.underlying23 rfl (by kernel_rfl)) rfl ?_
        exact ⟨by first | rfl | (simp [errW_none, errW_some] <;> rfl) | (simp [*, errW_none, errW_some] <;> rfl) | kernel_rfl, by repeat (first | (with_reducible first | exact HB.out | apply below_alloc | apply pw_below_drewN | apply below_drew1 | refine below_set ?_ GE484.out | refine below_set ?_ GE485.out | refine below_set ?_ GE486.out | refine below_set ?_ GE487.out) | exact HB.out)⟩
       ·
        rw [if_neg c77] at H
        have c77b0 : (a0 == 15) = false := beq_eq_false_iff_ne.mpr c77
        have c77b1 : (a0 != 15) = true := bne_iff_ne.mpr c77
        by_cases c87 : a0 = 16
        ·
         rw [if_pos c87] at H
         have c87b0 : (a0 == 16) = true := beq_iff_eq.mpr c87
         have c87b1 : (a0 != 16) = false := bne_eq_false_iff_eq.mpr c87
         clear c87
         replace H := Option.bind_eq_some_iff.mp H
         obtain ⟨⟨t508, t509⟩, A880, H⟩ := H
         replace H : ((gimbalref02_above.f kj7 t490 t491 t488 t489 1).bind fun bt510 => (some (t508, t509, bt510.1, bt510.2))) = some (r1, r2, r3, r4) := H
         have A88 := Aside0.mk A880
         clear A880
         replace H := Option.bind_eq_some_iff.mp H
         obtain ⟨⟨t510, t511⟩, A890, H⟩ := H
         replace H : (some (t508, t509, t510, t511)) = some (r1, r2, r3, r4) := H
         have A89 := Aside0.mk A890
         clear A890
         simp only [Option.some.injEq, Prod.mk.injEq] at H
         obtain ⟨rfl, rfl, rfl, rfl⟩ := H
         try go_wp2
         have n0_ := Aside0.mk (blk_drew BK484.out)
         have n1_ := Aside0.mk (blk_drew BK485.out)
         have n2_ := Aside0.mk (blk_drew BK486.out)
         have n3_ := Aside0.mk (blk_drew BK487.out)
         have n4_ := Aside0.mk (below_drew1 HB.out)
         clear BK484
         clear BK485
         clear BK486
         clear BK487
         clear HB
         have BK484 := n0_
         have BK485 := n1_
         have BK486 := n2_
         have BK487 := n3_
         have HB := n4_
         clear n0_ n1_ n2_ n3_ n4_
         refine start_ (n := 8) (S := fun w' => w'.cell? ⟨gb484, 0, none⟩ = some (.int .i64 t488) ∧ w'.cell? ⟨gb484, 1, none⟩ = some (.int .i64 t489) ∧ w'.cell? ⟨gb485, 0, none⟩ = some (.int .i64 t490) ∧ w'.cell? ⟨gb485, 1, none⟩ = some (.int .i64 t491)) (ds := []) #[false, false, false, false, false, false, false, false] (by kernel_rfl) rfl rfl ⟨(blk_cell BK484.out 0).trans rfl, (blk_cell BK484.out 1).trans rfl, (blk_cell BK485.out 0).trans rfl, (blk_cell BK485.out 1).trans rfl⟩ (fun hHeld => ?_); refine with_tabW gimbalref02_Test.tab13 gimbalref02_Test.bits13 (fun HT_ HW_ => ?_)
         generalize wc.drew = w90 at BK484 BK485 BK486 BK487 HB hHeld ⊢
         refine take_ (i := 0) (N := some 51) (v := ?_) (a' := ?_) #[true, false, false, false, false, false, false, false] rfl rfl (take_ofW HT_.out HW_.out (by kernel_rfl)) (fun _ _ _ h => h) (Or.inl ⟨by rfl, ?_⟩) hHeld ?_ ?_
         rotate_left
         ·
          rintro w' ⟨s0, s1, s2, s3⟩
          go_simp
          with_reducible rfl
         rotate_left
         ·
          simp only [Act.put, List.setIfInBounds_toArray, List.set_cons_zero, List.set_cons_succ, i64_w, i32_w]
          rfl
         refine take_ (i := 1) (N := some 52) (v := ?_) (a' := ?_) #[true, true, false, false, false, false, false, false] rfl rfl (take_ofW HT_.out HW_.out (by kernel_rfl)) (fun _ _ _ h => h) (Or.inl ⟨by rfl, ?_⟩) hHeld ?_ ?_
         rotate_left
         ·
          rintro w' ⟨s0, s1, s2, s3⟩
          go_simp
          with_reducible rfl
         rotate_left
         ·
          simp only [Act.put, List.setIfInBounds_toArray, List.set_cons_zero, List.set_cons_succ, i64_w, i32_w]
          rfl
         refine take_ (i := 3) (N := some 54) (v := ?_) (a' := ?_) #[true, true, false, true, false, false, false, false] rfl rfl (take_ofW HT_.out HW_.out (by kernel_rfl)) (fun _ _ _ h => h) (Or.inl ⟨by rfl, ?_⟩) hHeld ?_ ?_
         rotate_left
         ·
          rintro w' ⟨s0, s1, s2, s3⟩
          go_simp
          with_reducible rfl
         rotate_left
         ·
          simp only [Act.put, List.setIfInBounds_toArray, List.set_cons_zero, List.set_cons_succ, i64_w, i32_w]
          rfl
         refine take_ (i := 4) (N := some 55) (v := ?_) (a' := ?_) #[true, true, false, true, true, false, false, false] rfl rfl (take_ofW HT_.out HW_.out (by kernel_rfl)) (fun _ _ _ h => h) (Or.inl ⟨by rfl, ?_⟩) hHeld ?_ ?_
         rotate_left
         ·
          rintro w' ⟨s0, s1, s2, s3⟩
          go_simp
          with_reducible rfl
         rotate_left
         ·
          simp only [Act.put, List.setIfInBounds_toArray, List.set_cons_zero, List.set_cons_succ, i64_w, i32_w]
          rfl
         refine one_ (i := 2) (N := some 53) #[true, true, true, true, true, false, false, false] rfl rfl (one_of HT_.out (by kernel_rfl)) (by decide) (fun K hK => ?_)
         refine goes_ Try.func70 (by kernel_rfl) rfl #[.agg #[.int .i64 t488, .int .i64 t489], .agg #[.int .i64 t490, .int .i64 t491], .int .i64 1] (by rfl) rfl rfl (by (try simp only [List.map_toArray, List.map_cons, List.map_nil]); first | done | rfl | (simp only [List.length_drop, List.length_take]; rfl)) ?_
         with_reducible refine (gimbalref02_below.calls kj7 t488 t489 t490 t491 1 t508 t509 _ A88.out).mono ?_
         rintro e w91 ⟨rfl, hb⟩
         refine ⟨_, rfl, ?_⟩
         have n0_ := Aside0.mk (below_step (by repeat (first | (with_reducible first | exact HB.out | apply below_alloc | apply pw_below_drewN | apply below_drew1 | refine below_set ?_ GE484.out | refine below_set ?_ GE485.out | refine below_set ?_ GE486.out | refine below_set ?_ GE487.out) | exact HB.out)) hb)
         replace BK484 := bbw BK484 hb
         replace BK485 := bbw BK485 hb
         replace BK486 := bbw BK486 hb
         replace BK487 := bbw BK487 hb
         clear HB
         have HB := n0_
         clear n0_
         (try clear hb)
         (try clear hb2)
         (try clear hk)
         (try clear hi)
         refine hK.out _ _ ⟨(blk_cell BK484.out 0).trans rfl, (blk_cell BK484.out 1).trans rfl, (blk_cell BK485.out 0).trans rfl, (blk_cell BK485.out 1).trans rfl⟩ (fun hHeld => ?_)
         clear hK K
         refine norm_ (a' := ?_) ?_ ?_
         rotate_left
         ·
          show Act.put _ (some 53) _ = _
          simp only [Act.put, List.setIfInBounds_toArray, List.set_cons_zero, List.set_cons_succ, i64_w, i32_w]
          rfl
         refine one_ (i := 5) (N := some 56) #[true, true, true, true, true, true, false, false] rfl rfl (one_of HT_.out (by kernel_rfl)) (by decide) (fun K hK => ?_)
         refine goes_ Try.func71 (by kernel_rfl) rfl #[.agg #[.int .i64 t490, .int .i64 t491], .agg #[.int .i64 t488, .int .i64 t489], .int .i64 1] (by rfl) rfl rfl (by (try simp only [List.map_toArray, List.map_cons, List.map_nil]); first | done | rfl | (simp only [List.length_drop, List.length_take]; rfl)) ?_
         with_reducible refine (gimbalref02_above.calls kj7 t490 t491 t488 t489 1 t510 t511 _ A89.out).mono ?_
         rintro e w92 ⟨rfl, hb⟩
         refine ⟨_, rfl, ?_⟩
         have n0_ := Aside0.mk (below_step (by repeat (first | (with_reducible first | exact HB.out | apply below_alloc | apply pw_below_drewN | apply below_drew1 | refine below_set ?_ GE484.out | refine below_set ?_ GE485.out | refine below_set ?_ GE486.out | refine below_set ?_ GE487.out) | exact HB.out)) hb)
         replace BK484 := bbw BK484 hb
         replace BK485 := bbw BK485 hb
         replace BK486 := bbw BK486 hb
         replace BK487 := bbw BK487 hb
         clear HB
         have HB := n0_
         clear n0_
         (try clear hb)
         (try clear hb2)
         (try clear hk)
         (try clear hi)
         refine hK.out _ _ ⟨(blk_cell BK484.out 0).trans rfl, (blk_cell BK484.out 1).trans rfl, (blk_cell BK485.out 0).trans rfl, (blk_cell BK485.out 1).trans rfl⟩ (fun hHeld => ?_)
         clear hK K
         refine norm_ (a' := ?_) ?_ ?_
         rotate_left
         ·
          show Act.put _ (some 56) _ = _
          simp only [Act.put, List.setIfInBounds_toArray, List.set_cons_zero, List.set_cons_succ, i64_w, i32_w]
          rfl
         refine one_ (i := 6) (N := none) #[true, true, true, true, true, true, true, false] rfl rfl (one_of HT_.out (by kernel_rfl)) (by decide) (fun K hK => ?_)
         have hs93 : w92.cell? ⟨gb486, 0, none⟩ = some (.int .i64 0) := (blk_cell BK486.out 0).trans rfl
         have hfs93 := blk_frozen BK486.out 0
         have hns93_0 := NB484_486.out
         have hns93_1 := NB485_486.out
         have hns93_3 := NB487_486.out
         have hms93_0 := NB486_484.out
         have hms93_1 := NB486_485.out
         have hms93_3 := NB486_487.out
         have hs94 : w92.cell? ⟨gb486, 1, none⟩ = some (.int .i64 0) := (blk_cell BK486.out 1).trans rfl
         have hfs94 := blk_frozen BK486.out 1
         have hns94_0 := NB484_486.out
         have hns94_1 := NB485_486.out
         have hns94_3 := NB487_486.out
         have hms94_0 := NB486_484.out
         have hms94_1 := NB486_485.out
         have hms94_3 := NB486_487.out
         refine skip_ (w1 := ?_) (by rfl) rfl ?_ ?_
         rotate_left
         ·
          go_simp
          rfl
         refine hK.out _ _ ⟨((cell_far (p := ⟨gb486, _, none⟩) NB484_486.out _).trans (((cell_far (p := ⟨gb486, _, none⟩) NB484_486.out _).trans (hHeld.1)))), ((cell_far (p := ⟨gb486, _, none⟩) NB484_486.out _).trans (((cell_far (p := ⟨gb486, _, none⟩) NB484_486.out _).trans (hHeld.2.1)))), ((cell_far (p := ⟨gb486, _, none⟩) NB485_486.out _).trans (((cell_far (p := ⟨gb486, _, none⟩) NB485_486.out _).trans (hHeld.2.2.1)))), ((cell_far (p := ⟨gb486, _, none⟩) NB485_486.out _).trans (((cell_far (p := ⟨gb486, _, none⟩) NB485_486.out _).trans (hHeld.2.2.2))))⟩ (fun hHeld => ?_)
         clear hK K
         refine one_ (i := 7) (N := none) #[true, true, true, true, true, true, true, true] rfl rfl (one_of HT_.out (by kernel_rfl)) (by decide) (fun K hK => ?_)
         have hs95 : w92.cell? ⟨gb487, 0, none⟩ = some (.int .i64 0) := (blk_cell BK487.out 0).trans rfl
         have hfs95 := blk_frozen BK487.out 0
         have hns95_0 := NB484_487.out
         have hns95_1 := NB485_487.out
         have hns95_2 := NB486_487.out
         have hms95_0 := NB487_484.out
         have hms95_1 := NB487_485.out
         have hms95_2 := NB487_486.out
         have hs96 : w92.cell? ⟨gb487, 1, none⟩ = some (.int .i64 0) := (blk_cell BK487.out 1).trans rfl
         have hfs96 := blk_frozen BK487.out 1
         have hns96_0 := NB484_487.out
         have hns96_1 := NB485_487.out
         have hns96_2 := NB486_487.out
         have hms96_0 := NB487_484.out
         have hms96_1 := NB487_485.out
         have hms96_2 := NB487_486.out
         refine skip_ (w1 := ?_) (by rfl) rfl ?_ ?_
         rotate_left
         ·
          go_simp
          rfl
         refine hK.out _ _ ⟨((cell_far (p := ⟨gb487, _, none⟩) NB484_487.out _).trans (((cell_far (p := ⟨gb487, _, none⟩) NB484_487.out _).trans (hHeld.1)))), ((cell_far (p := ⟨gb487, _, none⟩) NB484_487.out _).trans (((cell_far (p := ⟨gb487, _, none⟩) NB484_487.out _).trans (hHeld.2.1)))), ((cell_far (p := ⟨gb487, _, none⟩) NB485_487.out _).trans (((cell_far (p := ⟨gb487, _, none⟩) NB485_487.out _).trans (hHeld.2.2.1)))), ((cell_far (p := ⟨gb487, _, none⟩) NB485_487.out _).trans (((cell_far (p := ⟨gb487, _, none⟩) NB485_487.out _).trans (hHeld.2.2.2))))⟩ (fun hHeld => ?_)
         clear hK K
         refine done_ (done_of HT_.out (by kernel_rfl)) ?_
         try go_wp2
         refine bodyPost_ret (results_cc rfl _ _ gb486 gb487 23 23 #[.int .i64 t508, .int .i64 t509] #[.int .i64 t510, .int .i64 t511] (0, 0) (0, 0) _ _ rfl (by (with_reducible repeat (first | refine blk_drewN ?_ _ | refine blk_drew ?_ | refine blk_alloc ?_ _)); refine blk_far ?_ NB486_487.out _; (with_reducible repeat (first | refine blk_drewN ?_ _ | refine blk_drew ?_ | refine blk_alloc ?_ _)); refine blk_far ?_ NB486_487.out _; (with_reducible repeat (first | refine blk_drewN ?_ _ | refine blk_drew ?_ | refine blk_alloc ?_ _)); refine blk_put (cs := #[.int .i64 t508, .int .i64 0]) ?_ 1 _ (by first | rfl | (subst_vars; rfl)); (with_reducible repeat (first | refine blk_drewN ?_ _ | refine blk_drew ?_ | refine blk_alloc ?_ _)); refine blk_put (cs := #[.int .i64 0, .int .i64 0]) ?_ 0 _ (by first | rfl | (subst_vars; rfl)); (with_reducible repeat (first | refine blk_drewN ?_ _ | refine blk_drew ?_ | refine blk_alloc ?_ _)); exact BK486.out) Try.underlying23 rfl (by kernel_rfl) rfl (by (with_reducible repeat (first | refine blk_drewN ?_ _ | refine blk_drew ?_ | refine blk_alloc ?_ _)); refine blk_put (cs := #[.int .i64 t510, .int .i64 0]) ?_ 1 _ (by first | rfl | (subst_vars; rfl)); (with_reducible repeat (first | refine blk_drewN ?_ _ | refine blk_drew ?_ | refine blk_alloc ?_ _)); refine blk_put (cs := #[.int .i64 0, .int .i64 0]) ?_ 0 _ (by first | rfl | (subst_vars; rfl)); (with_reducible repeat (first | refine blk_drewN ?_ _ | refine blk_drew ?_ | refine blk_alloc ?_ _)); refine blk_far ?_ NB487_486.out _; (with_reducible repeat (first | refine blk_drewN ?_ _ | refine blk_drew ?_ | refine blk_alloc ?_ _)); refine blk_far ?_ NB487_486.out _; (with_reducible repeat (first | refine blk_drewN ?_ _ | refine blk_drew ?_ | refine blk_alloc ?_ _)); exact BK487.out) Try.underlying23 rfl (by kernel_rfl)) rfl ?_
         exact ⟨by first | rfl | (simp [errW_none, errW_some] <;> rfl) | (simp [*, errW_none, errW_some] <;> rfl) | kernel_rfl, by repeat (first | (with_reducible first | exact HB.out | apply below_alloc | apply pw_below_drewN | apply below_drew1 | refine below_set ?_ GE484.out | refine below_set ?_ GE485.out | refine below_set ?_ GE486.out | refine below_set ?_ GE487.out) | exact HB.out)⟩
        ·
         rw [if_neg c87] at H
         have c87b0 : (a0 == 16) = false := beq_eq_false_iff_ne.mpr c87
         have c87b1 : (a0 != 16) = true := bne_iff_ne.mpr c87
         by_cases c97 : a0 = 17
         ·
          rw [if_pos c97] at H
          have c97b0 : (a0 == 17) = true := beq_iff_eq.mpr c97
          have c97b1 : (a0 != 17) = false := bne_eq_false_iff_eq.mpr c97
          clear c97
          replace H := Option.bind_eq_some_iff.mp H
          obtain ⟨⟨t512, t513⟩, A980, H⟩ := H
          replace H : ((gimbalref02_above.f kj7 t490 t491 t488 t489 0).bind fun bt514 => (some (t512, t513, bt514.1, bt514.2))) = some (r1, r2, r3, r4) := H
          have A98 := Aside0.mk A980
          clear A980
          replace H := Option.bind_eq_some_iff.mp H
          obtain ⟨⟨t514, t515⟩, A990, H⟩ := H
          replace H : (some (t512, t513, t514, t515)) = some (r1, r2, r3, r4) := H
          have A99 := Aside0.mk A990
          clear A990
          simp only [Option.some.injEq, Prod.mk.injEq] at H
          obtain ⟨rfl, rfl, rfl, rfl⟩ := H
          try go_wp2
          have n0_ := Aside0.mk (blk_drew BK484.out)
          have n1_ := Aside0.mk (blk_drew BK485.out)
          have n2_ := Aside0.mk (blk_drew BK486.out)
          have n3_ := Aside0.mk (blk_drew BK487.out)
          have n4_ := Aside0.mk (below_drew1 HB.out)
          clear BK484
          clear BK485
          clear BK486
          clear BK487
          clear HB
          have BK484 := n0_
          have BK485 := n1_
          have BK486 := n2_
          have BK487 := n3_
          have HB := n4_
          clear n0_ n1_ n2_ n3_ n4_
          refine start_ (n := 8) (S := fun w' => w'.cell? ⟨gb484, 0, none⟩ = some (.int .i64 t488) ∧ w'.cell? ⟨gb484, 1, none⟩ = some (.int .i64 t489) ∧ w'.cell? ⟨gb485, 0, none⟩ = some (.int .i64 t490) ∧ w'.cell? ⟨gb485, 1, none⟩ = some (.int .i64 t491)) (ds := []) #[false, false, false, false, false, false, false, false] (by kernel_rfl) rfl rfl ⟨(blk_cell BK484.out 0).trans rfl, (blk_cell BK484.out 1).trans rfl, (blk_cell BK485.out 0).trans rfl, (blk_cell BK485.out 1).trans rfl⟩ (fun hHeld => ?_); refine with_tabW gimbalref02_Test.tab15 gimbalref02_Test.bits15 (fun HT_ HW_ => ?_)
          generalize wc.drew = w100 at BK484 BK485 BK486 BK487 HB hHeld ⊢
          refine take_ (i := 0) (N := some 59) (v := ?_) (a' := ?_) #[true, false, false, false, false, false, false, false] rfl rfl (take_ofW HT_.out HW_.out (by kernel_rfl)) (fun _ _ _ h => h) (Or.inl ⟨by rfl, ?_⟩) hHeld ?_ ?_
          rotate_left
          ·
           rintro w' ⟨s0, s1, s2, s3⟩
           go_simp
           with_reducible rfl
          rotate_left
          ·
           simp only [Act.put, List.setIfInBounds_toArray, List.set_cons_zero, List.set_cons_succ, i64_w, i32_w]
           rfl
          refine take_ (i := 1) (N := some 60) (v := ?_) (a' := ?_) #[true, true, false, false, false, false, false, false] rfl rfl (take_ofW HT_.out HW_.out (by kernel_rfl)) (fun _ _ _ h => h) (Or.inl ⟨by rfl, ?_⟩) hHeld ?_ ?_
          rotate_left
          ·
           rintro w' ⟨s0, s1, s2, s3⟩
           go_simp
           with_reducible rfl
          rotate_left
          ·
           simp only [Act.put, List.setIfInBounds_toArray, List.set_cons_zero, List.set_cons_succ, i64_w, i32_w]
           rfl
          refine take_ (i := 3) (N := some 62) (v := ?_) (a' := ?_) #[true, true, false, true, false, false, false, false] rfl rfl (take_ofW HT_.out HW_.out (by kernel_rfl)) (fun _ _ _ h => h) (Or.inl ⟨by rfl, ?_⟩) hHeld ?_ ?_
          rotate_left
          ·
           rintro w' ⟨s0, s1, s2, s3⟩
           go_simp
           with_reducible rfl
          rotate_left
          ·
           simp only [Act.put, List.setIfInBounds_toArray, List.set_cons_zero, List.set_cons_succ, i64_w, i32_w]
           rfl
          refine take_ (i := 4) (N := some 63) (v := ?_) (a' := ?_) #[true, true, false, true, true, false, false, false] rfl rfl (take_ofW HT_.out HW_.out (by kernel_rfl)) (fun _ _ _ h => h) (Or.inl ⟨by rfl, ?_⟩) hHeld ?_ ?_
          rotate_left
          ·
           rintro w' ⟨s0, s1, s2, s3⟩
           go_simp
           with_reducible rfl
          rotate_left
          ·
           simp only [Act.put, List.setIfInBounds_toArray, List.set_cons_zero, List.set_cons_succ, i64_w, i32_w]
           rfl
          refine one_ (i := 2) (N := some 61) #[true, true, true, true, true, false, false, false] rfl rfl (one_of HT_.out (by kernel_rfl)) (by decide) (fun K hK => ?_)
          refine goes_ Try.func70 (by kernel_rfl) rfl #[.agg #[.int .i64 t488, .int .i64 t489], .agg #[.int .i64 t490, .int .i64 t491], .int .i64 0] (by rfl) rfl rfl (by (try simp only [List.map_toArray, List.map_cons, List.map_nil]); first | done | rfl | (simp only [List.length_drop, List.length_take]; rfl)) ?_
          with_reducible refine (gimbalref02_below.calls kj7 t488 t489 t490 t491 0 t512 t513 _ A98.out).mono ?_
          rintro e w101 ⟨rfl, hb⟩
          refine ⟨_, rfl, ?_⟩
          have n0_ := Aside0.mk (below_step (by repeat (first | (with_reducible first | exact HB.out | apply below_alloc | apply pw_below_drewN | apply below_drew1 | refine below_set ?_ GE484.out | refine below_set ?_ GE485.out | refine below_set ?_ GE486.out | refine below_set ?_ GE487.out) | exact HB.out)) hb)
          replace BK484 := bbw BK484 hb
          replace BK485 := bbw BK485 hb
          replace BK486 := bbw BK486 hb
          replace BK487 := bbw BK487 hb
          clear HB
          have HB := n0_
          clear n0_
          (try clear hb)
          (try clear hb2)
          (try clear hk)
          (try clear hi)
          refine hK.out _ _ ⟨(blk_cell BK484.out 0).trans rfl, (blk_cell BK484.out 1).trans rfl, (blk_cell BK485.out 0).trans rfl, (blk_cell BK485.out 1).trans rfl⟩ (fun hHeld => ?_)
          clear hK K
          refine norm_ (a' := ?_) ?_ ?_
          rotate_left
          ·
           show Act.put _ (some 61) _ = _
           simp only [Act.put, List.setIfInBounds_toArray, List.set_cons_zero, List.set_cons_succ, i64_w, i32_w]
           rfl
          refine one_ (i := 5) (N := some 64) #[true, true, true, true, true, true, false, false] rfl rfl (one_of HT_.out (by kernel_rfl)) (by decide) (fun K hK => ?_)
          refine goes_ Try.func71 (by kernel_rfl) rfl #[.agg #[.int .i64 t490, .int .i64 t491], .agg #[.int .i64 t488, .int .i64 t489], .int .i64 0] (by rfl) rfl rfl (by (try simp only [List.map_toArray, List.map_cons, List.map_nil]); first | done | rfl | (simp only [List.length_drop, List.length_take]; rfl)) ?_
          with_reducible refine (gimbalref02_above.calls kj7 t490 t491 t488 t489 0 t514 t515 _ A99.out).mono ?_
          rintro e w102 ⟨rfl, hb⟩
          refine ⟨_, rfl, ?_⟩
          have n0_ := Aside0.mk (below_step (by repeat (first | (with_reducible first | exact HB.out | apply below_alloc | apply pw_below_drewN | apply below_drew1 | refine below_set ?_ GE484.out | refine below_set ?_ GE485.out | refine below_set ?_ GE486.out | refine below_set ?_ GE487.out) | exact HB.out)) hb)
          replace BK484 := bbw BK484 hb
          replace BK485 := bbw BK485 hb
          replace BK486 := bbw BK486 hb
          replace BK487 := bbw BK487 hb
          clear HB
          have HB := n0_
          clear n0_
          (try clear hb)
          (try clear hb2)
          (try clear hk)
          (try clear hi)
          refine hK.out _ _ ⟨(blk_cell BK484.out 0).trans rfl, (blk_cell BK484.out 1).trans rfl, (blk_cell BK485.out 0).trans rfl, (blk_cell BK485.out 1).trans rfl⟩ (fun hHeld => ?_)
          clear hK K
          refine norm_ (a' := ?_) ?_ ?_
          rotate_left
          ·
           show Act.put _ (some 64) _ = _
           simp only [Act.put, List.setIfInBounds_toArray, List.set_cons_zero, List.set_cons_succ, i64_w, i32_w]
           rfl
          refine one_ (i := 6) (N := none) #[true, true, true, true, true, true, true, false] rfl rfl (one_of HT_.out (by kernel_rfl)) (by decide) (fun K hK => ?_)
          have hs103 : w102.cell? ⟨gb486, 0, none⟩ = some (.int .i64 0) := (blk_cell BK486.out 0).trans rfl
          have hfs103 := blk_frozen BK486.out 0
          have hns103_0 := NB484_486.out
          have hns103_1 := NB485_486.out
          have hns103_3 := NB487_486.out
          have hms103_0 := NB486_484.out
          have hms103_1 := NB486_485.out
          have hms103_3 := NB486_487.out
          have hs104 : w102.cell? ⟨gb486, 1, none⟩ = some (.int .i64 0) := (blk_cell BK486.out 1).trans rfl
          have hfs104 := blk_frozen BK486.out 1
          have hns104_0 := NB484_486.out
          have hns104_1 := NB485_486.out
          have hns104_3 := NB487_486.out
          have hms104_0 := NB486_484.out
          have hms104_1 := NB486_485.out
          have hms104_3 := NB486_487.out
          refine skip_ (w1 := ?_) (by rfl) rfl ?_ ?_
          rotate_left
          ·
           go_simp
           rfl
          refine hK.out _ _ ⟨((cell_far (p := ⟨gb486, _, none⟩) NB484_486.out _).trans (((cell_far (p := ⟨gb486, _, none⟩) NB484_486.out _).trans (hHeld.1)))), ((cell_far (p := ⟨gb486, _, none⟩) NB484_486.out _).trans (((cell_far (p := ⟨gb486, _, none⟩) NB484_486.out _).trans (hHeld.2.1)))), ((cell_far (p := ⟨gb486, _, none⟩) NB485_486.out _).trans (((cell_far (p := ⟨gb486, _, none⟩) NB485_486.out _).trans (hHeld.2.2.1)))), ((cell_far (p := ⟨gb486, _, none⟩) NB485_486.out _).trans (((cell_far (p := ⟨gb486, _, none⟩) NB485_486.out _).trans (hHeld.2.2.2))))⟩ (fun hHeld => ?_)
          clear hK K
          refine one_ (i := 7) (N := none) #[true, true, true, true, true, true, true, true] rfl rfl (one_of HT_.out (by kernel_rfl)) (by decide) (fun K hK => ?_)
          have hs105 : w102.cell? ⟨gb487, 0, none⟩ = some (.int .i64 0) := (blk_cell BK487.out 0).trans rfl
          have hfs105 := blk_frozen BK487.out 0
          have hns105_0 := NB484_487.out
          have hns105_1 := NB485_487.out
          have hns105_2 := NB486_487.out
          have hms105_0 := NB487_484.out
          have hms105_1 := NB487_485.out
          have hms105_2 := NB487_486.out
          have hs106 : w102.cell? ⟨gb487, 1, none⟩ = some (.int .i64 0) := (blk_cell BK487.out 1).trans rfl
          have hfs106 := blk_frozen BK487.out 1
          have hns106_0 := NB484_487.out
          have hns106_1 := NB485_487.out
          have hns106_2 := NB486_487.out
          have hms106_0 := NB487_484.out
          have hms106_1 := NB487_485.out
          have hms106_2 := NB487_486.out
          refine skip_ (w1 := ?_) (by rfl) rfl ?_ ?_
          rotate_left
          ·
           go_simp
           rfl
          refine hK.out _ _ ⟨((cell_far (p := ⟨gb487, _, none⟩) NB484_487.out _).trans (((cell_far (p := ⟨gb487, _, none⟩) NB484_487.out _).trans (hHeld.1)))), ((cell_far (p := ⟨gb487, _, none⟩) NB484_487.out _).trans (((cell_far (p := ⟨gb487, _, none⟩) NB484_487.out _).trans (hHeld.2.1)))), ((cell_far (p := ⟨gb487, _, none⟩) NB485_487.out _).trans (((cell_far (p := ⟨gb487, _, none⟩) NB485_487.out _).trans (hHeld.2.2.1)))), ((cell_far (p := ⟨gb487, _, none⟩) NB485_487.out _).trans (((cell_far (p := ⟨gb487, _, none⟩) NB485_487.out _).trans (hHeld.2.2.2))))⟩ (fun hHeld => ?_)
          clear hK K
          refine done_ (done_of HT_.out (by kernel_rfl)) ?_
          try go_wp2
          refine bodyPost_ret (results_cc rfl _ _ gb486 gb487 23 23 #[.int .i64 t512, .int .i64 t513] #[.int .i64 t514, .int .i64 t515] (0, 0) (0, 0) _ _ rfl (by (with_reducible repeat (first | refine blk_drewN ?_ _ | refine blk_drew ?_ | refine blk_alloc ?_ _)); refine blk_far ?_ NB486_487.out _; (with_reducible repeat (first | refine blk_drewN ?_ _ | refine blk_drew ?_ | refine blk_alloc ?_ _)); refine blk_far ?_ NB486_487.out _; (with_reducible repeat (first | refine blk_drewN ?_ _ | refine blk_drew ?_ | refine blk_alloc ?_ _)); refine blk_put (cs := #[.int .i64 t512, .int .i64 0]) ?_ 1 _ (by first | rfl | (subst_vars; rfl)); (with_reducible repeat (first | refine blk_drewN ?_ _ | refine blk_drew ?_ | refine blk_alloc ?_ _)); refine blk_put (cs := #[.int .i64 0, .int .i64 0]) ?_ 0 _ (by first | rfl | (subst_vars; rfl)); (with_reducible repeat (first | refine blk_drewN ?_ _ | refine blk_drew ?_ | refine blk_alloc ?_ _)); exact BK486.out) Try.underlying23 rfl (by kernel_rfl) rfl (by (with_reducible repeat (first | refine blk_drewN ?_ _ | refine blk_drew ?_ | refine blk_alloc ?_ _)); refine blk_put (cs := #[.int .i64 t514, .int .i64 0]) ?_ 1 _ (by first | rfl | (subst_vars; rfl)); (with_reducible repeat (first | refine blk_drewN ?_ _ | refine blk_drew ?_ | refine blk_alloc ?_ _)); refine blk_put (cs := #[.int .i64 0, .int .i64 0]) ?_ 0 _ (by first | rfl | (subst_vars; rfl)); (with_reducible repeat (first | refine blk_drewN ?_ _ | refine blk_drew ?_ | refine blk_alloc ?_ _)); refine blk_far ?_ NB487_486.out _; (with_reducible repeat (first | refine blk_drewN ?_ _ | refine blk_drew ?_ | refine blk_alloc ?_ _)); refine blk_far ?_ NB487_486.out _; (with_reducible repeat (first | refine blk_drewN ?_ _ | refine blk_drew ?_ | refine blk_alloc ?_ _)); exact BK487.out) Try.underlying23 rfl (by kernel_rfl)) rfl ?_
          exact ⟨by first | rfl | (simp [errW_none, errW_some] <;> rfl) | (simp [*, errW_none, errW_some] <;> rfl) | kernel_rfl, by repeat (first | (with_reducible first | exact HB.out | apply below_alloc | apply pw_below_drewN | apply below_drew1 | refine below_set ?_ GE484.out | refine below_set ?_ GE485.out | refine below_set ?_ GE486.out | refine below_set ?_ GE487.out) | exact HB.out)⟩
         ·
          rw [if_neg c97] at H
          have c97b0 : (a0 == 17) = false := beq_eq_false_iff_ne.mpr c97
          have c97b1 : (a0 != 17) = true := bne_iff_ne.mpr c97
          by_cases c107 : a0 = 18
          ·
           rw [if_pos c107] at H
           have c107b0 : (a0 == 18) = true := beq_iff_eq.mpr c107
           have c107b1 : (a0 != 18) = false := bne_eq_false_iff_eq.mpr c107
           clear c107
           replace H := Option.bind_eq_some_iff.mp H
           obtain ⟨⟨t516, t517⟩, A1080, H⟩ := H
           replace H : ((gimbalref02_below.f kj7 t490 t491 t488 t489 1).bind fun bt518 => (some (t516, t517, bt518.1, bt518.2))) = some (r1, r2, r3, r4) := H
           have A108 := Aside0.mk A1080
           clear A1080
           replace H := Option.bind_eq_some_iff.mp H
           obtain ⟨⟨t518, t519⟩, A1090, H⟩ := H
           replace H : (some (t516, t517, t518, t519)) = some (r1, r2, r3, r4) := H
           have A109 := Aside0.mk A1090
           clear A1090
           simp only [Option.some.injEq, Prod.mk.injEq] at H
           obtain ⟨rfl, rfl, rfl, rfl⟩ := H
           try go_wp2
           have n0_ := Aside0.mk (blk_drew BK484.out)
           have n1_ := Aside0.mk (blk_drew BK485.out)
           have n2_ := Aside0.mk (blk_drew BK486.out)
           have n3_ := Aside0.mk (blk_drew BK487.out)
           have n4_ := Aside0.mk (below_drew1 HB.out)
           clear BK484
           clear BK485
           clear BK486
           clear BK487
           clear HB
           have BK484 := n0_
           have BK485 := n1_
           have BK486 := n2_
           have BK487 := n3_
           have HB := n4_
           clear n0_ n1_ n2_ n3_ n4_
           refine start_ (n := 8) (S := fun w' => w'.cell? ⟨gb484, 0, none⟩ = some (.int .i64 t488) ∧ w'.cell? ⟨gb484, 1, none⟩ = some (.int .i64 t489) ∧ w'.cell? ⟨gb485, 0, none⟩ = some (.int .i64 t490) ∧ w'.cell? ⟨gb485, 1, none⟩ = some (.int .i64 t491)) (ds := []) #[false, false, false, false, false, false, false, false] (by kernel_rfl) rfl rfl ⟨(blk_cell BK484.out 0).trans rfl, (blk_cell BK484.out 1).trans rfl, (blk_cell BK485.out 0).trans rfl, (blk_cell BK485.out 1).trans rfl⟩ (fun hHeld => ?_); refine with_tabW gimbalref02_Test.tab17 gimbalref02_Test.bits17 (fun HT_ HW_ => ?_)
           generalize wc.drew = w110 at BK484 BK485 BK486 BK487 HB hHeld ⊢
           refine take_ (i := 0) (N := some 67) (v := ?_) (a' := ?_) #[true, false, false, false, false, false, false, false] rfl rfl (take_ofW HT_.out HW_.out (by kernel_rfl)) (fun _ _ _ h => h) (Or.inl ⟨by rfl, ?_⟩) hHeld ?_ ?_
           rotate_left
           ·
            rintro w' ⟨s0, s1, s2, s3⟩
            go_simp
            with_reducible rfl
           rotate_left
           ·
            simp only [Act.put, List.setIfInBounds_toArray, List.set_cons_zero, List.set_cons_succ, i64_w, i32_w]
            rfl
           refine take_ (i := 1) (N := some 68) (v := ?_) (a' := ?_) #[true, true, false, false, false, false, false, false] rfl rfl (take_ofW HT_.out HW_.out (by kernel_rfl)) (fun _ _ _ h => h) (Or.inl ⟨by rfl, ?_⟩) hHeld ?_ ?_
           rotate_left
           ·
            rintro w' ⟨s0, s1, s2, s3⟩
            go_simp
            with_reducible rfl
           rotate_left
           ·
            simp only [Act.put, List.setIfInBounds_toArray, List.set_cons_zero, List.set_cons_succ, i64_w, i32_w]
            rfl
           refine take_ (i := 3) (N := some 70) (v := ?_) (a' := ?_) #[true, true, false, true, false, false, false, false] rfl rfl (take_ofW HT_.out HW_.out (by kernel_rfl)) (fun _ _ _ h => h) (Or.inl ⟨by rfl, ?_⟩) hHeld ?_ ?_
           rotate_left
           ·
            rintro w' ⟨s0, s1, s2, s3⟩
            go_simp
            with_reducible rfl
           rotate_left
           ·
            simp only [Act.put, List.setIfInBounds_toArray, List.set_cons_zero, List.set_cons_succ, i64_w, i32_w]
            rfl
           refine take_ (i := 4) (N := some 71) (v := ?_) (a' := ?_) #[true, true, false, true, true, false, false, false] rfl rfl (take_ofW HT_.out HW_.out (by kernel_rfl)) (fun _ _ _ h => h) (Or.inl ⟨by rfl, ?_⟩) hHeld ?_ ?_
           rotate_left
           ·
            rintro w' ⟨s0, s1, s2, s3⟩
            go_simp
            with_reducible rfl
           rotate_left
           ·
            simp only [Act.put, List.setIfInBounds_toArray, List.set_cons_zero, List.set_cons_succ, i64_w, i32_w]
            rfl
           refine one_ (i := 2) (N := some 69) #[true, true, true, true, true, false, false, false] rfl rfl (one_of HT_.out (by kernel_rfl)) (by decide) (fun K hK => ?_)
           refine goes_ Try.func71 (by kernel_rfl) rfl #[.agg #[.int .i64 t488, .int .i64 t489], .agg #[.int .i64 t490, .int .i64 t491], .int .i64 1] (by rfl) rfl rfl (by (try simp only [List.map_toArray, List.map_cons, List.map_nil]); first | done | rfl | (simp only [List.length_drop, List.length_take]; rfl)) ?_
           with_reducible refine (gimbalref02_above.calls kj7 t488 t489 t490 t491 1 t516 t517 _ A108.out).mono ?_
           rintro e w111 ⟨rfl, hb⟩
           refine ⟨_, rfl, ?_⟩
           have n0_ := Aside0.mk (below_step (by repeat (first | (with_reducible first | exact HB.out | apply below_alloc | apply pw_below_drewN | apply below_drew1 | refine below_set ?_ GE484.out | refine below_set ?_ GE485.out | refine below_set ?_ GE486.out | refine below_set ?_ GE487.out) | exact HB.out)) hb)
           replace BK484 := bbw BK484 hb
           replace BK485 := bbw BK485 hb
           replace BK486 := bbw BK486 hb
           replace BK487 := bbw BK487 hb
           clear HB
           have HB := n0_
           clear n0_
           (try clear hb)
           (try clear hb2)
           (try clear hk)
           (try clear hi)
           refine hK.out _ _ ⟨(blk_cell BK484.out 0).trans rfl, (blk_cell BK484.out 1).trans rfl, (blk_cell BK485.out 0).trans rfl, (blk_cell BK485.out 1).trans rfl⟩ (fun hHeld => ?_)
           clear hK K
           refine norm_ (a' := ?_) ?_ ?_
           rotate_left
           ·
            show Act.put _ (some 69) _ = _
            simp only [Act.put, List.setIfInBounds_toArray, List.set_cons_zero, List.set_cons_succ, i64_w, i32_w]
            rfl
           refine one_ (i := 5) (N := some 72) #[true, true, true, true, true, true, false, false] rfl rfl (one_of HT_.out (by kernel_rfl)) (by decide) (fun K hK => ?_)
           refine goes_ Try.func70 (by kernel_rfl) rfl #[.agg #[.int .i64 t490, .int .i64 t491], .agg #[.int .i64 t488, .int .i64 t489], .int .i64 1] (by rfl) rfl rfl (by (try simp only [List.map_toArray, List.map_cons, List.map_nil]); first | done | rfl | (simp only [List.length_drop, List.length_take]; rfl)) ?_
           with_reducible refine (gimbalref02_below.calls kj7 t490 t491 t488 t489 1 t518 t519 _ A109.out).mono ?_
           rintro e w112 ⟨rfl, hb⟩
           refine ⟨_, rfl, ?_⟩
           have n0_ := Aside0.mk (below_step (by repeat (first | (with_reducible first | exact HB.out | apply below_alloc | apply pw_below_drewN | apply below_drew1 | refine below_set ?_ GE484.out | refine below_set ?_ GE485.out | refine below_set ?_ GE486.out | refine below_set ?_ GE487.out) | exact HB.out)) hb)
           replace BK484 := bbw BK484 hb
           replace BK485 := bbw BK485 hb
           replace BK486 := bbw BK486 hb
           replace BK487 := bbw BK487 hb
           clear HB
           have HB := n0_
           clear n0_
           (try clear hb)
           (try clear hb2)
           (try clear hk)
           (try clear hi)
           refine hK.out _ _ ⟨(blk_cell BK484.out 0).trans rfl, (blk_cell BK484.out 1).trans rfl, (blk_cell BK485.out 0).trans rfl, (blk_cell BK485.out 1).trans rfl⟩ (fun hHeld => ?_)
           clear hK K
           refine norm_ (a' := ?_) ?_ ?_
           rotate_left
           ·
            show Act.put _ (some 72) _ = _
            simp only [Act.put, List.setIfInBounds_toArray, List.set_cons_zero, List.set_cons_succ, i64_w, i32_w]
            rfl
           refine one_ (i := 6) (N := none) #[true, true, true, true, true, true, true, false] rfl rfl (one_of HT_.out (by kernel_rfl)) (by decide) (fun K hK => ?_)
           have hs113 : w112.cell? ⟨gb486, 0, none⟩ = some (.int .i64 0) := (blk_cell BK486.out 0).trans rfl
           have hfs113 := blk_frozen BK486.out 0
           have hns113_0 := NB484_486.out
           have hns113_1 := NB485_486.out
           have hns113_3 := NB487_486.out
           have hms113_0 := NB486_484.out
           have hms113_1 := NB486_485.out
           have hms113_3 := NB486_487.out
           have hs114 : w112.cell? ⟨gb486, 1, none⟩ = some (.int .i64 0) := (blk_cell BK486.out 1).trans rfl
           have hfs114 := blk_frozen BK486.out 1
           have hns114_0 := NB484_486.out
           have hns114_1 := NB485_486.out
           have hns114_3 := NB487_486.out
           have hms114_0 := NB486_484.out
           have hms114_1 := NB486_485.out
           have hms114_3 := NB486_487.out
           refine skip_ (w1 := ?_) (by rfl) rfl ?_ ?_
           rotate_left
           ·
            go_simp
            rfl
           refine hK.out _ _ ⟨((cell_far (p := ⟨gb486, _, none⟩) NB484_486.out _).trans (((cell_far (p := ⟨gb486, _, none⟩) NB484_486.out _).trans (hHeld.1)))), ((cell_far (p := ⟨gb486, _, none⟩) NB484_486.out _).trans (((cell_far (p := ⟨gb486, _, none⟩) NB484_486.out _).trans (hHeld.2.1)))), ((cell_far (p := ⟨gb486, _, none⟩) NB485_486.out _).trans (((cell_far (p := ⟨gb486, _, none⟩) NB485_486.out _).trans (hHeld.2.2.1)))), ((cell_far (p := ⟨gb486, _, none⟩) NB485_486.out _).trans (((cell_far (p := ⟨gb486, _, none⟩) NB485_486.out _).trans (hHeld.2.2.2))))⟩ (fun hHeld => ?_)
           clear hK K
           refine one_ (i := 7) (N := none) #[true, true, true, true, true, true, true, true] rfl rfl (one_of HT_.out (by kernel_rfl)) (by decide) (fun K hK => ?_)
           have hs115 : w112.cell? ⟨gb487, 0, none⟩ = some (.int .i64 0) := (blk_cell BK487.out 0).trans rfl
           have hfs115 := blk_frozen BK487.out 0
           have hns115_0 := NB484_487.out
           have hns115_1 := NB485_487.out
           have hns115_2 := NB486_487.out
           have hms115_0 := NB487_484.out
           have hms115_1 := NB487_485.out
           have hms115_2 := NB487_486.out
           have hs116 : w112.cell? ⟨gb487, 1, none⟩ = some (.int .i64 0) := (blk_cell BK487.out 1).trans rfl
           have hfs116 := blk_frozen BK487.out 1
           have hns116_0 := NB484_487.out
           have hns116_1 := NB485_487.out
           have hns116_2 := NB486_487.out
           have hms116_0 := NB487_484.out
           have hms116_1 := NB487_485.out
           have hms116_2 := NB487_486.out
           refine skip_ (w1 := ?_) (by rfl) rfl ?_ ?_
           rotate_left
           ·
            go_simp
            rfl
           refine hK.out _ _ ⟨((cell_far (p := ⟨gb487, _, none⟩) NB484_487.out _).trans (((cell_far (p := ⟨gb487, _, none⟩) NB484_487.out _).trans (hHeld.1)))), ((cell_far (p := ⟨gb487, _, none⟩) NB484_487.out _).trans (((cell_far (p := ⟨gb487, _, none⟩) NB484_487.out _).trans (hHeld.2.1)))), ((cell_far (p := ⟨gb487, _, none⟩) NB485_487.out _).trans (((cell_far (p := ⟨gb487, _, none⟩) NB485_487.out _).trans (hHeld.2.2.1)))), ((cell_far (p := ⟨gb487, _, none⟩) NB485_487.out _).trans (((cell_far (p := ⟨gb487, _, none⟩) NB485_487.out _).trans (hHeld.2.2.2))))⟩ (fun hHeld => ?_)
           clear hK K
           refine done_ (done_of HT_.out (by kernel_rfl)) ?_
           try go_wp2
           refine bodyPost_ret (results_cc rfl _ _ gb486 gb487 23 23 #[.int .i64 t516, .int .i64 t517] #[.int .i64 t518, .int .i64 t519] (0, 0) (0, 0) _ _ rfl (by (with_reducible repeat (first | refine blk_drewN ?_ _ | refine blk_drew ?_ | refine blk_alloc ?_ _)); refine blk_far ?_ NB486_487.out _; (with_reducible repeat (first | refine blk_drewN ?_ _ | refine blk_drew ?_ | refine blk_alloc ?_ _)); refine blk_far ?_ NB486_487.out _; (with_reducible repeat (first | refine blk_drewN ?_ _ | refine blk_drew ?_ | refine blk_alloc ?_ _)); refine blk_put (cs := #[.int .i64 t516, .int .i64 0]) ?_ 1 _ (by first | rfl | (subst_vars; rfl)); (with_reducible repeat (first | refine blk_drewN ?_ _ | refine blk_drew ?_ | refine blk_alloc ?_ _)); refine blk_put (cs := #[.int .i64 0, .int .i64 0]) ?_ 0 _ (by first | rfl | (subst_vars; rfl)); (with_reducible repeat (first | refine blk_drewN ?_ _ | refine blk_drew ?_ | refine blk_alloc ?_ _)); exact BK486.out) Try.underlying23 rfl (by kernel_rfl) rfl (by (with_reducible repeat (first | refine blk_drewN ?_ _ | refine blk_drew ?_ | refine blk_alloc ?_ _)); refine blk_put (cs := #[.int .i64 t518, .int .i64 0]) ?_ 1 _ (by first | rfl | (subst_vars; rfl)); (with_reducible repeat (first | refine blk_drewN ?_ _ | refine blk_drew ?_ | refine blk_alloc ?_ _)); refine blk_put (cs := #[.int .i64 0, .int .i64 0]) ?_ 0 _ (by first | rfl | (subst_vars; rfl)); (with_reducible repeat (first | refine blk_drewN ?_ _ | refine blk_drew ?_ | refine blk_alloc ?_ _)); refine blk_far ?_ NB487_486.out _; (with_reducible repeat (first | refine blk_drewN ?_ _ | refine blk_drew ?_ | refine blk_alloc ?_ _)); refine blk_far ?_ NB487_486.out _; (with_reducible repeat (first | refine blk_drewN ?_ _ | refine blk_drew ?_ | refine blk_alloc ?_ _)); exact BK487.out) Try.underlying23 rfl (by kernel_rfl)) rfl ?_
           exact ⟨by first | rfl | (simp [errW_none, errW_some] <;> rfl) | (simp [*, errW_none, errW_some] <;> rfl) | kernel_rfl, by repeat (first | (with_reducible first | exact HB.out | apply below_alloc | apply pw_below_drewN | apply below_drew1 | refine below_set ?_ GE484.out | refine below_set ?_ GE485.out | refine below_set ?_ GE486.out | refine below_set ?_ GE487.out) | exact HB.out)⟩
          ·
           rw [if_neg c107] at H
           have c107b0 : (a0 == 18) = false := beq_eq_false_iff_ne.mpr c107
           have c107b1 : (a0 != 18) = true := bne_iff_ne.mpr c107
           replace H := Option.bind_eq_some_iff.mp H
           obtain ⟨⟨t520, t521⟩, A1170, H⟩ := H
           replace H : ((gimbalref02_below.f kj7 t490 t491 t488 t489 0).bind fun bt522 => (some (t520, t521, bt522.1, bt522.2))) = some (r1, r2, r3, r4) := H
           have A117 := Aside0.mk A1170
           clear A1170
           replace H := Option.bind_eq_some_iff.mp H
           obtain ⟨⟨t522, t523⟩, A1180, H⟩ := H
           replace H : (some (t520, t521, t522, t523)) = some (r1, r2, r3, r4) := H
           have A118 := Aside0.mk A1180
           clear A1180
           simp only [Option.some.injEq, Prod.mk.injEq] at H
           obtain ⟨rfl, rfl, rfl, rfl⟩ := H
           try go_wp2
           have n0_ := Aside0.mk (blk_drew BK484.out)
           have n1_ := Aside0.mk (blk_drew BK485.out)
           have n2_ := Aside0.mk (blk_drew BK486.out)
           have n3_ := Aside0.mk (blk_drew BK487.out)
           have n4_ := Aside0.mk (below_drew1 HB.out)
           clear BK484
           clear BK485
           clear BK486
           clear BK487
           clear HB
           have BK484 := n0_
           have BK485 := n1_
           have BK486 := n2_
           have BK487 := n3_
           have HB := n4_
           clear n0_ n1_ n2_ n3_ n4_
           refine start_ (n := 8) (S := fun w' => w'.cell? ⟨gb484, 0, none⟩ = some (.int .i64 t488) ∧ w'.cell? ⟨gb484, 1, none⟩ = some (.int .i64 t489) ∧ w'.cell? ⟨gb485, 0, none⟩ = some (.int .i64 t490) ∧ w'.cell? ⟨gb485, 1, none⟩ = some (.int .i64 t491)) (ds := []) #[false, false, false, false, false, false, false, false] (by kernel_rfl) rfl rfl ⟨(blk_cell BK484.out 0).trans rfl, (blk_cell BK484.out 1).trans rfl, (blk_cell BK485.out 0).trans rfl, (blk_cell BK485.out 1).trans rfl⟩ (fun hHeld => ?_); refine with_tabW gimbalref02_Test.tab18 gimbalref02_Test.bits18 (fun HT_ HW_ => ?_)
           generalize wc.drew = w119 at BK484 BK485 BK486 BK487 HB hHeld ⊢
           refine take_ (i := 0) (N := some 73) (v := ?_) (a' := ?_) #[true, false, false, false, false, false, false, false] rfl rfl (take_ofW HT_.out HW_.out (by kernel_rfl)) (fun _ _ _ h => h) (Or.inl ⟨by rfl, ?_⟩) hHeld ?_ ?_
           rotate_left
           ·
            rintro w' ⟨s0, s1, s2, s3⟩
            go_simp
            with_reducible rfl
           rotate_left
           ·
            simp only [Act.put, List.setIfInBounds_toArray, List.set_cons_zero, List.set_cons_succ, i64_w, i32_w]
            rfl
           refine take_ (i := 1) (N := some 74) (v := ?_) (a' := ?_) #[true, true, false, false, false, false, false, false] rfl rfl (take_ofW HT_.out HW_.out (by kernel_rfl)) (fun _ _ _ h => h) (Or.inl ⟨by rfl, ?_⟩) hHeld ?_ ?_
           rotate_left
           ·
            rintro w' ⟨s0, s1, s2, s3⟩
            go_simp
            with_reducible rfl
           rotate_left
           ·
            simp only [Act.put, List.setIfInBounds_toArray, List.set_cons_zero, List.set_cons_succ, i64_w, i32_w]
            rfl
           refine take_ (i := 3) (N := some 76) (v := ?_) (a' := ?_) #[true, true, false, true, false, false, false, false] rfl rfl (take_ofW HT_.out HW_.out (by kernel_rfl)) (fun _ _ _ h => h) (Or.inl ⟨by rfl, ?_⟩) hHeld ?_ ?_
           rotate_left
           ·
            rintro w' ⟨s0, s1, s2, s3⟩
            go_simp
            with_reducible rfl
           rotate_left
           ·
            simp only [Act.put, List.setIfInBounds_toArray, List.set_cons_zero, List.set_cons_succ, i64_w, i32_w]
            rfl
           refine take_ (i := 4) (N := some 77) (v := ?_) (a' := ?_) #[true, true, false, true, true, false, false, false] rfl rfl (take_ofW HT_.out HW_.out (by kernel_rfl)) (fun _ _ _ h => h) (Or.inl ⟨by rfl, ?_⟩) hHeld ?_ ?_
           rotate_left
           ·
            rintro w' ⟨s0, s1, s2, s3⟩
            go_simp
            with_reducible rfl
           rotate_left
           ·
            simp only [Act.put, List.setIfInBounds_toArray, List.set_cons_zero, List.set_cons_succ, i64_w, i32_w]
            rfl
           refine one_ (i := 2) (N := some 75) #[true, true, true, true, true, false, false, false] rfl rfl (one_of HT_.out (by kernel_rfl)) (by decide) (fun K hK => ?_)
           refine goes_ Try.func71 (by kernel_rfl) rfl #[.agg #[.int .i64 t488, .int .i64 t489], .agg #[.int .i64 t490, .int .i64 t491], .int .i64 0] (by rfl) rfl rfl (by (try simp only [List.map_toArray, List.map_cons, List.map_nil]); first | done | rfl | (simp only [List.length_drop, List.length_take]; rfl)) ?_
           with_reducible refine (gimbalref02_above.calls kj7 t488 t489 t490 t491 0 t520 t521 _ A117.out).mono ?_
           rintro e w120 ⟨rfl, hb⟩
           refine ⟨_, rfl, ?_⟩
           have n0_ := Aside0.mk (below_step (by repeat (first | (with_reducible first | exact HB.out | apply below_alloc | apply pw_below_drewN | apply below_drew1 | refine below_set ?_ GE484.out | refine below_set ?_ GE485.out | refine below_set ?_ GE486.out | refine below_set ?_ GE487.out) | exact HB.out)) hb)
           replace BK484 := bbw BK484 hb
           replace BK485 := bbw BK485 hb
           replace BK486 := bbw BK486 hb
           replace BK487 := bbw BK487 hb
           clear HB
           have HB := n0_
           clear n0_
           (try clear hb)
           (try clear hb2)
           (try clear hk)
           (try clear hi)
           refine hK.out _ _ ⟨(blk_cell BK484.out 0).trans rfl, (blk_cell BK484.out 1).trans rfl, (blk_cell BK485.out 0).trans rfl, (blk_cell BK485.out 1).trans rfl⟩ (fun hHeld => ?_)
           clear hK K
           refine norm_ (a' := ?_) ?_ ?_
           rotate_left
           ·
            show Act.put _ (some 75) _ = _
            simp only [Act.put, List.setIfInBounds_toArray, List.set_cons_zero, List.set_cons_succ, i64_w, i32_w]
            rfl
           refine one_ (i := 5) (N := some 78) #[true, true, true, true, true, true, false, false] rfl rfl (one_of HT_.out (by kernel_rfl)) (by decide) (fun K hK => ?_)
           refine goes_ Try.func70 (by kernel_rfl) rfl #[.agg #[.int .i64 t490, .int .i64 t491], .agg #[.int .i64 t488, .int .i64 t489], .int .i64 0] (by rfl) rfl rfl (by (try simp only [List.map_toArray, List.map_cons, List.map_nil]); first | done | rfl | (simp only [List.length_drop, List.length_take]; rfl)) ?_
           with_reducible refine (gimbalref02_below.calls kj7 t490 t491 t488 t489 0 t522 t523 _ A118.out).mono ?_
           rintro e w121 ⟨rfl, hb⟩
           refine ⟨_, rfl, ?_⟩
           have n0_ := Aside0.mk (below_step (by repeat (first | (with_reducible first | exact HB.out | apply below_alloc | apply pw_below_drewN | apply below_drew1 | refine below_set ?_ GE484.out | refine below_set ?_ GE485.out | refine below_set ?_ GE486.out | refine below_set ?_ GE487.out) | exact HB.out)) hb)
           replace BK484 := bbw BK484 hb
           replace BK485 := bbw BK485 hb
           replace BK486 := bbw BK486 hb
           replace BK487 := bbw BK487 hb
           clear HB
           have HB := n0_
           clear n0_
           (try clear hb)
           (try clear hb2)
           (try clear hk)
           (try clear hi)
           refine hK.out _ _ ⟨(blk_cell BK484.out 0).trans rfl, (blk_cell BK484.out 1).trans rfl, (blk_cell BK485.out 0).trans rfl, (blk_cell BK485.out 1).trans rfl⟩ (fun hHeld => ?_)
           clear hK K
           refine norm_ (a' := ?_) ?_ ?_
           rotate_left
           ·
            show Act.put _ (some 78) _ = _
            simp only [Act.put, List.setIfInBounds_toArray, List.set_cons_zero, List.set_cons_succ, i64_w, i32_w]
            rfl
           refine one_ (i := 6) (N := none) #[true, true, true, true, true, true, true, false] rfl rfl (one_of HT_.out (by kernel_rfl)) (by decide) (fun K hK => ?_)
           have hs122 : w121.cell? ⟨gb486, 0, none⟩ = some (.int .i64 0) := (blk_cell BK486.out 0).trans rfl
           have hfs122 := blk_frozen BK486.out 0
           have hns122_0 := NB484_486.out
           have hns122_1 := NB485_486.out
           have hns122_3 := NB487_486.out
           have hms122_0 := NB486_484.out
           have hms122_1 := NB486_485.out
           have hms122_3 := NB486_487.out
           have hs123 : w121.cell? ⟨gb486, 1, none⟩ = some (.int .i64 0) := (blk_cell BK486.out 1).trans rfl
           have hfs123 := blk_frozen BK486.out 1
           have hns123_0 := NB484_486.out
           have hns123_1 := NB485_486.out
           have hns123_3 := NB487_486.out
           have hms123_0 := NB486_484.out
           have hms123_1 := NB486_485.out
           have hms123_3 := NB486_487.out
           refine skip_ (w1 := ?_) (by rfl) rfl ?_ ?_
           rotate_left
           ·
            go_simp
            rfl
           refine hK.out _ _ ⟨((cell_far (p := ⟨gb486, _, none⟩) NB484_486.out _).trans (((cell_far (p := ⟨gb486, _, none⟩) NB484_486.out _).trans (hHeld.1)))), ((cell_far (p := ⟨gb486, _, none⟩) NB484_486.out _).trans (((cell_far (p := ⟨gb486, _, none⟩) NB484_486.out _).trans (hHeld.2.1)))), ((cell_far (p := ⟨gb486, _, none⟩) NB485_486.out _).trans (((cell_far (p := ⟨gb486, _, none⟩) NB485_486.out _).trans (hHeld.2.2.1)))), ((cell_far (p := ⟨gb486, _, none⟩) NB485_486.out _).trans (((cell_far (p := ⟨gb486, _, none⟩) NB485_486.out _).trans (hHeld.2.2.2))))⟩ (fun hHeld => ?_)
           clear hK K
           refine one_ (i := 7) (N := none) #[true, true, true, true, true, true, true, true] rfl rfl (one_of HT_.out (by kernel_rfl)) (by decide) (fun K hK => ?_)
           have hs124 : w121.cell? ⟨gb487, 0, none⟩ = some (.int .i64 0) := (blk_cell BK487.out 0).trans rfl
           have hfs124 := blk_frozen BK487.out 0
           have hns124_0 := NB484_487.out
           have hns124_1 := NB485_487.out
           have hns124_2 := NB486_487.out
           have hms124_0 := NB487_484.out
           have hms124_1 := NB487_485.out
           have hms124_2 := NB487_486.out
           have hs125 : w121.cell? ⟨gb487, 1, none⟩ = some (.int .i64 0) := (blk_cell BK487.out 1).trans rfl
           have hfs125 := blk_frozen BK487.out 1
           have hns125_0 := NB484_487.out
           have hns125_1 := NB485_487.out
           have hns125_2 := NB486_487.out
           have hms125_0 := NB487_484.out
           have hms125_1 := NB487_485.out
           have hms125_2 := NB487_486.out
           refine skip_ (w1 := ?_) (by rfl) rfl ?_ ?_
           rotate_left
           ·
            go_simp
            rfl
           refine hK.out _ _ ⟨((cell_far (p := ⟨gb487, _, none⟩) NB484_487.out _).trans (((cell_far (p := ⟨gb487, _, none⟩) NB484_487.out _).trans (hHeld.1)))), ((cell_far (p := ⟨gb487, _, none⟩) NB484_487.out _).trans (((cell_far (p := ⟨gb487, _, none⟩) NB484_487.out _).trans (hHeld.2.1)))), ((cell_far (p := ⟨gb487, _, none⟩) NB485_487.out _).trans (((cell_far (p := ⟨gb487, _, none⟩) NB485_487.out _).trans (hHeld.2.2.1)))), ((cell_far (p := ⟨gb487, _, none⟩) NB485_487.out _).trans (((cell_far (p := ⟨gb487, _, none⟩) NB485_487.out _).trans (hHeld.2.2.2))))⟩ (fun hHeld => ?_)
           clear hK K
           refine done_ (done_of HT_.out (by kernel_rfl)) ?_
           try go_wp2
           refine bodyPost_ret (results_cc rfl _ _ gb486 gb487 23 23 #[.int .i64 t520, .int .i64 t521] #[.int .i64 t522, .int .i64 t523] (0, 0) (0, 0) _ _ rfl (by (with_reducible repeat (first | refine blk_drewN ?_ _ | refine blk_drew ?_ | refine blk_alloc ?_ _)); refine blk_far ?_ NB486_487.out _; (with_reducible repeat (first | refine blk_drewN ?_ _ | refine blk_drew ?_ | refine blk_alloc ?_ _)); refine blk_far ?_ NB486_487.out _; (with_reducible repeat (first | refine blk_drewN ?_ _ | refine blk_drew ?_ | refine blk_alloc ?_ _)); refine blk_put (cs := #[.int .i64 t520, .int .i64 0]) ?_ 1 _ (by first | rfl | (subst_vars; rfl)); (with_reducible repeat (first | refine blk_drewN ?_ _ | refine blk_drew ?_ | refine blk_alloc ?_ _)); refine blk_put (cs := #[.int .i64 0, .int .i64 0]) ?_ 0 _ (by first | rfl | (subst_vars; rfl)); (with_reducible repeat (first | refine blk_drewN ?_ _ | refine blk_drew ?_ | refine blk_alloc ?_ _)); exact BK486.out) Try.underlying23 rfl (by kernel_rfl) rfl (by (with_reducible repeat (first | refine blk_drewN ?_ _ | refine blk_drew ?_ | refine blk_alloc ?_ _)); refine blk_put (cs := #[.int .i64 t522, .int .i64 0]) ?_ 1 _ (by first | rfl | (subst_vars; rfl)); (with_reducible repeat (first | refine blk_drewN ?_ _ | refine blk_drew ?_ | refine blk_alloc ?_ _)); refine blk_put (cs := #[.int .i64 0, .int .i64 0]) ?_ 0 _ (by first | rfl | (subst_vars; rfl)); (with_reducible repeat (first | refine blk_drewN ?_ _ | refine blk_drew ?_ | refine blk_alloc ?_ _)); refine blk_far ?_ NB487_486.out _; (with_reducible repeat (first | refine blk_drewN ?_ _ | refine blk_drew ?_ | refine blk_alloc ?_ _)); refine blk_far ?_ NB487_486.out _; (with_reducible repeat (first | refine blk_drewN ?_ _ | refine blk_drew ?_ | refine blk_alloc ?_ _)); exact BK487.out) Try.underlying23 rfl (by kernel_rfl)) rfl ?_
           exact ⟨by first | rfl | (simp [errW_none, errW_some] <;> rfl) | (simp [*, errW_none, errW_some] <;> rfl) | kernel_rfl, by repeat (first | (with_reducible first | exact HB.out | apply below_alloc | apply pw_below_drewN | apply below_drew1 | refine below_set ?_ GE484.out | refine below_set ?_ GE485.out | refine below_set ?_ GE486.out | refine below_set ?_ GE487.out) | exact HB.out)⟩
  ·
   replace c7 := Bool.eq_false_iff.mpr c7
   subst c7
   have H1 : (some (t488, t489, t490, t491)) = some (r1, r2, r3, r4) := by rw [if_neg (show ¬ (false = true) by decide)] at H; exact H
   clear H
   have H := H1
   clear H1
   simp only [Option.some.injEq, Prod.mk.injEq] at H
   obtain ⟨rfl, rfl, rfl, rfl⟩ := H
   go_enter Try.func37, Try.ntmps37
   try go_wp2_with (first | ((with_reducible refine gate_dst (N := 4) rfl ?_); refine box_event ?hg (N := 4) ?hd (cs := #[.int .i64 a1_0, .int .i64 a1_1]) (t := 23) ?hr ?_; (case hd => rfl); (case hg => rfl); (case hr => first | (go_simp; done) | (go_simp; rfl)); intro gb484 hg w126 hbox hb; have n0_ := Aside0.mk (below_step (by repeat (first | (with_reducible first | exact HB.out | apply below_alloc | apply pw_below_drewN | apply below_drew1) | exact HB.out)) hb); have n1_ := Aside0.mk (hbox); have n2_ := Aside0.mk ((by rw [hg]; exact (below_size (by repeat (first | (with_reducible first | exact HB.out | apply below_alloc | apply pw_below_drewN | apply below_drew1) | exact HB.out))) : w.heap.size ≤ gb484)); have n3_ := Aside0.mk ((by rw [hg]; exact (below_size (by repeat (first | (with_reducible first | exact HB.out | apply below_alloc | apply pw_below_drewN | apply below_drew1) | exact HB.out))) : w.heap.size ≤ gb484)); clear HB; have HB := n0_; have BK484 := n1_; have GW484 := n2_; have GE484 := n3_; clear n0_ n1_ n2_ n3_; clear hb hbox hg) | ((with_reducible refine gate_dst (N := 5) rfl ?_); refine box_event ?hg (N := 5) ?hd (cs := #[.int .i64 a2_0, .int .i64 a2_1]) (t := 23) ?hr ?_; (case hd => rfl); (case hg => rfl); (case hr => first | (go_simp; done) | (go_simp; rfl)); intro gb485 hg w127 hbox hb; have n0_ := Aside0.mk (below_step (by repeat (first | (with_reducible first | exact HB.out | apply below_alloc | apply pw_below_drewN | apply below_drew1 | refine below_set ?_ GE484.out) | exact HB.out)) hb); have n1_ := Aside0.mk (hbox); have n2_ := Aside0.mk ((by rw [hg]; exact (below_size (by repeat (first | (with_reducible first | exact HB.out | apply below_alloc | apply pw_below_drewN | apply below_drew1 | refine below_set ?_ GE484.out) | exact HB.out))) : w.heap.size ≤ gb485)); have n3_ := Aside0.mk ((by rw [hg]; exact (below_size (by repeat (first | (with_reducible first | exact HB.out | apply below_alloc | apply pw_below_drewN | apply below_drew1 | refine below_set ?_ GE484.out) | exact HB.out))) : w.heap.size ≤ gb485)); have n4_ := Aside0.mk ((by rw [hg]; exact Nat.ne_of_lt (blk_lt (g := gb484) (o := .cells #[.int .i64 a1_0, .int .i64 a1_1] 23 (0, 0)) (pk BK484.out)) : gb484 ≠ gb485)); have n5_ := Aside0.mk ((by rw [hg]; exact Nat.ne_of_gt (blk_lt (g := gb484) (o := .cells #[.int .i64 a1_0, .int .i64 a1_1] 23 (0, 0)) (pk BK484.out)) : gb485 ≠ gb484)); replace BK484 := bbw BK484 hb; clear HB; have HB := n0_; have BK485 := n1_; have GW485 := n2_; have GE485 := n3_; have NB484_485 := n4_; have NB485_484 := n5_; clear n0_ n1_ n2_ n3_ n4_ n5_; clear hb hbox hg) | ((with_reducible refine gate_dst (N := 6) rfl ?_); refine box_event ?hg (N := 6) ?hd (cs := #[.int .i64 0, .int .i64 0]) (t := 23) ?hr ?_; (case hd => rfl); (case hg => rfl); (case hr => first | (go_simp; done) | (go_simp; rfl)); intro gb486 hg w128 hbox hb; have n0_ := Aside0.mk (below_step (by repeat (first | (with_reducible first | exact HB.out | apply below_alloc | apply pw_below_drewN | apply below_drew1 | refine below_set ?_ GE484.out | refine below_set ?_ GE485.out) | exact HB.out)) hb); have n1_ := Aside0.mk (hbox); have n2_ := Aside0.mk ((by rw [hg]; exact (below_size (by repeat (first | (with_reducible first | exact HB.out | apply below_alloc | apply pw_below_drewN | apply below_drew1 | refine below_set ?_ GE484.out | refine below_set ?_ GE485.out) | exact HB.out))) : w.heap.size ≤ gb486)); have n3_ := Aside0.mk ((by rw [hg]; exact (below_size (by repeat (first | (with_reducible first | exact HB.out | apply below_alloc | apply pw_below_drewN | apply below_drew1 | refine below_set ?_ GE484.out | refine below_set ?_ GE485.out) | exact HB.out))) : w.heap.size ≤ gb486)); have n4_ := Aside0.mk ((by rw [hg]; exact Nat.ne_of_lt (blk_lt (g := gb484) (o := .cells #[.int .i64 a1_0, .int .i64 a1_1] 23 (0, 0)) (pk BK484.out)) : gb484 ≠ gb486)); have n5_ := Aside0.mk ((by rw [hg]; exact Nat.ne_of_gt (blk_lt (g := gb484) (o := .cells #[.int .i64 a1_0, .int .i64 a1_1] 23 (0, 0)) (pk BK484.out)) : gb486 ≠ gb484)); have n6_ := Aside0.mk ((by rw [hg]; exact Nat.ne_of_lt (blk_lt (g := gb485) (o := .cells #[.int .i64 a2_0, .int .i64 a2_1] 23 (0, 0)) (pk BK485.out)) : gb485 ≠ gb486)); have n7_ := Aside0.mk ((by rw [hg]; exact Nat.ne_of_gt (blk_lt (g := gb485) (o := .cells #[.int .i64 a2_0, .int .i64 a2_1] 23 (0, 0)) (pk BK485.out)) : gb486 ≠ gb485)); replace BK484 := bbw BK484 hb; replace BK485 := bbw BK485 hb; clear HB; have HB := n0_; have BK486 := n1_; have GW486 := n2_; have GE486 := n3_; have NB484_486 := n4_; have NB486_484 := n5_; have NB485_486 := n6_; have NB486_485 := n7_; clear n0_ n1_ n2_ n3_ n4_ n5_ n6_ n7_; clear hb hbox hg) | ((with_reducible refine gate_dst (N := 7) rfl ?_); refine box_event ?hg (N := 7) ?hd (cs := #[.int .i64 0, .int .i64 0]) (t := 23) ?hr ?_; (case hd => rfl); (case hg => rfl); (case hr => first | (go_simp; done) | (go_simp; rfl)); intro gb487 hg w129 hbox hb; have n0_ := Aside0.mk (below_step (by repeat (first | (with_reducible first | exact HB.out | apply below_alloc | apply pw_below_drewN | apply below_drew1 | refine below_set ?_ GE484.out | refine below_set ?_ GE485.out | refine below_set ?_ GE486.out) | exact HB.out)) hb); have n1_ := Aside0.mk (hbox); have n2_ := Aside0.mk ((by rw [hg]; exact (below_size (by repeat (first | (with_reducible first | exact HB.out | apply below_alloc | apply pw_below_drewN | apply below_drew1 | refine below_set ?_ GE484.out | refine below_set ?_ GE485.out | refine below_set ?_ GE486.out) | exact HB.out))) : w.heap.size ≤ gb487)); have n3_ := Aside0.mk ((by rw [hg]; exact (below_size (by repeat (first | (with_reducible first | exact HB.out | apply below_alloc | apply pw_below_drewN | apply below_drew1 | refine below_set ?_ GE484.out | refine below_set ?_ GE485.out | refine below_set ?_ GE486.out) | exact HB.out))) : w.heap.size ≤ gb487)); have n4_ := Aside0.mk ((by rw [hg]; exact Nat.ne_of_lt (blk_lt (g := gb484) (o := .cells #[.int .i64 a1_0, .int .i64 a1_1] 23 (0, 0)) (pk BK484.out)) : gb484 ≠ gb487)); have n5_ := Aside0.mk ((by rw [hg]; exact Nat.ne_of_gt (blk_lt (g := gb484) (o := .cells #[.int .i64 a1_0, .int .i64 a1_1] 23 (0, 0)) (pk BK484.out)) : gb487 ≠ gb484)); have n6_ := Aside0.mk ((by rw [hg]; exact Nat.ne_of_lt (blk_lt (g := gb485) (o := .cells #[.int .i64 a2_0, .int .i64 a2_1] 23 (0, 0)) (pk BK485.out)) : gb485 ≠ gb487)); have n7_ := Aside0.mk ((by rw [hg]; exact Nat.ne_of_gt (blk_lt (g := gb485) (o := .cells #[.int .i64 a2_0, .int .i64 a2_1] 23 (0, 0)) (pk BK485.out)) : gb487 ≠ gb485)); have n8_ := Aside0.mk ((by rw [hg]; exact Nat.ne_of_lt (blk_lt (g := gb486) (o := .cells #[.int .i64 0, .int .i64 0] 23 (0, 0)) (pk BK486.out)) : gb486 ≠ gb487)); have n9_ := Aside0.mk ((by rw [hg]; exact Nat.ne_of_gt (blk_lt (g := gb486) (o := .cells #[.int .i64 0, .int .i64 0] 23 (0, 0)) (pk BK486.out)) : gb487 ≠ gb486)); replace BK484 := bbw BK484 hb; replace BK485 := bbw BK485 hb; replace BK486 := bbw BK486 hb; clear HB; have HB := n0_; have BK487 := n1_; have GW487 := n2_; have GE487 := n3_; have NB484_487 := n4_; have NB487_484 := n5_; have NB485_487 := n6_; have NB487_485 := n7_; have NB486_487 := n8_; have NB487_486 := n9_; clear n0_ n1_ n2_ n3_ n4_ n5_ n6_ n7_ n8_ n9_; clear hb hbox hg; have hnb130 := NB484_485.out; have hnc130 := NB485_484.out; have hnb131 := NB484_486.out; have hnc131 := NB486_484.out; have hnb132 := NB484_487.out; have hnc132 := NB487_484.out; have hcz133_0 : w129.cell? ⟨gb484, 0, none⟩ = some (.int .i64 a1_0) := (blk_cell BK484.out 0).trans rfl; have hcz133_1 : w129.cell? ⟨gb484, 1, none⟩ = some (.int .i64 a1_1) := (blk_cell BK484.out 1).trans rfl; have hfz133_0 := blk_frozen BK484.out 0; have hfz133_1 := blk_frozen BK484.out 1) | ((with_reducible refine gate_callee (f := 60) rfl ?_); refine goesL_ (some 9) rfl rfl Try.func60 (by kernel_rfl) rfl #[.agg #[.int .i64 a1_0, .int .i64 a1_1]] rfl (by (try simp only [List.map_toArray, List.map_cons, List.map_nil]); first | done | rfl | (simp only [List.length_drop, List.length_take]; rfl)) ?_; (with_reducible refine (gimbalref02_norm.calls k a1_0 a1_1 t488 t489 _ A4.out).mono ?_); rintro e w134 ⟨rfl, hb⟩; refine ⟨_, rfl, ?_⟩; have n0_ := Aside0.mk (below_step (by repeat (first | (with_reducible first | exact HB.out | apply below_alloc | apply pw_below_drewN | apply below_drew1 | refine below_set ?_ GE484.out | refine below_set ?_ GE485.out | refine below_set ?_ GE486.out | refine below_set ?_ GE487.out) | exact HB.out)) hb); replace BK484 := bbw BK484 hb; replace BK485 := bbw BK485 hb; replace BK486 := bbw BK486 hb; replace BK487 := bbw BK487 hb; clear HB; have HB := n0_; clear n0_; (try clear hb); (try clear hb2); (try clear hk); (try clear hi); have hcz135_0 : w134.cell? ⟨gb484, 0, none⟩ = some (.int .i64 a1_0) := (blk_cell BK484.out 0).trans rfl; have hcz135_1 : w134.cell? ⟨gb484, 1, none⟩ = some (.int .i64 a1_1) := (blk_cell BK484.out 1).trans rfl; have hfz135_0 := blk_frozen BK484.out 0; have hfz135_1 := blk_frozen BK484.out 1; have hnb136 := NB485_486.out; have hnc136 := NB486_485.out; have hnb137 := NB485_487.out; have hnc137 := NB487_485.out; have hcz138_0 : w134.cell? ⟨gb485, 0, none⟩ = some (.int .i64 a2_0) := (blk_cell BK485.out 0).trans rfl; have hcz138_1 : w134.cell? ⟨gb485, 1, none⟩ = some (.int .i64 a2_1) := (blk_cell BK485.out 1).trans rfl; have hfz138_0 := blk_frozen BK485.out 0; have hfz138_1 := blk_frozen BK485.out 1) | ((with_reducible refine gate_callee (f := 60) rfl ?_); refine goesL_ (some 11) rfl rfl Try.func60 (by kernel_rfl) rfl #[.agg #[.int .i64 a2_0, .int .i64 a2_1]] rfl (by (try simp only [List.map_toArray, List.map_cons, List.map_nil]); first | done | rfl | (simp only [List.length_drop, List.length_take]; rfl)) ?_; (with_reducible refine (gimbalref02_norm.calls k a2_0 a2_1 t490 t491 _ A5.out).mono ?_); rintro e w139 ⟨rfl, hb⟩; refine ⟨_, rfl, ?_⟩; have n0_ := Aside0.mk (blk_below (g := gb484) (o := .cells #[.int .i64 t488, .int .i64 t489] 23 (0, 0)) (by (with_reducible repeat (first | refine blk_drewN ?_ _ | refine blk_drew ?_ | refine blk_alloc ?_ _)); refine blk_put (cs := #[.int .i64 t488, .int .i64 a1_1]) ?_ 1 _ (by first | rfl | (subst_vars; rfl)); (with_reducible repeat (first | refine blk_drewN ?_ _ | refine blk_drew ?_ | refine blk_alloc ?_ _)); refine blk_put (cs := #[.int .i64 a1_0, .int .i64 a1_1]) ?_ 0 _ (by first | rfl | (subst_vars; rfl)); (with_reducible repeat (first | refine blk_drewN ?_ _ | refine blk_drew ?_ | refine blk_alloc ?_ _)); exact BK484.out) hb); have n1_ := Aside0.mk (blk_below (g := gb485) (o := .cells #[.int .i64 a2_0, .int .i64 a2_1] 23 (0, 0)) (by (with_reducible repeat (first | refine blk_drewN ?_ _ | refine blk_drew ?_ | refine blk_alloc ?_ _)); refine blk_far ?_ NB485_484.out _; (with_reducible repeat (first | refine blk_drewN ?_ _ | refine blk_drew ?_ | refine blk_alloc ?_ _)); refine blk_far ?_ NB485_484.out _; (with_reducible repeat (first | refine blk_drewN ?_ _ | refine blk_drew ?_ | refine blk_alloc ?_ _)); exact BK485.out) hb); have n2_ := Aside0.mk (blk_below (g := gb486) (o := .cells #[.int .i64 0, .int .i64 0] 23 (0, 0)) (by (with_reducible repeat (first | refine blk_drewN ?_ _ | refine blk_drew ?_ | refine blk_alloc ?_ _)); refine blk_far ?_ NB486_484.out _; (with_reducible repeat (first | refine blk_drewN ?_ _ | refine blk_drew ?_ | refine blk_alloc ?_ _)); refine blk_far ?_ NB486_484.out _; (with_reducible repeat (first | refine blk_drewN ?_ _ | refine blk_drew ?_ | refine blk_alloc ?_ _)); exact BK486.out) hb); have n3_ := Aside0.mk (blk_below (g := gb487) (o := .cells #[.int .i64 0, .int .i64 0] 23 (0, 0)) (by (with_reducible repeat (first | refine blk_drewN ?_ _ | refine blk_drew ?_ | refine blk_alloc ?_ _)); refine blk_far ?_ NB487_484.out _; (with_reducible repeat (first | refine blk_drewN ?_ _ | refine blk_drew ?_ | refine blk_alloc ?_ _)); refine blk_far ?_ NB487_484.out _; (with_reducible repeat (first | refine blk_drewN ?_ _ | refine blk_drew ?_ | refine blk_alloc ?_ _)); exact BK487.out) hb); have n4_ := Aside0.mk (below_step (by repeat (first | (with_reducible first | exact HB.out | apply below_alloc | apply pw_below_drewN | apply below_drew1 | refine below_set ?_ GE484.out | refine below_set ?_ GE485.out | refine below_set ?_ GE486.out | refine below_set ?_ GE487.out) | exact HB.out)) hb); clear BK484; clear BK485; clear BK486; clear BK487; clear HB; have BK484 := n0_; have BK485 := n1_; have BK486 := n2_; have BK487 := n3_; have HB := n4_; clear n0_ n1_ n2_ n3_ n4_; (try clear hb); (try clear hb2); (try clear hk); (try clear hi); have hcz140_0 : w139.cell? ⟨gb485, 0, none⟩ = some (.int .i64 a2_0) := (blk_cell BK485.out 0).trans rfl; have hcz140_1 : w139.cell? ⟨gb485, 1, none⟩ = some (.int .i64 a2_1) := (blk_cell BK485.out 1).trans rfl; have hfz140_0 := blk_frozen BK485.out 0; have hfz140_1 := blk_frozen BK485.out 1) | ((with_reducible refine gate_callee (f := 67) rfl ?_); refine goesL_ (some 13) rfl rfl Try.func67 (by kernel_rfl) rfl #[.int .i64 a0] rfl (by (try simp only [List.map_toArray, List.map_cons, List.map_nil]); first | done | rfl | (simp only [List.length_drop, List.length_take]; rfl)) ?_; (with_reducible refine (gimbalref02_compares.calls a0 false _ A6.out).mono ?_); rintro e w' ⟨rfl, ⟨nd, rfl⟩⟩; refine ⟨_, rfl, ?_⟩))
   have n0_ : Aside0 (((w139.setCell ⟨gb485, 0, none⟩ (.int .i64 t490)).setCell ⟨gb485, 1, none⟩ (.int .i64 t491)).heap[gb484]? = some (.cells #[.int .i64 t488, .int .i64 t489] 23 (0, 0))) := ⟨by (with_reducible repeat (first | refine blk_drewN ?_ _ | refine blk_drew ?_ | refine blk_alloc ?_ _)); refine blk_far ?_ NB484_485.out _; (with_reducible repeat (first | refine blk_drewN ?_ _ | refine blk_drew ?_ | refine blk_alloc ?_ _)); refine blk_far ?_ NB484_485.out _; (with_reducible repeat (first | refine blk_drewN ?_ _ | refine blk_drew ?_ | refine blk_alloc ?_ _)); exact BK484.out⟩
   have n1_ : Aside0 (((w139.setCell ⟨gb485, 0, none⟩ (.int .i64 t490)).setCell ⟨gb485, 1, none⟩ (.int .i64 t491)).heap[gb485]? = some (.cells #[.int .i64 t490, .int .i64 t491] 23 (0, 0))) := ⟨by (with_reducible repeat (first | refine blk_drewN ?_ _ | refine blk_drew ?_ | refine blk_alloc ?_ _)); refine blk_put (cs := #[.int .i64 t490, .int .i64 a2_1]) ?_ 1 _ (by first | rfl | (subst_vars; rfl)); (with_reducible repeat (first | refine blk_drewN ?_ _ | refine blk_drew ?_ | refine blk_alloc ?_ _)); refine blk_put (cs := #[.int .i64 a2_0, .int .i64 a2_1]) ?_ 0 _ (by first | rfl | (subst_vars; rfl)); (with_reducible repeat (first | refine blk_drewN ?_ _ | refine blk_drew ?_ | refine blk_alloc ?_ _)); exact BK485.out⟩
   have n2_ : Aside0 (((w139.setCell ⟨gb485, 0, none⟩ (.int .i64 t490)).setCell ⟨gb485, 1, none⟩ (.int .i64 t491)).heap[gb486]? = some (.cells #[.int .i64 0, .int .i64 0] 23 (0, 0))) := ⟨by (with_reducible repeat (first | refine blk_drewN ?_ _ | refine blk_drew ?_ | refine blk_alloc ?_ _)); refine blk_far ?_ NB486_485.out _; (with_reducible repeat (first | refine blk_drewN ?_ _ | refine blk_drew ?_ | refine blk_alloc ?_ _)); refine blk_far ?_ NB486_485.out _; (with_reducible repeat (first | refine blk_drewN ?_ _ | refine blk_drew ?_ | refine blk_alloc ?_ _)); exact BK486.out⟩
   have n3_ : Aside0 (((w139.setCell ⟨gb485, 0, none⟩ (.int .i64 t490)).setCell ⟨gb485, 1, none⟩ (.int .i64 t491)).heap[gb487]? = some (.cells #[.int .i64 0, .int .i64 0] 23 (0, 0))) := ⟨by (with_reducible repeat (first | refine blk_drewN ?_ _ | refine blk_drew ?_ | refine blk_alloc ?_ _)); refine blk_far ?_ NB487_485.out _; (with_reducible repeat (first | refine blk_drewN ?_ _ | refine blk_drew ?_ | refine blk_alloc ?_ _)); refine blk_far ?_ NB487_485.out _; (with_reducible repeat (first | refine blk_drewN ?_ _ | refine blk_drew ?_ | refine blk_alloc ?_ _)); exact BK487.out⟩
   have n4_ : Aside0 (Below w.heap.size w ((w139.setCell ⟨gb485, 0, none⟩ (.int .i64 t490)).setCell ⟨gb485, 1, none⟩ (.int .i64 t491))) := ⟨by repeat (first | (with_reducible first | exact HB.out | apply below_alloc | apply pw_below_drewN | apply below_drew1 | refine below_set ?_ GE484.out | refine below_set ?_ GE485.out | refine below_set ?_ GE486.out | refine below_set ?_ GE487.out) | exact HB.out)⟩
   (try clear BK484)
   (try clear BK485)
   (try clear BK486)
   (try clear BK487)
   (try clear HB)
   generalize ((w139.setCell ⟨gb485, 0, none⟩ (.int .i64 t490)).setCell ⟨gb485, 1, none⟩ (.int .i64 t491)) = w141 at n0_ n1_ n2_ n3_ n4_ ⊢
   have BK484 := n0_
   have BK485 := n1_
   have BK486 := n2_
   have BK487 := n3_
   have HB := n4_
   clear n0_ n1_ n2_ n3_ n4_
   (try (rw [drewN_self w141]; generalize hq_ : World.drewN w141 _ = w141; have n0_ : Aside0 (w141.heap[gb484]? = some (.cells #[.int .i64 t488, .int .i64 t489] 23 (0, 0))) := ⟨by rw [← hq_]; exact (pk BK484.out)⟩; have n1_ : Aside0 (w141.heap[gb485]? = some (.cells #[.int .i64 t490, .int .i64 t491] 23 (0, 0))) := ⟨by rw [← hq_]; exact (pk BK485.out)⟩; have n2_ : Aside0 (w141.heap[gb486]? = some (.cells #[.int .i64 0, .int .i64 0] 23 (0, 0))) := ⟨by rw [← hq_]; exact (pk BK486.out)⟩; have n3_ : Aside0 (w141.heap[gb487]? = some (.cells #[.int .i64 0, .int .i64 0] 23 (0, 0))) := ⟨by rw [← hq_]; exact (pk BK487.out)⟩; have n4_ : Aside0 (Below w.heap.size w w141) := ⟨by rw [← hq_]; exact (by repeat (first | (with_reducible first | exact HB.out | apply below_alloc | apply pw_below_drewN | apply below_drew1 | refine below_set ?_ GE484.out | refine below_set ?_ GE485.out | refine below_set ?_ GE486.out | refine below_set ?_ GE487.out) | exact HB.out))⟩; clear BK484 BK485 BK486 BK487 HB hq_; have BK484 := n0_; have BK485 := n1_; have BK486 := n2_; have BK487 := n3_; have HB := n4_; clear n0_ n1_ n2_ n3_ n4_))
   have n0_ := Aside0.mk (blk_drew BK484.out)
   have n1_ := Aside0.mk (blk_drew BK485.out)
   have n2_ := Aside0.mk (blk_drew BK486.out)
   have n3_ := Aside0.mk (blk_drew BK487.out)
   have n4_ := Aside0.mk (below_drew1 HB.out)
   clear BK484
   clear BK485
   clear BK486
   clear BK487
   clear HB
   have BK484 := n0_
   have BK485 := n1_
   have BK486 := n2_
   have BK487 := n3_
   have HB := n4_
   clear n0_ n1_ n2_ n3_ n4_
   refine start_ (n := 4) (S := fun w' => w'.cell? ⟨gb484, 0, none⟩ = some (.int .i64 t488) ∧ w'.cell? ⟨gb484, 1, none⟩ = some (.int .i64 t489) ∧ w'.cell? ⟨gb485, 0, none⟩ = some (.int .i64 t490) ∧ w'.cell? ⟨gb485, 1, none⟩ = some (.int .i64 t491)) (ds := []) #[false, false, false, false] (by kernel_rfl) rfl rfl ⟨(blk_cell BK484.out 0).trans rfl, (blk_cell BK484.out 1).trans rfl, (blk_cell BK485.out 0).trans rfl, (blk_cell BK485.out 1).trans rfl⟩ (fun hHeld => ?_)
   generalize w141.drew = w142 at BK484 BK485 BK486 BK487 HB hHeld ⊢
   refine take_ (i := 0) (N := some 15) (v := ?_) (a' := ?_) #[true, false, false, false] rfl rfl (by kernel_rfl) (fun _ _ _ h => h) (Or.inl ⟨by rfl, ?_⟩) hHeld ?_ ?_
   rotate_left
   ·
    rintro w' ⟨s0, s1, s2, s3⟩
    go_simp
    with_reducible rfl
   rotate_left
   ·
    simp only [Act.put, List.setIfInBounds_toArray, List.set_cons_zero, List.set_cons_succ, i64_w, i32_w]
    rfl
   refine take_ (i := 1) (N := some 16) (v := ?_) (a' := ?_) #[true, true, false, false] rfl rfl (by kernel_rfl) (fun _ _ _ h => h) (Or.inl ⟨by rfl, ?_⟩) hHeld ?_ ?_
   rotate_left
   ·
    rintro w' ⟨s0, s1, s2, s3⟩
    go_simp
    with_reducible rfl
   rotate_left
   ·
    simp only [Act.put, List.setIfInBounds_toArray, List.set_cons_zero, List.set_cons_succ, i64_w, i32_w]
    rfl
   refine one_ (i := 2) (N := none) #[true, true, true, false] rfl rfl (by kernel_rfl) (by decide) (fun K hK => ?_)
   have hs143 : w142.cell? ⟨gb486, 0, none⟩ = some (.int .i64 0) := (blk_cell BK486.out 0).trans rfl
   have hfs143 := blk_frozen BK486.out 0
   have hns143_0 := NB484_486.out
   have hns143_1 := NB485_486.out
   have hns143_3 := NB487_486.out
   have hms143_0 := NB486_484.out
   have hms143_1 := NB486_485.out
   have hms143_3 := NB486_487.out
   have hs144 : w142.cell? ⟨gb486, 1, none⟩ = some (.int .i64 0) := (blk_cell BK486.out 1).trans rfl
   have hfs144 := blk_frozen BK486.out 1
   have hns144_0 := NB484_486.out
   have hns144_1 := NB485_486.out
   have hns144_3 := NB487_486.out
   have hms144_0 := NB486_484.out
   have hms144_1 := NB486_485.out
   have hms144_3 := NB486_487.out
   refine skip_ (w1 := ?_) (by rfl) rfl ?_ ?_
   rotate_left
   ·
    go_simp
    rfl
   refine hK.out _ _ ⟨((cell_far (p := ⟨gb486, _, none⟩) NB484_486.out _).trans (((cell_far (p := ⟨gb486, _, none⟩) NB484_486.out _).trans (hHeld.1)))), ((cell_far (p := ⟨gb486, _, none⟩) NB484_486.out _).trans (((cell_far (p := ⟨gb486, _, none⟩) NB484_486.out _).trans (hHeld.2.1)))), ((cell_far (p := ⟨gb486, _, none⟩) NB485_486.out _).trans (((cell_far (p := ⟨gb486, _, none⟩) NB485_486.out _).trans (hHeld.2.2.1)))), ((cell_far (p := ⟨gb486, _, none⟩) NB485_486.out _).trans (((cell_far (p := ⟨gb486, _, none⟩) NB485_486.out _).trans (hHeld.2.2.2))))⟩ (fun hHeld => ?_)
   clear hK K
   refine one_ (i := 3) (N := none) #[true, true, true, true] rfl rfl (by kernel_rfl) (by decide) (fun K hK => ?_)
   have hs145 : w142.cell? ⟨gb487, 0, none⟩ = some (.int .i64 0) := (blk_cell BK487.out 0).trans rfl
   have hfs145 := blk_frozen BK487.out 0
   have hns145_0 := NB484_487.out
   have hns145_1 := NB485_487.out
   have hns145_2 := NB486_487.out
   have hms145_0 := NB487_484.out
   have hms145_1 := NB487_485.out
   have hms145_2 := NB487_486.out
   have hs146 : w142.cell? ⟨gb487, 1, none⟩ = some (.int .i64 0) := (blk_cell BK487.out 1).trans rfl
   have hfs146 := blk_frozen BK487.out 1
   have hns146_0 := NB484_487.out
   have hns146_1 := NB485_487.out
   have hns146_2 := NB486_487.out
   have hms146_0 := NB487_484.out
   have hms146_1 := NB487_485.out
   have hms146_2 := NB487_486.out
   refine skip_ (w1 := ?_) (by rfl) rfl ?_ ?_
   rotate_left
   ·
    go_simp
    rfl
   refine hK.out _ _ ⟨((cell_far (p := ⟨gb487, _, none⟩) NB484_487.out _).trans (((cell_far (p := ⟨gb487, _, none⟩) NB484_487.out _).trans (hHeld.1)))), ((cell_far (p := ⟨gb487, _, none⟩) NB484_487.out _).trans (((cell_far (p := ⟨gb487, _, none⟩) NB484_487.out _).trans (hHeld.2.1)))), ((cell_far (p := ⟨gb487, _, none⟩) NB485_487.out _).trans (((cell_far (p := ⟨gb487, _, none⟩) NB485_487.out _).trans (hHeld.2.2.1)))), ((cell_far (p := ⟨gb487, _, none⟩) NB485_487.out _).trans (((cell_far (p := ⟨gb487, _, none⟩) NB485_487.out _).trans (hHeld.2.2.2))))⟩ (fun hHeld => ?_)
   clear hK K
   refine done_ (by kernel_rfl) ?_
   try go_wp2
   refine bodyPost_ret (results_cc rfl _ _ gb486 gb487 23 23 #[.int .i64 t488, .int .i64 t489] #[.int .i64 t490, .int .i64 t491] (0, 0) (0, 0) _ _ rfl (by (with_reducible repeat (first | refine blk_drewN ?_ _ | refine blk_drew ?_ | refine blk_alloc ?_ _)); refine blk_far ?_ NB486_487.out _; (with_reducible repeat (first | refine blk_drewN ?_ _ | refine blk_drew ?_ | refine blk_alloc ?_ _)); refine blk_far ?_ NB486_487.out _; (with_reducible repeat (first | refine blk_drewN ?_ _ | refine blk_drew ?_ | refine blk_alloc ?_ _)); refine blk_put (cs := #[.int .i64 t488, .int .i64 0]) ?_ 1 _ (by first | rfl | (subst_vars; rfl)); (with_reducible repeat (first | refine blk_drewN ?_ _ | refine blk_drew ?_ | refine blk_alloc ?_ _)); refine blk_put (cs := #[.int .i64 0, .int .i64 0]) ?_ 0 _ (by first | rfl | (subst_vars; rfl)); (with_reducible repeat (first | refine blk_drewN ?_ _ | refine blk_drew ?_ | refine blk_alloc ?_ _)); exact BK486.out) Try.underlying23 rfl (by kernel_rfl) rfl (by (with_reducible repeat (first | refine blk_drewN ?_ _ | refine blk_drew ?_ | refine blk_alloc ?_ _)); refine blk_put (cs := #[.int .i64 t490, .int .i64 0]) ?_ 1 _ (by first | rfl | (subst_vars; rfl)); (with_reducible repeat (first | refine blk_drewN ?_ _ | refine blk_drew ?_ | refine blk_alloc ?_ _)); refine blk_put (cs := #[.int .i64 0, .int .i64 0]) ?_ 0 _ (by first | rfl | (subst_vars; rfl)); (with_reducible repeat (first | refine blk_drewN ?_ _ | refine blk_drew ?_ | refine blk_alloc ?_ _)); refine blk_far ?_ NB487_486.out _; (with_reducible repeat (first | refine blk_drewN ?_ _ | refine blk_drew ?_ | refine blk_alloc ?_ _)); refine blk_far ?_ NB487_486.out _; (with_reducible repeat (first | refine blk_drewN ?_ _ | refine blk_drew ?_ | refine blk_alloc ?_ _)); exact BK487.out) Try.underlying23 rfl (by kernel_rfl)) rfl ?_
   exact ⟨by first | rfl | (simp [errW_none, errW_some] <;> rfl) | (simp [*, errW_none, errW_some] <;> rfl) | kernel_rfl, by repeat (first | (with_reducible first | exact HB.out | apply below_alloc | apply pw_below_drewN | apply below_drew1 | refine below_set ?_ GE484.out | refine below_set ?_ GE485.out | refine below_set ?_ GE486.out | refine below_set ?_ GE487.out) | exact HB.out)⟩
end Go.Proofs.Ytbbnpipmjadpoaa.P
