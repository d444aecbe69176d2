import Derived.Test.YtcalcbeonbfkmaaTrXX
import Derived.Test.YtcalcbeonbfkmaaTrXG17
import Derived.Test.YtcalcbeonbfkmaaTrXG22
/- What the law's proof needs of G18. -/
namespace Go.Proofs.Ytcalcbeonbfkmaa.P
open Go.RowKit Go.Proofs.YtcalcbeonbfkmaaW.PrintWords Go.Proofs.YtcalcbeonbfkmaaW.PrintLast Go.Proofs.YtcalcbeonbfkmaaW.PrintMore Go.Proofs.YtcalcbeonbfkmaaO
attribute [local go_sem] max2_int min2_int max_two min_two max_three min_three max_four min_four
set_option linter.unusedVariables false
set_option linter.unusedSimpArgs false
/-- What a step leaves of what was. -/
structure Grow (S T : St) : Prop where
  marks : ∃ t, T.marks = S.marks ++ t
  reads : S.reads ≤ T.reads
  ticks : T.ticks = S.ticks ∨ T.ticks = wrap64 (S.ticks + 1)
theorem Grow.same {S T : St} (h1 : T.marks = S.marks) (h2 : T.reads = S.reads) (h3 : T.ticks = S.ticks) : Grow S T := ⟨⟨[], by rw [h1, List.append_nil]⟩, by rw [h2]; exact Int.le_refl _, Or.inl h3⟩
section
variable (S : St) (y : S52)
variable {S}
end
section
variable {G : Gr} {sc : List Int} {S : St}
end
end Go.Proofs.Ytcalcbeonbfkmaa.P
/- What the law's proof needs of G19. -/
namespace Go.Proofs.Ytcalcbeonbfkmaa.P
open Go.RowKit Go.Proofs.YtcalcbeonbfkmaaW.PrintWords Go.Proofs.YtcalcbeonbfkmaaW.PrintLast Go.Proofs.YtcalcbeonbfkmaaW.PrintMore Go.Proofs.YtcalcbeonbfkmaaO
attribute [local go_sem] max2_int min2_int max_two min_two max_three min_three max_four min_four
set_option linter.unusedVariables false
set_option linter.unusedSimpArgs false
abbrev oW (S : St) (n : Nat) (A1 : Option Addr) (c1 : Nat) (A2 : Option Addr) (c2 : Nat) (A3 : Option Addr) (c3 : Nat) : Value := .agg #[.int .i64 S.en, .int .i64 S.site, .int .i64 S.kind, .int .i64 S.ticks, .int .i64 S.reads, .slice A1 n c1, .slice A2 S.arrs.length c2, .slice A3 S.marks.length c3]
/-- The rows of an outcome, as they were made. -/
structure Rw3 (G : Gr) (S : St) (w : World) (n : Nat) (A1 : Option Addr) (c1 : Nat) (A2 : Option Addr) (c2 : Nat) (A3 : Option Addr) (c3 : Nat) : Prop where
  hn : (S.regs.take G.l5.length).length = n
  ex : ∃ (b1 b2 : Nat) (ok1 ok2 ok3 : Nat → Prop), Kd.R (Kd.int .i64) 2 w b1 ok1 (.slice A1 n c1) (S.regs.take G.l5.length) ∧ Kd.S kL 29 w b2 ok2 (.slice A2 S.arrs.length c2) S.arrs ∧ Kd.R kL 29 w b2 ok3 (.slice A3 S.marks.length c3) S.marks
section
variable {G : Gr} {S : St} {w w' : World} {n : Nat} {A1 A2 A3 : Option Addr} {c1 c2 c3 : Nat}
theorem Rw3.below (h : Rw3 G S w n A1 c1 A2 c2 A3 c3) (hb : Below w.heap.size w w') : Rw3 G S w' n A1 c1 A2 c2 A3 c3 := by
  obtain ⟨b1, b2, ok1, ok2, ok3, r1, r2, r3⟩ := h.ex
  exact ⟨h.hn, b1, b2, ok1, ok2, ok3, Kd.R_below r1 hb, Kd.S_below r2 hb, Kd.R_below r3 hb⟩
theorem Rw3.boxed {g t : Nat} {c : Array Value} (h : Rw3 G S w n A1 c1 A2 c2 A3 c3) (hb : w.heap[g]? = some (.cells c t (0, 0))) (hg : w.grownBy w' (some g)) (t2 : 2 ≠ t := by decide) (t29 : 29 ≠ t := by decide) : Rw3 G S w' n A1 c1 A2 c2 A3 c3 := by
  obtain ⟨b1, b2, ok1, ok2, ok3, r1, r2, r3⟩ := h.ex
  have e1 : ∀ q, q ∈ [2] → q ≠ t := fun q hq => by rw [List.mem_singleton.1 hq]; exact t2
  have e2 : ∀ q, q ∈ [29, 2] → q ≠ t := fun q hq => by
    rcases List.mem_cons.1 hq with rfl | hq
    · exact t29
    · exact e1 q hq
  exact ⟨h.hn, b1, b2, ok1, ok2, ok3, R_boxed r1 hb e1 hg, S_boxed r2 hb e2 hg, R_boxed r3 hb e2 hg⟩
theorem Rw3.rd (h : Rw3 G S w n A1 c1 A2 c2 A3 c3) : Rd3 G S w A1 c1 A2 c2 A3 c3 := by
  obtain ⟨hn, b1, b2, ok1, ok2, ok3, r1, r2, r3⟩ := h
  subst hn
  have h1 := Kd.R_reads' r1
  have h2 := Kd.S_reads' r2
  have h3 := Kd.R_reads' r3
  exact ⟨⟨h1.2.2, h1.2.1⟩, ⟨h2.2.2, h2.2.1⟩, ⟨h3.2.2, h3.2.1⟩⟩
theorem RetO.rw {e : Ending} (h : RetO e w G S) : ∃ n A1 c1 A2 c2 A3 c3, e = .returned (oW S n A1 c1 A2 c2 A3 c3) ∧ Rw3 G S w n A1 c1 A2 c2 A3 c3 := by
  obtain ⟨A1, c1, A2, c2, A3, c3, b1, b2, ok1, ok2, ok3, he, r1, r2, r3⟩ := h
  exact ⟨_, A1, c1, A2, c2, A3, c3, he, ⟨rfl, b1, b2, ok1, ok2, ok3, r1, r2, r3⟩⟩
/-- Two outcomes of one run are the same. -/
theorem Rw3.same {m : Nat} {B1 B2 B3 : Option Addr} {d1 d2 d3 : Nat} (h : Rw3 G S w n A1 c1 A2 c2 A3 c3) (h' : Rw3 G S w m B1 d1 B2 d2 B3 d3) (hz : Sized G S) :
    Calls Try.prog 9 #[oW S n A1 c1 A2 c2 A3 c3, oW S m B1 d1 B2 d2 B3 d3] w fun e w' => e = .returned (.bool true) ∧ Below w.heap.size w w' := by
  have h1 := h.rd
  have h2 := h'.rd
  have e1 := h.hn
  have e2 := h'.hn
  subst e1 e2
  exact h1.same h2 hz
end
end Go.Proofs.Ytcalcbeonbfkmaa.P
/- What the law's proof needs of Px28. -/
-- PRINTED by print.py (a twelfth state) out of the translation. Not trusted: Lean checks it.
namespace Go.Proofs.Ytcalcbeonbfkmaa.P
open Go.RowKit Go.Proofs.YtcalcbeonbfkmaaW.PrintWords Go.Proofs.YtcalcbeonbfkmaaW.PrintLast Go.Proofs.YtcalcbeonbfkmaaW.PrintMore Go.Proofs.YtcalcbeonbfkmaaO
attribute [local go_sem] max2_int min2_int max_two min_two max_three min_three max_four min_four   -- for this text's walks alone
set_option linter.unusedVariables false
set_option linter.unusedSimpArgs false

-- NOT PRINTED: function 13 (gimballaw08_RunWalks_1)

-- NOT PRINTED: function 16 (gimballaw08_RunWalks_2)
def gimballaw08_same.f (k : Nat) (a0_0 : Int) (l0_1 : List Int) (l0_2 : List (List Int)) (a0_3 : Int) (a1_0 : Int) (l1_1 : List Int) (l1_2 : List (List Int)) (a1_3 : Int) : Option (Bool) := if a0_0 = a1_0 then (if a0_3 = a1_3 then ((gimbalref06_Same.f k 0 0 0 0 0 l0_1 l0_2 ([] : List (List Int)) 0 0 0 0 0 l1_1 l1_2 ([] : List (List Int))).bind fun t376 => (some t376)) else (some false)) else (some false)
set_option maxHeartbeats 8000000 in
set_option maxRecDepth 100000 in
theorem gimballaw08_same.calls (k : Nat) (a0_0 : Int) (A0_1 : Option Addr) (c0_1 : Nat) (l0_1 : List Int) (A0_2 : Option Addr) (c0_2 : Nat) (l0_2 : List (List Int)) (a0_3 : Int) (a1_0 : Int) (A1_1 : Option Addr) (c1_1 : Nat) (l1_1 : List Int) (A1_2 : Option Addr) (c1_2 : Nat) (l1_2 : List (List Int)) (a1_3 : Int) (r : Bool) (w : World) (hr0_1 : Kd.C (Kd.int .i64) w A0_1 l0_1.length l0_1) (hc0_1 : l0_1.length ≤ c0_1) (hr0_2 : Kd.C (Kd.slice 2 (Kd.int .i64)) w A0_2 l0_2.length l0_2) (hc0_2 : l0_2.length ≤ c0_2) (hr1_1 : Kd.C (Kd.int .i64) w A1_1 l1_1.length l1_1) (hc1_1 : l1_1.length ≤ c1_1) (hr1_2 : Kd.C (Kd.slice 2 (Kd.int .i64)) w A1_2 l1_2.length l1_2) (hc1_2 : l1_2.length ≤ c1_2) (h : gimballaw08_same.f k a0_0 l0_1 l0_2 a0_3 a1_0 l1_1 l1_2 a1_3 = some r) :
    Calls Try.prog 17 #[.agg #[.int .i64 a0_0, .slice A0_1 l0_1.length c0_1, .slice A0_2 l0_2.length c0_2, .int .i64 a0_3], .agg #[.int .i64 a1_0, .slice A1_1 l1_1.length c1_1, .slice A1_2 l1_2.length c1_2, .int .i64 a1_3]] w fun e w' => e = .returned (.bool r) ∧ Below w.heap.size w w' := by
  have hu43 := Try.underlying43
  have hu36 := Try.underlying36
  have HR0_1 := Aside0.mk hr0_1; have HC0_1 := Aside0.mk hc0_1; clear hr0_1 hc0_1; have HR0_2 := Aside0.mk hr0_2; have HC0_2 := Aside0.mk hc0_2; clear hr0_2 hc0_2; have HR1_1 := Aside0.mk hr1_1; have HC1_1 := Aside0.mk hc1_1; clear hr1_1 hc1_1; have HR1_2 := Aside0.mk hr1_2; have HC1_2 := Aside0.mk hc1_2; clear hr1_2 hc1_2
  have HB := Aside0.mk (Below.refl w.heap.size w)
  have H : (if a0_0 = a1_0 then (if a0_3 = a1_3 then ((gimbalref06_Same.f k 0 0 0 0 0 l0_1 l0_2 ([] : List (List Int)) 0 0 0 0 0 l1_1 l1_2 ([] : List (List Int))).bind fun t376 => (some t376)) else (some false)) else (some false)) = some r := h
  clear h
  by_cases c3 : a0_0 = a1_0
  ·
   rw [if_pos c3] at H
   have c3b0 : (a0_0 == a1_0) = true := beq_iff_eq.mpr c3
   have c3b1 : (a0_0 != a1_0) = false := bne_eq_false_iff_eq.mpr c3
   clear c3
   by_cases c4 : a0_3 = a1_3
   ·
    rw [if_pos c4] at H
    have c4b0 : (a0_3 == a1_3) = true := beq_iff_eq.mpr c4
    have c4b1 : (a0_3 != a1_3) = false := bne_eq_false_iff_eq.mpr c4
    clear c4; replace H := bnH H; obtain ⟨t376, A50, H⟩ := H
    try dsimp only at H
    have A5 := Aside0.mk A50; clear A50
    obtain rfl := Option.some.inj H
    go_enter Try.func17, Try.ntmps17
    go_wp2_with (first | ((with_reducible refine gate_dst (N := 2) rfl ?_); refine box_event ?hg (N := 2) ?hd (cs := #[.int .i64 a0_0, .slice A0_1 l0_1.length c0_1, .slice A0_2 l0_2.length c0_2, .int .i64 a0_3]) (t := 43) ?hr ?_; (case hd => rfl); (case hg => rfl); (case hr => first | (go_simp; done) | (go_simp; rfl)); intro gb374 hg w6 hbox hb; have n0_ := bst HB hb; have n1_ := Aside0.mk (hbox); have n2_ := bsz HB hg; have n3_ := bsz HB hg; clear HB; have HB := n0_; have BK374 := n1_; have GW374 := n2_; have GE374 := n3_; clear n0_ n1_ n2_ n3_; clear hb hbox hg) | ((with_reducible refine gate_dst (N := 3) rfl ?_); refine box_event ?hg (N := 3) ?hd (cs := #[.int .i64 a1_0, .slice A1_1 l1_1.length c1_1, .slice A1_2 l1_2.length c1_2, .int .i64 a1_3]) (t := 43) ?hr ?_; (case hd => rfl); (case hg => rfl); (case hr => first | (go_simp; done) | (go_simp; rfl)); intro gb375 hg w7 hbox hb; have n0_ := bst HB hb; have n1_ := Aside0.mk (hbox); have n2_ := bsz HB hg; have n3_ := bsz HB hg; have n4_ := bn1 BK374 hg; have n5_ := bn2 BK374 hg; replace BK374 := bbw BK374 hb; clear HB; have HB := n0_; have BK375 := n1_; have GW375 := n2_; have GE375 := n3_; have NB374_375 := n4_; have NB375_374 := n5_; clear n0_ n1_ n2_ n3_ n4_ n5_; clear hb hbox hg; have hnb8 := nn NB374_375 NB375_374; obtain ⟨hcz9_0, hcz9_1, hcz9_2, hcz9_3, hfz9_0, hfz9_1, hfz9_2, hfz9_3⟩ := hcf4 BK374; obtain ⟨hcz10_0, hcz10_1, hcz10_2, hcz10_3, hfz10_0, hfz10_1, hfz10_2, hfz10_3⟩ := hcf4 BK375) | (go_at_call 9; (refine (gimbalref06_Same.calls k 0 0 0 0 0 _ _ l0_1 _ _ l0_2 _ _ ([] : List (List Int)) 0 0 0 0 0 _ _ l1_1 _ _ l1_2 _ _ ([] : List (List Int)) t376 _ ?side1 ?side2 ?side3 ?side4 ?side5 ?side6 ?side7 ?side8 ?side9 ?side10 ?side11 ?side12 A5.out).mono ?_); (case side1 => exact cuq (Kd.C_below HR0_1.out HB.out)); (case side2 => exact HC0_1.out); (case side3 => exact cuq (Kd.C_below HR0_2.out HB.out)); (case side4 => exact HC0_2.out); (case side5 => exact Kd.C_nil _ _); (case side6 => exact Nat.le_refl _); (case side7 => exact cuq (Kd.C_below HR1_1.out HB.out)); (case side8 => exact HC1_1.out); (case side9 => exact cuq (Kd.C_below HR1_2.out HB.out)); (case side10 => exact HC1_2.out); (case side11 => exact Kd.C_nil _ _); (case side12 => exact Nat.le_refl _); rintro e w11 ⟨rfl, hb⟩; have n0_ := bst HB hb; replace BK374 := bbw BK374 hb; replace BK375 := bbw BK375 hb; clear HB; have HB := n0_; clear n0_; (try clear hb)))
    go_ret
    exact ⟨by first | rfl | (simp [errW_none, errW_some] <;> rfl) | (simp [*, errW_none, errW_some] <;> rfl) | kernel_rfl, (bpk HB).out⟩
   ·
    rw [if_neg c4] at H
    have c4b0 : (a0_3 == a1_3) = false := beq_eq_false_iff_ne.mpr c4
    have c4b1 : (a0_3 != a1_3) = true := bne_iff_ne.mpr c4
    obtain rfl := Option.some.inj H
    go_enter Try.func17, Try.ntmps17
    go_wp2_with (first | ((with_reducible refine gate_dst (N := 2) rfl ?_); refine box_event ?hg (N := 2) ?hd (cs := #[.int .i64 a0_0, .slice A0_1 l0_1.length c0_1, .slice A0_2 l0_2.length c0_2, .int .i64 a0_3]) (t := 43) ?hr ?_; (case hd => rfl); (case hg => rfl); (case hr => first | (go_simp; done) | (go_simp; rfl)); intro gb374 hg w12 hbox hb; have n0_ := bst HB hb; have n1_ := Aside0.mk (hbox); have n2_ := bsz HB hg; have n3_ := bsz HB hg; clear HB; have HB := n0_; have BK374 := n1_; have GW374 := n2_; have GE374 := n3_; clear n0_ n1_ n2_ n3_; clear hb hbox hg) | ((with_reducible refine gate_dst (N := 3) rfl ?_); refine box_event ?hg (N := 3) ?hd (cs := #[.int .i64 a1_0, .slice A1_1 l1_1.length c1_1, .slice A1_2 l1_2.length c1_2, .int .i64 a1_3]) (t := 43) ?hr ?_; (case hd => rfl); (case hg => rfl); (case hr => first | (go_simp; done) | (go_simp; rfl)); intro gb375 hg w13 hbox hb; have n0_ := bst HB hb; have n1_ := Aside0.mk (hbox); have n2_ := bsz HB hg; have n3_ := bsz HB hg; have n4_ := bn1 BK374 hg; have n5_ := bn2 BK374 hg; replace BK374 := bbw BK374 hb; clear HB; have HB := n0_; have BK375 := n1_; have GW375 := n2_; have GE375 := n3_; have NB374_375 := n4_; have NB375_374 := n5_; clear n0_ n1_ n2_ n3_ n4_ n5_; clear hb hbox hg; have hnb14 := nn NB374_375 NB375_374; obtain ⟨hcz15_0, hcz15_1, hcz15_2, hcz15_3, hfz15_0, hfz15_1, hfz15_2, hfz15_3⟩ := hcf4 BK374; obtain ⟨hcz16_0, hcz16_1, hcz16_2, hcz16_3, hfz16_0, hfz16_1, hfz16_2, hfz16_3⟩ := hcf4 BK375))
    go_ret
    exact ⟨by first | rfl | (simp [errW_none, errW_some] <;> rfl) | (simp [*, errW_none, errW_some] <;> rfl) | kernel_rfl, (bpk HB).out⟩
  ·
   rw [if_neg c3] at H
   have c3b0 : (a0_0 == a1_0) = false := beq_eq_false_iff_ne.mpr c3
   have c3b1 : (a0_0 != a1_0) = true := bne_iff_ne.mpr c3
   obtain rfl := Option.some.inj H
   go_enter Try.func17, Try.ntmps17
   go_wp2_with (first | ((with_reducible refine gate_dst (N := 2) rfl ?_); refine box_event ?hg (N := 2) ?hd (cs := #[.int .i64 a0_0, .slice A0_1 l0_1.length c0_1, .slice A0_2 l0_2.length c0_2, .int .i64 a0_3]) (t := 43) ?hr ?_; (case hd => rfl); (case hg => rfl); (case hr => first | (go_simp; done) | (go_simp; rfl)); intro gb374 hg w17 hbox hb; have n0_ := bst HB hb; have n1_ := Aside0.mk (hbox); have n2_ := bsz HB hg; have n3_ := bsz HB hg; clear HB; have HB := n0_; have BK374 := n1_; have GW374 := n2_; have GE374 := n3_; clear n0_ n1_ n2_ n3_; clear hb hbox hg) | ((with_reducible refine gate_dst (N := 3) rfl ?_); refine box_event ?hg (N := 3) ?hd (cs := #[.int .i64 a1_0, .slice A1_1 l1_1.length c1_1, .slice A1_2 l1_2.length c1_2, .int .i64 a1_3]) (t := 43) ?hr ?_; (case hd => rfl); (case hg => rfl); (case hr => first | (go_simp; done) | (go_simp; rfl)); intro gb375 hg w18 hbox hb; have n0_ := bst HB hb; have n1_ := Aside0.mk (hbox); have n2_ := bsz HB hg; have n3_ := bsz HB hg; have n4_ := bn1 BK374 hg; have n5_ := bn2 BK374 hg; replace BK374 := bbw BK374 hb; clear HB; have HB := n0_; have BK375 := n1_; have GW375 := n2_; have GE375 := n3_; have NB374_375 := n4_; have NB375_374 := n5_; clear n0_ n1_ n2_ n3_ n4_ n5_; clear hb hbox hg; have hnb19 := nn NB374_375 NB375_374; obtain ⟨hcz20_0, hcz20_1, hcz20_2, hcz20_3, hfz20_0, hfz20_1, hfz20_2, hfz20_3⟩ := hcf4 BK374; obtain ⟨hcz21_0, hcz21_1, hcz21_2, hcz21_3, hfz21_0, hfz21_1, hfz21_2, hfz21_3⟩ := hcf4 BK375))
   go_ret
   exact ⟨by first | rfl | (simp [errW_none, errW_some] <;> rfl) | (simp [*, errW_none, errW_some] <;> rfl) | kernel_rfl, (bpk HB).out⟩

-- NOT PRINTED: function 4 (gimballaw08_RunWalks)

-- NOT PRINTED: function 5 (gimballaw08_RunMore)
end Go.Proofs.Ytcalcbeonbfkmaa.P
/- What the law's proof needs of G23. -/
namespace Go.Proofs.Ytcalcbeonbfkmaa.P
open Go.RowKit Go.Proofs.YtcalcbeonbfkmaaW.PrintWords Go.Proofs.YtcalcbeonbfkmaaW.PrintLast Go.Proofs.YtcalcbeonbfkmaaW.PrintMore Go.Proofs.YtcalcbeonbfkmaaO
attribute [local go_sem] max2_int min2_int max_two min_two max_three min_three max_four min_four
set_option linter.unusedVariables false
set_option linter.unusedSimpArgs false
def N4T : Bool × List (List Nat × List Nat) := (true, [([], []), ([0], [0]), ([], []), ([2], [2]), ([1, 3], [1, 3]), ([4], [4]), ([5], [5]), ([5], [5]), ([5], [5]), ([5], [5]), ([7, 8, 9, 5, 5], [5, 7, 8, 9]), ([6, 10, 10, 5], [5, 6, 10]), ([11, 5], [5, 11]), ([5, 12], [5, 12]), ([13, 11], [13]), ([14], [14]), ([14], [14]), ([14], [14]), ([15, 16, 17, 14, 14], [14, 15, 16, 17]), ([14], [14]), ([18, 19, 18, 14], [14, 18, 19]), ([20, 14], [14, 20]), ([14, 21], [14, 21])])
def N4B : List Nat := [0, 1, 0, 4, 15, 31, 63, 63, 63, 63, 959, 2047, 4095, 8191, 16383, 32767, 32767, 32767, 262143, 32767, 1048575, 2097151, 4194303]
theorem N4tab : rtab .any (opsOf Try.f4 9) = N4T := by kernel_rfl
theorem N4bits : waitsOk N4T.2 N4B = true := by kernel_rfl
def z43 : LookT := (0, [], [], 0)
def rd_look (l : List LookT) (i : Nat) : LookT := l.getD i z43
theorem at_look {w : World} {A : Option Addr} {n : Nat} {l : List LookT} (h : Kd.C kLook w A n l) (i : Nat) (hi : i < n) : ∃ ad A1 c1 A2 c2, A = some ad ∧ w.cell? (ad.add (i * 4)) = some (.int .i64 (rd_look l i).1) ∧ w.cell? ⟨(ad.add (i * 4)).block, (ad.add (i * 4)).off + 1, none⟩ = some (.slice A1 (rd_look l i).2.1.length c1) ∧ w.cell? ⟨(ad.add (i * 4)).block, (ad.add (i * 4)).off + 2, none⟩ = some (.slice A2 (rd_look l i).2.2.1.length c2) ∧ w.cell? ⟨(ad.add (i * 4)).block, (ad.add (i * 4)).off + 3, none⟩ = some (.int .i64 (rd_look l i).2.2.2) ∧ ((rd_look l i).2.1.length ≤ c1 ∧ Kd.C (Kd.int .i64) w A1 (rd_look l i).2.1.length (rd_look l i).2.1) ∧ ((rd_look l i).2.2.1.length ≤ c2 ∧ Kd.C kL w A2 (rd_look l i).2.2.1.length (rd_look l i).2.2.1) := by
  obtain ⟨ad, c, e, _, hK, hc0⟩ := Kd.C_get h z43 (i : Int) (by omega) (by omega)
  rw [Int.toNat_natCast] at hK hc0
  have hc : ∀ j u, c[j]? = some u → w.cell? (ad.add (i * 4 + j)) = some u := hc0
  have hK2 : kLook.K w (rd_look l i) c := hK
  obtain ⟨_, _, rfl, rfl, ⟨_, _, rfl, ⟨A1, c1, rfl, k1, k2⟩, ⟨_, _, rfl, ⟨A2, c2, rfl, k3, k4⟩, rfl⟩⟩⟩ := hK2
  exact ⟨ad, A1, c1, A2, c2, e, hc 0 _ rfl, by rw [← add_field _ _ 1 (by omega)]; exact hc 1 _ rfl, by rw [← add_field _ _ 2 (by omega)]; exact hc 2 _ rfl, by rw [← add_field _ _ 3 (by omega)]; exact hc 3 _ rfl, ⟨k1, k2⟩, ⟨k3, k4⟩⟩
theorem looks_small {G : Gr} {sc : List Int} {S0 : St} {N : Nat} (hF : FitOK G) (hR : Runs G sc S0 N) {m : Nat} (hm : m ≤ N) : ∀ x ∈ looksOf (stepN G sc S0) m, x.2.1.length ≤ 1000000 ∧ x.2.2.1.length ≤ 1000000 ∧ ∀ j : Int, (rd_L9 x.2.2.1 j).length ≤ 1000000 := by
  intro x hx
  obtain ⟨k, hk, rfl⟩ := List.mem_map.1 hx
  have hk2 := List.mem_range.1 hk
  have hg := hR.good k (by omega)
  obtain ⟨ds, hD, _⟩ := hF.rest
  refine ⟨?_, ?_, fun j => ?_⟩
  · have := hg.regs
    have := hD.regs
    have := hD.le
    have := hF.n2
    have := hF.parts.n5
    show (stepN G sc S0 k).regs.length ≤ _
    omega
  · have := hg.arrs
    have := hF.parts.n6
    show (stepN G sc S0 k).arrs.length ≤ _
    omega
  · have := good_rows hF hg j
    show (rd_L9 (stepN G sc S0 k).arrs j).length ≤ _
    omega
theorem look_same_calls (a t : Int) (rs : List Int) (ars : List (List Int)) {A1 A2 B1 B2 : Option Addr} {c1 c2 d1 d2 : Nat} (w : World) (h1 : rs.length ≤ 1000000) (h2 : ars.length ≤ 1000000) (h3 : ∀ j : Int, (rd_L9 ars j).length ≤ 1000000) (a1 : rs.length ≤ c1 ∧ Kd.C (Kd.int .i64) w A1 rs.length rs) (a2 : ars.length ≤ c2 ∧ Kd.C kL w A2 ars.length ars) (b1 : rs.length ≤ d1 ∧ Kd.C (Kd.int .i64) w B1 rs.length rs) (b2 : ars.length ≤ d2 ∧ Kd.C kL w B2 ars.length ars) :
    Calls Try.prog 17 #[.agg #[.int .i64 a, .slice A1 rs.length c1, .slice A2 ars.length c2, .int .i64 t], .agg #[.int .i64 a, .slice B1 rs.length d1, .slice B2 ars.length d2, .int .i64 t]] w fun e w' => e = .returned (.bool true) ∧ Below w.heap.size w w' :=
  gimballaw08_same.calls 3000001 a A1 c1 rs A2 c2 ars t a B1 d1 rs B2 d2 ars t true w a1.2 a1.1 a2.2 a2.1 b1.2 b1.1 b2.2 b2.1 (by
    unfold gimballaw08_same.f
    rw [if_pos rfl, if_pos rfl, same_f 0 0 0 0 0 rs ars [] h1 h2 (by simp) h3 (fun j => by have e : rd_L9 ([] : List (List Int)) j = [] := by simp [rd_L9]
                                                                                           rw [e]; simp)]
    rfl)
theorem entsB {L : List (Nat × Array Value × Nat)} {w w' : World} (h : ∀ z ∈ L, w.heap[z.1]? = some (.cells z.2.1 z.2.2 (0, 0))) (hb : Below w.heap.size w w') : ∀ z ∈ L, w'.heap[z.1]? = some (.cells z.2.1 z.2.2 (0, 0)) :=
  fun z hz => (hb.block z.1 (blk_lt (h z hz))).trans (h z hz)
/-- A looker's state before it looked. -/
theorem lk_start {w w1 : World} {g : Nat} {n : Nat} (eg : g = w.heap.size) (hc : w1.heap[g]? = some (.cells #[.slice none 0 0] 40 (0, 0))) : ∃ s : Lk w.heap.size g, s.looks = [] ∧ LInv (n : Int) s ∧ ∀ z ∈ s.ents, w1.heap[z.1]? = some (.cells z.2.1 z.2.2 (0, 0)) := by
  obtain ⟨s, h1, h2⟩ := lk_new (B := w.heap.size) (gv := g) (A := none) (c := 0) (l := []) (ok := fun _ => False) hc (Kd.R_nil _ _ _ _ _) (fun _ h => h.elim)
  refine ⟨s, h1, ⟨by rw [h1]; exact Int.natCast_nonneg _, fun z hz => ?_⟩, fun z hz => (h2 z hz).1⟩
  rcases (h2 z hz).2 with h | h
  · omega
  · exact h.1.elim
theorem count_in {n0 : Int} (h : -9223372036854775808 ≤ n0 ∧ n0 ≤ 9223372036854775807) : ∃ m : Nat, wrap64 ((IntKind.u64.wrap n0).tmod 3000) = (m : Int) ∧ m ≤ 2999 := by
  have h0 : 0 ≤ IntKind.u64.wrap n0 := by
    show 0 ≤ n0 % 18446744073709551616
    omega
  have e : (IntKind.u64.wrap n0).tmod 3000 = IntKind.u64.wrap n0 % 3000 := Int.tmod_eq_emod_of_nonneg h0
  have hb : 0 ≤ IntKind.u64.wrap n0 % 3000 ∧ IntKind.u64.wrap n0 % 3000 < 3000 := by omega
  refine ⟨(IntKind.u64.wrap n0 % 3000).toNat, ?_, by omega⟩
  rw [e, M.wrap64_in _ (by omega)]
  omega
set_option maxHeartbeats 8000000 in
set_option maxRecDepth 100000 in
theorem runwalks_calls (G : Gr) (As : Option Addr) (sc : List Int) (cs : Nat) (fuel n0 : Int) (w : World) (hG : G.Held w) (hd : ∀ p : Nat, p < G.l0.length → -9223372036854775808 ≤ (rd_T52 G.l0 (p : Int)).f1 ∧ (rd_T52 G.l0 (p : Int)).f1 ≤ 9223372036854775807) (hsc : Kd.C (Kd.int .i64) w As sc.length sc) (hl : sc.length ≤ 9223372036854775807) (hfu : -9223372036854775808 ≤ fuel ∧ fuel ≤ 9223372036854775807) (hn0 : -9223372036854775808 ≤ n0 ∧ n0 ≤ 9223372036854775807) :
    Calls Try.prog 4 #[G.v, .slice As sc.length cs, .int .i64 fuel, .int .i64 n0] w fun e w' => e = .returned (.bool true) ∧ Below w.heap.size w w' := by
  have hu28 := Try.underlying28
  have hu36 := Try.underlying36
  have hu40 := Try.underlying40
  have hu43 := Try.underlying43
  have HB := Aside0.mk (Below.refl w.heap.size w)
  obtain ⟨f0, hs, hf1, hf2⟩ := some_f fuel hfu
  obtain ⟨nm, hnm⟩ := count_in hn0
  have KM := Aside0.mk hnm
  have KS := Aside0.mk hs
  have KFU : Aside0 (-9223372036854775808 ≤ f0.tmod 300 ∧ f0.tmod 300 ≤ 9223372036854775807) := ⟨by have h1 := Int.tmod_lt_of_pos f0 (b := 300) (by decide); have h2 := Int.lt_tmod_of_pos f0 (b := 300) (by decide); omega⟩
  have KG := Aside0.mk hG
  have KC := Aside0.mk hsc
  clear hs hf1 hf2 hG hsc hfu hn0 hnm
  go_enter Try.func4, Try.ntmps4
  go_upto_if 22 with (first | ((with_reducible refine gate_dst (N := 4) rfl ?_); refine boxQ 4 (gC G) 28 HB ?_; clear HB; intro g4 w1 _ GW4 B4 _ HB) | ((with_reducible refine gate_dst (N := 7) rfl ?_); refine boxQ 7 #[.int .i64 n0] 3 HB ?_; intro g7 w2 eg GW7 B7 hb HX; have N47 := bn1 B4 eg.out; replace B4 := bbw B4 hb.out; clear HB hb eg; have HB := HX; clear HX) | ((with_reducible refine gate_callee (f := 6) rfl ?_); refine goesL_ _ rfl rfl Try.func6 (by kernel_rfl) rfl #[.int .i64 fuel] rfl (by (try simp only [List.map_toArray, List.map_cons, List.map_nil]); first | done | rfl) ?_; refine (gimballaw08_some.calls fuel f0 _ KS.out).mono ?_; rintro e w3 ⟨rfl, m, rfl⟩; replace B4 := Aside0.mk (blk_drewN B4.out m); replace B7 := Aside0.mk (blk_drewN B7.out m); replace HB := Aside0.mk (pw_below_drewN (bpk HB).out m); have hcf := hcf8 B4; obtain ⟨_, _, _, _, _, _, _, _, _, _, _, _, _, _, _, _⟩ := hcf; have b7 := hcz B7 0; have f7 := bfz B7 0; refine ⟨_, rfl, ?_⟩) | ((with_reducible refine gate_store (p := 7) (t := 3) rfl ?_); refine store_event (t := 3) (p := 7) (v := ?vs7) (w1 := (World.drewN w2 m).setCell ⟨g7, 0, none⟩ (.int .i64 (wrap64 ((IntKind.u64.wrap n0).tmod 3000)))) ?hg ?ho ?hn ?hr ?_; (case ho => rfl); (case hg => rfl); (case hn => rfl); (case hr => first | (go_simp; done) | (go_simp; rfl)); intro w4 hw; rw [KM.out.1] at hw; (have hgs : (World.drewN w2 m).grownBy w4 (some g7) := by rw [hw]; exact setCell_grown _ g7 0 _); (have h7 : w4.heap[g7]? = some (.cells #[.int .i64 (nm : Int)] 3 (0, 0)) := by rw [hw]; exact blk_put B7.out 0 _ rfl); clear hw f7 b7; replace B4 := boxed_other (pkA B4) hgs N47; have hw := Below_boxed (bpk HB).out (Nat.le_refl _) GW7.out hgs; clear B7 HB hgs; have B7 := Aside0.mk h7; have HB := Aside0.mk hw; clear h7 hw; have hcf := hcf8 B4; obtain ⟨_, _, _, _, _, _, _, _, _, _, _, _, _, _, _, _⟩ := hcf) | ((with_reducible refine gate_callee (f := 7) rfl ?_); refine goesL_ _ rfl rfl Try.func7 (by kernel_rfl) rfl #[G.v] rfl (by (try simp only [List.map_toArray, List.map_cons, List.map_nil]); first | done | rfl) ?_; refine (fit_calls G _ (KG.out.below (bpk HB).out) hd).mono ?_; rintro e w5 ⟨⟨bf, rfl, hf⟩, hb⟩; have KF := Aside0.mk hf; replace B4 := bbw B4 hb; replace B7 := bbw B7 hb; replace HB := bst HB hb; clear hf hb; refine ⟨_, rfl, ?_⟩))
  cases bf
  · go_wp2_with (first | ((with_reducible refine gate_callee (f := 8) rfl ?_); refine goesL_ _ rfl rfl Try.func8 (by kernel_rfl) rfl #[] rfl (by (try simp only [List.map_toArray, List.map_cons, List.map_nil]); first | done | rfl) ?_; refine (awake_calls _).mono ?_; rintro e w6 ⟨rfl, hb⟩; replace HB := bst HB hb; clear hb; refine ⟨_, rfl, ?_⟩))
    go_ret
    exact ⟨rfl, (bpk HB).out⟩
  · have KFit := Aside0.mk (KF.out rfl)
    obtain ⟨N, hN⟩ := begin_runs sc KFit.out (f0.tmod 300) (by have := KFU.out; omega)
    have hzz := runs_sized KFit.out hN (Nat.le_refl N)
    obtain ⟨hsim, hRR⟩ := sim_runs KFit.out (sim_begin G (f0.tmod 300) KFU.out G.l5.length G.l6.length) hN
    have hsn := hsim N (Nat.le_refl N)
    obtain ⟨S, hSN⟩ : ∃ S, stepN G sc (beginS G (mx (f0.tmod 300) 0) G.l5.length G.l6.length) N = S := ⟨_, rfl⟩
    have hlk : looksOf (stepN G sc (beginS G (mx (f0.tmod 300) 0) G.l5.length G.l6.length)) (min N (nm + 1)) = looksOf (stepRN G sc (beginS G (f0.tmod 300) G.l5.length G.l6.length)) (min N (nm + 1)) := looksOf_sim (fun i hi => ⟨hsim i (by omega), (hN.go i (by omega)).1⟩)
    rw [hSN] at hzz hsn
    have KLK := Aside0.mk hlk
    have KSN := Aside0.mk hSN
    have KSim := Aside0.mk hsn
    have KZ := Aside0.mk hzz
    have KR := Aside0.mk hN
    have KRR := Aside0.mk hRR
    clear hSN hsn hzz hsim hRR hN hlk
    go_upto_region 9 with (first | ((with_reducible refine gate_dst (N := 9) rfl ?_); refine boxQ 9 #[.slice none 0 0] 40 HB ?_; intro g9 w6 eg GW9 B9 hb HX; have B45 := B4; have B75 := B7; have HB5 := bpk HB; obtain ⟨s1, he1, hi1, hE1⟩ := lk_start (n := nm) eg.out B9.out; have KE1 := Aside0.mk he1; have KI1 := Aside0.mk hi1; have K1 := Aside0.mk hE1; have KL1 := Aside0.mk (look1_looker (gv := g9) (gn := g7) rfl B75.out (Nat.le_of_eq eg.out.symm) (show (nm : Int) ≤ 3000 by have := KM.out.2; omega)); have HW1 := hb; replace B4 := bbw B4 hb.out; replace B7 := bbw B7 hb.out; clear HB hb eg he1 hi1 hE1; have HB := HX; clear HX; have hcf := hcf8 B4; obtain ⟨_, _, _, _, _, _, _, _, _, _, _, _, _, _, _, _⟩ := hcf) | ((with_reducible refine gate_callee (f := 12) rfl ?_); refine goesL_ _ rfl rfl Try.func12 (by kernel_rfl) rfl #[G.v, .slice As sc.length cs, .int .i64 (f0.tmod 300), .func (.func 13) #[] #[.pointer (some ⟨g9, 0, none⟩), .pointer (some ⟨g7, 0, none⟩)]] rfl (by (try simp only [List.map_toArray, List.map_cons, List.map_nil]); first | done | rfl) ?_; refine (rwalk_see KL1.out s1 KI1.out G _ HW1.out K1.out (fun _ => KG.out.below HB5.out) As sc cs (f0.tmod 300) (fun _ => Kd.C_below KC.out HB5.out) hl KFit.out KRR.out).mono ?_; rintro e w7 ⟨⟨v7, rfl⟩, flag, t1, hs1, hbw, hsz, hE⟩; have KLK1 := Aside0.mk (seen_looks KE1.out hs1).1; clear K1 B4 B7 HB hs1; have K1 := Aside0.mk hE; have B4 := bbw B45 hbw; have B7 := bbw B75 hbw; have HB := bst HB5 hbw; clear hbw hsz hE HW1 HB5 B45 B75 KL1 KI1 KE1; have hcf := hcf8 B4; obtain ⟨_, _, _, _, _, _, _, _, _, _, _, _, _, _, _, _⟩ := hcf; refine ⟨_, rfl, ?_⟩) | ((with_reducible refine gate_dst (N := 10) rfl ?_); refine boxQ 10 #[.slice none 0 0] 40 HB ?_; intro g10 w8 eg GW10 B10 hb HX; have B47 := B4; have B77 := B7; have K17 := K1; have HB7 := bpk HB; obtain ⟨s2, he2, hi2, hE2⟩ := lk_start (n := nm) eg.out B10.out; have KE2 := Aside0.mk he2; have KI2 := Aside0.mk hi2; have K2 := Aside0.mk hE2; have KL2 := Aside0.mk (look2_looker (gv := g10) (gn := g7) rfl B77.out (Nat.le_of_eq eg.out.symm) (show (nm : Int) ≤ 3000 by have := KM.out.2; omega)); have HW2 := hb; replace B4 := bbw B4 hb.out; clear HB hb eg he2 hi2 hE2 B7; have HB := HX; clear HX; have hcf := hcf8 B4; obtain ⟨_, _, _, _, _, _, _, _, _, _, _, _, _, _, _, _⟩ := hcf) | ((with_reducible refine gate_callee (f := 15) rfl ?_); refine goesL_ _ rfl rfl Try.func15 (by kernel_rfl) rfl #[G.v, .slice As sc.length cs, .int .i64 (f0.tmod 300), .func (.func 16) #[] #[.pointer (some ⟨g10, 0, none⟩), .pointer (some ⟨g7, 0, none⟩)]] rfl (by (try simp only [List.map_toArray, List.map_cons, List.map_nil]); first | done | rfl) ?_; refine (walk_see KL2.out s2 KI2.out [] G _ HW2.out K2.out (fun _ hz => nomatch hz) (fun _ => KG.out.below HB7.out) As sc cs (f0.tmod 300) (fun _ => Kd.C_below KC.out HB7.out) hl KFit.out KR.out).mono ?_; rintro e w9 ⟨hO, flag2, t2, hs2, hbw, hsz, hE, _⟩; rw [KSN.out] at hO; obtain ⟨na, A1, c1, A2, c2, A3, c3, rfl, hr⟩ := hO.rw; have HR1 := Aside0.mk hr; have KLK2 := Aside0.mk (seen_looks KE2.out hs2).1; clear K2 K1 B4 HB hs2 hO hr; have K2 := Aside0.mk hE; have K1 := Aside0.mk (entsB K17.out hbw); have B4 := bbw B47 hbw; have HB := bst HB7 hbw; clear hbw hsz hE HW2 HB7 B47 B77 K17 KL2 KI2 KE2; refine ⟨_, rfl, ?_⟩) | ((with_reducible refine gate_dst (N := 11) rfl ?_); refine boxQ 11 #[.int .i64 0, .int .i64 0, .int .i64 0, .int .i64 0, .int .i64 0, .slice none 0 0, .slice none 0 0, .slice none 0 0] 36 HB ?_; intro g11 w10 eg GW11 B11 hb HX; have GX : Aside0 (w9.heap.size ≤ g11) := ⟨Nat.le_of_eq eg.out.symm⟩; have HB9 := bpk HB; have HB10 := hb; clear HB hb eg; have HB := HX; clear HX) | ((with_reducible refine gate_store (p := 11) (t := 36) rfl ?_); refine store_box rfl rfl rfl g11 36 _ #[.int .i64 S.en, .int .i64 S.site, .int .i64 S.kind, .int .i64 S.ticks, .int .i64 S.reads, .slice A1 na c1, .slice A2 S.arrs.length c2, .slice A3 S.marks.length c3] (pkA B11).out rfl rfl (by kernel_rfl) rfl (by kernel_rfl) ?_; intro w11 hbs hgs; have hb := Below_boxed HB10.out (Nat.le_refl _) GX.out hgs; clear HB B11 hgs; have B11 := Aside0.mk hbs; replace B4 := bbw B4 hb; replace K1 := Aside0.mk (entsB K1.out hb); replace K2 := Aside0.mk (entsB K2.out hb); replace HR1 := Aside0.mk (HR1.out.below hb); have HB := bst HB9 hb; clear hb hbs HB9 HB10))
    have HQ0 : ((fun w' : World => w'.heap[g4]? = some (.cells (gC G) 28 (0, 0)) ∧ w'.heap[g11]? = some (.cells #[.int .i64 S.en, .int .i64 S.site, .int .i64 S.kind, .int .i64 S.ticks, .int .i64 S.reads, .slice A1 na c1, .slice A2 S.arrs.length c2, .slice A3 S.marks.length c3] 36 (0, 0)) ∧ (∀ z ∈ t1.ents, w'.heap[z.1]? = some (.cells z.2.1 z.2.2 (0, 0))) ∧ (∀ z ∈ t2.ents, w'.heap[z.1]? = some (.cells z.2.1 z.2.2 (0, 0))))) w11 := ⟨B4.out, B11.out, K1.out, K2.out⟩
    obtain ⟨Bn, hBn⟩ : ∃ P : World → Prop, P = (fun w' : World => w'.heap[g4]? = some (.cells (gC G) 28 (0, 0)) ∧ w'.heap[g11]? = some (.cells #[.int .i64 S.en, .int .i64 S.site, .int .i64 S.kind, .int .i64 S.ticks, .int .i64 S.reads, .slice A1 na c1, .slice A2 S.arrs.length c2, .slice A3 S.marks.length c3] 36 (0, 0)) ∧ (∀ z ∈ t1.ents, w'.heap[z.1]? = some (.cells z.2.1 z.2.2 (0, 0))) ∧ (∀ z ∈ t2.ents, w'.heap[z.1]? = some (.cells z.2.1 z.2.2 (0, 0)))) := ⟨_, rfl⟩
    have HQ : Aside0 (Bn w11) := ⟨by rw [hBn]; exact HQ0⟩
    have hBb : ∀ w' w'' : World, Bn w' → Below w'.heap.size w' w'' → Bn w'' := fun w' w'' h hb => by rw [hBn] at h ⊢; exact ⟨(hb.block _ (blk_lt h.1)).trans h.1, (hb.block _ (blk_lt h.2.1)).trans h.2.1, entsB h.2.2.1 hb, entsB h.2.2.2 hb⟩
    obtain ⟨l, hl2⟩ : ∃ l, t2.looks = l := ⟨_, rfl⟩
    have hl1 : t1.looks = l := by rw [KLK1.out, ← KLK.out, ← KLK2.out]; exact hl2
    have hS : ∀ w' : World, Bn w' → (w'.cell? ⟨g4, 0, none⟩ = some (.slice G.A0 G.l0.length G.c0) ∧ w'.cell? ⟨g4, 1, none⟩ = some (.int .i64 G.loop) ∧ w'.cell? ⟨g4, 2, none⟩ = some (.int .i64 G.regs) ∧ w'.cell? ⟨g4, 3, none⟩ = some (.int .i64 G.ticks) ∧ w'.cell? ⟨g4, 4, none⟩ = some (.slice G.A4 G.l4.length G.c4) ∧ w'.cell? ⟨g4, 5, none⟩ = some (.slice G.A5 G.l5.length G.c5) ∧ w'.cell? ⟨g4, 6, none⟩ = some (.slice G.A6 G.l6.length G.c6) ∧ w'.cell? ⟨g4, 7, none⟩ = some (.slice G.A7 G.l7.length G.c7) ∧ w'.cell? ⟨g11, 0, none⟩ = some (.int .i64 S.en) ∧ w'.cell? ⟨g11, 1, none⟩ = some (.int .i64 S.site) ∧ w'.cell? ⟨g11, 2, none⟩ = some (.int .i64 S.kind) ∧ w'.cell? ⟨g11, 3, none⟩ = some (.int .i64 S.ticks) ∧ w'.cell? ⟨g11, 4, none⟩ = some (.int .i64 S.reads) ∧ w'.cell? ⟨g11, 5, none⟩ = some (.slice A1 na c1) ∧ w'.cell? ⟨g11, 6, none⟩ = some (.slice A2 S.arrs.length c2) ∧ w'.cell? ⟨g11, 7, none⟩ = some (.slice A3 S.marks.length c3) ∧ w'.cell? ⟨g9, 0, none⟩ = some (.slice t1.A l.length t1.c) ∧ w'.cell? ⟨g10, 0, none⟩ = some (.slice t2.A l.length t2.c)) := fun w' h => by rw [hBn] at h; exact ⟨hcz ⟨h.1⟩ 0, hcz ⟨h.1⟩ 1, hcz ⟨h.1⟩ 2, hcz ⟨h.1⟩ 3, hcz ⟨h.1⟩ 4, hcz ⟨h.1⟩ 5, hcz ⟨h.1⟩ 6, hcz ⟨h.1⟩ 7, hcz ⟨h.2.1⟩ 0, hcz ⟨h.2.1⟩ 1, hcz ⟨h.2.1⟩ 2, hcz ⟨h.2.1⟩ 3, hcz ⟨h.2.1⟩ 4, hcz ⟨h.2.1⟩ 5, hcz ⟨h.2.1⟩ 6, hcz ⟨h.2.1⟩ 7, (blk_cell (h.2.2.1 _ t1.box) 0).trans (by rw [← hl1]; rfl), (blk_cell (h.2.2.2 _ t2.box) 0).trans (by rw [← hl2]; rfl)⟩
    have hE1 : ∀ w' : World, Bn w' → Kd.C kLook w' t1.A l.length l := fun w' h => by rw [hBn] at h; have h2 := (Kd.R_reads' (t1.rows w' h.2.2.1)).2.2; rw [hl1] at h2; exact h2
    have hE2 : ∀ w' : World, Bn w' → Kd.C kLook w' t2.A l.length l := fun w' h => by rw [hBn] at h; have h2 := (Kd.R_reads' (t2.rows w' h.2.2.2)).2.2; rw [hl2] at h2; exact h2
    have KBb := Aside0.mk hBb
    have KE1 := Aside0.mk hE1
    have KE2 := Aside0.mk hE2
    have KSS := Aside0.mk hS
    have KLL : Aside0 (l = looksOf (stepN G sc (beginS G (mx (f0.tmod 300) 0) G.l5.length G.l6.length)) (min N (nm + 1))) := ⟨by rw [← hl2]; exact KLK2.out⟩
    clear HQ0 hBn hBb hl1 hl2 hE1 hE2 KLK KLK1 KLK2 K1 K2 B4 B11
    refine start_ (n := 23) (S := fun w' => w'.cell? ⟨g4, 0, none⟩ = some (.slice G.A0 G.l0.length G.c0) ∧ w'.cell? ⟨g4, 1, none⟩ = some (.int .i64 G.loop) ∧ w'.cell? ⟨g4, 2, none⟩ = some (.int .i64 G.regs) ∧ w'.cell? ⟨g4, 3, none⟩ = some (.int .i64 G.ticks) ∧ w'.cell? ⟨g4, 4, none⟩ = some (.slice G.A4 G.l4.length G.c4) ∧ w'.cell? ⟨g4, 5, none⟩ = some (.slice G.A5 G.l5.length G.c5) ∧ w'.cell? ⟨g4, 6, none⟩ = some (.slice G.A6 G.l6.length G.c6) ∧ w'.cell? ⟨g4, 7, none⟩ = some (.slice G.A7 G.l7.length G.c7) ∧ w'.cell? ⟨g11, 0, none⟩ = some (.int .i64 S.en) ∧ w'.cell? ⟨g11, 1, none⟩ = some (.int .i64 S.site) ∧ w'.cell? ⟨g11, 2, none⟩ = some (.int .i64 S.kind) ∧ w'.cell? ⟨g11, 3, none⟩ = some (.int .i64 S.ticks) ∧ w'.cell? ⟨g11, 4, none⟩ = some (.int .i64 S.reads) ∧ w'.cell? ⟨g11, 5, none⟩ = some (.slice A1 na c1) ∧ w'.cell? ⟨g11, 6, none⟩ = some (.slice A2 S.arrs.length c2) ∧ w'.cell? ⟨g11, 7, none⟩ = some (.slice A3 S.marks.length c3) ∧ w'.cell? ⟨g9, 0, none⟩ = some (.slice t1.A l.length t1.c) ∧ w'.cell? ⟨g10, 0, none⟩ = some (.slice t2.A l.length t2.c)) (ds := []) #[false, false, false, false, false, false, false, false, false, false, false, false, false, false, false, false, false, false, false, false, false, false, false] (by kernel_rfl) rfl rfl (hS _ (KBb.out _ _ HQ.out (below_drew1 (Below.refl _ _)))) (fun hHeld => ?_)
    refine with_tabW N4tab N4bits (fun HT_ HW_ => ?_)
    replace HQ := Aside0.mk (KBb.out _ _ HQ.out (below_drew1 (Below.refl _ _)))
    replace HR1 := Aside0.mk (HR1.out.below (below_drew1 (Below.refl _ _)))
    replace HB := Aside0.mk (below_drew1 HB.out)
    generalize World.drew _ = wa at HQ HR1 HB hHeld ⊢
    refine takeQ 0 34 HT_.out HW_.out hHeld ?_
    refine pureQ 1 35 HT_.out ?_
    refine takeQ 2 36 HT_.out HW_.out hHeld ?_
    refine pureQ 3 37 HT_.out ?_
    refine pureQ 4 38 HT_.out ?_
    refine pureQ 5 39 HT_.out ?_
    refine takeQ 6 40 HT_.out HW_.out hHeld ?_
    refine takeQ 7 41 HT_.out HW_.out hHeld ?_
    refine pureQ 8 42 HT_.out ?_
    refine pureQ 9 43 HT_.out ?_
    refine oneQ 10 44 HT_.out (fun K hK => ?_)
    refine goesQ Try.func11 #[G.v, .slice As sc.length cs, .int .i64 (f0.tmod 300)] ?_
    refine (rrun_calls G _ (KG.out.below HB.out) As sc cs (f0.tmod 300) (Kd.C_below KC.out HB.out) hl KFit.out KRR.out).mono ?_
    rintro e w12 ⟨hO, hb⟩
    obtain ⟨nd, D1, d1, D2, d2, D3, d3, rfl, hr⟩ := (hO.sim KSim.out).rw
    have HR2 := Aside0.mk hr
    clear hO hr
    replace HQ := Aside0.mk (KBb.out _ _ HQ.out hb)
    replace HB := bst HB hb
    replace HR1 := Aside0.mk (HR1.out.below hb)
    clear hb
    refine ⟨_, rfl, ?_⟩
    refine hK.out _ _ (hS _ HQ.out) (fun hHeld => ?_)
    clear hK K
    refine normQ (N := 44) ?_
    refine oneQ 11 45 HT_.out (fun K hK => ?_)
    refine goesQ Try.func9 #[oW S na A1 c1 A2 c2 A3 c3, oW S nd D1 d1 D2 d2 D3 d3] ?_
    refine (HR1.out.same HR2.out KZ.out).mono ?_
    rintro e w13 ⟨rfl, hb⟩
    clear HR2
    replace HQ := Aside0.mk (KBb.out _ _ HQ.out hb)
    replace HB := bst HB hb
    replace HR1 := Aside0.mk (HR1.out.below hb)
    clear hb
    refine ⟨_, rfl, ?_⟩
    refine hK.out _ _ (hS _ HQ.out) (fun hHeld => ?_)
    clear hK K
    refine normQ (N := 45) ?_
    refine pureQ 12 46 HT_.out ?_
    refine pureQ 13 47 HT_.out ?_
    refine pureQ 14 48 HT_.out ?_
    refine takeQ 15 49 HT_.out HW_.out hHeld ?_
    refine pureQ 16 50 HT_.out ?_
    refine pureQ 17 51 HT_.out ?_
    refine takeQ 19 53 HT_.out HW_.out hHeld ?_
    refine oneQ 18 52 HT_.out (fun K hK => ?_)
    refine goesQ Try.func15 #[G.v, .slice As sc.length cs, .int .i64 (f0.tmod 300), .nilFunc] ?_
    refine (walk_calls G _ (KG.out.below HB.out) As sc cs (f0.tmod 300) (Kd.C_below KC.out HB.out) hl KFit.out KR.out).mono ?_
    rintro e w14 ⟨hO, hb⟩
    rw [KSN.out] at hO
    obtain ⟨nd, D1, d1, D2, d2, D3, d3, rfl, hr⟩ := hO.rw
    have HR2 := Aside0.mk hr
    clear hO hr
    replace HQ := Aside0.mk (KBb.out _ _ HQ.out hb)
    replace HB := bst HB hb
    replace HR1 := Aside0.mk (HR1.out.below hb)
    clear hb
    refine ⟨_, rfl, ?_⟩
    refine hK.out _ _ (hS _ HQ.out) (fun hHeld => ?_)
    clear hK K
    refine normQ (N := 52) ?_
    refine oneQ 20 54 HT_.out (fun K hK => ?_)
    refine goesQ Try.func9 #[oW S nd D1 d1 D2 d2 D3 d3, oW S na A1 c1 A2 c2 A3 c3] ?_
    refine (HR2.out.same HR1.out KZ.out).mono ?_
    rintro e w15 ⟨rfl, hb⟩
    clear HR2
    replace HQ := Aside0.mk (KBb.out _ _ HQ.out hb)
    replace HB := bst HB hb
    replace HR1 := Aside0.mk (HR1.out.below hb)
    clear hb
    refine ⟨_, rfl, ?_⟩
    refine hK.out _ _ (hS _ HQ.out) (fun hHeld => ?_)
    clear hK K
    refine normQ (N := 54) ?_
    refine pureQ 21 55 HT_.out ?_
    refine pureQ 22 56 HT_.out ?_
    refine done_ (done_of HT_.out (by kernel_rfl)) ?_
    clear hHeld HT_ HW_
    clear hS
    have KSM : Aside0 (∀ i : Nat, i < l.length → (rd_look l i).2.1.length ≤ 1000000 ∧ (rd_look l i).2.2.1.length ≤ 1000000 ∧ ∀ j : Int, (rd_L9 (rd_look l i).2.2.1 j).length ≤ 1000000) := ⟨fun i hi => looks_small KFit.out KR.out (Nat.min_le_left N (nm + 1)) _ (by rw [← KLL.out]; unfold rd_look; rw [List.getD_eq_getElem?_getD, List.getElem?_eq_getElem hi]; exact List.getElem_mem hi)⟩
    have KLN : Aside0 (l.length ≤ 3000) := ⟨by rw [KLL.out, looksOf_len]; have := KM.out.2; omega⟩
    clear KLL HR1
    go_wp2
    (try simp only [Act.put, List.setIfInBounds_toArray, List.set_cons_zero, List.set_cons_succ])
    go_loopw [12] (fun v12 wr => ∃ i : Nat, i ≤ l.length ∧ v12 = .int .i64 (i : Int) ∧ Aside0 (Bn wr) ∧ Aside0 (Below w.heap.size w wr)) (fun v12 _ => l.length - (intOf v12).toNat)
    case atStart => exact ⟨0, Nat.zero_le _, rfl, HQ, HB⟩
    case round =>
     rename World => wl
     clear HQ HB
     obtain ⟨i, hi, rfl, HQ, HB⟩ := hrel
     have hcc := (KSS.out _ HQ.out).2.2.2.2.2.2.2.2.2.2.2.2.2.2.2.2
     obtain ⟨c9, c10⟩ := hcc
     by_cases hlt : i < l.length
     · have hlt2 : decide ((i : Int) < (l.length : Int)) = true := decide_eq_true (by omega)
       have hwi : IntKind.i64.wrap ((i : Int) + 1) = ((i + 1 : Nat) : Int) := (i64_w _).trans ((M.wrap64_in _ (by have := KLN.out; omega)).trans (by omega))
       have hx := KSM.out i hlt
       obtain ⟨ad1, F1, f1, F2, f2, eA1, u0, u1, u2, u3, g1, g2⟩ := at_look (KE1.out _ HQ.out) i hlt
       obtain ⟨ad2, E1, e1, E2, e2, eA2, v0, v1, v2, v3, k1, k2⟩ := at_look (KE2.out _ HQ.out) i hlt
       generalize rd_look l i = x at hx u0 u1 u2 u3 g1 g2 v0 v1 v2 v3 k1 k2
       obtain ⟨xa, xr, xs, xt⟩ := x
       rw [eA1] at c9
       rw [eA2] at c10
       have KX := Aside0.mk hx
       have KG1 := Aside0.mk (And.intro g1 g2)
       have KE := Aside0.mk (And.intro k1 k2)
       clear hx g1 g2 k1 k2 eA1 eA2
       have p1 : ((0 : Int) ≤ (i : Int)) = True := eq_true (by omega)
       have q1 : ((i : Int) < (l.length : Int)) = True := eq_true (by omega)
       have q2 : (i < l.length) = True := eq_true hlt
       go_upto_region 14 with (fail)
       go_still_tail 8, (by kernel_rfl)
       change wpList _ _ _ _ _ wl.drew
       go_wp2_with (first | ((with_reducible refine gate_callee (f := 17) rfl ?_); refine goesL_ _ rfl rfl Try.func17 (by kernel_rfl) rfl #[.agg #[.int .i64 xa, .slice E1 xr.length e1, .slice E2 xs.length e2, .int .i64 xt], .agg #[.int .i64 xa, .slice F1 xr.length f1, .slice F2 xs.length f2, .int .i64 xt]] rfl (by (try simp only [List.map_toArray, List.map_cons, List.map_nil]); first | done | rfl) ?_; refine (look_same_calls xa xt xr xs _ KX.out.1 KX.out.2.1 KX.out.2.2 ⟨KE.out.1.1, Kd.C_below KE.out.1.2 (below_drew1 (Below.refl _ _))⟩ ⟨KE.out.2.1, Kd.C_below KE.out.2.2 (below_drew1 (Below.refl _ _))⟩ ⟨KG1.out.1.1, Kd.C_below KG1.out.1.2 (below_drew1 (Below.refl _ _))⟩ ⟨KG1.out.2.1, Kd.C_below KG1.out.2.2 (below_drew1 (Below.refl _ _))⟩).mono ?_; rintro e w17 ⟨rfl, hb⟩; replace HQ := Aside0.mk (KBb.out _ _ HQ.out (below_step (below_drew1 (Below.refl _ _)) hb)); replace HB := Aside0.mk (below_step (below_drew1 HB.out) hb); clear hb; refine ⟨_, rfl, ?_⟩))
       (try simp only [Act.put, List.setIfInBounds_toArray, List.set_cons_zero, List.set_cons_succ])
       go_roundw
       case measure => simp [intOf] <;> omega
       case rel => exact ⟨i + 1, by omega, by first | rfl | simp, HQ, HB⟩
     · have hi2 : i = l.length := by omega
       subst hi2
       have hlt2 : decide ((l.length : Int) < (l.length : Int)) = false := decide_eq_false (by omega)
       go_wp2_with (first | ((with_reducible refine gate_callee (f := 8) rfl ?_); refine goesL_ _ rfl rfl Try.func8 (by kernel_rfl) rfl #[] rfl (by (try simp only [List.map_toArray, List.map_cons, List.map_nil]); first | done | rfl) ?_; refine (awake_calls _).mono ?_; rintro e w6 ⟨rfl, hb⟩; replace HB := bst HB hb; clear hb; refine ⟨_, rfl, ?_⟩))
       go_ret
       exact ⟨rfl, (bpk HB).out⟩
end Go.Proofs.Ytcalcbeonbfkmaa.P
