import Derived.Test.YtcalcbeonbfkmaaTrRU4
import Derived.Test.YtcalcbeonbfkmaaTrRPx0
import Derived.Test.YtcalcbeonbfkmaaTrRPx2
import Derived.Test.YtcalcbeonbfkmaaTrRPut
import Derived.Test.YtcalcbeonbfkmaaTrRM0
/- What the law's proof needs of F1. -/
namespace Go.Proofs.Ytcalcbeonbfkmaa.P
open Go.RowKit Go.Proofs.YtcalcbeonbfkmaaW.PrintWords Go.Proofs.YtcalcbeonbfkmaaW.PrintLast Go.Proofs.YtcalcbeonbfkmaaW.PrintMore Go.Proofs.YtcalcbeonbfkmaaO
attribute [local go_sem] max2_int min2_int max_two min_two max_three min_three max_four min_four
set_option linter.unusedVariables false
set_option linter.unusedSimpArgs false
/-- What is returned is a truth value, and so. -/
def RetB (e : Ending) (p : Bool → Prop) : Prop := ∃ b, e = .returned (.bool b) ∧ p b
def BareP (op b : Int) (r : Bool) : Prop := r = true → (op = 2 ∨ op = 3) → b = 0
section
variable {P : Program} {ops : Array Oper} {o : Oper} {rest : List Oper} {a : Act} {Q : Exit → Act → World → Prop}
/-- A box, as one step. -/
theorem boxQ {w W0 W : World} (N : Tmp) (cs : Array Value) (t : TypeId) (HB : Aside0 (Below w.heap.size w W0))
    (h : ∀ g w1, Aside0 (g = W.heap.size) → Aside0 (w.heap.size ≤ g) → Aside0 (w1.heap[g]? = some (.cells cs t (0, 0))) → Aside0 (Below W.heap.size W w1) → Aside0 (Below w.heap.size w w1) → wpList P ops Q rest (a.put o.dst (.pointer (some ⟨g, 0, none⟩))) w1)
    (hd : o.dst = some N := by rfl) (hg : o.guard = none := by rfl)
    (hr : (execOp a.eval o).run P W = .ok (.value (.pointer (some ⟨W.heap.size, 0, none⟩))) (W.alloc (.cells cs t (0, 0))) := by (first | (go_simp; done) | (go_simp; rfl)))
    (hW : Below w.heap.size w W0 → Below w.heap.size w W := by (intro hq_; repeat (first | (with_reducible first | exact hq_ | apply below_alloc | apply pw_below_drewN | apply below_drew1 | refine below_set ?_ (Aside0.out (by assumption))) | exact hq_))) :
    wpList P ops Q (o :: rest) a W :=
  box_event hg (N := N) hd hr fun g eg w1 hbox hb => h g w1 ⟨eg⟩ ⟨by rw [eg]; exact below_size (hW HB.out)⟩ ⟨hbox⟩ ⟨hb⟩ ⟨below_step (hW HB.out) hb⟩
end
set_option maxHeartbeats 8000000 in
set_option maxRecDepth 100000 in
theorem bare_calls (a0_0 a0_1 a0_2 a0_3 a0_4 a0_5 a0_6 a0_7 : Int) (w : World) :
    Calls Try.prog 20 #[.agg #[.int .i64 a0_0, .int .i64 a0_1, .int .i64 a0_2, .int .i64 a0_3, .int .i64 a0_4, .int .i64 a0_5, .int .i64 a0_6, .int .i64 a0_7]] w fun e w' => RetB e (BareP a0_0 a0_3) ∧ Below w.heap.size w w' := by
  have hu52 := Try.underlying52
  have HB := Aside0.mk (Below.refl w.heap.size w)
  go_enter Try.func20, Try.ntmps20
  go_wp2_with ((with_reducible refine gate_dst (N := 1) rfl ?_); refine boxQ 1 #[.int .i64 a0_0, .int .i64 a0_1, .int .i64 a0_2, .int .i64 a0_3, .int .i64 a0_4, .int .i64 a0_5, .int .i64 a0_6, .int .i64 a0_7] 52 HB ?_; clear HB; intro g w1 _ GW BK _ HB; have hcf := hcf8 BK; obtain ⟨_, _, _, _, _, _, _, _, _, _, _, _, _, _, _, _⟩ := hcf)
  all_goals go_ret
  all_goals refine ⟨⟨_, rfl, ?_⟩, HB.out⟩
  all_goals (unfold BareP; intro hb h; first | omega | exact absurd hb (by decide) | (have := eq_of_beq hb; omega))
end Go.Proofs.Ytcalcbeonbfkmaa.P
/- What the law's proof needs of F2. -/
namespace Go.Proofs.Ytcalcbeonbfkmaa.P
open Go.RowKit Go.Proofs.YtcalcbeonbfkmaaW.PrintWords Go.Proofs.YtcalcbeonbfkmaaW.PrintLast Go.Proofs.YtcalcbeonbfkmaaW.PrintMore Go.Proofs.YtcalcbeonbfkmaaO
attribute [local go_sem] max2_int min2_int max_two min_two max_three min_three max_four min_four
set_option linter.unusedVariables false
set_option linter.unusedSimpArgs false
set_option maxHeartbeats 8000000 in
set_option maxRecDepth 100000 in
theorem below_calls (a0 a1 : Int) (w : World) :
    Calls Try.prog 38 #[.int .i64 a0, .int .i64 a1] w fun e w' => e = .returned (.bool (decide (0 ≤ a0 ∧ a0 < a1))) ∧ w' = w := by
  by_cases c : 0 ≤ a0
  · by_cases d : a0 < a1
    · rw [show decide (0 ≤ a0 ∧ a0 < a1) = true from decide_eq_true ⟨c, d⟩]
      go_enter Try.func38, Try.ntmps38
      go_wp2
      go_ret
      exact ⟨rfl, rfl⟩
    · rw [show decide (0 ≤ a0 ∧ a0 < a1) = false from decide_eq_false (by omega)]
      go_enter Try.func38, Try.ntmps38
      go_wp2
      go_ret
      exact ⟨rfl, rfl⟩
  · rw [show decide (0 ≤ a0 ∧ a0 < a1) = false from decide_eq_false (by omega)]
    go_enter Try.func38, Try.ntmps38
    go_wp2
    go_ret
    exact ⟨rfl, rfl⟩
def NextP (op x y n : Int) (r : Bool) : Prop := r = true → (op = 21 → x = -1 ∧ y = -1) ∧ (op ≠ 21 → 0 ≤ x ∧ x < n) ∧ (op = 15 → 0 ≤ y ∧ y < n) ∧ (op ≠ 15 → y = -1)
set_option maxHeartbeats 8000000 in
set_option maxRecDepth 100000 in
theorem next_calls (a0_0 a0_1 a0_2 a0_3 a0_4 a0_5 a0_6 a0_7 n : Int) (w : World) :
    Calls Try.prog 21 #[.agg #[.int .i64 a0_0, .int .i64 a0_1, .int .i64 a0_2, .int .i64 a0_3, .int .i64 a0_4, .int .i64 a0_5, .int .i64 a0_6, .int .i64 a0_7], .int .i64 n] w fun e w' => RetB e (NextP a0_0 a0_6 a0_7 n) ∧ Below w.heap.size w w' := by
  have hu52 := Try.underlying52
  have HB := Aside0.mk (Below.refl w.heap.size w)
  go_enter Try.func21, Try.ntmps21
  go_wp2_with (first | ((with_reducible refine gate_dst (N := 2) rfl ?_); refine boxQ 2 #[.int .i64 a0_0, .int .i64 a0_1, .int .i64 a0_2, .int .i64 a0_3, .int .i64 a0_4, .int .i64 a0_5, .int .i64 a0_6, .int .i64 a0_7] 52 HB ?_; clear HB; intro g w1 _ GW BK _ HB; have hcf := hcf8 BK; obtain ⟨_, _, _, _, _, _, _, _, _, _, _, _, _, _, _, _⟩ := hcf) | ((with_reducible refine gate_callee (f := 38) rfl ?_); refine goesL_ _ rfl rfl Try.func38 (by kernel_rfl) rfl #[.int .i64 a0_6, .int .i64 n] rfl (by (try simp only [List.map_toArray, List.map_cons, List.map_nil]); first | done | rfl) ?_; (with_reducible refine (below_calls a0_6 n _).mono ?_); rintro e w' ⟨rfl, rfl⟩; refine ⟨_, rfl, ?_⟩) | (go_at_call 38; (with_reducible refine (below_calls a0_7 n _).mono ?_); rintro e w' ⟨rfl, rfl⟩) | (go_at_call 38; (with_reducible refine (below_calls a0_6 n _).mono ?_); rintro e w' ⟨rfl, rfl⟩))
  all_goals go_ret
  all_goals refine ⟨⟨_, rfl, ?_⟩, bpk HB |>.out⟩
  all_goals (unfold NextP; intro hb; first | exact absurd hb (by decide) | (simp only [Bool.and_eq_true, decide_eq_true_eq, decide_eq_false_iff_not, beq_iff_eq, beq_eq_false_iff_ne, bne_iff_ne, ne_eq] at *; omega))
end Go.Proofs.Ytcalcbeonbfkmaa.P
/- What the law's proof needs of F3. -/
namespace Go.Proofs.Ytcalcbeonbfkmaa.P
open Go.RowKit Go.Proofs.YtcalcbeonbfkmaaW.PrintWords Go.Proofs.YtcalcbeonbfkmaaW.PrintLast Go.Proofs.YtcalcbeonbfkmaaW.PrintMore Go.Proofs.YtcalcbeonbfkmaaO
attribute [local go_sem] max2_int min2_int max_two min_two max_three min_three max_four min_four
set_option linter.unusedVariables false
set_option linter.unusedSimpArgs false
/-- A graph: its lists, its numbers, and where the lists lie. -/
structure Gr where
  A0 : Option Addr
  c0 : Nat
  l0 : List S52
  loop : Int
  regs : Int
  ticks : Int
  A4 : Option Addr
  c4 : Nat
  l4 : List S79
  A5 : Option Addr
  c5 : Nat
  l5 : List S83
  A6 : Option Addr
  c6 : Nat
  l6 : List S85
  A7 : Option Addr
  c7 : Nat
  l7 : List S77
abbrev Gr.v (G : Gr) : Value := .agg #[.slice G.A0 G.l0.length G.c0, .int .i64 G.loop, .int .i64 G.regs, .int .i64 G.ticks, .slice G.A4 G.l4.length G.c4, .slice G.A5 G.l5.length G.c5, .slice G.A6 G.l6.length G.c6, .slice G.A7 G.l7.length G.c7]
structure Gr.Held (G : Gr) (w : World) : Prop where
  h0 : Kd.C k52 w G.A0 G.l0.length G.l0
  h4 : Kd.C k79 w G.A4 G.l4.length G.l4
  h5 : Kd.C k83 w G.A5 G.l5.length G.l5
  h6 : Kd.C k85 w G.A6 G.l6.length G.l6
  h7 : Kd.C k77 w G.A7 G.l7.length G.l7
  k0 : G.l0.length ≤ 9223372036854775807
  k5 : G.l5.length ≤ 9223372036854775807
  k7 : G.l7.length ≤ 9223372036854775807
theorem Gr.Held.below {G : Gr} {w W : World} (h : G.Held w) (hb : Below w.heap.size w W) : G.Held W :=
  ⟨Kd.C_below h.h0 hb, Kd.C_below h.h4 hb, Kd.C_below h.h5 hb, Kd.C_below h.h6 hb, Kd.C_below h.h7 hb, h.k0, h.k5, h.k7⟩
def AnyP (b : Bool) : Prop := True
def LoV (t : Int) : Int := if t = 1 then -128 else if t = 2 then -32768 else -2147483648
def HiV (t : Int) : Int := if t = 1 then 127 else if t = 2 then 32767 else 2147483647
theorem Lo_f (t : Int) : gimbalref07_Lo.f t = some (LoV t) := by
  unfold gimbalref07_Lo.f LoV
  by_cases c : t = 1
  · rw [if_pos c, if_pos c]
  · rw [if_neg c, if_neg c]
    by_cases d : t = 2
    · rw [if_pos d, if_pos d]
    · rw [if_neg d, if_neg d]
theorem Lo_q (t : Int) (w : World) : Calls Try.prog 36 #[.int .i64 t] w fun e w' => e = .returned (.int .i64 (LoV t)) ∧ Drawn0 w w' :=
  gimbalref07_Lo.calls t _ w (Lo_f t)
theorem Hi_q (t : Int) (w : World) : Calls Try.prog 37 #[.int .i64 t] w fun e w' => e = .returned (.int .i64 (HiV t)) ∧ Drawn0 w w' :=
  gimbalref07_Hi.calls t _ w (by
    unfold gimbalref07_Hi.f
    rw [Lo_f]
    show some _ = some _
    congr 1
    unfold LoV HiV
    by_cases c : t = 1
    · rw [if_pos c, if_pos c]; unfold wrap64; omega
    · rw [if_neg c, if_neg c]
      by_cases d : t = 2
      · rw [if_pos d, if_pos d]; unfold wrap64; omega
      · rw [if_neg d, if_neg d]; unfold wrap64; omega)
theorem typed_q (t : Int) (w : World) : Calls Try.prog 35 #[.int .i64 t] w fun e w' => e = .returned (.bool (decide (1 ≤ t ∧ t ≤ 3))) ∧ Drawn0 w w' :=
  gimbalref07_typed.calls t _ w (by
    unfold gimbalref07_typed.f
    by_cases c : t ≥ 1
    · rw [if_pos c]; congr 1; exact decide_eq_decide.mpr ⟨fun h => ⟨c, h⟩, fun h => h.2⟩
    · rw [if_neg c]; congr 1; exact (decide_eq_false (fun h => c h.1)).symm)
def RetK (e : Ending) : Prop := ∃ k b, e = .returned (.tuple #[.int .i64 k, .bool b])
/-- An instruction's eight cells, stored one by one. -/
theorem set8 {w : World} {g : Nat} {t : TypeId} {o0 o1 o2 o3 o4 o5 o6 o7 : Value} (h : w.heap[g]? = some (.cells #[o0, o1, o2, o3, o4, o5, o6, o7] t (0, 0))) (x0 x1 x2 x3 x4 x5 x6 x7 : Value) :
    ∀ w1, w1 = (((((((w.setCell ⟨g, 0, none⟩ x0).setCell ⟨g, 1, none⟩ x1).setCell ⟨g, 2, none⟩ x2).setCell ⟨g, 3, none⟩ x3).setCell ⟨g, 4, none⟩ x4).setCell ⟨g, 5, none⟩ x5).setCell ⟨g, 6, none⟩ x6).setCell ⟨g, 7, none⟩ x7 →
    w1.heap[g]? = some (.cells #[x0, x1, x2, x3, x4, x5, x6, x7] t (0, 0)) ∧ (∀ g' o', g' ≠ g → w.heap[g']? = some o' → w1.heap[g']? = some o') ∧ (∀ w0 : World, w0.heap.size ≤ g → Below w0.heap.size w0 w → Below w0.heap.size w0 w1) := by
  intro w1 e1
  subst e1
  refine ⟨?_, ?_, ?_⟩
  · exact blk_put (cs := #[x0, x1, x2, x3, x4, x5, x6, o7]) (blk_put (cs := #[x0, x1, x2, x3, x4, x5, o6, o7]) (blk_put (cs := #[x0, x1, x2, x3, x4, o5, o6, o7]) (blk_put (cs := #[x0, x1, x2, x3, o4, o5, o6, o7]) (blk_put (cs := #[x0, x1, x2, o3, o4, o5, o6, o7]) (blk_put (cs := #[x0, x1, o2, o3, o4, o5, o6, o7]) (blk_put (cs := #[x0, o1, o2, o3, o4, o5, o6, o7]) (blk_put h 0 x0 rfl) 1 x1 rfl) 2 x2 rfl) 3 x3 rfl) 4 x4 rfl) 5 x5 rfl) 6 x6 rfl) 7 x7 rfl
  · intro g' o' hne h'
    have far : ∀ (w : World) (i : Nat) (v : Value), (w.setCell ⟨g, i, none⟩ v).heap[g']? = w.heap[g']? := fun w i v => Below.heap_setCell w _ v g' hne
    simp only [far]
    exact h'
  · intro w0 hg hB
    exact below_set (below_set (below_set (below_set (below_set (below_set (below_set (below_set hB hg) hg) hg) hg) hg) hg) hg) hg
end Go.Proofs.Ytcalcbeonbfkmaa.P
