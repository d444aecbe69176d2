import Derived.Test.YtcalcbeonbfkmaaTrMG14
import Derived.Test.YtcalcbeonbfkmaaTrMWRepsOne
/- What the law's proof needs of G15. -/
namespace Go.Proofs.Ytcalcbeonbfkmaa.P
open Go.RowKit Go.Proofs.YtcalcbeonbfkmaaW.PrintWords Go.Proofs.YtcalcbeonbfkmaaW.PrintLast Go.Proofs.YtcalcbeonbfkmaaW.PrintMore Go.Proofs.YtcalcbeonbfkmaaO
attribute [local go_sem] max2_int min2_int max_two min_two max_three min_three max_four min_four
set_option linter.unusedVariables false
set_option linter.unusedSimpArgs false
def ctr0 : List S52 := [⟨17, 0, 0, 0, 0, 0, ⟨1, -1⟩⟩, ⟨1, 1, 0, 0, 1, 0, ⟨2, -1⟩⟩, ⟨4, 2, 0, 1, 0, 1, ⟨3, -1⟩⟩, ⟨13, 0, 2, 0, 0, 2, ⟨4, -1⟩⟩, ⟨18, 0, 0, 0, 0, 0, ⟨0, -1⟩⟩]
def ctr5 (x : Int) : List S83 := [⟨⟨#[120]⟩, 1, x⟩]
def ctr7 : List S77 := [⟨0, 0⟩, ⟨0, 2⟩, ⟨0, 2⟩]
/-- The graph of awake's counter. -/
def ctr (A0 : Option Addr) (c0 : Nat) (A5 : Option Addr) (c5 : Nat) (A7 : Option Addr) (c7 : Nat) (x : Int) : Gr := ⟨A0, c0, ctr0, 0, 3, 0, none, 0, [], A5, c5, ctr5 x, none, 0, [], A7, c7, ctr7⟩
section
variable {α : Type} {d : Kd α} {e base : Nat} {ok : Nat → Prop} {w' W2 : World} {A : Option Addr} {n c : Nat} {xs : List α}
theorem C_far (h : d.R e w' base ok (.slice A n c) xs) (hk : ∀ k, base ≤ k → k < w'.heap.size → W2.heap[k]? = w'.heap[k]?) : d.C W2 A xs.length xs :=
  (Kd.R_reads' (Kd.R_step (Kd.R_bound h) (fun k h1 h2 => hk k h1.2.1 h2))).2.2
end
theorem C_none {α : Type} (d : Kd α) (w : World) : Kd.C d w none 0 [] := (Kd.R_reads' (Kd.R_nil d 0 w 0 (fun _ => True))).2.2
set_option maxHeartbeats 8000000 in
set_option maxRecDepth 100000 in
theorem counter_calls (x : Int) (w : World) : Calls Try.prog 25 #[.int .i64 x] w fun e w' => ∃ A0 c0 A5 c5 A7 c7, e = .returned (ctr A0 c0 A5 c5 A7 c7 x).v ∧ (∀ W2 : World, (∀ k, w.heap.size ≤ k → k < w'.heap.size → W2.heap[k]? = w'.heap[k]?) → (ctr A0 c0 A5 c5 A7 c7 x).Held W2) ∧ Below w.heap.size w w' := by
  have hu28 := Try.underlying28
  have hu52 := Try.underlying52
  have hu50 := Try.underlying50
  have hu83 := Try.underlying83
  have hu77 := Try.underlying77
  have HB := Aside0.mk (Below.refl w.heap.size w)
  go_enter Try.func25, Try.ntmps25
  go_wp2_with (first | ((with_reducible refine gate_dst (N := 2) rfl ?_); refine boxQ 2 #[.slice none 0 0, .int .i64 0, .int .i64 0, .int .i64 0, .slice none 0 0, .slice none 0 0, .slice none 0 0, .slice none 0 0] 28 HB ?_; clear HB; intro g2 w1 _ GW B2 _ HB) | ((with_reducible refine gate_dst (N := 14) rfl ?_); go_loud (refine Kd.R_lit k52 (w0 := w) w.heap.size 52 rfl (N := 14) rfl (xs := ctr0) (inner := [.int .i64 (17), .int .i64 (0), .int .i64 (0), .int .i64 (0), .int .i64 (0), .int .i64 (0), .int .i64 (1), .int .i64 (-1), .int .i64 (1), .int .i64 (1), .int .i64 (0), .int .i64 (0), .int .i64 (1), .int .i64 (0), .int .i64 (2), .int .i64 (-1), .int .i64 (4), .int .i64 (2), .int .i64 (0), .int .i64 (1), .int .i64 (0), .int .i64 (1), .int .i64 (3), .int .i64 (-1), .int .i64 (13), .int .i64 (0), .int .i64 (2), .int .i64 (0), .int .i64 (0), .int .i64 (2), .int .i64 (4), .int .i64 (-1), .int .i64 (18), .int .i64 (0), .int .i64 (0), .int .i64 (0), .int .i64 (0), .int .i64 (0), .int .i64 (0), .int .i64 (-1)]) (ok := fun _ => True) (okp := fun _ => False) ?hr14 (by refine Reps.c8 (k52_mkM _ _ _ ⟨17, 0, 0, 0, 0, 0, ⟨1, -1⟩⟩) ?_; refine Reps.c8 (k52_mkM _ _ _ ⟨1, 1, 0, 0, 1, 0, ⟨2, -1⟩⟩) ?_; refine Reps.c8 (k52_mkM _ _ _ ⟨4, 2, 0, 1, 0, 1, ⟨3, -1⟩⟩) ?_; refine Reps.c8 (k52_mkM _ _ _ ⟨13, 0, 2, 0, 0, 2, ⟨4, -1⟩⟩) ?_; refine Reps.c8 (k52_mkM _ _ _ ⟨18, 0, 0, 0, 0, 0, ⟨0, -1⟩⟩) ?_; exact Reps.none _ _) (fun _ hk => hk.elim) trivial (bpk HB).out (bpk HB).out.size (by simp [ctr0, ctr5, ctr7]) ?_); (case hr14 => first | (go_simp; done) | (go_simp; rfl)); intro v14 w14 ho hb hg _; obtain ⟨A14, c14, ev⟩ := Kd.R_slice ho; subst ev; replace B2 := bbw B2 (below_none hg); clear HB; have HB := Aside0.mk hb; have H14 := Aside0.mk ho; clear ho hb hg) | ((with_reducible refine gate_dst (N := 18) rfl ?_); go_loud (refine Kd.R_lit k83 (w0 := w) w.heap.size 83 rfl (N := 18) rfl (xs := ctr5 x) (inner := [.string ⟨#[120]⟩, .int .i64 1, .int .i64 x]) (ok := fun _ => True) (okp := fun _ => False) ?hr18 (Reps.c3 (k83_mkM _ _ _ ⟨⟨#[120]⟩, 1, x⟩) (Reps.none _ _)) (fun _ hk => hk.elim) trivial (bpk HB).out (bpk HB).out.size (by simp [ctr0, ctr5, ctr7]) ?_); (case hr18 => first | (go_simp; done) | (go_simp; rfl)); intro v18 w18 ho hb hg _; obtain ⟨A18, c18, ev⟩ := Kd.R_slice ho; subst ev; replace H14 := Aside0.mk (Kd.R_below H14.out (below_none hg)); replace B2 := bbw B2 (below_none hg); clear HB; have HB := Aside0.mk hb; have H18 := Aside0.mk ho; clear ho hb hg) | ((with_reducible refine gate_dst (N := 22) rfl ?_); go_loud (refine Kd.R_lit k77 (w0 := w) w.heap.size 77 rfl (N := 22) rfl (xs := ctr7) (inner := [.int .i64 0, .int .i64 0, .int .i64 0, .int .i64 2, .int .i64 0, .int .i64 2]) (ok := fun _ => True) (okp := fun _ => False) ?hr22 (Reps.c2 (k77_mkM _ _ _ ⟨0, 0⟩) (Reps.c2 (k77_mkM _ _ _ ⟨0, 2⟩) (Reps.c2 (k77_mkM _ _ _ ⟨0, 2⟩) (Reps.none _ _)))) (fun _ hk => hk.elim) trivial (bpk HB).out (bpk HB).out.size (by simp [ctr0, ctr5, ctr7]) ?_); (case hr22 => first | (go_simp; done) | (go_simp; rfl)); intro v22 w22 ho hb hg _; obtain ⟨A22, c22, ev⟩ := Kd.R_slice ho; subst ev; replace H14 := Aside0.mk (Kd.R_below H14.out (below_none hg)); replace H18 := Aside0.mk (Kd.R_below H18.out (below_none hg)); replace B2 := bbw B2 (below_none hg); clear HB; have HB := Aside0.mk hb; have H22 := Aside0.mk ho; clear ho hb hg) | ((with_reducible refine gate_store (p := 2) (t := 28) rfl ?_); refine store_box rfl rfl rfl g2 28 _ #[.slice A14 ctr0.length c14, .int .i64 0, .int .i64 3, .int .i64 0, .slice none 0 0, .slice A18 (ctr5 x).length c18, .slice none 0 0, .slice A22 ctr7.length c22] (pkA B2).out rfl rfl (by kernel_rfl) rfl (by kernel_rfl) ?_; intro w4 hbs hgs; have h14 := R_boxed H14.out (pkA B2).out (fun q hq => by rw [List.mem_singleton.1 hq]; decide) hgs; have h18 := R_boxed H18.out (pkA B2).out (fun q hq => by rw [List.mem_singleton.1 hq]; decide) hgs; have h22 := R_boxed H22.out (pkA B2).out (fun q hq => by rw [List.mem_singleton.1 hq]; decide) hgs; have hw := Below_boxed (bpk HB).out (Nat.le_refl _) GW.out hgs; clear B2 HB H14 H18 H22; have B2 := Aside0.mk hbs; have KH := Aside0.mk (And.intro h14 (And.intro h18 (And.intro h22 hw))); clear hbs h14 h18 h22 hw hgs))
  refine bodyPost_ret (results_cell_row rfl _ _ g2 28 _ (0, 0) _ rfl B2.out Try.underlying28 rfl (by kernel_rfl)) rfl ?_
  refine ⟨A14, c14, A18, c18, A22, c22, rfl, fun W2 hk => ⟨C_far KH.out.1 hk, C_none _ _, C_far KH.out.2.1 hk, C_none _ _, C_far KH.out.2.2.1 hk, (by simp [ctr, ctr0]), (by simp [ctr, ctr5]), (by simp [ctr, ctr7])⟩, KH.out.2.2.2⟩
theorem ctr_fit (A0 : Option Addr) (c0 : Nat) (A5 : Option Addr) (c5 : Nat) (A7 : Option Addr) (c7 : Nat) (x : Int) : FitOK (ctr A0 c0 A5 c5 A7 c7 x) := by
  have five : ∀ {P : Nat → Prop}, P 0 → P 1 → P 2 → P 3 → P 4 → ∀ p : Nat, p < (ctr A0 c0 A5 c5 A7 c7 x).l0.length → P p := fun h0 h1 h2 h3 h4 p hp => by
    have hp : p < 5 := hp
    rcases (show p = 0 ∨ p = 1 ∨ p = 2 ∨ p = 3 ∨ p = 4 by omega) with rfl | rfl | rfl | rfl | rfl <;> assumption
  refine ⟨of_decide_eq_true rfl, of_decide_eq_true rfl, of_decide_eq_true rfl, of_decide_eq_true rfl, rfl, ⟨of_decide_eq_true rfl, of_decide_eq_true rfl, of_decide_eq_true rfl, of_decide_eq_true rfl, fun j hj => ?_, fun j hj => absurd hj (Nat.not_lt_zero j)⟩, ⟨[1, 2], ⟨rfl, of_decide_eq_true rfl, ?_, ?_⟩, ?_⟩, ⟨fun p => if p = 0 then 0 else 5 - p, ?_⟩⟩
  · have hj : j < 1 := hj
    obtain rfl : j = 0 := by omega
    exact ⟨of_decide_eq_true rfl, of_decide_eq_true rfl⟩
  · refine five ?_ ?_ ?_ ?_ ?_
    · exact fun h => absurd h (of_decide_eq_true rfl)
    · exact fun _ => ⟨0, of_decide_eq_true rfl, rfl, rfl⟩
    · exact fun _ => ⟨1, of_decide_eq_true rfl, rfl, rfl⟩
    · exact fun h => absurd h (of_decide_eq_true rfl)
    · exact fun h => absurd h (of_decide_eq_true rfl)
  · intro j hj
    have hj : j < 2 := hj
    rcases (show j = 0 ∨ j = 1 by omega) with rfl | rfl
    · exact ⟨1, of_decide_eq_true rfl, rfl, of_decide_eq_true rfl⟩
    · exact ⟨2, of_decide_eq_true rfl, rfl, of_decide_eq_true rfl⟩
  · refine five ?_ ?_ ?_ ?_ ?_
    · exact ⟨of_decide_eq_true rfl, fun _ => rfl, fun h => absurd h (of_decide_eq_true rfl), of_decide_eq_true rfl, fun h => absurd h (of_decide_eq_true rfl), fun h => absurd h (of_decide_eq_true rfl), fun h => absurd h (of_decide_eq_true rfl), fun h => absurd h (of_decide_eq_true rfl), fun h => absurd h (of_decide_eq_true rfl), fun h => absurd h (of_decide_eq_true rfl), fun h => absurd h (of_decide_eq_true rfl), fun h => absurd h (of_decide_eq_true rfl), fun h => absurd h (of_decide_eq_true rfl)⟩
    · exact ⟨of_decide_eq_true rfl, fun h => absurd h (of_decide_eq_true rfl), fun h => absurd h (of_decide_eq_true rfl), of_decide_eq_true rfl, fun h => absurd h (of_decide_eq_true rfl), fun h => absurd h (of_decide_eq_true rfl), fun h => absurd h (of_decide_eq_true rfl), fun h => absurd h (of_decide_eq_true rfl), fun h => absurd h (of_decide_eq_true rfl), fun h => absurd h (of_decide_eq_true rfl), fun h => absurd h (of_decide_eq_true rfl), fun _ => ⟨of_decide_eq_true rfl, of_decide_eq_true rfl⟩, fun h => absurd h (of_decide_eq_true rfl)⟩
    · exact ⟨of_decide_eq_true rfl, fun h => absurd h (of_decide_eq_true rfl), fun h => absurd h (of_decide_eq_true rfl), of_decide_eq_true rfl, fun h => absurd h (of_decide_eq_true rfl), fun _ => ⟨⟨of_decide_eq_true rfl, of_decide_eq_true rfl, fun h => absurd h (of_decide_eq_true rfl)⟩, ⟨of_decide_eq_true rfl, of_decide_eq_true rfl, fun _ => of_decide_eq_true rfl⟩⟩, fun h => absurd h (of_decide_eq_true rfl), fun h => absurd h (of_decide_eq_true rfl), fun h => absurd h (of_decide_eq_true rfl), fun h => absurd h (of_decide_eq_true rfl), fun h => absurd h (of_decide_eq_true rfl), fun h => absurd h (of_decide_eq_true rfl), fun h => absurd h (of_decide_eq_true rfl)⟩
    · exact ⟨of_decide_eq_true rfl, fun h => absurd h (of_decide_eq_true rfl), fun h => absurd h (of_decide_eq_true rfl), of_decide_eq_true rfl, fun _ => ⟨of_decide_eq_true rfl, of_decide_eq_true rfl, fun _ => of_decide_eq_true rfl⟩, fun h => absurd h (of_decide_eq_true rfl), fun h => absurd h (of_decide_eq_true rfl), fun h => absurd h (of_decide_eq_true rfl), fun h => absurd h (of_decide_eq_true rfl), fun h => absurd h (of_decide_eq_true rfl), fun _ => ⟨of_decide_eq_true rfl, of_decide_eq_true rfl⟩, fun h => absurd h (of_decide_eq_true rfl), fun h => absurd h (of_decide_eq_true rfl)⟩
    · exact ⟨of_decide_eq_true rfl, fun h => absurd h (of_decide_eq_true rfl), fun h => absurd h (of_decide_eq_true rfl), of_decide_eq_true rfl, fun h => absurd h (of_decide_eq_true rfl), fun h => absurd h (of_decide_eq_true rfl), fun h => absurd h (of_decide_eq_true rfl), fun h => absurd h (of_decide_eq_true rfl), fun h => absurd h (of_decide_eq_true rfl), fun h => absurd h (of_decide_eq_true rfl), fun h => absurd h (of_decide_eq_true rfl), fun h => absurd h (of_decide_eq_true rfl), fun h => absurd h (of_decide_eq_true rfl)⟩
  · refine five ?_ ?_ ?_ ?_ ?_
    · exact Or.inl (Or.inl rfl)
    · exact Or.inr (fun y h => h.elim (fun h => Or.inr ⟨2, h, of_decide_eq_true rfl, of_decide_eq_true rfl⟩) (fun h => Or.inl (by rw [h]; exact of_decide_eq_true rfl)))
    · exact Or.inr (fun y h => h.elim (fun h => Or.inr ⟨3, h, of_decide_eq_true rfl, of_decide_eq_true rfl⟩) (fun h => Or.inl (by rw [h]; exact of_decide_eq_true rfl)))
    · exact Or.inr (fun y h => h.elim (fun h => Or.inr ⟨4, h, of_decide_eq_true rfl, of_decide_eq_true rfl⟩) (fun h => Or.inl (by rw [h]; exact of_decide_eq_true rfl)))
    · exact Or.inr (fun y h => h.elim (fun h => Or.inr ⟨0, h, of_decide_eq_true rfl, of_decide_eq_true rfl⟩) (fun h => Or.inl (by rw [h]; exact of_decide_eq_true rfl)))
/-- A run's length is one. -/
theorem runs_len {G : Gr} {sc : List Int} {S : St} {N n : Nat} (h : Runs G sc S N) (h0 : ∀ k, k < n → (stepN G sc S k).en = 0) (h1 : (stepN G sc S n).en ≠ 0) : N = n := by
  rcases Nat.lt_trichotomy N n with hh | hh | hh
  · exact absurd (h0 N hh) h.stop
  · exact hh
  · exact absurd (h.go n hh).1 h1
theorem ctr0_step (A0 : Option Addr) (c0 : Nat) (A5 : Option Addr) (c5 : Nat) (A7 : Option Addr) (c7 : Nat) : stepC (ctr A0 c0 A5 c5 A7 c7 0) [] ⟨2, 0, [0, 0, 0], 0, 0, 0, 0, 0, [], []⟩ = ⟨1, 1, [0, 0, 0], 0, 0, 0, 0, 0, [], [[0]]⟩ ∧ stepC (ctr A0 c0 A5 c5 A7 c7 0) [] ⟨1, 1, [0, 0, 0], 0, 0, 0, 0, 0, [], [[0]]⟩ = ⟨1, 2, [0, 1, 0], 0, 0, 0, 0, 0, [], [[0]]⟩ ∧ stepC (ctr A0 c0 A5 c5 A7 c7 0) [] ⟨1, 2, [0, 1, 0], 0, 0, 0, 0, 0, [], [[0]]⟩ = ⟨1, 3, [0, 1, 1], 0, 0, 0, 0, 0, [], [[0]]⟩ ∧ stepC (ctr A0 c0 A5 c5 A7 c7 0) [] ⟨1, 3, [0, 1, 1], 0, 0, 0, 0, 0, [], [[0]]⟩ = ⟨1, 4, [1, 1, 1], 0, 0, 0, 0, 0, [], [[0]]⟩ ∧ stepC (ctr A0 c0 A5 c5 A7 c7 0) [] ⟨1, 4, [1, 1, 1], 0, 0, 0, 0, 0, [], [[0]]⟩ = ⟨1, 0, [1, 1, 1], 0, 0, 0, 1, 0, [], [[0]]⟩ ∧ stepC (ctr A0 c0 A5 c5 A7 c7 0) [] ⟨1, 0, [1, 1, 1], 0, 0, 0, 1, 0, [], [[0]]⟩ = ⟨0, 1, [1, 1, 1], 0, 0, 0, 1, 0, [], [[0], [1]]⟩ ∧ stepC (ctr A0 c0 A5 c5 A7 c7 0) [] ⟨0, 1, [1, 1, 1], 0, 0, 0, 1, 0, [], [[0], [1]]⟩ = ⟨0, 2, [1, 1, 1], 0, 0, 0, 1, 0, [], [[0], [1]]⟩ ∧ stepC (ctr A0 c0 A5 c5 A7 c7 0) [] ⟨0, 2, [1, 1, 1], 0, 0, 0, 1, 0, [], [[0], [1]]⟩ = ⟨0, 3, [1, 1, 2], 0, 0, 0, 1, 0, [], [[0], [1]]⟩ ∧ stepC (ctr A0 c0 A5 c5 A7 c7 0) [] ⟨0, 3, [1, 1, 2], 0, 0, 0, 1, 0, [], [[0], [1]]⟩ = ⟨0, 4, [2, 1, 2], 0, 0, 0, 1, 0, [], [[0], [1]]⟩ ∧ stepC (ctr A0 c0 A5 c5 A7 c7 0) [] ⟨0, 4, [2, 1, 2], 0, 0, 0, 1, 0, [], [[0], [1]]⟩ = ⟨0, 0, [2, 1, 2], 0, 0, 0, 2, 0, [], [[0], [1]]⟩ ∧ stepC (ctr A0 c0 A5 c5 A7 c7 0) [] ⟨0, 0, [2, 1, 2], 0, 0, 0, 2, 0, [], [[0], [1]]⟩ = ⟨0, 1, [2, 1, 2], 4, 0, 0, 2, 0, [], [[0], [1]]⟩ := ⟨by kernel_rfl, by kernel_rfl, by kernel_rfl, by kernel_rfl, by kernel_rfl, by kernel_rfl, by kernel_rfl, by kernel_rfl, by kernel_rfl, by kernel_rfl, by kernel_rfl⟩
theorem ctr0_begin (A0 : Option Addr) (c0 : Nat) (A5 : Option Addr) (c5 : Nat) (A7 : Option Addr) (c7 : Nat) : (beginS (ctr A0 c0 A5 c5 A7 c7 0) (mx 2 0) (ctr A0 c0 A5 c5 A7 c7 0).l5.length (ctr A0 c0 A5 c5 A7 c7 0).l6.length) = ⟨2, 0, [0, 0, 0], 0, 0, 0, 0, 0, [], []⟩ := by kernel_rfl
theorem ctr0_at (A0 : Option Addr) (c0 : Nat) (A5 : Option Addr) (c5 : Nat) (A7 : Option Addr) (c7 : Nat) : stepN (ctr A0 c0 A5 c5 A7 c7 0) [] (beginS (ctr A0 c0 A5 c5 A7 c7 0) (mx 2 0) (ctr A0 c0 A5 c5 A7 c7 0).l5.length (ctr A0 c0 A5 c5 A7 c7 0).l6.length) 0 = ⟨2, 0, [0, 0, 0], 0, 0, 0, 0, 0, [], []⟩ ∧ stepN (ctr A0 c0 A5 c5 A7 c7 0) [] (beginS (ctr A0 c0 A5 c5 A7 c7 0) (mx 2 0) (ctr A0 c0 A5 c5 A7 c7 0).l5.length (ctr A0 c0 A5 c5 A7 c7 0).l6.length) 1 = ⟨1, 1, [0, 0, 0], 0, 0, 0, 0, 0, [], [[0]]⟩ ∧ stepN (ctr A0 c0 A5 c5 A7 c7 0) [] (beginS (ctr A0 c0 A5 c5 A7 c7 0) (mx 2 0) (ctr A0 c0 A5 c5 A7 c7 0).l5.length (ctr A0 c0 A5 c5 A7 c7 0).l6.length) 2 = ⟨1, 2, [0, 1, 0], 0, 0, 0, 0, 0, [], [[0]]⟩ ∧ stepN (ctr A0 c0 A5 c5 A7 c7 0) [] (beginS (ctr A0 c0 A5 c5 A7 c7 0) (mx 2 0) (ctr A0 c0 A5 c5 A7 c7 0).l5.length (ctr A0 c0 A5 c5 A7 c7 0).l6.length) 3 = ⟨1, 3, [0, 1, 1], 0, 0, 0, 0, 0, [], [[0]]⟩ ∧ stepN (ctr A0 c0 A5 c5 A7 c7 0) [] (beginS (ctr A0 c0 A5 c5 A7 c7 0) (mx 2 0) (ctr A0 c0 A5 c5 A7 c7 0).l5.length (ctr A0 c0 A5 c5 A7 c7 0).l6.length) 4 = ⟨1, 4, [1, 1, 1], 0, 0, 0, 0, 0, [], [[0]]⟩ ∧ stepN (ctr A0 c0 A5 c5 A7 c7 0) [] (beginS (ctr A0 c0 A5 c5 A7 c7 0) (mx 2 0) (ctr A0 c0 A5 c5 A7 c7 0).l5.length (ctr A0 c0 A5 c5 A7 c7 0).l6.length) 5 = ⟨1, 0, [1, 1, 1], 0, 0, 0, 1, 0, [], [[0]]⟩ ∧ stepN (ctr A0 c0 A5 c5 A7 c7 0) [] (beginS (ctr A0 c0 A5 c5 A7 c7 0) (mx 2 0) (ctr A0 c0 A5 c5 A7 c7 0).l5.length (ctr A0 c0 A5 c5 A7 c7 0).l6.length) 6 = ⟨0, 1, [1, 1, 1], 0, 0, 0, 1, 0, [], [[0], [1]]⟩ ∧ stepN (ctr A0 c0 A5 c5 A7 c7 0) [] (beginS (ctr A0 c0 A5 c5 A7 c7 0) (mx 2 0) (ctr A0 c0 A5 c5 A7 c7 0).l5.length (ctr A0 c0 A5 c5 A7 c7 0).l6.length) 7 = ⟨0, 2, [1, 1, 1], 0, 0, 0, 1, 0, [], [[0], [1]]⟩ ∧ stepN (ctr A0 c0 A5 c5 A7 c7 0) [] (beginS (ctr A0 c0 A5 c5 A7 c7 0) (mx 2 0) (ctr A0 c0 A5 c5 A7 c7 0).l5.length (ctr A0 c0 A5 c5 A7 c7 0).l6.length) 8 = ⟨0, 3, [1, 1, 2], 0, 0, 0, 1, 0, [], [[0], [1]]⟩ ∧ stepN (ctr A0 c0 A5 c5 A7 c7 0) [] (beginS (ctr A0 c0 A5 c5 A7 c7 0) (mx 2 0) (ctr A0 c0 A5 c5 A7 c7 0).l5.length (ctr A0 c0 A5 c5 A7 c7 0).l6.length) 9 = ⟨0, 4, [2, 1, 2], 0, 0, 0, 1, 0, [], [[0], [1]]⟩ ∧ stepN (ctr A0 c0 A5 c5 A7 c7 0) [] (beginS (ctr A0 c0 A5 c5 A7 c7 0) (mx 2 0) (ctr A0 c0 A5 c5 A7 c7 0).l5.length (ctr A0 c0 A5 c5 A7 c7 0).l6.length) 10 = ⟨0, 0, [2, 1, 2], 0, 0, 0, 2, 0, [], [[0], [1]]⟩ ∧ stepN (ctr A0 c0 A5 c5 A7 c7 0) [] (beginS (ctr A0 c0 A5 c5 A7 c7 0) (mx 2 0) (ctr A0 c0 A5 c5 A7 c7 0).l5.length (ctr A0 c0 A5 c5 A7 c7 0).l6.length) 11 = ⟨0, 1, [2, 1, 2], 4, 0, 0, 2, 0, [], [[0], [1]]⟩ := by
  obtain ⟨h0, h1, h2, h3, h4, h5, h6, h7, h8, h9, h10⟩ := ctr0_step A0 c0 A5 c5 A7 c7
  have e0 := ctr0_begin A0 c0 A5 c5 A7 c7
  have k0 : stepN (ctr A0 c0 A5 c5 A7 c7 0) [] (beginS (ctr A0 c0 A5 c5 A7 c7 0) (mx 2 0) (ctr A0 c0 A5 c5 A7 c7 0).l5.length (ctr A0 c0 A5 c5 A7 c7 0).l6.length) 0 = ⟨2, 0, [0, 0, 0], 0, 0, 0, 0, 0, [], []⟩ := e0
  have k1 : stepN (ctr A0 c0 A5 c5 A7 c7 0) [] (beginS (ctr A0 c0 A5 c5 A7 c7 0) (mx 2 0) (ctr A0 c0 A5 c5 A7 c7 0).l5.length (ctr A0 c0 A5 c5 A7 c7 0).l6.length) 1 = ⟨1, 1, [0, 0, 0], 0, 0, 0, 0, 0, [], [[0]]⟩ := (congrArg (stepC (ctr A0 c0 A5 c5 A7 c7 0) []) k0).trans h0
  have k2 : stepN (ctr A0 c0 A5 c5 A7 c7 0) [] (beginS (ctr A0 c0 A5 c5 A7 c7 0) (mx 2 0) (ctr A0 c0 A5 c5 A7 c7 0).l5.length (ctr A0 c0 A5 c5 A7 c7 0).l6.length) 2 = ⟨1, 2, [0, 1, 0], 0, 0, 0, 0, 0, [], [[0]]⟩ := (congrArg (stepC (ctr A0 c0 A5 c5 A7 c7 0) []) k1).trans h1
  have k3 : stepN (ctr A0 c0 A5 c5 A7 c7 0) [] (beginS (ctr A0 c0 A5 c5 A7 c7 0) (mx 2 0) (ctr A0 c0 A5 c5 A7 c7 0).l5.length (ctr A0 c0 A5 c5 A7 c7 0).l6.length) 3 = ⟨1, 3, [0, 1, 1], 0, 0, 0, 0, 0, [], [[0]]⟩ := (congrArg (stepC (ctr A0 c0 A5 c5 A7 c7 0) []) k2).trans h2
  have k4 : stepN (ctr A0 c0 A5 c5 A7 c7 0) [] (beginS (ctr A0 c0 A5 c5 A7 c7 0) (mx 2 0) (ctr A0 c0 A5 c5 A7 c7 0).l5.length (ctr A0 c0 A5 c5 A7 c7 0).l6.length) 4 = ⟨1, 4, [1, 1, 1], 0, 0, 0, 0, 0, [], [[0]]⟩ := (congrArg (stepC (ctr A0 c0 A5 c5 A7 c7 0) []) k3).trans h3
  have k5 : stepN (ctr A0 c0 A5 c5 A7 c7 0) [] (beginS (ctr A0 c0 A5 c5 A7 c7 0) (mx 2 0) (ctr A0 c0 A5 c5 A7 c7 0).l5.length (ctr A0 c0 A5 c5 A7 c7 0).l6.length) 5 = ⟨1, 0, [1, 1, 1], 0, 0, 0, 1, 0, [], [[0]]⟩ := (congrArg (stepC (ctr A0 c0 A5 c5 A7 c7 0) []) k4).trans h4
  have k6 : stepN (ctr A0 c0 A5 c5 A7 c7 0) [] (beginS (ctr A0 c0 A5 c5 A7 c7 0) (mx 2 0) (ctr A0 c0 A5 c5 A7 c7 0).l5.length (ctr A0 c0 A5 c5 A7 c7 0).l6.length) 6 = ⟨0, 1, [1, 1, 1], 0, 0, 0, 1, 0, [], [[0], [1]]⟩ := (congrArg (stepC (ctr A0 c0 A5 c5 A7 c7 0) []) k5).trans h5
  have k7 : stepN (ctr A0 c0 A5 c5 A7 c7 0) [] (beginS (ctr A0 c0 A5 c5 A7 c7 0) (mx 2 0) (ctr A0 c0 A5 c5 A7 c7 0).l5.length (ctr A0 c0 A5 c5 A7 c7 0).l6.length) 7 = ⟨0, 2, [1, 1, 1], 0, 0, 0, 1, 0, [], [[0], [1]]⟩ := (congrArg (stepC (ctr A0 c0 A5 c5 A7 c7 0) []) k6).trans h6
  have k8 : stepN (ctr A0 c0 A5 c5 A7 c7 0) [] (beginS (ctr A0 c0 A5 c5 A7 c7 0) (mx 2 0) (ctr A0 c0 A5 c5 A7 c7 0).l5.length (ctr A0 c0 A5 c5 A7 c7 0).l6.length) 8 = ⟨0, 3, [1, 1, 2], 0, 0, 0, 1, 0, [], [[0], [1]]⟩ := (congrArg (stepC (ctr A0 c0 A5 c5 A7 c7 0) []) k7).trans h7
  have k9 : stepN (ctr A0 c0 A5 c5 A7 c7 0) [] (beginS (ctr A0 c0 A5 c5 A7 c7 0) (mx 2 0) (ctr A0 c0 A5 c5 A7 c7 0).l5.length (ctr A0 c0 A5 c5 A7 c7 0).l6.length) 9 = ⟨0, 4, [2, 1, 2], 0, 0, 0, 1, 0, [], [[0], [1]]⟩ := (congrArg (stepC (ctr A0 c0 A5 c5 A7 c7 0) []) k8).trans h8
  have k10 : stepN (ctr A0 c0 A5 c5 A7 c7 0) [] (beginS (ctr A0 c0 A5 c5 A7 c7 0) (mx 2 0) (ctr A0 c0 A5 c5 A7 c7 0).l5.length (ctr A0 c0 A5 c5 A7 c7 0).l6.length) 10 = ⟨0, 0, [2, 1, 2], 0, 0, 0, 2, 0, [], [[0], [1]]⟩ := (congrArg (stepC (ctr A0 c0 A5 c5 A7 c7 0) []) k9).trans h9
  have k11 : stepN (ctr A0 c0 A5 c5 A7 c7 0) [] (beginS (ctr A0 c0 A5 c5 A7 c7 0) (mx 2 0) (ctr A0 c0 A5 c5 A7 c7 0).l5.length (ctr A0 c0 A5 c5 A7 c7 0).l6.length) 11 = ⟨0, 1, [2, 1, 2], 4, 0, 0, 2, 0, [], [[0], [1]]⟩ := (congrArg (stepC (ctr A0 c0 A5 c5 A7 c7 0) []) k10).trans h10
  exact ⟨k0, k1, k2, k3, k4, k5, k6, k7, k8, k9, k10, k11⟩
theorem ctr0_len (A0 : Option Addr) (c0 : Nat) (A5 : Option Addr) (c5 : Nat) (A7 : Option Addr) (c7 : Nat) {N : Nat} (h : Runs (ctr A0 c0 A5 c5 A7 c7 0) [] (beginS (ctr A0 c0 A5 c5 A7 c7 0) (mx 2 0) (ctr A0 c0 A5 c5 A7 c7 0).l5.length (ctr A0 c0 A5 c5 A7 c7 0).l6.length) N) : N = 11 := by
  obtain ⟨k0, k1, k2, k3, k4, k5, k6, k7, k8, k9, k10, k11⟩ := ctr0_at A0 c0 A5 c5 A7 c7
  refine runs_len h (fun k hk => ?_) (by rw [k11]; exact of_decide_eq_true rfl)
  rcases (show k = 0 ∨ k = 1 ∨ k = 2 ∨ k = 3 ∨ k = 4 ∨ k = 5 ∨ k = 6 ∨ k = 7 ∨ k = 8 ∨ k = 9 ∨ k = 10 by omega) with rfl | rfl | rfl | rfl | rfl | rfl | rfl | rfl | rfl | rfl | rfl
  · rw [k0]
  · rw [k1]
  · rw [k2]
  · rw [k3]
  · rw [k4]
  · rw [k5]
  · rw [k6]
  · rw [k7]
  · rw [k8]
  · rw [k9]
  · rw [k10]
theorem ctr127_step (A0 : Option Addr) (c0 : Nat) (A5 : Option Addr) (c5 : Nat) (A7 : Option Addr) (c7 : Nat) : stepC (ctr A0 c0 A5 c5 A7 c7 127) [] ⟨9, 0, [127, 0, 0], 0, 0, 0, 0, 0, [], []⟩ = ⟨8, 1, [127, 0, 0], 0, 0, 0, 0, 0, [], [[127]]⟩ ∧ stepC (ctr A0 c0 A5 c5 A7 c7 127) [] ⟨8, 1, [127, 0, 0], 0, 0, 0, 0, 0, [], [[127]]⟩ = ⟨8, 2, [127, 1, 0], 0, 0, 0, 0, 0, [], [[127]]⟩ ∧ stepC (ctr A0 c0 A5 c5 A7 c7 127) [] ⟨8, 2, [127, 1, 0], 0, 0, 0, 0, 0, [], [[127]]⟩ = ⟨8, 3, [127, 1, 128], 0, 0, 0, 0, 0, [], [[127]]⟩ ∧ stepC (ctr A0 c0 A5 c5 A7 c7 127) [] ⟨8, 3, [127, 1, 128], 0, 0, 0, 0, 0, [], [[127]]⟩ = ⟨8, 4, [127, 1, 128], 1, 2, 1, 0, 0, [], [[127]]⟩ := ⟨by kernel_rfl, by kernel_rfl, by kernel_rfl, by kernel_rfl⟩
theorem ctr127_begin (A0 : Option Addr) (c0 : Nat) (A5 : Option Addr) (c5 : Nat) (A7 : Option Addr) (c7 : Nat) : (beginS (ctr A0 c0 A5 c5 A7 c7 127) (mx 9 0) (ctr A0 c0 A5 c5 A7 c7 127).l5.length (ctr A0 c0 A5 c5 A7 c7 127).l6.length) = ⟨9, 0, [127, 0, 0], 0, 0, 0, 0, 0, [], []⟩ := by kernel_rfl
theorem ctr127_at (A0 : Option Addr) (c0 : Nat) (A5 : Option Addr) (c5 : Nat) (A7 : Option Addr) (c7 : Nat) : stepN (ctr A0 c0 A5 c5 A7 c7 127) [] (beginS (ctr A0 c0 A5 c5 A7 c7 127) (mx 9 0) (ctr A0 c0 A5 c5 A7 c7 127).l5.length (ctr A0 c0 A5 c5 A7 c7 127).l6.length) 0 = ⟨9, 0, [127, 0, 0], 0, 0, 0, 0, 0, [], []⟩ ∧ stepN (ctr A0 c0 A5 c5 A7 c7 127) [] (beginS (ctr A0 c0 A5 c5 A7 c7 127) (mx 9 0) (ctr A0 c0 A5 c5 A7 c7 127).l5.length (ctr A0 c0 A5 c5 A7 c7 127).l6.length) 1 = ⟨8, 1, [127, 0, 0], 0, 0, 0, 0, 0, [], [[127]]⟩ ∧ stepN (ctr A0 c0 A5 c5 A7 c7 127) [] (beginS (ctr A0 c0 A5 c5 A7 c7 127) (mx 9 0) (ctr A0 c0 A5 c5 A7 c7 127).l5.length (ctr A0 c0 A5 c5 A7 c7 127).l6.length) 2 = ⟨8, 2, [127, 1, 0], 0, 0, 0, 0, 0, [], [[127]]⟩ ∧ stepN (ctr A0 c0 A5 c5 A7 c7 127) [] (beginS (ctr A0 c0 A5 c5 A7 c7 127) (mx 9 0) (ctr A0 c0 A5 c5 A7 c7 127).l5.length (ctr A0 c0 A5 c5 A7 c7 127).l6.length) 3 = ⟨8, 3, [127, 1, 128], 0, 0, 0, 0, 0, [], [[127]]⟩ ∧ stepN (ctr A0 c0 A5 c5 A7 c7 127) [] (beginS (ctr A0 c0 A5 c5 A7 c7 127) (mx 9 0) (ctr A0 c0 A5 c5 A7 c7 127).l5.length (ctr A0 c0 A5 c5 A7 c7 127).l6.length) 4 = ⟨8, 4, [127, 1, 128], 1, 2, 1, 0, 0, [], [[127]]⟩ := by
  obtain ⟨h0, h1, h2, h3⟩ := ctr127_step A0 c0 A5 c5 A7 c7
  have e0 := ctr127_begin A0 c0 A5 c5 A7 c7
  have k0 : stepN (ctr A0 c0 A5 c5 A7 c7 127) [] (beginS (ctr A0 c0 A5 c5 A7 c7 127) (mx 9 0) (ctr A0 c0 A5 c5 A7 c7 127).l5.length (ctr A0 c0 A5 c5 A7 c7 127).l6.length) 0 = ⟨9, 0, [127, 0, 0], 0, 0, 0, 0, 0, [], []⟩ := e0
  have k1 : stepN (ctr A0 c0 A5 c5 A7 c7 127) [] (beginS (ctr A0 c0 A5 c5 A7 c7 127) (mx 9 0) (ctr A0 c0 A5 c5 A7 c7 127).l5.length (ctr A0 c0 A5 c5 A7 c7 127).l6.length) 1 = ⟨8, 1, [127, 0, 0], 0, 0, 0, 0, 0, [], [[127]]⟩ := (congrArg (stepC (ctr A0 c0 A5 c5 A7 c7 127) []) k0).trans h0
  have k2 : stepN (ctr A0 c0 A5 c5 A7 c7 127) [] (beginS (ctr A0 c0 A5 c5 A7 c7 127) (mx 9 0) (ctr A0 c0 A5 c5 A7 c7 127).l5.length (ctr A0 c0 A5 c5 A7 c7 127).l6.length) 2 = ⟨8, 2, [127, 1, 0], 0, 0, 0, 0, 0, [], [[127]]⟩ := (congrArg (stepC (ctr A0 c0 A5 c5 A7 c7 127) []) k1).trans h1
  have k3 : stepN (ctr A0 c0 A5 c5 A7 c7 127) [] (beginS (ctr A0 c0 A5 c5 A7 c7 127) (mx 9 0) (ctr A0 c0 A5 c5 A7 c7 127).l5.length (ctr A0 c0 A5 c5 A7 c7 127).l6.length) 3 = ⟨8, 3, [127, 1, 128], 0, 0, 0, 0, 0, [], [[127]]⟩ := (congrArg (stepC (ctr A0 c0 A5 c5 A7 c7 127) []) k2).trans h2
  have k4 : stepN (ctr A0 c0 A5 c5 A7 c7 127) [] (beginS (ctr A0 c0 A5 c5 A7 c7 127) (mx 9 0) (ctr A0 c0 A5 c5 A7 c7 127).l5.length (ctr A0 c0 A5 c5 A7 c7 127).l6.length) 4 = ⟨8, 4, [127, 1, 128], 1, 2, 1, 0, 0, [], [[127]]⟩ := (congrArg (stepC (ctr A0 c0 A5 c5 A7 c7 127) []) k3).trans h3
  exact ⟨k0, k1, k2, k3, k4⟩
theorem ctr127_len (A0 : Option Addr) (c0 : Nat) (A5 : Option Addr) (c5 : Nat) (A7 : Option Addr) (c7 : Nat) {N : Nat} (h : Runs (ctr A0 c0 A5 c5 A7 c7 127) [] (beginS (ctr A0 c0 A5 c5 A7 c7 127) (mx 9 0) (ctr A0 c0 A5 c5 A7 c7 127).l5.length (ctr A0 c0 A5 c5 A7 c7 127).l6.length) N) : N = 4 := by
  obtain ⟨k0, k1, k2, k3, k4⟩ := ctr127_at A0 c0 A5 c5 A7 c7
  refine runs_len h (fun k hk => ?_) (by rw [k4]; exact of_decide_eq_true rfl)
  rcases (show k = 0 ∨ k = 1 ∨ k = 2 ∨ k = 3 by omega) with rfl | rfl | rfl | rfl
  · rw [k0]
  · rw [k1]
  · rw [k2]
  · rw [k3]
end Go.Proofs.Ytcalcbeonbfkmaa.P
/- What the law's proof needs of G16. -/
namespace Go.Proofs.Ytcalcbeonbfkmaa.P
open Go.RowKit Go.Proofs.YtcalcbeonbfkmaaW.PrintWords Go.Proofs.YtcalcbeonbfkmaaW.PrintLast Go.Proofs.YtcalcbeonbfkmaaW.PrintMore Go.Proofs.YtcalcbeonbfkmaaO
attribute [local go_sem] max2_int min2_int max_two min_two max_three min_three max_four min_four
set_option linter.unusedVariables false
set_option linter.unusedSimpArgs false
theorem below_set2 {B : Nat} {w W : World} (h : Below B w W) (p : Addr) (u : Value) : Below B (w.setCell p u) (W.setCell p u) := by
  refine ⟨h.os, h.tape, h.output, by simpa [World.setCell] using h.size, fun k hk => ?_⟩
  simp only [World.setCell, Array.getElem?_modify]
  rw [h.block k hk]
theorem size_set (w : World) (p : Addr) (u : Value) : (w.setCell p u).heap.size = w.heap.size := by simp [World.setCell]
/-- What the looker's counter holds. -/
def nv : Nat → Int
  | 0 => 0
  | s + 1 => wrap64 (nv s + 1)
def wbn (W0 : World) (gn : Nat) : Nat → World
  | 0 => W0
  | s + 1 => (wbn W0 gn s).setCell ⟨gn, 0, none⟩ (.int .i64 (nv (s + 1)))
theorem wbn_size (W0 : World) (gn : Nat) : ∀ s, (wbn W0 gn s).heap.size = W0.heap.size
  | 0 => rfl
  | s + 1 => (size_set _ _ _).trans (wbn_size W0 gn s)
theorem wbn_far (W0 : World) (gn : Nat) {k : Nat} (hk : k ≠ gn) : ∀ s, (wbn W0 gn s).heap[k]? = W0.heap[k]?
  | 0 => rfl
  | s + 1 => (Below.heap_setCell _ _ _ k hk).trans (wbn_far W0 gn hk s)
theorem wbn_cell {W0 : World} {gn : Nat} (h : W0.heap[gn]? = some (.cells #[.int .i64 0] 3 (0, 0))) : ∀ s, (wbn W0 gn s).heap[gn]? = some (.cells #[.int .i64 (nv s)] 3 (0, 0))
  | 0 => h
  | s + 1 => blk_put (wbn_cell h s) 0 _ rfl
theorem wbn_same (W0 : World) (gn : Nat) : ∀ s, (wbn W0 gn s).os = W0.os ∧ (wbn W0 gn s).tape = W0.tape ∧ (wbn W0 gn s).output = W0.output
  | 0 => ⟨rfl, rfl, rfl⟩
  | s + 1 => wbn_same W0 gn s
set_option maxHeartbeats 8000000 in
set_option maxRecDepth 100000 in
theorem count_calls (gn : Nat) (s : Int) (a b c d : Value) (W : World) (hc : W.heap[gn]? = some (.cells #[.int .i64 s] 3 (0, 0))) :
    Calls Try.prog 26 #[a, b, c, d, .pointer (some ⟨gn, 0, none⟩)] W fun e W' => e = .returned (.bool true) ∧ W' = W.setCell ⟨gn, 0, none⟩ (.int .i64 (wrap64 (s + 1))) := by
  have h0 : W.cell? ⟨gn, 0, none⟩ = some (.int .i64 s) := blk_cell hc 0
  have f0 : W.frozen? ⟨gn, 0, none⟩ = false := bfz ⟨hc⟩ 0
  have hw : IntKind.i64.wrap (s + 1) = wrap64 (s + 1) := i64_w _
  go_enter Try.func26, Try.ntmps26
  go_wp2
  go_ret
  exact ⟨rfl, rfl⟩
theorem count_looker {W0 : World} {gn : Nat} (h : W0.heap[gn]? = some (.cells #[.int .i64 0] 3 (0, 0))) :
    Looker (wbn W0 gn) (fun _ => []) W0.heap.size (fun s _ _ _ _ b s' => b = true ∧ s' = s + 1) 26 #[.pointer (some ⟨gn, 0, none⟩)] := by
  refine ⟨wbn_size W0 gn, ⟨_, Try.func26, by kernel_rfl, rfl⟩, fun s W M at_ t rs ars vr va ok1 ok2 hB hL hM1 hM2 h1 h2 h3 => ?_⟩
  have hg := blk_lt h
  have hc := (hB.block gn hg).trans (wbn_cell h s)
  refine (count_calls gn (nv s) (.int .i64 at_) vr va (.int .i64 t) W hc).mono ?_
  rintro e W' ⟨rfl, rfl⟩
  refine ⟨true, s + 1, rfl, ⟨rfl, rfl⟩, below_set2 hB _ _, by rw [size_set]; exact hM2, fun k hk1 hk2 _ => Below.heap_setCell _ _ _ k (by show k ≠ gn; omega), fun z hz => nomatch hz⟩
theorem seen_count {f : Nat → St} : ∀ {k : Nat} {b : Bool} {s : Nat}, Seen (fun s _ _ _ _ b s' => b = true ∧ s' = s + 1) f 0 k b s → b = true ∧ s = k := fun h => by
  induction h with
  | start => exact ⟨rfl, rfl⟩
  | see h1 h2 ih => exact ⟨h2.1, by rw [h2.2, ih.2]⟩
  | past h1 ih => exact absurd ih.1 (by decide)
theorem walk0_calls (A0 : Option Addr) (c0 : Nat) (A5 : Option Addr) (c5 : Nat) (A7 : Option Addr) (c7 : Nat) (w W0 : World) (gn : Nat) (hG : ∀ W2 : World, (∀ k, w.heap.size ≤ k → k < W0.heap.size → W2.heap[k]? = W0.heap[k]?) → (ctr A0 c0 A5 c5 A7 c7 0).Held W2) (hg : gn < w.heap.size) (h : W0.heap[gn]? = some (.cells #[.int .i64 0] 3 (0, 0))) :
    Calls Try.prog 15 #[(ctr A0 c0 A5 c5 A7 c7 0).v, .slice none 0 0, .int .i64 2, .func (.func 26) #[] #[.pointer (some ⟨gn, 0, none⟩)]] W0 fun e w' => (∃ v, e = .returned v) ∧ w'.heap[gn]? = some (.cells #[.int .i64 11] 3 (0, 0)) ∧ W0.grownBy w' (some gn) := by
  obtain ⟨N, hN⟩ := begin_runs (G := (ctr A0 c0 A5 c5 A7 c7 0)) [] (ctr_fit _ _ _ _ _ _ _) 2 (by decide)
  have eN := ctr0_len A0 c0 A5 c5 A7 c7 hN
  subst eN
  refine (walk_see (count_looker h) 0 [] (ctr A0 c0 A5 c5 A7 c7 0) W0 (Below.refl _ _) (fun z hz => nomatch hz) (fun z hz => nomatch hz) (fun s => hG _ (fun k h1 h2 => wbn_far W0 gn (by omega) s)) none [] 0 2 (fun s => C_none _ _) (by decide) (ctr_fit _ _ _ _ _ _ _) hN).mono ?_
  rintro e w' ⟨hO, flag, s, hs, hb, hsz, _, _⟩
  obtain ⟨_, rfl⟩ := seen_count hs
  obtain ⟨A1, c1, A2, c2, A3, c3, b1, b2, ok1, ok2, ok3, he, r1, r2, r3⟩ := hO
  have hh := wbn_same W0 gn 11
  exact ⟨⟨_, he⟩, (hb.block gn (blk_lt h)).trans ((wbn_cell h 11).trans (by rw [show nv 11 = 11 from by kernel_rfl])), ⟨hb.os.trans hh.1, hb.tape.trans hh.2.1, hb.output.trans hh.2.2, hsz, fun k hk hne => (hb.block k hk).trans (wbn_far W0 gn (fun e => hne (by rw [e])) 11)⟩⟩
theorem run0_calls (A0 : Option Addr) (c0 : Nat) (A5 : Option Addr) (c5 : Nat) (A7 : Option Addr) (c7 : Nat) (w : World) (hG : (ctr A0 c0 A5 c5 A7 c7 0).Held w) : Calls Try.prog 10 #[(ctr A0 c0 A5 c5 A7 c7 0).v, .slice none 0 0, .int .i64 2] w fun e w' => (∃ A1 c1 A2 c2 A3 c3 b1 ok1, e = .returned (.agg #[.int .i64 4, .int .i64 0, .int .i64 0, .int .i64 2, .int .i64 0, .slice A1 1 c1, .slice A2 0 c2, .slice A3 2 c3]) ∧ Kd.R (Kd.int .i64) 2 w' b1 ok1 (.slice A1 1 c1) [2]) ∧ Below w.heap.size w w' := by
  obtain ⟨N, hN⟩ := begin_runs (G := (ctr A0 c0 A5 c5 A7 c7 0)) [] (ctr_fit _ _ _ _ _ _ _) 2 (by decide)
  have eN := ctr0_len A0 c0 A5 c5 A7 c7 hN
  subst eN
  refine (run_calls (ctr A0 c0 A5 c5 A7 c7 0) w hG none [] 0 2 (C_none _ _) (by decide) (ctr_fit _ _ _ _ _ _ _) hN).mono ?_
  rintro e w' ⟨hO, hb⟩
  rw [(ctr0_at A0 c0 A5 c5 A7 c7).2.2.2.2.2.2.2.2.2.2.2] at hO
  obtain ⟨A1, c1, A2, c2, A3, c3, b1, b2, ok1, ok2, ok3, he, r1, r2, r3⟩ := hO
  exact ⟨⟨A1, c1, A2, c2, A3, c3, b1, ok1, he, r1⟩, hb⟩
theorem run127_calls (A0 : Option Addr) (c0 : Nat) (A5 : Option Addr) (c5 : Nat) (A7 : Option Addr) (c7 : Nat) (w : World) (hG : (ctr A0 c0 A5 c5 A7 c7 127).Held w) : Calls Try.prog 10 #[(ctr A0 c0 A5 c5 A7 c7 127).v, .slice none 0 0, .int .i64 9] w fun e w' => (∃ A1 c1 A2 c2 A3 c3 b1 ok1, e = .returned (.agg #[.int .i64 1, .int .i64 2, .int .i64 1, .int .i64 0, .int .i64 0, .slice A1 1 c1, .slice A2 0 c2, .slice A3 1 c3]) ∧ Kd.R (Kd.int .i64) 2 w' b1 ok1 (.slice A1 1 c1) [127]) ∧ Below w.heap.size w w' := by
  obtain ⟨N, hN⟩ := begin_runs (G := (ctr A0 c0 A5 c5 A7 c7 127)) [] (ctr_fit _ _ _ _ _ _ _) 9 (by decide)
  have eN := ctr127_len A0 c0 A5 c5 A7 c7 hN
  subst eN
  refine (run_calls (ctr A0 c0 A5 c5 A7 c7 127) w hG none [] 0 9 (C_none _ _) (by decide) (ctr_fit _ _ _ _ _ _ _) hN).mono ?_
  rintro e w' ⟨hO, hb⟩
  rw [(ctr127_at A0 c0 A5 c5 A7 c7).2.2.2.2] at hO
  obtain ⟨A1, c1, A2, c2, A3, c3, b1, b2, ok1, ok2, ok3, he, r1, r2, r3⟩ := hO
  exact ⟨⟨A1, c1, A2, c2, A3, c3, b1, ok1, he, r1⟩, hb⟩
set_option maxHeartbeats 8000000 in
set_option maxRecDepth 100000 in
theorem awake_calls (w : World) : Calls Try.prog 8 #[] w fun e w' => e = .returned (.bool true) ∧ Below w.heap.size w w' := by
  have hu28 := Try.underlying28
  have hu36 := Try.underlying36
  have HB := Aside0.mk (Below.refl w.heap.size w)
  go_enter Try.func8, Try.ntmps8
  go_upto_region 2 with (first | ((with_reducible refine gate_callee (f := 25) rfl ?_); refine goesL_ _ rfl rfl Try.func25 (by kernel_rfl) rfl #[.int .i64 0] rfl (by (try simp only [List.map_toArray, List.map_cons, List.map_nil]); first | done | rfl) ?_; refine (counter_calls 0 _).mono ?_; rintro e w1 ⟨A0, c0, A5, c5, A7, c7, rfl, hh, hb⟩; have HG := Aside0.mk (hh _ (fun _ _ _ => rfl)); clear hh; replace HB := bst HB hb; clear hb; refine ⟨_, rfl, ?_⟩) | ((with_reducible refine gate_callee (f := 10) rfl ?_); refine goesL_ _ rfl rfl Try.func10 (by kernel_rfl) rfl #[(ctr A0 c0 A5 c5 A7 c7 0).v, .slice none 0 0, .int .i64 2] rfl (by (try simp only [List.map_toArray, List.map_cons, List.map_nil]); first | done | rfl) ?_; refine (run0_calls A0 c0 A5 c5 A7 c7 _ HG.out).mono ?_; rintro e w2 ⟨⟨A1a, c1a, A2a, c2a, A3a, c3a, b1a, ok1a, rfl, hr⟩, hb⟩; replace HB := bst HB hb; have HR := Aside0.mk hr; clear hb hr; clear HG; refine ⟨_, rfl, ?_⟩) | ((with_reducible refine gate_dst (N := 1) rfl ?_); refine boxQ 1 #[.int .i64 0, .int .i64 0, .int .i64 0, .int .i64 0, .int .i64 0, .slice none 0 0, .slice none 0 0, .slice none 0 0] 36 HB ?_; clear HB; intro g1 w3 _ GW1 B1 hb HB; replace HR := Aside0.mk (Kd.R_below HR.out hb.out); clear hb) | ((with_reducible refine gate_store (p := 1) (t := 36) rfl ?_); refine store_box rfl rfl rfl g1 36 _ #[.int .i64 4, .int .i64 0, .int .i64 0, .int .i64 2, .int .i64 0, .slice A1a 1 c1a, .slice A2a 0 c2a, .slice A3a 2 c3a] (pkA B1).out rfl rfl (by kernel_rfl) rfl (by kernel_rfl) ?_; intro w4 hbs hgs; replace HR := Aside0.mk (R_boxed HR.out (pkA B1).out (fun q hq => by rw [List.mem_singleton.1 hq]; decide) hgs); have hw := Below_boxed (bpk HB).out (Nat.le_refl _) GW1.out hgs; clear B1 HB hgs; have B1 := Aside0.mk hbs; have HB := Aside0.mk hw; clear hbs hw))
  go_upto_region 3 with (first | ((with_reducible refine gate_callee (f := 25) rfl ?_); refine goesL_ _ rfl rfl Try.func25 (by kernel_rfl) rfl #[.int .i64 127] rfl (by (try simp only [List.map_toArray, List.map_cons, List.map_nil]); first | done | rfl) ?_; refine (counter_calls 127 _).mono ?_; rintro e w5 ⟨A0, c0, A5, c5, A7, c7, rfl, hh, hb⟩; have HG := Aside0.mk (hh _ (fun _ _ _ => rfl)); clear hh; replace B1 := bbw B1 hb; replace HR := Aside0.mk (Kd.R_below HR.out hb); replace HB := bst HB hb; clear hb; refine ⟨_, rfl, ?_⟩) | ((with_reducible refine gate_callee (f := 10) rfl ?_); refine goesL_ _ rfl rfl Try.func10 (by kernel_rfl) rfl #[(ctr A0 c0 A5 c5 A7 c7 127).v, .slice none 0 0, .int .i64 9] rfl (by (try simp only [List.map_toArray, List.map_cons, List.map_nil]); first | done | rfl) ?_; refine (run127_calls A0 c0 A5 c5 A7 c7 _ HG.out).mono ?_; rintro e w6 ⟨⟨A1b, c1b, A2b, c2b, A3b, c3b, b1b, ok1b, rfl, hr⟩, hb⟩; replace B1 := bbw B1 hb; replace HR := Aside0.mk (Kd.R_below HR.out hb); replace HB := bst HB hb; clear hb hr; clear HG; refine ⟨_, rfl, ?_⟩) | ((with_reducible refine gate_dst (N := 2) rfl ?_); refine boxQ 2 #[.int .i64 0, .int .i64 0, .int .i64 0, .int .i64 0, .int .i64 0, .slice none 0 0, .slice none 0 0, .slice none 0 0] 36 HB ?_; intro g2 w7 eg GW2 B2 hb HX; have N12 := bn1 B1 eg.out; replace B1 := bbw B1 hb.out; replace HR := Aside0.mk (Kd.R_below HR.out hb.out); clear HB hb eg; have HB := HX; clear HX) | ((with_reducible refine gate_store (p := 2) (t := 36) rfl ?_); refine store_box rfl rfl rfl g2 36 _ #[.int .i64 1, .int .i64 2, .int .i64 1, .int .i64 0, .int .i64 0, .slice A1b 1 c1b, .slice A2b 0 c2b, .slice A3b 1 c3b] (pkA B2).out rfl rfl (by kernel_rfl) rfl (by kernel_rfl) ?_; intro w8 hbs hgs; replace HR := Aside0.mk (R_boxed HR.out (pkA B2).out (fun q hq => by rw [List.mem_singleton.1 hq]; decide) hgs); replace B1 := boxed_other (pkA B1) hgs N12; have hw := Below_boxed (bpk HB).out (Nat.le_refl _) GW2.out hgs; clear B2 HB hgs; have B2 := Aside0.mk hbs; have HB := Aside0.mk hw; clear hbs hw))
  go_upto_region 4 with (first | ((with_reducible refine gate_dst (N := 3) rfl ?_); refine boxQ 3 #[.int .i64 0] 3 HB ?_; intro g3 w9 eg GW3 B3 hb HX; have N13 := bn1 B1 eg.out; have N23 := bn1 B2 eg.out; replace B1 := bbw B1 hb.out; replace B2 := bbw B2 hb.out; replace HR := Aside0.mk (Kd.R_below HR.out hb.out); clear HB hb eg; have HB := HX; clear HX; have f3 := bfz B3 0; have b3 := hcz B3 0) | ((with_reducible refine gate_store (p := 3) (t := 3) rfl ?_); refine store_event (t := 3) (p := 3) (v := ?vs3) (w1 := w9.setCell ⟨g3, 0, none⟩ (.int .i64 0)) ?hg ?ho ?hn ?hr ?_; (case ho => rfl); (case hg => rfl); (case hn => rfl); (case hr => first | (go_simp; done) | (go_simp; rfl)); intro w10 hw; (have hgs : w9.grownBy w10 (some g3) := by rw [hw]; exact setCell_grown w9 g3 0 _); (have h3 : w10.heap[g3]? = some (.cells #[.int .i64 0] 3 (0, 0)) := by rw [hw]; exact blk_put B3.out 0 _ rfl); clear hw f3 b3; replace HR := Aside0.mk (R_boxed HR.out (pkA B3).out (fun q hq => by rw [List.mem_singleton.1 hq]; decide) hgs); replace B1 := boxed_other (pkA B1) hgs N13; replace B2 := boxed_other (pkA B2) hgs N23; have hw := Below_boxed (bpk HB).out (Nat.le_refl _) GW3.out hgs; clear B3 HB hgs; have B3 := Aside0.mk h3; have HB := Aside0.mk hw; clear h3 hw))
  go_upto_region 5 with (first | ((with_reducible refine gate_callee (f := 25) rfl ?_); refine goesL_ _ rfl rfl Try.func25 (by kernel_rfl) rfl #[.int .i64 0] rfl (by (try simp only [List.map_toArray, List.map_cons, List.map_nil]); first | done | rfl) ?_; refine (counter_calls 0 _).mono ?_; rintro e w11 ⟨A0, c0, A5, c5, A7, c7, rfl, hh, hb⟩; have HH := Aside0.mk hh; have h10 := Aside0.mk (blk_lt B3.out); replace B1 := bbw B1 hb; replace B2 := bbw B2 hb; replace B3 := bbw B3 hb; replace HR := Aside0.mk (Kd.R_below HR.out hb); replace HB := bst HB hb; clear hh hb; refine ⟨_, rfl, ?_⟩) | ((with_reducible refine gate_callee (f := 15) rfl ?_); refine goesL_ _ rfl rfl Try.func15 (by kernel_rfl) rfl #[(ctr A0 c0 A5 c5 A7 c7 0).v, .slice none 0 0, .int .i64 2, .func (.func 26) #[] #[.pointer (some ⟨g3, 0, none⟩)]] rfl (by (try simp only [List.map_toArray, List.map_cons, List.map_nil]); first | done | rfl) ?_; refine (walk0_calls A0 c0 A5 c5 A7 c7 w10 _ g3 HH.out h10.out B3.out).mono ?_; rintro e w12 ⟨⟨v, rfl⟩, h3, hgs⟩; replace HR := Aside0.mk (R_boxed HR.out (pkA B3).out (fun q hq => by rw [List.mem_singleton.1 hq]; decide) hgs); replace B1 := boxed_other (pkA B1) hgs N13; replace B2 := boxed_other (pkA B2) hgs N23; have hw := Below_boxed (bpk HB).out (Nat.le_refl _) GW3.out hgs; clear B3 HB hgs; have B3 := Aside0.mk h3; have HB := Aside0.mk hw; clear h3 hw; refine ⟨_, rfl, ?_⟩))
  have hC := (Kd.R_reads' HR.out).2.2
  obtain ⟨ad, eA, xs⟩ := Kd.at_int hC 0 (by decide) (by decide)
  subst eA
  have xs2 : w12.cell? ad = some (.int .i64 2) := xs
  clear xs hC
  have b3 := hcz B3 0
  have hcf := hcf8 B1
  obtain ⟨_, _, _, _, _, _, _, _, _, _, _, _, _, _, _, _⟩ := hcf
  have hcf2 := hcf8 B2
  obtain ⟨_, _, _, _, _, _, _, _, _, _, _, _, _, _, _, _⟩ := hcf2
  go_wp2
  go_ret
  exact ⟨rfl, HB.out⟩
end Go.Proofs.Ytcalcbeonbfkmaa.P
