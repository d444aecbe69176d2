/- What the law's proof needs of S0. -/
import Derived.Test.YtiemdfdebdmchaaTrVU4
import Derived.Test.YtiemdfdebdmchaaTrVU
import Derived.Test.YtiemdfdebdmchaaTrVV
import Derived.Lib.SlBytesConst
import Derived.Test.YtiemdfdebdmchaaTrVPx0
import Derived.Test.YtiemdfdebdmchaaTrVPx2
namespace Go.Proofs.Ytiemdfdebdmchaa.P
open Go.RowKit Go.Proofs.YtiemdfdebdmchaaW.PrintWords Go.Proofs.YtiemdfdebdmchaaW.PrintLast Go.Proofs.YtiemdfdebdmchaaW.PrintMore Go.Proofs.YtiemdfdebdmchaaO
attribute [local go_sem] max2_int min2_int max_two min_two max_three min_three max_four min_four
set_option linter.unusedVariables false
set_option linter.unusedSimpArgs false
/-- Bytes of the call's own, or a slice of bytes without room behind it. -/
def RF (w : World) (base : Nat) (v : Value) (xs : List Int) : Prop := Kd.R (Kd.int .u8) 5 w base (fun _ => True) v xs ∨ ∃ A, v = .slice A xs.length xs.length ∧ Kd.C (Kd.int .u8) w A xs.length xs
theorem RF.drew {w : World} {base : Nat} {v : Value} {xs : List Int} (h : RF w base v xs) : RF w.drew base v xs := h.elim (fun h => .inl (Kd.R_drew h)) (fun ⟨A, e, h⟩ => .inr ⟨A, e, Kd.C_drew h⟩)
theorem RF.drewN {w : World} {base : Nat} {v : Value} {xs : List Int} (h : RF w base v xs) (n : Nat) : RF (w.drewN n) base v xs := h.elim (fun h => .inl (Kd.R_drewN h n)) (fun ⟨A, e, h⟩ => .inr ⟨A, e, Kd.C_drewN h n⟩)
/-- append(v, x), behind at_builtin. -/
theorem RF.append {P : Program} {ops : Array Oper} {rest : List Oper} {o : Oper} {a : Act} {Q : Exit → Act → World → Prop} {W w0 : World} (base : Nat) (hgd : o.guard = none) (s x : Operand)
    (ho : o.op = .call { callee := .builtin .append, args := #[s, x], argTypes := #[28, 28] })
    (ht : P.underlying 28 = some (.slice 5)) (hinfo : (P.info? 5).map (fun i => (i.zero, i.size, i.bytes)) = some (some (.int .u8 0), 1, 1))
    (v : Value) (xs : List Int) (p : Int) (hs : a.eval s = v) (hx : a.eval x = .slice (some ⟨W.heap.size, 0, none⟩) 1 1) (HO : RF W base v xs) (HB : Below base w0 W) (hbase : base ≤ W.heap.size) (hl : xs.length + 1 ≤ 140737488355328)
    (h : ∀ v1 w1, Kd.R (Kd.int .u8) 5 w1 base (fun _ => True) v1 (xs ++ [p]) → Below base w0 w1 → wpList P ops Q rest (a.put o.dst v1) w1) :
    wpList P ops Q (o :: rest) a (W.alloc (.cells #[.int .u8 p] 5)) := by
  rcases HO with HO | ⟨A, rfl, HC⟩
  · exact Kd.R_append (Kd.int .u8) (w0 := w0) base hgd s x 28 5 (.int .u8 0) 1 ho ht hinfo rfl (by decide) (by omega) v xs p [.int .u8 p] (fun _ => True) (fun _ => False) hs hx rfl (fun _ hk => hk.elim) (fun _ _ => trivial) HO HB hbase (by omega)
      (fun v1 w1 hr hb _ _ => h v1 w1 hr hb)
  · have hy : Kd.C (Kd.int .u8) (W.alloc (.cells #[.int .u8 p] 5)) (some ⟨W.heap.size, 0, none⟩) 1 [p] := by
      refine ⟨rfl, by omega, fun _ => ⟨_, rfl, fun j q hj => ?_⟩⟩
      have h0 : j = 0 := by
        rcases Nat.eq_zero_or_pos j with h0 | h0
        · exact h0
        · rw [List.getElem?_eq_none (by simp; omega)] at hj; cases hj
      subst h0
      simp only [List.getElem?_cons_zero, Option.some.injEq] at hj
      subst hj
      refine ⟨[.int .u8 p], rfl, rfl, fun i u hu => ?_⟩
      have h0 : i = 0 := by
        rcases Nat.eq_zero_or_pos i with h0 | h0
        · exact h0
        · rw [List.getElem?_eq_none (by simp; omega)] at hu; cases hu
      subst h0
      simp only [List.getElem?_cons_zero, Option.some.injEq] at hu
      subst hu
      have hb := blk_new W (.cells #[.int .u8 p] 5 (0, 0))
      exact (blk_cell hb 0).trans rfl
    exact Kd.R_append_full (Kd.int .u8) (w0 := w0) base hgd s x 28 5 (.int .u8 0) 1 ho ht hinfo rfl (by decide) (by omega) xs [p] A (some ⟨W.heap.size, 0, none⟩) xs.length 1 1 (fun _ => True) (fun _ => False) hs hx (Kd.R_nil _ _ _ _ _)
      (Kd.C_alloc HC _) hy (by omega) (fun _ _ h => h) (fun _ _ h => h) (fun _ h => h.elim) (fun _ _ => trivial) (HB.alloc hbase _) (by simp; omega) (by omega)
      (fun v1 w1 hr hb _ _ => h v1 w1 hr hb)
set_option maxHeartbeats 8000000 in
set_option maxRecDepth 100000 in
theorem trace_numberF.calls (k : Nat) (A0 : Option Addr) (c0 : Nat) (l0 : List Int) (a1 : Int) (r : List Int) (w : World) (hr0 : Kd.C (Kd.int .u8) w A0 l0.length l0) (hc0 : l0.length ≤ c0) (h : trace_number.f k l0 a1 = some r) (hfull : c0 = l0.length := by rfl) :
    Calls Try.prog 22 #[.slice A0 l0.length c0, .int .u64 a1] w fun e w' => ∃ v0_ : Value, e = .returned (v0_) ∧ Kd.R (Kd.int .u8) 5 w' w.heap.size (fun _ => True) v0_ r ∧ Below w.heap.size w w' := by
  subst hfull
  have HO0 := Aside0.mk (show RF w w.heap.size (.slice A0 l0.length l0.length) l0 from .inr ⟨_, rfl, hr0⟩)
  have HB := Aside0.mk (Below.refl w.heap.size w)
  have H : (trace_number.l0 k l0 a1) = some r := h
  clear h
  have H' := Aside0.mk H
  clear H
  go_enter Try.func22, Try.ntmps22
  go_wp2
  go_loopg [0, 1] k (fun kq v0 v1 w' => ∃ (x0_1 : List Int) (x1_1 : Int), v1 = .int .u64 x1_1 ∧ Aside0 (trace_number.l0 kq x0_1 x1_1 = some r) ∧ Aside0 (kq ≤ k) ∧ Aside0 (RF w' w.heap.size v0 x0_1) ∧ Aside0 (Below w.heap.size w w'))
  case atStart => exact ⟨(l0), (a1), rfl, H', ⟨Nat.le_refl _⟩, ⟨by (with_reducible repeat (first | apply RF.drewN | apply RF.drew)); exact HO0.out⟩, bpk HB⟩
  case round =>
   clear H'
   obtain ⟨x0_1, x1_1, rfl, HA, HK1, HO_0, HB⟩ := hrel
   cases gk with
   | zero => exact absurd HA.out (by simp [trace_number.l0])
   | succ k1 =>
    have H := HA.out
    clear HA
    simp only [trace_number.l0] at H
    by_cases c3 : x1_1 ≥ 128
    ·
     rw [if_pos c3] at H
     have c3b0 : decide (128 ≤ x1_1) = true := decide_eq_true c3
     clear c3
     by_cases c4 : x0_1.length < 140737488355328
     case neg => rw [if_neg c4] at H; exact absurd H (by simp)
     rw [if_pos c4] at H
     have H' := Aside0.mk H
     clear H; have LM := Aside0.mk c4; clear c4
     go_wp2_with (first | ((with_reducible refine gate_builtin (b := .append) (xs := #[.tmp 9, .tmp 13]) rfl ?_); at_builtin; refine RF.append (w0 := w) w.heap.size rfl (.tmp 9) (.tmp 13) rfl Try.underlying28 info5 u0 x0_1 (Go.bits .or .u8 ((x1_1) % 256) 128) rfl rfl ?aO ?aB ?aS ?aL ?_; (case aO => exact (by (with_reducible repeat (first | apply RF.drewN | apply RF.drew)); exact HO_0.out)); (case aB => exact (by repeat (first | (with_reducible first | exact HB.out | apply below_alloc | apply pw_below_drewN | apply below_drew1) | exact HB.out))); (case aS => exact (below_size (by repeat (first | (with_reducible first | exact HB.out | apply below_alloc | apply pw_below_drewN | apply below_drew1) | exact HB.out)))); (case aL => have := LM.out; omega); intro v104 w5 ho hb; have HO105 := Aside0.mk ho; clear HB; have HB := Aside0.mk hb; clear ho hb))
     go_roundg k1
     case measure => have := HK1.out; omega
     case rel => exact ⟨_, (x1_1 / 128), (by first | rfl | (simp; done) | (simp [*]; done)), H', ⟨by have := HK1.out; omega⟩, ⟨by (with_reducible repeat (first | apply RF.drewN | apply RF.drew)); exact .inl HO105.out⟩, bpk HB⟩
    ·
     rw [if_neg c3] at H
     have c3b0 : decide (128 ≤ x1_1) = false := decide_eq_false c3
     clear c3
     by_cases c6 : x0_1.length < 140737488355328
     case neg => rw [if_neg c6] at H; exact absurd H (by simp)
     rw [if_pos c6] at H; have LM := Aside0.mk c6; clear c6
     obtain rfl := Option.some.inj H
     go_wp2_with (first | ((with_reducible refine gate_builtin (b := .append) (xs := #[.tmp 15, .tmp 18]) rfl ?_); at_builtin; refine RF.append (w0 := w) w.heap.size rfl (.tmp 15) (.tmp 18) rfl Try.underlying28 info5 u0 x0_1 ((x1_1) % 256) rfl rfl ?aO ?aB ?aS ?aL ?_; (case aO => exact (by (with_reducible repeat (first | apply RF.drewN | apply RF.drew)); exact HO_0.out)); (case aB => exact (by repeat (first | (with_reducible first | exact HB.out | apply below_alloc | apply pw_below_drewN | apply below_drew1) | exact HB.out))); (case aS => exact (below_size (by repeat (first | (with_reducible first | exact HB.out | apply below_alloc | apply pw_below_drewN | apply below_drew1) | exact HB.out)))); (case aL => have := LM.out; omega); intro v107 w7 ho hb; have HO108 := Aside0.mk ho; clear HB; have HB := Aside0.mk hb; clear ho hb))
     go_ret
     exact ⟨_, by first | rfl | (simp; done) | kernel_rfl, by (with_reducible repeat (first | apply Kd.R_alloc | apply Kd.R_drewN | apply Kd.R_drew)); exact HO108.out, (bpk HB).out⟩
def trace_signedF.f (k : Nat) (l0 : List Int) (a1 : Int) : Option (List Int) := trace_signed.f k l0 a1
theorem trace_signedF.mono : ∀ a0 a1 k, LeO (trace_signedF.f k a0 a1) (trace_signedF.f (k + 1) a0 a1) := fun a0 a1 k => trace_signed.mono a0 a1 k
set_option maxHeartbeats 8000000 in
set_option maxRecDepth 100000 in
theorem trace_signedF.calls (k : Nat) (A0 : Option Addr) (c0 : Nat) (l0 : List Int) (a1 : Int) (r : List Int) (w : World) (hr0 : Kd.C (Kd.int .u8) w A0 l0.length l0) (hc0 : l0.length ≤ c0) (h : trace_signedF.f k l0 a1 = some r) (hfull : c0 = l0.length := by rfl) :
    Calls Try.prog 19 #[.slice A0 l0.length c0, .int .i64 a1] w fun e w' => ∃ v0_ : Value, e = .returned (v0_) ∧ Kd.R (Kd.int .u8) 5 w' w.heap.size (fun _ => True) v0_ r ∧ Below w.heap.size w w' := by
  subst hfull; have HR0 := Aside0.mk hr0; clear hr0
  have H : ((trace_number.f k l0 (Go.bits .xor .u64 (IntKind.u64.wrap ((IntKind.u64.wrap (a1)) * 2)) (IntKind.u64.wrap (a1 / 9223372036854775808)))).bind fun t109 => (some t109)) = some r := h
  clear h; replace H := bnH H; obtain ⟨t109, A30, H⟩ := H
  try dsimp only at H
  have A3 := Aside0.mk A30; clear A30
  obtain rfl := Option.some.inj H
  go_enter Try.func19, Try.ntmps19
  go_wp2_with (first | ((with_reducible refine gate_callee (f := 22) rfl ?_); refine goesL_ (some 13) rfl rfl Try.func22 (by kernel_rfl) rfl #[.slice A0 l0.length l0.length, .int .u64 (Go.bits .xor .u64 (IntKind.u64.wrap ((IntKind.u64.wrap (a1)) * 2)) (IntKind.u64.wrap (a1 / 9223372036854775808)))] rfl (by (try simp only [List.map_toArray, List.map_cons, List.map_nil]); first | done | rfl | (simp only [List.length_drop, List.length_take]; rfl)) ?_; (with_reducible refine (trace_numberF.calls k A0 l0.length l0 (Go.bits .xor .u64 (IntKind.u64.wrap ((IntKind.u64.wrap (a1)) * 2)) (IntKind.u64.wrap (a1 / 9223372036854775808))) t109 _ ?side1 (Nat.le_refl _) A3.out rfl).mono ?_); (case side1 => exact HR0.out); rintro e w5 ⟨v110, rfl, ho0, hb⟩; refine ⟨_, rfl, ?_⟩; have HO111 := Aside0.mk ho0; have HB := Aside0.mk hb; clear ho0 hb))
  go_ret
  exact ⟨_, by first | rfl | (simp; done) | kernel_rfl, by (with_reducible repeat (first | apply Kd.R_alloc | apply Kd.R_drewN | apply Kd.R_drew)); exact HO111.out, (bpk HB).out⟩
/-- []byte of a constant string: a literal and a conversion that marks it: a slice without room behind it. -/
theorem lit_mark {P : Program} {ops : Array Oper} {rest : List Oper} {o o2 : Oper} {a : Act} {Q : Exit → Act → World → Prop} {W : World} (hgd : o.guard = none) (hgd2 : o2.guard = none) {N N2 : Tmp} (hd : o.dst = some N) (hd2 : o2.dst = some N2) (xs : List Int)
    (ht : P.underlying 28 = some (.slice 5)) (he : P.underlying 5 = some (.int .u8)) (ho2 : o2.op = .convert 28 28 (.tmp N)) (hN : ∀ v, (a.put (some N) v).eval (.tmp N) = v) (hl : xs.length ≤ 9223372036854775807)
    (hrun : (execOp a.eval o).run P W = .ok (.value (.slice (some ⟨W.heap.size, 0, none⟩) xs.length xs.length)) (W.alloc (.cells (xs.map (Value.int .u8)).toArray 5)))
    (h : ∀ A w1, Kd.C (Kd.int .u8) w1 A xs.length xs → Below W.heap.size W w1 → wpList P ops Q rest ((a.put (some N) (.slice A xs.length xs.length)).put (some N2) (.slice A xs.length xs.length)) w1) :
    wpList P ops Q (o :: o2 :: rest) a W := by
  refine Kd.event_run hgd hrun ?_
  rw [hd]
  refine Kd.event_run hgd2 (w1 := W.alloc (.cells (xs.map (Value.int .u8)).toArray 5 ((xs.map (Value.int .u8)).toArray.size, (xs.map (Value.int .u8)).toArray.size + 1))) (v := .slice (some ⟨W.heap.size, 0, none⟩) xs.length xs.length) ?_ ?_
  · unfold execOp
    have hc := Go.Lib.run_convert_bytes_const (P := P) W 28 5 (xs.map (Value.int .u8)).toArray xs.length xs.length ht he
    simp only [ho2, hN, Sem.run_bind, hc, Result.andThen_ok, Sem.run_pure]
  · rw [hd2]
    refine h _ _ ⟨rfl, hl, fun hn => ⟨_, rfl, fun j p hj => ⟨[.int .u8 p], rfl, rfl, fun i u hu => ?_⟩⟩⟩ (below_alloc (Below.refl _ _) _)
    have h0 : i = 0 := by
      rcases Nat.eq_zero_or_pos i with h0 | h0
      · exact h0
      · rw [List.getElem?_eq_none (by simp; omega)] at hu; cases hu
    subst h0
    simp only [List.getElem?_cons_zero, Option.some.injEq] at hu
    subst hu
    have hb := blk_new W (.cells (xs.map (Value.int .u8)).toArray 5 ((xs.map (Value.int .u8)).toArray.size, (xs.map (Value.int .u8)).toArray.size + 1))
    have hcell : ∀ j, (W.alloc (.cells (xs.map (Value.int .u8)).toArray 5 ((xs.map (Value.int .u8)).toArray.size, (xs.map (Value.int .u8)).toArray.size + 1))).cell? ⟨W.heap.size, j, none⟩ = (xs.map (Value.int .u8)).toArray[j]? := fun j => cell_of_row _ _ _ _ _ _ hb
    have ha : (⟨W.heap.size, 0, none⟩ : Addr).add (j * 1 + 0) = ⟨W.heap.size, j, none⟩ := by simp [Addr.add]; omega
    show (W.alloc _).cell? ((⟨W.heap.size, 0, none⟩ : Addr).add (j * 1 + 0)) = _
    rw [ha, hcell]
    simp [hj]
end Go.Proofs.Ytiemdfdebdmchaa.P
