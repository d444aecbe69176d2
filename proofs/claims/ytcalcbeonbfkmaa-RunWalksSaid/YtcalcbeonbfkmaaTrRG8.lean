/- What the law's proof needs of G8. -/
import Derived.Test.YtcalcbeonbfkmaaTrRG7
namespace Go.Proofs.Ytcalcbeonbfkmaa.P
open Go.RowKit Go.Proofs.YtcalcbeonbfkmaaW.PrintWords Go.Proofs.YtcalcbeonbfkmaaW.PrintLast Go.Proofs.YtcalcbeonbfkmaaW.PrintMore Go.Proofs.YtcalcbeonbfkmaaO
attribute [local go_sem] max2_int min2_int max_two min_two max_three min_three max_four min_four
set_option linter.unusedVariables false
set_option linter.unusedSimpArgs false
/-- The table of what each kind of an instruction does; b: where its boxes begin. -/
def mkOps (b : Nat) : Array Value := #[.nilFunc, .func (.func 51) #[] #[], .func (.func 47) #[] #[.pointer (some ⟨b + 1, 0, none⟩), .pointer (some ⟨b + 2, 0, none⟩)], .func (.func 47) #[] #[.pointer (some ⟨b + 3, 0, none⟩), .pointer (some ⟨b + 4, 0, none⟩)], .func (.func 47) #[] #[.pointer (some ⟨b + 5, 0, none⟩), .pointer (some ⟨b + 6, 0, none⟩)], .func (.func 47) #[] #[.pointer (some ⟨b + 7, 0, none⟩), .pointer (some ⟨b + 8, 0, none⟩)], .func (.func 47) #[] #[.pointer (some ⟨b + 9, 0, none⟩), .pointer (some ⟨b + 10, 0, none⟩)], .func (.func 57) #[] #[], .func (.func 57) #[] #[], .func (.func 47) #[] #[.pointer (some ⟨b + 11, 0, none⟩), .pointer (some ⟨b + 12, 0, none⟩)], .func (.func 47) #[] #[.pointer (some ⟨b + 13, 0, none⟩), .pointer (some ⟨b + 14, 0, none⟩)], .func (.func 60) #[] #[], .func (.func 61) #[] #[], .func (.func 62) #[] #[], .func (.func 63) #[] #[], .func (.func 64) #[] #[], .func (.func 50) #[] #[], .func (.func 65) #[] #[], .func (.func 66) #[] #[], .func (.func 50) #[] #[], .func (.func 67) #[] #[], .func (.func 69) #[] #[]]
/-- The boxes of the closures. -/
def stOps (b : Nat) : List (Nat × Array Value × Nat) := [(b + 1, #[.func (.func 52) #[] #[]], 94), (b + 2, #[.bool true], 4), (b + 3, #[.func (.func 53) #[] #[]], 94), (b + 4, #[.bool true], 4), (b + 5, #[.func (.func 54) #[] #[]], 94), (b + 6, #[.bool true], 4), (b + 7, #[.func (.func 55) #[] #[]], 94), (b + 8, #[.bool true], 4), (b + 9, #[.func (.func 56) #[] #[]], 94), (b + 10, #[.bool true], 4), (b + 11, #[.func (.func 58) #[] #[]], 94), (b + 12, #[.bool false], 4), (b + 13, #[.func (.func 59) #[] #[]], 94), (b + 14, #[.bool false], 4)]
/-- So many closures are made. -/
structure Opk (w : World) (k : Nat) (W : World) : Prop where
  size : W.heap.size = w.heap.size + (2 * k + 1)
  tab : ∃ c : Array Value, c.size = 22 ∧ W.heap[w.heap.size]? = some (.cells c 71 (0, 0))
  st : ∀ z ∈ (stOps w.heap.size).take (2 * k), W.heap[z.1]? = some (.cells z.2.1 z.2.2 (0, 0))
  hb : Below w.heap.size w W
section
variable {P : Program} {ops : Array Oper} {oi : Oper} {rest : List Oper} {a : Act} {Q : Exit → Act → World → Prop}
theorem boxX {W : World} (ob : Obj) (N : Tmp) (h : ∀ w1, w1 = W.alloc ob → wpList P ops Q rest (a.put oi.dst (.pointer (some ⟨W.heap.size, 0, none⟩))) w1) (hd : oi.dst = some N := by rfl) (hg : oi.guard = none := by rfl)
    (hr : (execOp a.eval oi).run P W = .ok (.value (.pointer (some ⟨W.heap.size, 0, none⟩))) (W.alloc ob) := by (first | (go_simp; done) | (go_simp; rfl))) : wpList P ops Q (oi :: rest) a W := by
  refine wpList_plain hg fun K hK => ?_
  unfold Oper.wp
  rw [hr]
  exact hK _ _ (h _ rfl)
end
theorem alloc_size (w : World) (o : Obj) : (w.alloc o).heap.size = w.heap.size + 1 := Array.size_push _
theorem alloc_new (w : World) (o : Obj) : (w.alloc o).heap[w.heap.size]? = some o := Array.getElem?_push_size
theorem Opk.zero (w : World) (c : Array Value) (hc : c.size = 22) : Opk w 0 (w.alloc (.cells c 71 (0, 0))) :=
  ⟨alloc_size w _, ⟨c, hc, alloc_new w _⟩, fun z hz => (nomatch hz), below_alloc (Below.refl _ _) _⟩
theorem Opk.next {w W W' : World} {k : Nat} (h : Opk w k W) (hk : k < 7) (f : Nat) (c : Bool) (hz : (stOps w.heap.size).take (2 * (k + 1)) = (stOps w.heap.size).take (2 * k) ++ [(w.heap.size + (2 * k + 1), #[.func (.func f) #[] #[]], 94), (w.heap.size + (2 * k + 2), #[.bool c], 4)])
    (hw : W' = (W.alloc (.cells #[.func (.func f) #[] #[]] 94)).alloc (.cells #[.bool c] 4)) : Opk w (k + 1) W' := by
  have b1 : Below W.heap.size W W' := by rw [hw]; exact below_alloc (below_alloc (Below.refl _ _) _) _
  have old : ∀ g o, W.heap[g]? = some o → W'.heap[g]? = some o := fun g o hg => (b1.block g (blk_lt hg)).trans hg
  obtain ⟨t, ht, htab⟩ := h.tab
  have n1 : W'.heap[W.heap.size]? = some (.cells #[.func (.func f) #[] #[]] 94) := by
    rw [hw]; exact blk_alloc (alloc_new W _) _
  have n2 : W'.heap[W.heap.size + 1]? = some (.cells #[.bool c] 4) := by
    rw [hw]; have := alloc_new (W.alloc (.cells #[.func (.func f) #[] #[]] 94)) (.cells #[.bool c] 4); rwa [alloc_size] at this
  refine ⟨by rw [hw, alloc_size, alloc_size, h.size]; omega, ⟨t, ht, old _ _ htab⟩, fun z hm => ?_, below_step h.hb b1⟩
  rw [hz] at hm
  rcases List.mem_append.1 hm with hm | hm
  · exact old _ _ (h.st z hm)
  · rcases List.mem_cons.1 hm with rfl | hm
    · rw [← h.size]; exact n1
    · rw [List.mem_singleton.1 hm]
      show W'.heap[w.heap.size + (2 * k + 2)]? = _
      rw [show w.heap.size + (2 * k + 2) = W.heap.size + 1 by rw [h.size]; omega]
      exact n2
theorem Opk.fin {w W W' : World} (h : Opk w 7 W) (hg : W.grownBy W' (some w.heap.size)) : Below w.heap.size w W' ∧ ∀ z ∈ stOps w.heap.size, W'.heap[z.1]? = some (.cells z.2.1 z.2.2 (0, 0)) := by
  refine ⟨Below_boxed h.hb (Nat.le_refl _) (Nat.le_refl _) hg, fun z hz => ?_⟩
  have hz2 : z ∈ (stOps w.heap.size).take (2 * 7) := hz
  have h1 := h.st z hz2
  have h2 : w.heap.size < z.1 := by
    simp only [stOps, List.mem_cons, List.not_mem_nil, or_false] at hz
    rcases hz with rfl | rfl | rfl | rfl | rfl | rfl | rfl | rfl | rfl | rfl | rfl | rfl | rfl | rfl <;> simp
  exact (hg.block z.1 (blk_lt h1) (fun e => by have := Option.some.inj e; omega)).trans h1
set_option maxHeartbeats 8000000 in
set_option maxRecDepth 100000 in
theorem closure_calls (f : Nat) (c : Bool) (w : World) :
    Calls Try.prog 46 #[.func (.func f) #[] #[], .bool c] w fun e w' => e = .returned (.func (.func 47) #[] #[.pointer (some ⟨w.heap.size, 0, none⟩), .pointer (some ⟨w.heap.size + 1, 0, none⟩)]) ∧ w' = (w.alloc (.cells #[.func (.func f) #[] #[]] 94)).alloc (.cells #[.bool c] 4) := by
  go_enter Try.func46, Try.ntmps46
  go_wp2
  go_ret
  exact ⟨by first | rfl | simp [World.alloc], rfl⟩
set_option maxHeartbeats 8000000 in
set_option maxRecDepth 100000 in
theorem ops_calls (w : World) : Calls Try.prog 33 #[] w fun e w' => e = .returned (.agg (mkOps w.heap.size)) ∧ Below w.heap.size w w' ∧ (∀ z ∈ stOps w.heap.size, w'.heap[z.1]? = some (.cells z.2.1 z.2.2 (0, 0))) := by
  have hu71 := Try.underlying71
  go_enter Try.func33, Try.ntmps33
  go_wp2_with (first | ((with_reducible refine gate_dst (N := 0) rfl ?_); refine boxX (.cells #[.nilFunc, .nilFunc, .nilFunc, .nilFunc, .nilFunc, .nilFunc, .nilFunc, .nilFunc, .nilFunc, .nilFunc, .nilFunc, .nilFunc, .nilFunc, .nilFunc, .nilFunc, .nilFunc, .nilFunc, .nilFunc, .nilFunc, .nilFunc, .nilFunc, .nilFunc] 71 (0, 0)) 0 ?_; intro w1 hw; have HO := Aside0.mk (hw ▸ Opk.zero w #[.nilFunc, .nilFunc, .nilFunc, .nilFunc, .nilFunc, .nilFunc, .nilFunc, .nilFunc, .nilFunc, .nilFunc, .nilFunc, .nilFunc, .nilFunc, .nilFunc, .nilFunc, .nilFunc, .nilFunc, .nilFunc, .nilFunc, .nilFunc, .nilFunc, .nilFunc] rfl); clear hw) | ((with_reducible refine gate_dst (N := 4) rfl ?_); refine goesLD (some 4) rfl rfl Try.func46 #[.func (.func 52) #[] #[], .bool true] rfl (by rfl) (by simp [Act.eval]) (by kernel_rfl) rfl ?_; refine (closure_calls 52 true _).mono ?_; rintro e w2 ⟨rfl, hw⟩; rw [HO.out.size]; have HN := Aside0.mk (HO.out.next (by decide) 52 true rfl hw); clear HO hw; have HO := HN; clear HN; refine ⟨_, rfl, ?_⟩) | ((with_reducible refine gate_dst (N := 6) rfl ?_); refine goesLD (some 6) rfl rfl Try.func46 #[.func (.func 53) #[] #[], .bool true] rfl (by rfl) (by simp [Act.eval]) (by kernel_rfl) rfl ?_; refine (closure_calls 53 true _).mono ?_; rintro e w3 ⟨rfl, hw⟩; rw [HO.out.size]; have HN := Aside0.mk (HO.out.next (by decide) 53 true rfl hw); clear HO hw; have HO := HN; clear HN; refine ⟨_, rfl, ?_⟩) | ((with_reducible refine gate_dst (N := 8) rfl ?_); refine goesLD (some 8) rfl rfl Try.func46 #[.func (.func 54) #[] #[], .bool true] rfl (by rfl) (by simp [Act.eval]) (by kernel_rfl) rfl ?_; refine (closure_calls 54 true _).mono ?_; rintro e w4 ⟨rfl, hw⟩; rw [HO.out.size]; have HN := Aside0.mk (HO.out.next (by decide) 54 true rfl hw); clear HO hw; have HO := HN; clear HN; refine ⟨_, rfl, ?_⟩) | ((with_reducible refine gate_dst (N := 10) rfl ?_); refine goesLD (some 10) rfl rfl Try.func46 #[.func (.func 55) #[] #[], .bool true] rfl (by rfl) (by simp [Act.eval]) (by kernel_rfl) rfl ?_; refine (closure_calls 55 true _).mono ?_; rintro e w5 ⟨rfl, hw⟩; rw [HO.out.size]; have HN := Aside0.mk (HO.out.next (by decide) 55 true rfl hw); clear HO hw; have HO := HN; clear HN; refine ⟨_, rfl, ?_⟩) | ((with_reducible refine gate_dst (N := 12) rfl ?_); refine goesLD (some 12) rfl rfl Try.func46 #[.func (.func 56) #[] #[], .bool true] rfl (by rfl) (by simp [Act.eval]) (by kernel_rfl) rfl ?_; refine (closure_calls 56 true _).mono ?_; rintro e w6 ⟨rfl, hw⟩; rw [HO.out.size]; have HN := Aside0.mk (HO.out.next (by decide) 56 true rfl hw); clear HO hw; have HO := HN; clear HN; refine ⟨_, rfl, ?_⟩) | ((with_reducible refine gate_dst (N := 14) rfl ?_); refine goesLD (some 14) rfl rfl Try.func46 #[.func (.func 58) #[] #[], .bool false] rfl (by rfl) (by simp [Act.eval]) (by kernel_rfl) rfl ?_; refine (closure_calls 58 false _).mono ?_; rintro e w7 ⟨rfl, hw⟩; rw [HO.out.size]; have HN := Aside0.mk (HO.out.next (by decide) 58 false rfl hw); clear HO hw; have HO := HN; clear HN; refine ⟨_, rfl, ?_⟩) | ((with_reducible refine gate_dst (N := 16) rfl ?_); refine goesLD (some 16) rfl rfl Try.func46 #[.func (.func 59) #[] #[], .bool false] rfl (by rfl) (by simp [Act.eval]) (by kernel_rfl) rfl ?_; refine (closure_calls 59 false _).mono ?_; rintro e w8 ⟨rfl, hw⟩; rw [HO.out.size]; have HN := Aside0.mk (HO.out.next (by decide) 59 false rfl hw); clear HO hw; have HO := HN; clear HN; refine ⟨_, rfl, ?_⟩) | ((with_reducible refine gate_store (p := 0) (t := 71) rfl ?_); obtain ⟨tc, ht, htab⟩ := HO.out.tab; refine store_box rfl rfl rfl w.heap.size 71 tc (mkOps w.heap.size) htab rfl rfl (by kernel_rfl) (ht.trans rfl) (by kernel_rfl) ?_; intro ws hbs hgs; have HF := Aside0.mk (HO.out.fin hgs); clear HO ht htab hgs; have BK := Aside0.mk hbs; clear hbs))
  refine bodyPost_ret (results_cell_row rfl _ _ w.heap.size 71 _ (0, 0) _ rfl BK.out Try.underlying71 rfl (by kernel_rfl)) rfl ?_
  exact ⟨rfl, HF.out⟩
end Go.Proofs.Ytcalcbeonbfkmaa.P
