/- The function that hands back a closure over a slice (trace.steps), and the function that ranges over it (trace.row), where the slice is empty. -/
import Derived.RangeFuncNested
import Derived.RangeFuncBound
import Derived.RangeFuncCalls
import Derived.RangeFuncLeaves
import Derived.RangeFuncFrom
import Derived.Shelf.Abstract
import Derived.WalkKit
import Derived.OwnWalkIn
import Derived.TacticsInMore
import Derived.LoopNIn
import Derived.LoopIn
import Derived.Test.YtiemdfdebdmchaaU
import Derived.Test.YtiemdfdebdmchaaPx0
import Derived.Test.YtiemdfdebdmchaaPx2
namespace Go.Proofs.Ytiemdfdebdmchaa.P
open Go.RowKit Go.Shelf Go.Proofs.YtiemdfdebdmchaaW.PrintWords Go.Proofs.YtiemdfdebdmchaaW.PrintLast Go.Proofs.YtiemdfdebdmchaaW.PrintMore Go.Proofs.YtiemdfdebdmchaaO
attribute [local go_sem] Oper.semAt_some
set_option linter.unusedVariables false
set_option linter.unusedSimpArgs false
set_option maxRecDepth 100000 in
set_option maxHeartbeats 2000000 in
/-- steps(l): l is boxed, and the function value captures the box. -/
theorem trace_steps.calls (A : Option Addr) (n c : Nat) (w : World) :
    Calls Try.prog 21 #[.slice A n c] w fun e w' => e = .returned (.func (.func 35) #[] #[.pointer (some ⟨w.heap.size, 0, none⟩)]) ∧ w' = w.alloc (.cells #[.slice A n c] 22) := by
  go_enter Try.func21, Try.ntmps21
  go_wp2
  go_ret
  exact ⟨rfl, rfl⟩
/-- .. as one operation of a walk. -/
theorem seq_event21 {ops : Array Oper} {rest : List Oper} {o : Oper} {a : Act} {Q : Exit → Act → World → Prop} {W : World} (hgd : o.guard = none) {N : Tmp} (hd : o.dst = some N) (x : Operand) (v : Value)
    (ho : o.op = .call { callee := .value (.func 21), args := #[x], argTypes := #[22] }) (hx : a.eval x = v)
    (h : ∀ g, g = W.heap.size → ∀ w1, w1.heap[g]? = some (.cells #[v] 22 (0, 0)) → Below W.heap.size W w1 → wpList Try.prog ops Q rest (a.put o.dst (.func (.func 35) #[] #[.pointer (some ⟨g, 0, none⟩)])) w1)
    (hv : ∃ A n c, v = .slice A n c := by exact ⟨_, _, _, rfl⟩) : wpList Try.prog ops Q (o :: rest) a W := by
  obtain ⟨A, n, c, rfl⟩ := hv
  refine goesL_ (some N) hd hgd Try.func21 (by kernel_rfl) rfl #[.slice A n c] ho (by simp [hx]) ?_
  refine (trace_steps.calls A n c W).mono ?_
  rintro e w1 ⟨rfl, rfl⟩
  refine ⟨_, rfl, ?_⟩
  rw [← hd]
  exact h _ rfl _ (blk_new W _) (below_alloc (Below.refl _ _) _)
theorem seq_step21 {ops : Array Oper} {o : Oper} {a : Act} {K : Act → World → Prop} {Q : Exit → Act → World → Prop} {W : World} (hw : Region.wanted o (yielded ops a.tmps) = true) {N : Tmp} (hd : o.dst = some N) (x : Operand) (v : Value)
    (ho : o.op = .call { callee := .value (.func 21), args := #[x], argTypes := #[22] }) (hx : a.eval x = v)
    (h : ∀ g, g = W.heap.size → ∀ w1, w1.heap[g]? = some (.cells #[v] 22 (0, 0)) → Below W.heap.size W w1 → K (a.put o.dst (.func (.func 35) #[] #[.pointer (some ⟨g, 0, none⟩)])) w1)
    (hv : ∃ A n c, v = .slice A n c := by exact ⟨_, _, _, rfl⟩) : if Region.wanted o (yielded ops a.tmps) = true then Oper.wp Try.prog o a W K Q else K (a.put o.dst undef) W := by
  obtain ⟨A, n, c, rfl⟩ := hv
  rw [hd]
  refine goes_ Try.func21 (by kernel_rfl) rfl #[.slice A n c] hw hd ho (by simp [hx]) ?_
  refine (trace_steps.calls A n c W).mono ?_
  rintro e w1 ⟨rfl, rfl⟩
  refine ⟨_, rfl, ?_⟩
  rw [← hd]
  exact h _ rfl _ (blk_new W _) (below_alloc (Below.refl _ _) _)
set_option maxRecDepth 100000 in
set_option maxHeartbeats 2000000 in
/-- steps's closure at an empty slice: no round. -/
theorem steps1_nil (F : Fence) (n : Nat) (h35 : F.fn 35) (hro : F.round = none) (l Bs : Nat) (A : Option Addr) (c : Nat) (J : List Empty → World → Prop) (W : World) (hBs : W.cell? ⟨Bs, 0, none⟩ = some (.slice A 0 c)) (h0 : J [] W) :
    CallsIn F n Try.prog 35 #[.func (.yield l) #[] #[], .pointer (some ⟨Bs, 0, none⟩)] W fun e W' => (∃ v, e = .returned v) ∧ J [] W' := by
  refine callsIn_of_wp Try.func35 rfl h35 ?_ hro
  simp only [Try.ntmps35, List.size_toArray, List.length_cons, List.length_nil, Nat.reduceAdd, Nat.reduceSub, Array.replicate_succ, Array.replicate_zero, List.push_toArray, List.append_toArray, List.nil_append, List.cons_append]
  gi_wp2
  gi_loopw [8] (fun i wr => i = .int .i64 0 ∧ J [] wr) (fun _ _ => 0)
  case atStart => exact ⟨rfl, h0⟩
  case round =>
    obtain ⟨rfl, hJs⟩ := hrel
    gi_wp2
    go_end0
    exact ⟨⟨_, rfl⟩, hJs⟩
theorem steps_stops_nil (F : Fence) (n : Nat) (h35 : F.fn 35) (hro : F.round = none) (Bs : Nat) (A : Option Addr) (c : Nat) (w : World) (hBs : Bs < w.heap.size) (hc : w.cell? ⟨Bs, 0, none⟩ = some (.slice A 0 c)) :
    SeqStopsK F n Try.prog 35 #[.pointer (some ⟨Bs, 0, none⟩)] (fun x : Empty => #[.bool x.elim, .bool x.elim]) (Below w.heap.size) (fun ys => ys = []) (fun pre => False) 0 w := fun l J Jx W hW _ _ hY h0 => by
  have hc' := (hW.cell (p := ⟨Bs, 0, none⟩) hBs).trans hc
  exact (steps1_nil F n h35 hro l Bs A c J W hc' h0).mono fun e W' ⟨he, hj⟩ => ⟨he, .inl ⟨_, rfl, hj⟩⟩
/-- row(b, n, steps(l)): only where l is empty is something told. -/
def trace_rowsteps.f (k : Nat) (l0 : List Int) (a1 : Int) (l3 : List Int) : Option (List Int) := if l3.length = 0 then trace_number.f k l0 (IntKind.u64.wrap a1) else none
theorem trace_rowsteps.mono : ∀ a0 a1 a2 k, LeO (trace_rowsteps.f k a0 a1 a2) (trace_rowsteps.f (k + 1) a0 a1 a2) := by
  intro a0 a1 a2 k
  unfold trace_rowsteps.f
  split
  · exact trace_number.mono _ _ _
  · exact LeO.none _
set_option maxRecDepth 100000 in
set_option maxHeartbeats 4000000 in
theorem trace_rowsteps.calls (k : Nat) (P0_ : Nat → Prop) (u9000_ : Value) (l0 : List Int) (a1 : Int) (g3 : Nat) (A3 : Option Addr) (c3 : Nat) (l3 : List Int) (r : List Int) (w0 w : World) (hB : Below w0.heap.size w0 w) (ho0 : Kd.R (Kd.int .u8) 5 w w0.heap.size P0_ u9000_ l0)
    (hr3 : ∀ W_, Kept w W_ (fun k_ => P0_ k_) → Kd.C (Kd.int .i64) W_ A3 l3.length l3) (hc3 : l3.length ≤ c3) (h : trace_rowsteps.f k l0 a1 l3 = some r)
    (hb3 : w.heap[g3]? = some (.cells #[.slice A3 l3.length c3] 22 (0, 0)) := by (with_reducible repeat (first | refine blk_drewN ?_ _ | refine blk_drew ?_ | refine blk_alloc ?_ _)); exact Aside0.out (by assumption)) :
    Calls Try.prog 20 #[u9000_, .int .i64 a1, .func (.func 35) #[] #[.pointer (some ⟨g3, 0, none⟩)]] w fun e w' => ∃ v0_ : Value, e = .returned (v0_) ∧ Kd.R (Kd.int .u8) 5 w' w0.heap.size (fun k_ => (P0_ k_ ∨ w.heap.size ≤ k_)) v0_ r ∧ Below w0.heap.size w0 w' ∧ Kept w w' (fun k_ => P0_ k_) := by
  unfold trace_rowsteps.f at h
  by_cases hz : l3.length = 0
  case neg => rw [if_neg hz] at h; cases h
  rw [if_pos hz] at h
  rw [hz] at hb3
  clear hr3 hc3
  obtain ⟨Au, cu, rfl⟩ := Kd.R_slice ho0
  have hg3 : g3 < w.heap.size := blk_lt hb3
  refine (callsIn_wide (n := 3)).1 ?_
  refine callsIn_of_wp_marks Try.func20 rfl trivial ?_ rfl
  simp only [Try.ntmps20, List.size_toArray, List.length_cons, List.length_nil, Nat.reduceAdd, Nat.reduceSub, Array.replicate_succ, Array.replicate_zero, List.push_toArray, List.append_toArray, List.nil_append, List.cons_append]
  have ho1 : Kd.R (Kd.int .u8) 5 w w0.heap.size (fun k_ => P0_ k_ ∧ k_ < w.heap.size ∧ k_ ≠ g3) (.slice Au l0.length cu) l0 := Kd.R_mono (Kd.R_bound (Kd.R_types ho0 hb3 (by decide))) (fun k_ hk => ⟨hk.1.1, hk.2.2.1, hk.1.2⟩)
  have hs := blk_new w (.cells #[.slice Au l0.length cu] 28 (0, 0))
  have hs1 : (w.alloc (.cells #[.slice Au l0.length cu] 28)).cell? ⟨w.heap.size, 0, none⟩ = some (.slice Au l0.length cu) := (blk_cell hs 0).trans rfl
  gi_wp2_with (refine ⟨trivial, ?_⟩; refine (callsIn_wide.2 (trace_number.calls k (fun k_ => P0_ k_ ∧ k_ < w.heap.size ∧ k_ ≠ g3) (.slice Au l0.length cu) l0 (IntKind.u64.wrap a1) r w0 (w.alloc (.cells #[.slice Au l0.length cu] 28 (0, 0))) (hB.alloc hB.size _) (Kd.R_below ho1 (below_alloc (Below.refl _ _) _)) h)).mono ?_; rintro e w2 ⟨v1, rfl, hR, hB2, hK2⟩; obtain ⟨A1, c1, rfl⟩ := Kd.R_slice hR; have hx2 : w2.heap[w.heap.size]? = some (.cells #[.slice Au l0.length cu] 28 (0, 0)) := (hK2.2 _ (by simp) (fun hh => Nat.lt_irrefl _ hh.2.1)).trans hs; have hx3 : w2.cell? ⟨w.heap.size, 0, none⟩ = some (.slice Au l0.length cu) := (blk_cell hx2 0).trans rfl; have hx4 := blk_frozen hx2 0)
  have hlt2 : w.heap.size < w2.heap.size := blk_lt hx2
  have hall : ∀ i, i < w.heap.size → ¬ (P0_ i ∧ i < w.heap.size ∧ i ≠ g3) → (w2.setCell ⟨w.heap.size, 0, none⟩ (.slice A1 r.length c1)).heap[i]? = w.heap[i]? := fun i hi hn =>
    ((Below.heap_setCell w2 ⟨w.heap.size, 0, none⟩ _ i (Nat.ne_of_lt hi)).trans (hK2.2 i (by simp; omega) hn)).trans (Below.heap_alloc w _ i hi)
  have hRx : Kd.R (Kd.int .u8) 5 (w2.setCell ⟨w.heap.size, 0, none⟩ (.slice A1 r.length c1)) w0.heap.size (fun k_ => (P0_ k_ ∨ w.heap.size ≤ k_)) (.slice A1 r.length c1) r :=
    Kd.R_mono (Kd.R_set hR hx2 (by decide) 0 _) (fun k_ hk => hk.elim (fun hk => .inl hk.1) (fun hk => .inr (by simp at hk; omega)))
  have hBx : Below w0.heap.size w0 (w2.setCell ⟨w.heap.size, 0, none⟩ (.slice A1 r.length c1)) := hB2.setCell (p := ⟨w.heap.size, 0, none⟩) hB.size _
  have hcx : (w2.setCell ⟨w.heap.size, 0, none⟩ (.slice A1 r.length c1)).cell? ⟨w.heap.size, 0, none⟩ = some (.slice A1 r.length c1) := World.cell?_setCell_same' _ _ _ (by rw [hx3]; rfl)
  have hgx : (w2.setCell ⟨w.heap.size, 0, none⟩ (.slice A1 r.length c1)).cell? ⟨g3, 0, none⟩ = some (.slice A3 0 c3) := (blk_cell ((hall g3 hg3 (fun hh => hh.2.2 rfl)).trans hb3) 0).trans rfl
  have hsx : (w2.setCell ⟨w.heap.size, 0, none⟩ (.slice A1 r.length c1)).heap.size = w2.heap.size := by simp
  have hax : ∀ i, i < w.heap.size → ¬ P0_ i → (w2.setCell ⟨w.heap.size, 0, none⟩ (.slice A1 r.length c1)).heap[i]? = w.heap[i]? := fun i hi hn => hall i hi (fun hh => hn hh.1)
  obtain ⟨W0, hW0⟩ : ∃ W0, w2.setCell ⟨w.heap.size, 0, none⟩ (.slice A1 r.length c1) = W0 := ⟨_, rfl⟩
  rw [hW0] at hRx hBx hcx hgx hsx hax ⊢
  refine wpIn_rangeFunc_ownF rfl (by decide) (gf := 35) (lb := #[.pointer (some ⟨g3, 0, none⟩)]) rfl trivial (enters_of Try.func35 (by kernel_rfl) rfl)
    (steps_stops_nil Fence.wide (3 - 1) trivial rfl g3 A3 c3 W0 (by omega) hgx) belowK_t (belowK_b (Nat.le_refl _)) (Below.refl _ _) (fun x => x.elim)
    (fun pre W => Below W0.heap.size W0 W) (fun _ _ _ => False) (ownFrom_below (Nat.le_refl _) (Nat.le_refl _)) (fun _ _ _ _ _ hs _ _ => hs) (Below.refl _ _)
    (fun x => x.elim) ?assign ?body ?done ?stop
  case assign => intro l x; exact x.elim
  case body => intro l pre x; exact x.elim
  case stop =>
    rintro D c pre W _ _ h _
    exact h.elim
  case done =>
    rintro D xs W hD _ hBW hK
    have hcw : W.cell? ⟨w.heap.size, 0, none⟩ = some (.slice A1 r.length c1) := (hBW.cell (p := ⟨w.heap.size, 0, none⟩) (show w.heap.size < W0.heap.size by omega)).trans hcx
    gi_wp2
    refine ⟨by simp, .inl ⟨_, _, rfl, run_takeDeferred hK, ?_⟩⟩
    have hBF : Below W0.heap.size W0 (W.putObj D (.deferred none)) := hBW.trans (belowK_b (w := W0) (Nat.le_refl _) W D _ _ hD hK rfl rfl)
    have hsz := hBF.size
    exact ⟨_, results_tmp rfl _ _ _, _, rfl, Kd.R_below hRx hBF, hBx.trans (hBF.mono hBx.size), by omega, fun i hi hn => (hBF.block i (by omega)).trans (hax i hi hn)⟩
end Go.Proofs.Ytiemdfdebdmchaa.P
