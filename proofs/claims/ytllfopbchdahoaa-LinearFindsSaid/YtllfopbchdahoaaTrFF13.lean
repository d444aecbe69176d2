/- What the law's proof needs of F13. -/
import Derived.Test.YtllfopbchdahoaaTrFF10
import Derived.Test.YtllfopbchdahoaaTrFF12
namespace Go.Proofs.Ytllfopbchdahoaa.P
open Go.RowKit Go.Proofs.YtllfopbchdahoaaW.PrintWords Go.Proofs.YtllfopbchdahoaaW.PrintLast Go.Proofs.YtllfopbchdahoaaW.PrintMore Go.Proofs.YtllfopbchdahoaaO
attribute [local go_sem] max2_int min2_int max_two min_two max_three min_three max_four min_four
set_option linter.unusedVariables false
set_option linter.unusedSimpArgs false
structure Tab (w W : World) (Af Ao : Option Addr) (n cf co : Nat) (T : List S23 × List Bool) : Prop where
  lf : T.1.length = n
  lo : T.2.length = n
  rf : Kd.R k23 23 W w.heap.size (fun _ => True) (.slice Af n cf) T.1
  ro : Kd.R Kd.bool 4 W w.heap.size (fun _ => True) (.slice Ao n co) T.2
  hb : Below w.heap.size w W
section
variable {w W W1 W2 : World} {Af Ao : Option Addr} {n cf co gf go : Nat} {T : List S23 × List Bool}
theorem Tab.below (h : Tab w W Af Ao n cf co T) (hb : Below W.heap.size W W1) : Tab w W1 Af Ao n cf co T :=
  ⟨h.lf, h.lo, Kd.R_below h.rf hb, Kd.R_below h.ro hb, below_step h.hb hb⟩
theorem Tab.far (h : Tab w W Af Ao n cf co T) (hb : Below W.heap.size W W1) {g : Nat} (hg : W1.grownBy W2 (some g)) (hge : W.heap.size ≤ g) (hb2 : Below W.heap.size W W2) : Tab w W2 Af Ao n cf co T := by
  have h1 := Kd.R_below (Kd.R_bound h.rf) hb
  have h2 := Kd.R_below (Kd.R_bound h.ro) hb
  exact ⟨h.lf, h.lo, Kd.R_mono (Kd.R_grown h1 hg (fun k hk e => by have := hk.2.2.1; have := Option.some.inj e; omega)) (fun _ hk => hk.1), Kd.R_mono (Kd.R_grown h2 hg (fun k hk e => by have := hk.2.2.1; have := Option.some.inj e; omega)) (fun _ hk => hk.1), below_step h.hb hb2⟩
theorem Tab.setF (h : Tab w W (some ⟨gf, 0, none⟩) Ao n cf co T) {j : Nat} (hj : j < n) (x : S23) : ∀ W1, W1 = ((((W.setCell ⟨gf, j * 5, none⟩ (.int .i64 x.f0)).setCell ⟨gf, j * 5 + 1, none⟩ (.int .i64 x.f1)).setCell ⟨gf, j * 5 + 2, none⟩ (.int .i64 x.f2)).setCell ⟨gf, j * 5 + 3, none⟩ (.int .i64 x.f3)).setCell ⟨gf, j * 5 + 4, none⟩ (.int .i64 x.f4) →
    Tab w W1 (some ⟨gf, 0, none⟩) Ao n cf co (T.1.set j x, T.2) ∧ W.grownBy W1 (some gf) := by
  intro W1 e
  obtain ⟨g2, c2, e2, gB, _, _, _⟩ := Kd.R_form h.rf (by rw [h.lf]; omega)
  injection e2 with ea _ _
  injection ea with ea
  injection ea with ea _ _
  subst ea
  obtain ⟨ce, hcl, hM, hcc, _⟩ := Kd.R_elem h.rf z23 (j : Int) (by omega) (by omega)
  have HP := Kd.R_seg h.rf (j : Int) (by omega) (by omega) (seg := [.int .i64 x.f0, .int .i64 x.f1, .int .i64 x.f2, .int .i64 x.f3, .int .i64 x.f4]) (j := 0) hcl hcc (show 5 ≤ 5 from by decide) (x' := x) (by
    have : ce.take 0 ++ [.int .i64 x.f0, .int .i64 x.f1, .int .i64 x.f2, .int .i64 x.f3, .int .i64 x.f4] ++ ce.drop (0 + 5) = [.int .i64 x.f0, .int .i64 x.f1, .int .i64 x.f2, .int .i64 x.f3, .int .i64 x.f4] := by
      rw [List.take_zero, List.drop_eq_nil_of_le (by rw [hcl]; decide)]; rfl
    rw [show (0 + [Value.int .i64 x.f0, .int .i64 x.f1, .int .i64 x.f2, .int .i64 x.f3, .int .i64 x.f4].length) = 0 + 5 from rfl, this]
    exact k23_mkM W w.heap.size (fun k => True ∧ k ≠ gf) x) (fun _ hk => hk)
  rw [Int.toNat_natCast] at HP
  obtain ⟨h1, hg⟩ := HP
  have e3 : W1 = W.setCells gf (j * k23.sz + 0) [.int .i64 x.f0, .int .i64 x.f1, .int .i64 x.f2, .int .i64 x.f3, .int .i64 x.f4] := by rw [e]; rfl
  rw [← e3] at h1 hg
  refine ⟨⟨by simp only [List.length_set]; exact h.lf, h.lo, h1, Kd.R_over' (v := .slice (some ⟨gf, 0, none⟩) n cf) h.ro (Kd.R_typed h.rf) (by decide) hg, ?_⟩, hg⟩
  rw [e]
  exact below_set (below_set (below_set (below_set (below_set h.hb gB) gB) gB) gB) gB
theorem Tab.setO (h : Tab w W Af (some ⟨go, 0, none⟩) n cf co T) {j : Nat} (hj : j < n) (b : Bool) : ∀ W1, W1 = W.setCell ⟨go, j, none⟩ (.bool b) → Tab w W1 Af (some ⟨go, 0, none⟩) n cf co (T.1, T.2.set j b) ∧ W.grownBy W1 (some go) := by
  intro W1 e
  obtain ⟨g2, c2, e2, gB, _, _, _⟩ := Kd.R_form h.ro (by rw [h.lo]; omega)
  injection e2 with ea _ _
  injection ea with ea
  injection ea with ea _ _
  subst ea
  have HP := Kd.R_putg h.ro (j : Int) b
  rw [Int.toNat_natCast] at HP
  rw [← e] at HP
  refine ⟨⟨h.lf, by simp only [List.length_set]; exact h.lo, Kd.R_over' (v := .slice (some ⟨go, 0, none⟩) n co) h.rf (Kd.R_typed h.ro) (by decide) HP.2, HP.1, ?_⟩, HP.2⟩
  rw [e]
  exact below_set h.hb gB
theorem Tab.other (h : Tab w W Af Ao n cf co T) {g : Nat} {cs : Array Value} {t : TypeId} (hb : W.heap[g]? = some (.cells cs t (0, 0))) (h1 : 23 ≠ t) (h2 : 4 ≠ t) : some g ≠ (Value.slice Af n cf).ownBlock ∧ some g ≠ (Value.slice Ao n co).ownBlock :=
  ⟨Kd.R_ne h.rf hb h1, Kd.R_ne h.ro hb h2⟩
theorem Tab.formF (h : Tab w W Af Ao n cf co T) (hn : 0 < n) : ∃ gf, Af = some ⟨gf, 0, none⟩ := by
  obtain ⟨g2, c2, e2, _⟩ := Kd.R_form h.rf (by rw [h.lf]; omega)
  injection e2 with ea _ _
  exact ⟨g2, ea⟩
theorem Tab.formO (h : Tab w W Af Ao n cf co T) (hn : 0 < n) : ∃ go, Ao = some ⟨go, 0, none⟩ := by
  obtain ⟨g2, c2, e2, _⟩ := Kd.R_form h.ro (by rw [h.lo]; omega)
  injection e2 with ea _ _
  exact ⟨g2, ea⟩
theorem Tab.cells (h : Tab w W (some ⟨gf, 0, none⟩) (some ⟨go, 0, none⟩) n cf co T) {j : Nat} (hj : j < n) :
    (∃ x0 x1 x2 x3 x4, W.cell? ⟨gf, j * 5, none⟩ = some x0 ∧ W.cell? ⟨gf, j * 5 + 1, none⟩ = some x1 ∧ W.cell? ⟨gf, j * 5 + 2, none⟩ = some x2 ∧ W.cell? ⟨gf, j * 5 + 3, none⟩ = some x3 ∧ W.cell? ⟨gf, j * 5 + 4, none⟩ = some x4) ∧
    (W.frozen? ⟨gf, j * 5, none⟩ = false ∧ W.frozen? ⟨gf, j * 5 + 1, none⟩ = false ∧ W.frozen? ⟨gf, j * 5 + 2, none⟩ = false ∧ W.frozen? ⟨gf, j * 5 + 3, none⟩ = false ∧ W.frozen? ⟨gf, j * 5 + 4, none⟩ = false) ∧
    (∃ b, W.cell? ⟨go, j, none⟩ = some (.bool b)) ∧ W.frozen? ⟨go, j, none⟩ = false := by
  obtain ⟨ce, hcl, hM, hcc, hf⟩ := Kd.R_elem h.rf z23 (j : Int) (by omega) (by omega)
  obtain rfl := k23_openM hM
  rw [Int.toNat_natCast] at hcc hf
  obtain ⟨h1, h2⟩ := Kd.R_celln false h.ro (j : Int) (by omega) (by omega)
  rw [Int.toNat_natCast] at h1 h2
  exact ⟨⟨_, _, _, _, _, hcc 0 _ rfl, hcc 1 _ rfl, hcc 2 _ rfl, hcc 3 _ rfl, hcc 4 _ rfl⟩, ⟨hf 0, hf 1, hf 2, hf 3, hf 4⟩, ⟨_, h1⟩, h2⟩
end
/-- The table of the scalars alone. -/
def setK (n : Nat) : Nat → List S23 × List Bool
  | 0 => (List.replicate n z23, List.replicate n false)
  | k + 1 => ((setK n k).1.set k ⟨(k : Int), 1, 0, 0, 0⟩, (setK n k).2.set k true)
def stepV (T : List S23 × List Bool) (y : S64) : List S23 × List Bool :=
  if isP y then (T.1.set y.f1.toNat (ofV y.f0 y.f4 (rd_T23 T.1 y.f2) (T.2.getD y.f2.toNat false) (rd_T23 T.1 y.f3) (T.2.getD y.f3.toNat false)).1, T.2.set y.f1.toNat (ofV y.f0 y.f4 (rd_T23 T.1 y.f2) (T.2.getD y.f2.toNat false) (rd_T23 T.1 y.f3) (T.2.getD y.f3.toNat false)).2) else T
/-- The forms of a graph's registers, so many instructions seen. -/
def tabV (G : Gr) : Nat → List S23 × List Bool
  | 0 => setK G.regs.toNat G.l5.length
  | p + 1 => stepV (tabV G p) (rd_T64 G.l0 (p : Int))
/-- Two lists are returned. -/
def RetT (e : Ending) (w w' : World) (T : List S23 × List Bool) : Prop := ∃ A c A' c', e = .returned (.tuple #[.slice A T.1.length c, .slice A' T.2.length c']) ∧ Kd.C k23 w' A T.1.length T.1 ∧ Kd.C Kd.bool w' A' T.2.length T.2 ∧ (0 < T.1.length → ∃ g, A = some ⟨g, 0, none⟩ ∧ w.heap.size ≤ g) ∧ (0 < T.2.length → ∃ g, A' = some ⟨g, 0, none⟩ ∧ w.heap.size ≤ g)
theorem RetT_of {w W : World} {Af Ao : Option Addr} {n cf co : Nat} {T : List S23 × List Bool} (h : Tab w W Af Ao n cf co T) : RetT (.returned (.tuple #[.slice Af n cf, .slice Ao n co])) w W T := by
  have e1 := h.lf
  have e2 := h.lo
  refine ⟨Af, cf, Ao, co, by rw [e1, e2], (Kd.R_reads' h.rf).2.2, (Kd.R_reads' h.ro).2.2, fun hp => ?_, fun hp => ?_⟩
  · obtain ⟨g2, c2, e3, gB, _⟩ := Kd.R_form h.rf hp
    injection e3 with ea _ _
    exact ⟨g2, ea, gB⟩
  · obtain ⟨g2, c2, e3, gB, _⟩ := Kd.R_form h.ro hp
    injection e3 with ea _ _
    exact ⟨g2, ea, gB⟩
theorem of_call2 {w W : World} {gf go n cf co : Nat} {T : List S23 × List Bool} {y : S64} {r : S23 × Bool} (h : Tab w W (some ⟨gf, 0, none⟩) (some ⟨go, 0, none⟩) n cf co T)
    (hAB : (y.f0 = 2 ∨ 4 ≤ y.f0 ∧ y.f0 ≤ 6 → 0 ≤ y.f2 ∧ y.f2 < (T.1.length : Int)) ∧ (4 ≤ y.f0 ∧ y.f0 ≤ 6 → 0 ≤ y.f3 ∧ y.f3 < (T.1.length : Int)))
    (hr : ofV y.f0 y.f4 (rd_T23 T.1 y.f2) (T.2.getD y.f2.toNat false) (rd_T23 T.1 y.f3) (T.2.getD y.f3.toNat false) = r) :
    Calls Try.prog 43 #[.slice (some ⟨gf, 0, none⟩) n cf, .slice (some ⟨go, 0, none⟩) n co, .agg #[.int .i64 y.f0, .int .i64 y.f1, .int .i64 y.f2, .int .i64 y.f3, .int .i64 y.f4, .int .i64 y.f5, .int .i64 y.f6.f0, .int .i64 y.f6.f1]] W (Ret5 r W) := by
  have e1 := h.lf
  have e2 := h.lo
  have := of_calls (some ⟨gf, 0, none⟩) cf T.1 (some ⟨go, 0, none⟩) co T.2 y W (Kd.R_reads' h.rf).2.2 (Kd.R_reads' h.ro).2.2 (by rw [e1, e2]) hAB.1 hAB.2
  rw [hr, e1, e2] at this
  exact this
set_option maxHeartbeats 8000000 in
set_option maxRecDepth 100000 in
theorem refForms_calls (G : Gr) (w : World) (hG : G.Held w) (hF : FitOK G) : Calls Try.prog 22 #[G.v] w fun e w' => RetT e w w' (tabV G G.l0.length) ∧ Below w.heap.size w w' := by
  obtain ⟨ds, hD, hI⟩ := hF.rest
  obtain ⟨n, hn⟩ : ∃ n : Nat, G.regs = (n : Int) := ⟨G.regs.toNat, by have := hD.regs; omega⟩
  have hregs := hD.regs
  have h5n : G.l5.length ≤ n := by omega
  have hsm : n ≤ 5000 := by have := hF.parts.n5; have := hD.le; have := hF.n2; omega
  have KF := Aside0.mk hF
  have KD := Aside0.mk hD
  have KI := Aside0.mk hI
  have HT0 : tabV G 0 = setK n G.l5.length := by unfold tabV; rw [hn, Int.toNat_natCast]
  obtain ⟨A0, c0, l0, a1, a2, a3, A4, c4, l4, A5, c5, l5, A6, c6, l6, A7, c7, l7⟩ := G
  have H0 := hG.h0
  have k0 := hG.k0
  simp only [Gr.v] at *
  subst hn
  have hu41 := Try.underlying41
  have hu64 := Try.underlying64
  have hu23 := Try.underlying23
  have HB := Aside0.mk (Below.refl w.heap.size w)
  have Q0 := Aside0.mk H0
  have hn2 := KF.out.n2
  (try dsimp only at hn2)
  have KT0 := Aside0.mk HT0
  clear H0 hG hF hD hI HT0 hregs
  go_enter Try.func22, Try.ntmps22
  go_wp2_with (first | ((with_reducible refine gate_dst (N := 1) rfl ?_); refine boxQ 1 #[.slice A0 l0.length c0, .int .i64 a1, .int .i64 (n : Int), .int .i64 a3, .slice A4 l4.length c4, .slice A5 l5.length c5, .slice A6 l6.length c6, .slice A7 l7.length c7] 41 HB ?_; clear HB; intro gb w1 _ GW BK _ HB; have hcf := hcf8 BK; obtain ⟨_, _, _, _, _, _, _, _, _, _, _, _, _, _, _, _⟩ := hcf) | ((with_reducible refine gate_dst (N := 13) rfl ?_); refine Kd.R_make k23 _ 23 rfl (N := 13) rfl 43 _ _ rfl (n : Int) rfl rfl Try.underlying43 (.agg #[(.int .i64 0), (.int .i64 0), (.int .i64 0), (.int .i64 0), (.int .i64 0)]) 40 info23 rfl (by decide) (by omega) z23 (ok := fun _ => True) (okp := fun _ => True) (k23_mkM _ _ _ z23) (fun _ hk => hk) trivial (by omega) (by rw [Int.toNat_natCast]; omega) (Below.refl _ _) (Nat.le_refl _) ?_; intro v wo ho hb hg_ hnew_; clear hg_ hnew_; rw [Int.toNat_natCast] at ho; have HO := Aside0.mk (Kd.R_lower ho (below_size (bpk HB).out)); replace BK := bbw BK hb; replace HB := bst HB hb; clear hb ho; have hcf := hcf8 BK; obtain ⟨_, _, _, _, _, _, _, _, _, _, _, _, _, _, _, _⟩ := hcf; obtain ⟨Af, cf, eo⟩ := Kd.R_slice HO.out; subst eo; rw [List.length_replicate] at HO ⊢) | ((with_reducible refine gate_dst (N := 16) rfl ?_); refine Kd.R_make Kd.bool _ 4 rfl (N := 16) rfl 44 _ _ rfl (n : Int) rfl rfl Try.underlying44 (.bool false) 1 info4 rfl (by decide) (by omega) false (ok := fun _ => True) (okp := fun _ => True) rfl (fun _ hk => hk) trivial (by omega) (by rw [Int.toNat_natCast]; omega) (Below.refl _ _) (Nat.le_refl _) ?_; intro v wo ho hb hg_ hnew_; clear hg_ hnew_; rw [Int.toNat_natCast] at ho; have HO2 := Aside0.mk (Kd.R_lower ho (below_size (bpk HB).out)); replace BK := bbw BK hb; replace HO := rbw HO hb; replace HB := bst HB hb; clear hb ho; have hcf := hcf8 BK; obtain ⟨_, _, _, _, _, _, _, _, _, _, _, _, _, _, _, _⟩ := hcf; obtain ⟨Ao, co, eo⟩ := Kd.R_slice HO2.out; subst eo; rw [List.length_replicate] at HO2 ⊢))
  have HT : Aside0 (Tab w wo Af Ao n cf co (setK n 0)) := ⟨⟨List.length_replicate, List.length_replicate, rup HO, rup HO2, (bpk HB).out⟩⟩
  clear HO HO2 HB
  go_loopw [6] (fun i wr => ∃ k : Nat, k ≤ l5.length ∧ i = .int .i64 (k : Int) ∧ Aside0 (Tab w wr Af Ao n cf co (setK n k)) ∧ Aside0 (wr.heap[gb]? = some (.cells #[.slice A0 l0.length c0, .int .i64 a1, .int .i64 (n : Int), .int .i64 a3, .slice A4 l4.length c4, .slice A5 l5.length c5, .slice A6 l6.length c6, .slice A7 l7.length c7] 41 (0, 0)))) (fun i _ => l5.length - (intOf i).toNat)
  case atStart => exact ⟨0, Nat.zero_le _, rfl, HT, pkA BK⟩
  case round =>
   rename World => wl
   clear HT BK
   obtain ⟨k, hk, rfl, HT, BK⟩ := hrel
   have hcf := hcf8 BK
   obtain ⟨_, _, _, _, _, _, _, _, _, _, _, _, _, _, _, _⟩ := hcf
   by_cases hlt : k < l5.length
   · obtain ⟨gf, ef⟩ := HT.out.formF (by omega)
     obtain ⟨go, eo⟩ := HT.out.formO (by omega)
     subst ef
     subst eo
     have hlt2 : decide ((k : Int) < (l5.length : Int)) = true := decide_eq_true (by omega)
     have hwk : IntKind.i64.wrap ((k : Int) + 1) = ((k + 1 : Nat) : Int) := (i64_w _).trans ((Go.Proofs.Ytllfopbchdahoaa.M.wrap64_in _ (by omega)).trans (by omega))
     obtain ⟨⟨_, _, _, _, _, _, _, _, _, _⟩, ⟨_, _, _, _, _⟩, ⟨_, _⟩, _⟩ := HT.out.cells (j := k) (by omega)
     have p1 : ((0 : Int) ≤ (k : Int)) = True := eq_true (by omega)
     have q1 : ((k : Int) < (n : Int)) = True := eq_true (by omega)
     have q2 : (k < n) = True := eq_true (by omega)
     go_wp2_with (first | ((with_reducible refine gate_store (t := 23) (p := 28) rfl ?_); refine store_event (t := 23) (p := 28) (v := ?vf1) (w1 := (((((wl).setCell ⟨gf, k * 5, none⟩ (.int .i64 (k : Int))).setCell ⟨gf, k * 5 + 1, none⟩ (.int .i64 1)).setCell ⟨gf, k * 5 + 2, none⟩ (.int .i64 0)).setCell ⟨gf, k * 5 + 3, none⟩ (.int .i64 0)).setCell ⟨gf, k * 5 + 4, none⟩ (.int .i64 0)) ?hg ?ho ?hn ?hr ?_; (case ho => rfl); (case hg => rfl); (case hn => rfl); (case hr => first | (go_simp; done) | (go_simp; rfl)); intro wq hw; obtain ⟨h1, hg⟩ := HT.out.setF (j := k) (by omega) ⟨(k : Int), 1, 0, 0, 0⟩ wq hw; replace BK := Aside0.mk (blk_grown (pkA BK).out hg (HT.out.other (pkA BK).out (by decide) (by decide)).1); replace HT := Aside0.mk h1; clear hw hg h1; obtain ⟨_, _, ⟨_, _⟩, _⟩ := HT.out.cells (j := k) (by omega)) | ((with_reducible refine gate_store (t := 4) (p := 31) rfl ?_); refine store_event (t := 4) (p := 31) (v := ?vf2) (w1 := wq.setCell ⟨go, k, none⟩ (.bool true)) ?hg ?ho ?hn ?hr ?_; (case ho => rfl); (case hg => rfl); (case hn => rfl); (case hr => first | (go_simp; done) | (go_simp; rfl)); intro wq2 hw; obtain ⟨h1, hg⟩ := HT.out.setO (j := k) (by omega) true wq2 hw; replace BK := Aside0.mk (blk_grown (pkA BK).out hg (HT.out.other (pkA BK).out (by decide) (by decide)).2); replace HT := Aside0.mk h1; clear hw hg h1))
     go_roundw
     case measure => simp [intOf] <;> omega
     case rel => exact ⟨k + 1, by omega, by first | rfl | simp, HT, pkA BK⟩
   · obtain rfl : k = l5.length := by omega
     have hlt2 : decide ((l5.length : Int) < (l5.length : Int)) = false := decide_eq_false (by omega)
     go_wp2
     have HT2 : Aside0 (Tab w wl Af Ao n cf co (tabV (⟨A0, c0, l0, a1, (n : Int), a3, A4, c4, l4, A5, c5, l5, A6, c6, l6, A7, c7, l7⟩ : Gr) 0)) := ⟨by rw [KT0.out]; exact HT.out⟩
     clear HT KT0
     go_loopw [7] (fun i wr => ∃ p : Nat, p ≤ l0.length ∧ i = .int .i64 (p : Int) ∧ Aside0 (Tab w wr Af Ao n cf co (tabV (⟨A0, c0, l0, a1, (n : Int), a3, A4, c4, l4, A5, c5, l5, A6, c6, l6, A7, c7, l7⟩ : Gr) p)) ∧ Aside0 (wr.heap[gb]? = some (.cells #[.slice A0 l0.length c0, .int .i64 a1, .int .i64 (n : Int), .int .i64 a3, .slice A4 l4.length c4, .slice A5 l5.length c5, .slice A6 l6.length c6, .slice A7 l7.length c7] 41 (0, 0)))) (fun i _ => l0.length - (intOf i).toNat)
     case atStart => exact ⟨0, Nat.zero_le _, rfl, HT2, pkA BK⟩
     case round =>
      rename World => wm
      clear HT2 BK
      obtain ⟨p, hp, rfl, HT, BK⟩ := hrel
      have hcf := hcf8 BK
      obtain ⟨_, _, _, _, _, _, _, _, _, _, _, _, _, _, _, _⟩ := hcf
      by_cases hlt : p < l0.length
      · have hlt2 : decide ((p : Int) < (l0.length : Int)) = true := decide_eq_true (by omega)
        have hwp : IntKind.i64.wrap ((p : Int) + 1) = ((p + 1 : Nat) : Int) := (i64_w _).trans ((Go.Proofs.Ytllfopbchdahoaa.M.wrap64_in _ (by omega)).trans (by omega))
        have hii := KI.out p hlt
        obtain ⟨ad0, ee, hx_0, hx_1, hx_2, hx_3, hx_4, hx_5, hx_6, hx_7⟩ := at_T64 Q0.out (p : Int) (by omega) (by omega)
        replace hx_0 := (HT.out.hb.cell (World.block_lt_of_cell? w _ hx_0)).trans hx_0
        replace hx_1 := (HT.out.hb.cell (World.block_lt_of_cell? w _ hx_1)).trans hx_1
        replace hx_2 := (HT.out.hb.cell (World.block_lt_of_cell? w _ hx_2)).trans hx_2
        replace hx_3 := (HT.out.hb.cell (World.block_lt_of_cell? w _ hx_3)).trans hx_3
        replace hx_4 := (HT.out.hb.cell (World.block_lt_of_cell? w _ hx_4)).trans hx_4
        replace hx_5 := (HT.out.hb.cell (World.block_lt_of_cell? w _ hx_5)).trans hx_5
        replace hx_6 := (HT.out.hb.cell (World.block_lt_of_cell? w _ hx_6)).trans hx_6
        replace hx_7 := (HT.out.hb.cell (World.block_lt_of_cell? w _ hx_7)).trans hx_7
        have hst : ∀ T, tabV (⟨A0, c0, l0, a1, (n : Int), a3, A4, c4, l4, A5, c5, l5, A6, c6, l6, A7, c7, l7⟩ : Gr) p = T → tabV (⟨A0, c0, l0, a1, (n : Int), a3, A4, c4, l4, A5, c5, l5, A6, c6, l6, A7, c7, l7⟩ : Gr) (p + 1) = stepV T (rd_T64 l0 (p : Int)) := fun T e => by rw [← e]; rfl
        have hdst := KD.out.dst p hlt
        (try dsimp only at hii hdst)
        generalize hy : rd_T64 l0 (p : Int) = y at hst hii hdst hx_0 hx_1 hx_2 hx_3 hx_4 hx_5 hx_6 hx_7
        have KII := Aside0.mk hii
        have KST := Aside0.mk hst
        have KDS := Aside0.mk hdst
        clear hii hst hdst hy
        generalize hTT : tabV (⟨A0, c0, l0, a1, (n : Int), a3, A4, c4, l4, A5, c5, l5, A6, c6, l6, A7, c7, l7⟩ : Gr) p = T at HT KST
        have KS2 := Aside0.mk (KST.out T rfl)
        clear hTT KST
        cases ee
        simp only [Int.toNat_natCast] at hx_0 hx_1 hx_2 hx_3 hx_4 hx_5 hx_6 hx_7
        have HBm := Aside0.mk (Below.refl wm.heap.size wm)
        go_upto_region 12 with (first | ((with_reducible refine gate_dst (N := 8) rfl ?_); refine boxQ 8 #[.int .i64 0, .int .i64 0, .int .i64 0, .int .i64 0, .int .i64 0, .int .i64 0, .int .i64 0, .int .i64 0] 64 HBm ?_; intro gx wx eg GX BX hb HX; have NX := bn1 BK eg.out; replace BK := bbw BK hb.out; clear HBm hb eg; have HBm := HX; clear HX; have hcf := hcf8 BX; obtain ⟨_, _, _, _, _, _, _, _, _, _, _, _, _, _, _, _⟩ := hcf; have hnx := NX.out) | ((with_reducible refine gate_store (p := 8) (t := 64) rfl ?_); refine store_box rfl rfl rfl gx 64 _ #[.int .i64 y.f0, .int .i64 y.f1, .int .i64 y.f2, .int .i64 y.f3, .int .i64 y.f4, .int .i64 y.f5, .int .i64 y.f6.f0, .int .i64 y.f6.f1] (pkA BX).out rfl rfl (by kernel_rfl) rfl (by kernel_rfl) ?_; intro ws hbs hgs; have HS := Aside0.mk (Below_boxed (bpk HBm).out (Nat.le_refl _) GX.out hgs); replace HT := Aside0.mk (HT.out.far (bpk HBm).out hgs GX.out HS.out); replace BK := boxed_other (pkA BK) hgs NX; clear HBm BX hgs HS; have BX := Aside0.mk hbs; clear hbs; have hcf := hcf8 BX; obtain ⟨_, _, _, _, _, _, _, _, _, _, _, _, _, _, _, _⟩ := hcf))
        clear hx_0 hx_1 hx_2 hx_3 hx_4 hx_5 hx_6 hx_7
        by_cases hq : isP y
        · have hp1 : decide (1 ≤ y.f0) = true := decide_eq_true (by unfold isP at hq; omega)
          have hp2 : decide (y.f0 ≤ 12) = true := decide_eq_true (by unfold isP at hq; omega)
          obtain ⟨j, hj, hjd, _⟩ := KDS.out hq
          have hrg := KD.out.regs
          (try dsimp only at hrg)
          have hdn : y.f1.toNat < n := by omega
          have hd0 : 0 ≤ y.f1 := by omega
          have hd1 : y.f1 < (n : Int) := by omega
          obtain ⟨gf, ef⟩ := HT.out.formF (by omega)
          obtain ⟨go, eo⟩ := HT.out.formO (by omega)
          subst ef
          subst eo
          have hlf := HT.out.lf
          have hlo := HT.out.lo
          have KV := Aside0.mk (KS2.out)
          obtain ⟨r, hr⟩ : ∃ r, ofV y.f0 y.f4 (rd_T23 T.1 y.f2) (T.2.getD y.f2.toNat false) (rd_T23 T.1 y.f3) (T.2.getD y.f3.toNat false) = r := ⟨_, rfl⟩
          have KN : Aside0 (tabV (⟨some ad0, c0, l0, a1, (n : Int), a3, A4, c4, l4, A5, c5, l5, A6, c6, l6, A7, c7, l7⟩ : Gr) (p + 1) = (T.1.set y.f1.toNat r.1, T.2.set y.f1.toNat r.2)) := ⟨by rw [KV.out]; unfold stepV; rw [if_pos hq, hr]⟩
          have KR := Aside0.mk hr
          have hcf := hcf8 BX
          obtain ⟨_, _, _, _, _, _, _, _, _, _, _, _, _, _, _, _⟩ := hcf
          have hcf := hcf8 BK
          obtain ⟨_, _, _, _, _, _, _, _, _, _, _, _, _, _, _, _⟩ := hcf
          have hA : y.f0 = 2 ∨ 4 ≤ y.f0 ∧ y.f0 ≤ 6 → 0 ≤ y.f2 ∧ y.f2 < (T.1.length : Int) := fun h => by
            rw [hlf]
            rcases h with h | h
            · have := (KII.out.u1 (.inl h)); exact ⟨this.1, this.2.1⟩
            · have := (KII.out.u2 (.inl ⟨by omega, by omega⟩)).1; exact ⟨this.1, this.2.1⟩
          have hBB : 4 ≤ y.f0 ∧ y.f0 ≤ 6 → 0 ≤ y.f3 ∧ y.f3 < (T.1.length : Int) := fun h => by
            rw [hlf]
            have := (KII.out.u2 (.inl ⟨by omega, by omega⟩)).2; exact ⟨this.1, this.2.1⟩
          have KAB := Aside0.mk (And.intro hA hBB)
          clear hA hBB hr hjd hj hrg hq
          have p1 := eq_true hd0
          have q1 := eq_true hd1
          have q2 := eq_true hdn
          go_wp2_with (first | ((with_reducible refine gate_callee (f := 43) rfl ?_); refine goesL_ (some 56) rfl rfl Try.func43 (by kernel_rfl) rfl #[.slice (some ⟨gf, 0, none⟩) n cf, .slice (some ⟨go, 0, none⟩) n co, .agg #[.int .i64 y.f0, .int .i64 y.f1, .int .i64 y.f2, .int .i64 y.f3, .int .i64 y.f4, .int .i64 y.f5, .int .i64 y.f6.f0, .int .i64 y.f6.f1]] rfl (by (try simp only [List.map_toArray, List.map_cons, List.map_nil]); first | done | rfl) ?_; refine (of_call2 HT.out KAB.out KR.out).mono ?_; rintro e w' ⟨rfl, hb⟩; have HTc := HT; replace HT := Aside0.mk (HT.out.below hb); replace BK := bbw BK hb; replace BX := bbw BX hb; clear HTc hb; have HBn := Aside0.mk (Below.refl w'.heap.size w'); refine ⟨_, rfl, ?_⟩) | ((with_reducible refine gate_dst (N := 9) rfl ?_); refine boxQ 9 #[.int .i64 0, .int .i64 0, .int .i64 0, .int .i64 0, .int .i64 0] 23 HBn ?_; intro gz wz eg GZ BZ hb HX; have NZ := bn1 BK eg.out; have NZ2 := bn1 BX eg.out; replace BK := bbw BK hb.out; replace BX := bbw BX hb.out; clear HBn hb eg; have HBn := HX; clear HX) | ((with_reducible refine gate_store (p := 9) (t := 23) rfl ?_); refine store_box rfl rfl rfl gz 23 _ #[.int .i64 r.1.f0, .int .i64 r.1.f1, .int .i64 r.1.f2, .int .i64 r.1.f3, .int .i64 r.1.f4] (pkA BZ).out rfl rfl (by kernel_rfl) rfl (by kernel_rfl) ?_; intro wy hbs hgs; have HS := Aside0.mk (Below_boxed (bpk HBn).out (Nat.le_refl _) GZ.out hgs); replace HT := Aside0.mk (HT.out.far (bpk HBn).out hgs GZ.out HS.out); replace BK := boxed_other (pkA BK) hgs NZ; replace BX := boxed_other (pkA BX) hgs NZ2; clear HBn BZ hgs HS; have BZ := Aside0.mk hbs; clear hbs; have hcf := hcf8 BX; obtain ⟨_, _, _, _, _, _, _, _, _, _, _, _, _, _, _, _⟩ := hcf; have hcf := hcf5 BZ; obtain ⟨_, _, _, _, _, _, _, _, _, _⟩ := hcf; obtain ⟨⟨_, _, _, _, _, _, _, _, _, _⟩, ⟨_, _, _, _, _⟩, ⟨_, _⟩, _⟩ := HT.out.cells (j := y.f1.toNat) (by omega)) | ((with_reducible refine gate_store (t := 23) (p := 63) rfl ?_); refine store_event (t := 23) (p := 63) (v := ?vf3) (w1 := (((((wy).setCell ⟨gf, y.f1.toNat * 5, none⟩ (.int .i64 r.1.f0)).setCell ⟨gf, y.f1.toNat * 5 + 1, none⟩ (.int .i64 r.1.f1)).setCell ⟨gf, y.f1.toNat * 5 + 2, none⟩ (.int .i64 r.1.f2)).setCell ⟨gf, y.f1.toNat * 5 + 3, none⟩ (.int .i64 r.1.f3)).setCell ⟨gf, y.f1.toNat * 5 + 4, none⟩ (.int .i64 r.1.f4)) ?hg ?ho ?hn ?hr ?_; (case ho => rfl); (case hg => rfl); (case hn => rfl); (case hr => first | (go_simp; done) | (go_simp; rfl)); intro wq hw; obtain ⟨h1, hg⟩ := HT.out.setF (j := y.f1.toNat) (by omega) r.1 wq hw; replace BK := Aside0.mk (blk_grown (pkA BK).out hg (HT.out.other (pkA BK).out (by decide) (by decide)).1); replace BX := Aside0.mk (blk_grown (pkA BX).out hg (HT.out.other (pkA BX).out (by decide) (by decide)).1); have hcf := hcf8 BX; obtain ⟨_, _, _, _, _, _, _, _, _, _, _, _, _, _, _, _⟩ := hcf; replace HT := Aside0.mk h1; clear hw hg h1; obtain ⟨_, _, ⟨_, _⟩, _⟩ := HT.out.cells (j := y.f1.toNat) (by omega)) | ((with_reducible refine gate_store (t := 4) (p := 68) rfl ?_); refine store_event (t := 4) (p := 68) (v := ?vf4) (w1 := wq.setCell ⟨go, y.f1.toNat, none⟩ (.bool r.2)) ?hg ?ho ?hn ?hr ?_; (case ho => rfl); (case hg => rfl); (case hn => rfl); (case hr => first | (go_simp; done) | (go_simp; rfl)); intro wq2 hw; obtain ⟨h1, hg⟩ := HT.out.setO (j := y.f1.toNat) (by omega) r.2 wq2 hw; replace BK := Aside0.mk (blk_grown (pkA BK).out hg (HT.out.other (pkA BK).out (by decide) (by decide)).2); replace BX := Aside0.mk (blk_grown (pkA BX).out hg (HT.out.other (pkA BX).out (by decide) (by decide)).2); have hcf := hcf8 BX; obtain ⟨_, _, _, _, _, _, _, _, _, _, _, _, _, _, _, _⟩ := hcf; replace HT := Aside0.mk h1; clear hw hg h1))
          go_roundw
          case measure => simp [intOf] <;> omega
          case rel => exact ⟨p + 1, by omega, by first | rfl | simp, ⟨by rw [KN.out]; exact HT.out⟩, pkA BK⟩
        · have KN : Aside0 (tabV (⟨some ad0, c0, l0, a1, (n : Int), a3, A4, c4, l4, A5, c5, l5, A6, c6, l6, A7, c7, l7⟩ : Gr) (p + 1) = T) := ⟨by rw [KS2.out]; unfold stepV; rw [if_neg hq]⟩
          go_wp2
          all_goals (first | (exfalso; unfold isP at hq; omega) | skip)
          all_goals (go_roundw; (case measure => simp [intOf] <;> omega); (case rel => exact ⟨p + 1, by omega, by first | rfl | simp, ⟨by rw [KN.out]; exact HT.out⟩, pkA BK⟩))
      · obtain rfl : p = l0.length := by omega
        have hlt2 : decide ((l0.length : Int) < (l0.length : Int)) = false := decide_eq_false (by omega)
        go_wp2
        go_ret2
        exact ⟨RetT_of HT.out, HT.out.hb⟩
end Go.Proofs.Ytllfopbchdahoaa.P
