/- What the law's proof needs of F9. -/
import Derived.Test.YtcalcbeonbfkmaaTrRF8
namespace Go.Proofs.Ytcalcbeonbfkmaa.P
open Go.RowKit Go.Proofs.YtcalcbeonbfkmaaW.PrintWords Go.Proofs.YtcalcbeonbfkmaaW.PrintLast Go.Proofs.YtcalcbeonbfkmaaW.PrintMore Go.Proofs.YtcalcbeonbfkmaaO
attribute [local go_sem] max2_int min2_int max_two min_two max_three min_three max_four min_four
set_option linter.unusedVariables false
set_option linter.unusedSimpArgs false
def brk (y : S52) : Prop := y.f0 = 17 ∨ y.f0 = 20
def NxOK (ds : List Bool) (x : Int) : Prop := x < 0 ∨ ∃ q : Nat, x = (q : Int) ∧ q < ds.length ∧ ds.getD q false = true
def Rk (f : Nat → Nat) (ds : List Bool) (p : Nat) (x : Int) : Prop := x < 0 ∨ ∃ q : Nat, x = (q : Int) ∧ q < ds.length ∧ ds.getD q false = true ∧ f q < f p
structure Gone (l : List S52) (ds : List Bool) : Prop where
  len : ds.length = l.length
  rk : ∃ (f : Nat → Nat) (B : Nat), ∀ p : Nat, p < l.length → ds.getD p false = true → f p < B ∧ (brk (rd_T52 l (p : Int)) ∨ (Rk f ds p (rd_T52 l (p : Int)).f6.f0 ∧ Rk f ds p (rd_T52 l (p : Int)).f6.f1))
/-- Each way that comes back comes through a loop's head. -/
def Ranked (l : List S52) (f : Nat → Nat) : Prop := ∀ p : Nat, p < l.length → brk (rd_T52 l (p : Int)) ∨ ∀ x : Int, x = (rd_T52 l (p : Int)).f6.f0 ∨ x = (rd_T52 l (p : Int)).f6.f1 → x < 0 ∨ ∃ q : Nat, x = (q : Int) ∧ q < l.length ∧ f q < f p
def EndsP (G : Gr) (b : Bool) : Prop := b = true → ∃ f, Ranked G.l0 f
theorem getB_set {l : List Bool} {i j : Nat} {v : Bool} (hi : i < l.length) : (l.set i v).getD j false = if i = j then v else l.getD j false := by
  rw [List.getD_eq_getElem?_getD, List.getElem?_set]
  by_cases e : i = j
  · rw [if_pos e, if_pos e, if_pos hi]; rfl
  · rw [if_neg e, if_neg e, List.getD_eq_getElem?_getD]
def falses (l : List Bool) : Nat := l.countP (fun x => !x)
theorem falses_set {l : List Bool} {i : Nat} (hi : i < l.length) (h0 : l.getD i false = false) : falses (l.set i true) + 1 = falses l := by
  have e : l[i] = false := by rw [List.getD_eq_getElem?_getD, List.getElem?_eq_getElem hi] at h0; exact h0
  have hp : 0 < l.countP (fun x => !x) := List.countP_pos_iff.mpr ⟨l[i], List.getElem_mem hi, by rw [e]; rfl⟩
  unfold falses
  rw [List.countP_set hi, if_pos (by rw [e]; rfl), if_neg (by decide)]
  omega
theorem Gone.start {l : List S52} : Gone l (List.replicate l.length false) :=
  ⟨List.length_replicate, fun _ => 0, 0, fun p hp h => by
    rw [List.getD_eq_getElem?_getD, List.getElem?_replicate, if_pos hp] at h
    exact nomatch h⟩
theorem Gone.put {l : List S52} {ds : List Bool} (h : Gone l ds) {p : Nat} (hp : p < l.length) (h0 : ds.getD p false = false) (hg : brk (rd_T52 l (p : Int)) ∨ (NxOK ds (rd_T52 l (p : Int)).f6.f0 ∧ NxOK ds (rd_T52 l (p : Int)).f6.f1)) : Gone l (ds.set p true) := by
  have hl : p < ds.length := by rw [h.len]; exact hp
  obtain ⟨f, B, hf⟩ := h.rk
  refine ⟨by rw [List.length_set]; exact h.len, fun q => if q = p then B else f q, B + 1, fun q hq hqt => ?_⟩
  by_cases e : q = p
  · subst e
    refine ⟨by simp, hg.imp id fun ⟨g0, g1⟩ => ?_⟩
    have go : ∀ x, NxOK ds x → Rk (fun r => if r = q then B else f r) (ds.set q true) q x := fun x hx => hx.imp id fun ⟨r, e1, e2, e3⟩ => by
      have hne : ¬ r = q := fun e4 => by rw [e4, h0] at e3; exact nomatch e3
      refine ⟨r, e1, by rw [List.length_set]; exact e2, by rw [getB_set hl, if_neg (fun e4 => hne e4.symm)]; exact e3, ?_⟩
      show (if r = q then B else f r) < (if q = q then B else f q)
      rw [if_neg hne, if_pos rfl]
      exact (hf r (by rw [← h.len]; exact e2) e3).1
    exact ⟨go _ g0, go _ g1⟩
  · have hqd : ds.getD q false = true := by rw [getB_set hl, if_neg (fun e2 => e e2.symm)] at hqt; exact hqt
    obtain ⟨h1, h2⟩ := hf q hq hqd
    refine ⟨by show (if q = p then B else f q) < B + 1; rw [if_neg e]; omega, h2.imp id fun ⟨g0, g1⟩ => ?_⟩
    have go : ∀ x, Rk f ds q x → Rk (fun r => if r = p then B else f r) (ds.set p true) q x := fun x hx => hx.imp id fun ⟨r, e1, e2, e3, e4⟩ => by
      have hne : ¬ r = p := fun e5 => by rw [e5, h0] at e3; exact nomatch e3
      refine ⟨r, e1, by rw [List.length_set]; exact e2, by rw [getB_set hl, if_neg (fun e5 => hne e5.symm)]; exact e3, ?_⟩
      show (if r = p then B else f r) < (if q = p then B else f q)
      rw [if_neg hne, if_neg e]
      exact e4
    exact ⟨go _ g0, go _ g1⟩
theorem Gone.done {l : List S52} {ds : List Bool} (h : Gone l ds) (ha : ∀ p : Nat, p < l.length → ds.getD p false = true) : ∃ f, Ranked l f := by
  obtain ⟨f, B, hf⟩ := h.rk
  refine ⟨f, fun p hp => (hf p hp (ha p hp)).2.imp id fun ⟨g0, g1⟩ x hx => ?_⟩
  have go : ∀ x, Rk f ds p x → x < 0 ∨ ∃ q : Nat, x = (q : Int) ∧ q < l.length ∧ f q < f p := fun x hx => hx.imp id fun ⟨r, e1, e2, _, e4⟩ => ⟨r, e1, by rw [← h.len]; exact e2, e4⟩
  rcases hx with rfl | rfl
  · exact go _ g0
  · exact go _ g1
set_option maxHeartbeats 8000000 in
set_option maxRecDepth 100000 in
theorem ends_calls (G : Gr) (w : World) (hG : G.Held w) (hn0 : G.l0.length ≤ 4096) (hn1 : 1 ≤ G.l0.length)
    (hx : ∀ p : Nat, p < G.l0.length → (rd_T52 G.l0 (p : Int)).f6.f0 < (G.l0.length : Int) ∧ (rd_T52 G.l0 (p : Int)).f6.f1 < (G.l0.length : Int)) : Calls Try.prog 24 #[G.v] w fun e w' => RetB e (EndsP G) ∧ Below w.heap.size w w' := by
  have hix0 : ∀ (y0_ : Int) (y1_ : Int) (W : World), (Instr.index 50 (.agg #[.int .i64 y0_, .int .i64 y1_]) (.int .i64 0)).run Try.prog W = .ok (.int .i64 y0_) W := fun _ _ _ => by kernel_rfl
  have hix1 : ∀ (y0_ : Int) (y1_ : Int) (W : World), (Instr.index 50 (.agg #[.int .i64 y0_, .int .i64 y1_]) (.int .i64 1)).run Try.prog W = .ok (.int .i64 y1_) W := fun _ _ _ => by kernel_rfl
  obtain ⟨A0, c0, l0, a1, a2, a3, A4, c4, l4, A5, c5, l5, A6, c6, l6, A7, c7, l7⟩ := G
  obtain ⟨H0, H4, H5, H6, H7, k0, k5, k7⟩ := hG
  simp only [Gr.v] at *
  have hu28 := Try.underlying28
  have hu52 := Try.underlying52
  have hu50 := Try.underlying50
  have HB := Aside0.mk (Below.refl w.heap.size w)
  have Q0 := Aside0.mk H0
  have KX := Aside0.mk hx
  clear H0 H4 H5 H6 H7 hx
  obtain ⟨ad0, ee, _, _, _, _, _, _, _, _⟩ := at_T52 Q0.out 0 (by omega) (by omega)
  cases ee
  go_enter Try.func24, Try.ntmps24
  go_wp2_with (first | ((with_reducible refine gate_dst (N := 1) rfl ?_); refine boxQ 1 #[.slice (some ad0) l0.length c0, .int .i64 a1, .int .i64 a2, .int .i64 a3, .slice A4 l4.length c4, .slice A5 l5.length c5, .slice A6 l6.length c6, .slice A7 l7.length c7] 28 HB ?_; clear HB; intro gb w1 _ GW BK _ HB; have hcf := hcf8 BK; obtain ⟨_, _, _, _, _, _, _, _, _, _, _, _, _, _, _, _⟩ := hcf) | ((with_reducible refine gate_dst (N := 14) rfl ?_); refine Kd.R_make Kd.bool _ 4 rfl (N := 14) rfl 89 _ _ rfl (l0.length : Int) rfl rfl Try.underlying89 (.bool false) 1 info4 rfl (by decide) (by omega) false (ok := fun _ => True) (okp := fun _ => True) rfl (fun _ hk => hk) trivial (by omega) (by rw [Int.toNat_natCast]; omega) (Below.refl _ _) (Nat.le_refl _) ?_; intro v wo ho hb hg_ hnew_; clear hg_ hnew_; rw [Int.toNat_natCast] at ho; have HO := Aside0.mk (Kd.R_lower ho (below_size (bpk HB).out)); replace BK := bbw BK hb; replace HB := bst HB hb; clear hb ho; obtain ⟨go, co, eo, gB, gL, cL, HG⟩ := Kd.R_form HO.out (by rw [List.length_replicate]; omega); subst eo; have GB := Aside0.mk gB; clear gB gL HG cL; rw [List.length_replicate] at HO ⊢))
  go_loopg [4] (2 * falses (List.replicate l0.length false) + 1) (fun kq v4 wr => ∃ (ds : List Bool) (m : Bool), v4 = .bool m ∧ Aside0 (Gone l0 ds ∧ 2 * falses ds + (if m = true then 1 else 0) ≤ kq) ∧ Aside0 (Kd.R Kd.bool 4 wr w.heap.size (fun _ => True) (.slice (some ⟨go, 0, none⟩) l0.length co) ds) ∧ Aside0 (wr.heap[gb]? = some (.cells #[.slice (some ad0) l0.length c0, .int .i64 a1, .int .i64 a2, .int .i64 a3, .slice A4 l4.length c4, .slice A5 l5.length c5, .slice A6 l6.length c6, .slice A7 l7.length c7] 28 (0, 0))) ∧ Aside0 (Below w.heap.size w wr))
  case atStart => exact ⟨_, true, rfl, ⟨Gone.start, Nat.le_refl _⟩, ⟨rup HO⟩, pkA BK, bpk HB⟩
  case round =>
   rename World => wl
   clear HB BK HO
   obtain ⟨ds, m, rfl, HGm, HO, BK, HB⟩ := hrel
   have hcf := hcf8 BK
   obtain ⟨_, _, _, _, _, _, _, _, _, _, _, _, _, _, _, _⟩ := hcf
   cases m with
   | true =>
     obtain ⟨HG0, HM⟩ := HGm.out
     clear HGm
     have HM2 : 2 * falses ds + 1 ≤ gk := HM
     clear HM
     have HGM := Aside0.mk HM2
     have HG := Aside0.mk HG0
     clear HM2 HG0
     generalize hfd : falses ds = fd at HGM
     have hwl : IntKind.i64.wrap ((l0.length : Int) - 1) = (l0.length : Int) - 1 := (i64_w _).trans (Go.Proofs.Ytcalcbeonbfkmaa.M.wrap64_in _ (by omega))
     go_wp2
     go_loopw [4, 5] (fun v4 v5 wr => ∃ (ds : List Bool) (m : Bool) (z : Int), v4 = .bool m ∧ v5 = .int .i64 z ∧ -1 ≤ z ∧ z < (l0.length : Int) ∧ Aside0 (Gone l0 ds ∧ falses ds ≤ fd ∧ (m = true → falses ds + 1 ≤ fd)) ∧ Aside0 (Kd.R Kd.bool 4 wr w.heap.size (fun _ => True) (.slice (some ⟨go, 0, none⟩) l0.length co) ds) ∧ Aside0 (wr.heap[gb]? = some (.cells #[.slice (some ad0) l0.length c0, .int .i64 a1, .int .i64 a2, .int .i64 a3, .slice A4 l4.length c4, .slice A5 l5.length c5, .slice A6 l6.length c6, .slice A7 l7.length c7] 28 (0, 0))) ∧ Aside0 (Below w.heap.size w wr)) (fun _ v5 _ => (intOf v5 + 1).toNat)
     case atStart => exact ⟨ds, false, (l0.length : Int) - 1, rfl, by first | rfl | simp, by omega, by omega, ⟨HG.out, by omega, fun h => nomatch h⟩, ⟨rup HO⟩, pkA BK, bpk HB⟩
     case round =>
      rename World => wm
      clear HB BK HO HG hfd ds
      obtain ⟨ds, m, z, rfl, rfl, hz0, hz1, HG, HO, BK, HB⟩ := hrel
      have hcf := hcf8 BK
      obtain ⟨_, _, _, _, _, _, _, _, _, _, _, _, _, _, _, _⟩ := hcf
      by_cases hz : 0 ≤ z
      · obtain ⟨p, rfl⟩ : ∃ p : Nat, z = (p : Int) := ⟨z.toNat, by omega⟩
        have hzb : decide (0 ≤ (p : Int)) = true := decide_eq_true hz
        have hwz : IntKind.i64.wrap ((p : Int) - 1) = (p : Int) - 1 := (i64_w _).trans (Go.Proofs.Ytcalcbeonbfkmaa.M.wrap64_in _ (by omega))
        obtain ⟨ad1, ee, hx_0, hx_1, hx_2, hx_3, hx_4, hx_5, hx_6, hx_7⟩ := at_T52 Q0.out (p : Int) (by omega) (by omega)
        replace hx_0 := (HB.out.cell (World.block_lt_of_cell? w _ hx_0)).trans hx_0
        replace hx_1 := (HB.out.cell (World.block_lt_of_cell? w _ hx_1)).trans hx_1
        replace hx_2 := (HB.out.cell (World.block_lt_of_cell? w _ hx_2)).trans hx_2
        replace hx_3 := (HB.out.cell (World.block_lt_of_cell? w _ hx_3)).trans hx_3
        replace hx_4 := (HB.out.cell (World.block_lt_of_cell? w _ hx_4)).trans hx_4
        replace hx_5 := (HB.out.cell (World.block_lt_of_cell? w _ hx_5)).trans hx_5
        replace hx_6 := (HB.out.cell (World.block_lt_of_cell? w _ hx_6)).trans hx_6
        replace hx_7 := (HB.out.cell (World.block_lt_of_cell? w _ hx_7)).trans hx_7
        obtain ⟨xn0, xn1⟩ := KX.out p (by omega)
        (try dsimp only at xn0 xn1)
        generalize hy : rd_T52 l0 (p : Int) = y at hx_0 hx_1 hx_2 hx_3 hx_4 hx_5 hx_6 hx_7 xn0 xn1
        cases ee
        simp only [Int.toNat_natCast] at hx_0 hx_1 hx_2 hx_3 hx_4 hx_5 hx_6 hx_7
        obtain ⟨hc, hf⟩ := Kd.R_celln false HO.out (p : Int) (by omega) (by omega)
        have HP := Kd.R_putg HO.out (p : Int) true
        simp only [Int.toNat_natCast] at hc hf HP
        replace hc : wm.cell? ⟨go, p, none⟩ = some (.bool (ds.getD p false)) := hc
        obtain ⟨dv, hdv⟩ : ∃ dv, ds.getD p false = dv := ⟨_, rfl⟩
        rw [hdv] at hc
        have p1 : ((0 : Int) ≤ (p : Int)) = True := eq_true (by omega)
        have q1 : ((p : Int) < (l0.length : Int)) = True := eq_true (by omega)
        have q2 : (p < l0.length) = True := eq_true (by omega)
        have KH := Aside0.mk (And.intro hdv hy)
        clear hdv hy
        have KN := Aside0.mk (And.intro xn0 xn1)
        clear xn0 xn1
        cases dv with
        | true =>
          go_wp2
          go_roundw
          case measure => simp [intOf] <;> omega
          case rel => exact ⟨ds, m, (p : Int) - 1, rfl, by first | rfl | simp, by omega, by omega, HG, ⟨rup HO⟩, pkA BK, bpk HB⟩
        | false =>
          by_cases hbk : brk y
          · have hK := Aside0.mk hbk
            clear KN
            by_cases b1 : y.f0 = 17
            · have b1b : (y.f0 != 17) = false := bne_eq_false_iff_eq.mpr b1
              clear hbk
              go_wp2_with (first | ((with_reducible refine gate_store (t := 4) (p := 68) rfl ?_); refine store_event (t := 4) (p := 68) (v := ?vo68_1) (w1 := (wm.setCell ⟨go, p, none⟩ (.bool true))) ?hg ?ho ?hn ?hr ?_; (case ho => rfl); (case hg => rfl); (case hn => rfl); (case hr => first | (go_simp; done) | (go_simp; rfl)); intro wq hw; have hg : wm.grownBy wq (some go) := (by rw [hw]; exact HP.2); have n0_ : Aside0 (Kd.R Kd.bool 4 wq w.heap.size (fun _ => True) (.slice (some ⟨go, 0, none⟩) l0.length co) (ds.set p true)) := ⟨by rw [hw]; exact HP.1⟩; have n1_ := Aside0.mk (blk_grown (pkA BK).out hg (Kd.R_ne HO.out BK.out (by decide))); have n2_ : Aside0 (Below w.heap.size w wq) := ⟨by rw [hw]; exact below_set HB.out GB.out⟩; clear HP HO BK HB; have HO := n0_; have BK := n1_; have HB := n2_; clear n0_ n1_ n2_ hg hw))
              go_roundw
              case measure => simp [intOf] <;> omega
              case rel => exact ⟨ds.set p true, true, (p : Int) - 1, rfl, by first | rfl | simp, by omega, by omega, ⟨HG.out.1.put (by omega) KH.out.1 (by rw [KH.out.2]; exact .inl hK.out), by have := falses_set (l := ds) (i := p) (by rw [HG.out.1.len]; omega) KH.out.1; have := HG.out.2.1; omega, fun _ => by have := falses_set (l := ds) (i := p) (by rw [HG.out.1.len]; omega) KH.out.1; have := HG.out.2.1; omega⟩, ⟨rup HO⟩, pkA BK, bpk HB⟩
            · have b1b : (y.f0 != 17) = true := bne_iff_ne.mpr b1
              have b2b : (y.f0 != 20) = false := bne_eq_false_iff_eq.mpr (hbk.resolve_left b1)
              clear hbk b1
              go_wp2_with (first | ((with_reducible refine gate_store (t := 4) (p := 68) rfl ?_); refine store_event (t := 4) (p := 68) (v := ?vo68_2) (w1 := (wm.setCell ⟨go, p, none⟩ (.bool true))) ?hg ?ho ?hn ?hr ?_; (case ho => rfl); (case hg => rfl); (case hn => rfl); (case hr => first | (go_simp; done) | (go_simp; rfl)); intro wq hw; have hg : wm.grownBy wq (some go) := (by rw [hw]; exact HP.2); have n0_ : Aside0 (Kd.R Kd.bool 4 wq w.heap.size (fun _ => True) (.slice (some ⟨go, 0, none⟩) l0.length co) (ds.set p true)) := ⟨by rw [hw]; exact HP.1⟩; have n1_ := Aside0.mk (blk_grown (pkA BK).out hg (Kd.R_ne HO.out BK.out (by decide))); have n2_ : Aside0 (Below w.heap.size w wq) := ⟨by rw [hw]; exact below_set HB.out GB.out⟩; clear HP HO BK HB; have HO := n0_; have BK := n1_; have HB := n2_; clear n0_ n1_ n2_ hg hw))
              go_roundw
              case measure => simp [intOf] <;> omega
              case rel => exact ⟨ds.set p true, true, (p : Int) - 1, rfl, by first | rfl | simp, by omega, by omega, ⟨HG.out.1.put (by omega) KH.out.1 (by rw [KH.out.2]; exact .inl hK.out), by have := falses_set (l := ds) (i := p) (by rw [HG.out.1.len]; omega) KH.out.1; have := HG.out.2.1; omega, fun _ => by have := falses_set (l := ds) (i := p) (by rw [HG.out.1.len]; omega) KH.out.1; have := HG.out.2.1; omega⟩, ⟨rup HO⟩, pkA BK, bpk HB⟩
          · have b1b : (y.f0 != 17) = true := bne_iff_ne.mpr fun h => hbk (.inl h)
            have b2b : (y.f0 != 20) = true := bne_iff_ne.mpr fun h => hbk (.inr h)
            clear hbk
            go_wp2
            clear HP hc hf
            go_loopw [6, 50] (fun v6 v50 wr => ∃ (k : Nat) (fr : Bool), k ≤ 2 ∧ v6 = .bool fr ∧ v50 = .int .i64 (k : Int) ∧ Aside0 (fr = true → (1 ≤ k → NxOK ds y.f6.f0) ∧ (2 ≤ k → NxOK ds y.f6.f1)) ∧ Aside0 (Kd.R Kd.bool 4 wr w.heap.size (fun _ => True) (.slice (some ⟨go, 0, none⟩) l0.length co) ds) ∧ Aside0 (wr.heap[gb]? = some (.cells #[.slice (some ad0) l0.length c0, .int .i64 a1, .int .i64 a2, .int .i64 a3, .slice A4 l4.length c4, .slice A5 l5.length c5, .slice A6 l6.length c6, .slice A7 l7.length c7] 28 (0, 0))) ∧ Aside0 (Below w.heap.size w wr)) (fun _ v50 _ => 2 - (intOf v50).toNat)
            case atStart => exact ⟨0, true, by omega, rfl, rfl, ⟨fun _ => ⟨fun h => absurd h (by omega), fun h => absurd h (by omega)⟩⟩, ⟨rup HO⟩, pkA BK, bpk HB⟩
            case round =>
             rename World => wi
             clear HB BK HO hx_0 hx_1 hx_2 hx_3 hx_4 hx_5 hx_6 hx_7
             obtain ⟨k, fr, hk, rfl, rfl, HF, HO, BK, HB⟩ := hrel
             have hcf := hcf8 BK
             obtain ⟨_, _, _, _, _, _, _, _, _, _, _, _, _, _, _, _⟩ := hcf
             rcases (show k = 0 ∨ k = 1 ∨ k = 2 by omega) with rfl | rfl | rfl
             · have hk2 : decide ((0 : Int) < 2) = true := by decide
               obtain ⟨x, hxx⟩ : ∃ x, y.f6.f0 = x := ⟨_, rfl⟩
               have KQ := KN.out.1
               rw [hxx] at KQ
               cases fr with
               | false =>
                 clear KQ
                 skip
                 go_wp2
                 go_roundw
                 case measure => simp [intOf]
                 case rel => exact ⟨1, _, by omega, rfl, rfl, ⟨fun h => nomatch h⟩, ⟨rup HO⟩, pkA BK, bpk HB⟩
               | true =>
                 by_cases x0 : x < 0
                 · have x0b : decide (x < 0) = true := decide_eq_true x0
                   have KO : Aside0 (NxOK ds y.f6.f0) := ⟨.inl (by rw [hxx]; exact x0)⟩
                   clear x0 KQ
                   go_wp2
                   go_roundw
                   case measure => simp [intOf]
                   case rel => exact ⟨1, _, by omega, rfl, rfl, ⟨fun _ => ⟨fun _ => KO.out, fun h => absurd h (by omega)⟩⟩, ⟨rup HO⟩, pkA BK, bpk HB⟩
                 · have x0b : decide (x < 0) = false := decide_eq_false x0
                   obtain ⟨q, rfl⟩ : ∃ q : Nat, x = (q : Int) := ⟨x.toNat, by omega⟩
                   obtain ⟨hc, hf⟩ := Kd.R_celln false HO.out (q : Int) (by omega) (by omega)
                   simp only [Int.toNat_natCast] at hc hf
                   replace hc : wi.cell? ⟨go, q, none⟩ = some (.bool (ds.getD q false)) := hc
                   obtain ⟨dq, hdq⟩ : ∃ dq, ds.getD q false = dq := ⟨_, rfl⟩
                   rw [hdq] at hc
                   have p2 : ((0 : Int) ≤ (q : Int)) = True := eq_true (by omega)
                   have q3 : ((q : Int) < (l0.length : Int)) = True := eq_true (by omega)
                   have q4 : (q < l0.length) = True := eq_true (by omega)
                   cases dq with
                   | false =>
                     clear hdq KQ
                     go_wp2
                     go_roundw
                     case measure => simp [intOf]
                     case rel => exact ⟨1, _, by omega, rfl, rfl, ⟨fun h => nomatch h⟩, ⟨rup HO⟩, pkA BK, bpk HB⟩
                   | true =>
                     have KO : Aside0 (NxOK ds y.f6.f0) := ⟨.inr ⟨q, hxx, by rw [HG.out.1.len]; omega, hdq⟩⟩
                     clear hdq KQ
                     go_wp2
                     go_roundw
                     case measure => simp [intOf]
                     case rel => exact ⟨1, _, by omega, rfl, rfl, ⟨fun _ => ⟨fun _ => KO.out, fun h => absurd h (by omega)⟩⟩, ⟨rup HO⟩, pkA BK, bpk HB⟩
             · have hk2 : decide ((1 : Int) < 2) = true := by decide
               obtain ⟨x, hxx⟩ : ∃ x, y.f6.f1 = x := ⟨_, rfl⟩
               have KQ := KN.out.2
               rw [hxx] at KQ
               cases fr with
               | false =>
                 clear KQ
                 skip
                 go_wp2
                 go_roundw
                 case measure => simp [intOf]
                 case rel => exact ⟨2, _, by omega, rfl, rfl, ⟨fun h => nomatch h⟩, ⟨rup HO⟩, pkA BK, bpk HB⟩
               | true =>
                 by_cases x0 : x < 0
                 · have x0b : decide (x < 0) = true := decide_eq_true x0
                   have KO : Aside0 (NxOK ds y.f6.f1) := ⟨.inl (by rw [hxx]; exact x0)⟩
                   clear x0 KQ
                   go_wp2
                   go_roundw
                   case measure => simp [intOf]
                   case rel => exact ⟨2, _, by omega, rfl, rfl, ⟨fun _ => ⟨fun _ => (HF.out rfl).1 (by omega), fun h => KO.out⟩⟩, ⟨rup HO⟩, pkA BK, bpk HB⟩
                 · have x0b : decide (x < 0) = false := decide_eq_false x0
                   obtain ⟨q, rfl⟩ : ∃ q : Nat, x = (q : Int) := ⟨x.toNat, by omega⟩
                   obtain ⟨hc, hf⟩ := Kd.R_celln false HO.out (q : Int) (by omega) (by omega)
                   simp only [Int.toNat_natCast] at hc hf
                   replace hc : wi.cell? ⟨go, q, none⟩ = some (.bool (ds.getD q false)) := hc
                   obtain ⟨dq, hdq⟩ : ∃ dq, ds.getD q false = dq := ⟨_, rfl⟩
                   rw [hdq] at hc
                   have p2 : ((0 : Int) ≤ (q : Int)) = True := eq_true (by omega)
                   have q3 : ((q : Int) < (l0.length : Int)) = True := eq_true (by omega)
                   have q4 : (q < l0.length) = True := eq_true (by omega)
                   cases dq with
                   | false =>
                     clear hdq KQ
                     go_wp2
                     go_roundw
                     case measure => simp [intOf]
                     case rel => exact ⟨2, _, by omega, rfl, rfl, ⟨fun h => nomatch h⟩, ⟨rup HO⟩, pkA BK, bpk HB⟩
                   | true =>
                     have KO : Aside0 (NxOK ds y.f6.f1) := ⟨.inr ⟨q, hxx, by rw [HG.out.1.len]; omega, hdq⟩⟩
                     clear hdq KQ
                     go_wp2
                     go_roundw
                     case measure => simp [intOf]
                     case rel => exact ⟨2, _, by omega, rfl, rfl, ⟨fun _ => ⟨fun _ => (HF.out rfl).1 (by omega), fun h => KO.out⟩⟩, ⟨rup HO⟩, pkA BK, bpk HB⟩
             · have hk2 : decide ((2 : Int) < 2) = false := by decide
               cases fr with
               | false =>
                 go_wp2
                 go_roundw
                 case measure => simp [intOf] <;> omega
                 case rel => exact ⟨ds, m, (p : Int) - 1, rfl, by first | rfl | simp, by omega, by omega, HG, ⟨rup HO⟩, pkA BK, bpk HB⟩
               | true =>
                 have HF2 := HF.out rfl
                 have HNX := Aside0.mk (And.intro (HF2.1 (by omega)) (HF2.2 (by omega)))
                 clear HF HF2
                 obtain ⟨hc, hf⟩ := Kd.R_celln false HO.out (p : Int) (by omega) (by omega)
                 have HP := Kd.R_putg HO.out (p : Int) true
                 simp only [Int.toNat_natCast] at hc hf HP
                 go_wp2_with (first | ((with_reducible refine gate_store (t := 4) (p := 68) rfl ?_); refine store_event (t := 4) (p := 68) (v := ?vo68_3) (w1 := (wi.setCell ⟨go, p, none⟩ (.bool true))) ?hg ?ho ?hn ?hr ?_; (case ho => rfl); (case hg => rfl); (case hn => rfl); (case hr => first | (go_simp; done) | (go_simp; rfl)); intro wq hw; have hg : wi.grownBy wq (some go) := (by rw [hw]; exact HP.2); have n0_ : Aside0 (Kd.R Kd.bool 4 wq w.heap.size (fun _ => True) (.slice (some ⟨go, 0, none⟩) l0.length co) (ds.set p true)) := ⟨by rw [hw]; exact HP.1⟩; have n1_ := Aside0.mk (blk_grown (pkA BK).out hg (Kd.R_ne HO.out BK.out (by decide))); have n2_ : Aside0 (Below w.heap.size w wq) := ⟨by rw [hw]; exact below_set HB.out GB.out⟩; clear HP HO BK HB; have HO := n0_; have BK := n1_; have HB := n2_; clear n0_ n1_ n2_ hg hw))
                 go_roundw
                 case measure => simp [intOf] <;> omega
                 case rel => exact ⟨ds.set p true, true, (p : Int) - 1, rfl, by first | rfl | simp, by omega, by omega, ⟨HG.out.1.put (by omega) KH.out.1 (by rw [KH.out.2]; exact .inr HNX.out), by have := falses_set (l := ds) (i := p) (by rw [HG.out.1.len]; omega) KH.out.1; have := HG.out.2.1; omega, fun _ => by have := falses_set (l := ds) (i := p) (by rw [HG.out.1.len]; omega) KH.out.1; have := HG.out.2.1; omega⟩, ⟨rup HO⟩, pkA BK, bpk HB⟩
      · have hzb : decide (0 ≤ z) = false := decide_eq_false hz
        go_wp2
        go_roundg (2 * falses ds + (if m = true then 1 else 0))
        case measure => have h1 := HG.out.2.1; have h2 := HG.out.2.2; have h3 := HGM.out; cases m with | true => have := h2 rfl; simp only [if_pos]; omega | false => simp; omega
        case rel => exact ⟨ds, m, rfl, ⟨HG.out.1, Nat.le_refl _⟩, ⟨rup HO⟩, pkA BK, bpk HB⟩
   | false =>
     have HG := Aside0.mk HGm.out.1
     clear HGm
     go_wp2
     go_loopw [71] (fun i wr => ∃ k : Nat, k ≤ l0.length ∧ i = .int .i64 (k : Int) ∧ Aside0 (∀ j : Nat, j < k → ds.getD j false = true) ∧ Aside0 (Kd.R Kd.bool 4 wr w.heap.size (fun _ => True) (.slice (some ⟨go, 0, none⟩) l0.length co) ds) ∧ Aside0 (wr.heap[gb]? = some (.cells #[.slice (some ad0) l0.length c0, .int .i64 a1, .int .i64 a2, .int .i64 a3, .slice A4 l4.length c4, .slice A5 l5.length c5, .slice A6 l6.length c6, .slice A7 l7.length c7] 28 (0, 0))) ∧ Aside0 (Below w.heap.size w wr)) (fun i _ => l0.length - (intOf i).toNat)
     case atStart => exact ⟨0, Nat.zero_le _, rfl, ⟨fun j hj => absurd hj (Nat.not_lt_zero j)⟩, ⟨rup HO⟩, pkA BK, bpk HB⟩
     case round =>
      rename World => wf
      clear HB BK HO
      obtain ⟨k, hk, rfl, HA, HO, BK, HB⟩ := hrel
      by_cases hlt : k < l0.length
      · have hlt2 : decide ((k : Int) < (l0.length : Int)) = true := decide_eq_true (by omega)
        obtain ⟨hc, hf⟩ := Kd.R_celln false HO.out (k : Int) (by omega) (by omega)
        simp only [Int.toNat_natCast] at hc hf
        replace hc : wf.cell? ⟨go, k, none⟩ = some (.bool (ds.getD k false)) := hc
        obtain ⟨dq, hdq⟩ : ∃ dq, ds.getD k false = dq := ⟨_, rfl⟩
        rw [hdq] at hc
        have KH := Aside0.mk hdq
        clear hdq
        cases dq with
        | true =>
          go_wp2
          go_roundw
          case measure => simp [intOf]; omega
          case rel => exact ⟨k + 1, by omega, by simp, ⟨upto_next HA.out KH.out⟩, ⟨rup HO⟩, pkA BK, bpk HB⟩
        | false =>
          go_wp2
          go_ret
          exact ⟨⟨_, rfl, fun h => nomatch h⟩, (bpk HB).out⟩
      · obtain rfl : k = l0.length := by omega
        have hlt2 : decide ((l0.length : Int) < (l0.length : Int)) = false := decide_eq_false (by omega)
        go_wp2
        go_ret
        exact ⟨⟨_, rfl, fun _ => HG.out.done HA.out⟩, (bpk HB).out⟩
end Go.Proofs.Ytcalcbeonbfkmaa.P
