/- What the law's proof needs of F10. -/
import Derived.Test.YtcalcbeonbfkmaaTrRF9
namespace Go.Proofs.Ytcalcbeonbfkmaa.P
open Go.RowKit Go.Proofs.YtcalcbeonbfkmaaW.PrintWords Go.Proofs.YtcalcbeonbfkmaaW.PrintLast Go.Proofs.YtcalcbeonbfkmaaW.PrintMore Go.Proofs.YtcalcbeonbfkmaaO
attribute [local go_sem] max2_int min2_int max_two min_two max_three min_three max_four min_four
set_option linter.unusedVariables false
set_option linter.unusedSimpArgs false
/-- A register that may be taken at place p. -/
def RegOK (G : Gr) (ds : List Int) (p : Nat) (r : Int) : Prop := 0 ≤ r ∧ r < G.regs ∧ ((G.l5.length : Int) ≤ r → ds.getD (r - (G.l5.length : Int)).toNat 0 < (p : Int))
structure InstrOK (G : Gr) (ds : List Int) (p : Nat) (y : S52) : Prop where
  op : 1 ≤ y.f0 ∧ y.f0 ≤ 21
  lp : y.f0 = 17 → (p : Int) = G.loop
  ba : y.f0 = 2 ∨ y.f0 = 3 → y.f3 = 0
  nx : (y.f0 = 21 → y.f6.f0 = -1 ∧ y.f6.f1 = -1) ∧ (y.f0 ≠ 21 → 0 ≤ y.f6.f0 ∧ y.f6.f0 < (G.l0.length : Int)) ∧ (y.f0 = 15 → 0 ≤ y.f6.f1 ∧ y.f6.f1 < (G.l0.length : Int)) ∧ (y.f0 ≠ 15 → y.f6.f1 = -1)
  u1 : y.f0 = 2 ∨ y.f0 = 3 ∨ y.f0 = 13 → RegOK G ds p y.f2
  u2 : 4 ≤ y.f0 ∧ y.f0 ≤ 10 ∨ y.f0 = 15 → RegOK G ds p y.f2 ∧ RegOK G ds p y.f3
  u3 : y.f0 = 11 → RegOK G ds p y.f3
  u4 : y.f0 = 14 → RegOK G ds p y.f1 ∧ RegOK G ds p y.f3
  ar : y.f0 = 11 ∨ y.f0 = 14 → 0 ≤ y.f2 ∧ y.f2 < (G.l6.length : Int)
  inp : y.f0 = 12 → 0 ≤ y.f2 ∧ y.f2 < (G.l4.length : Int)
  st : y.f0 = 13 → 0 ≤ y.f1 ∧ y.f1 < (G.l5.length : Int)
  num : y.f0 = 1 → -2147483648 ≤ y.f4 ∧ y.f4 ≤ 2147483647
  tst : y.f0 = 15 → 14 ≤ y.f4 ∧ y.f4 ≤ 19
theorem InstrOK.nlt {G : Gr} {ds : List Int} {p : Nat} {y : S52} (h : InstrOK G ds p y) : y.f6.f0 < (G.l0.length : Int) ∧ y.f6.f1 < (G.l0.length : Int) := by
  obtain ⟨h1, h2, h3, h4⟩ := h.nx
  refine ⟨?_, ?_⟩
  · by_cases e : y.f0 = 21
    · have := (h1 e).1; omega
    · exact (h2 e).2
  · by_cases e : y.f0 = 15
    · exact (h3 e).2
    · have := h4 e; omega
/-- What a stored temp's register says of the place where it is made. -/
theorem use13 {G : Gr} {ds : List Int} {p : Nat} {y : S52} (hD : DefsOK G ds) (h5 : G.l5.length ≤ 64) (hl : ds.length ≤ 4096) (hr : RegOK G ds p y.f2) (hp : p ≤ G.l0.length) (hI : ∀ q : Nat, q < p → InstrOK G ds q (rd_T52 G.l0 (q : Int)))
    (h : (G.l5.length : Int) ≤ y.f2) : wrap64 (y.f2 - (G.l5.length : Int)) < (ds.length : Int) ∧ 0 ≤ wrap64 (y.f2 - (G.l5.length : Int)) ∧ 0 ≤ rd ds (wrap64 (y.f2 - (G.l5.length : Int))) ∧ rd ds (wrap64 (y.f2 - (G.l5.length : Int))) < (G.l0.length : Int) ∧
      ((rd_T52 G.l0 (rd ds (wrap64 (y.f2 - (G.l5.length : Int))))).f0 = 12 → 0 ≤ (rd_T52 G.l0 (rd ds (wrap64 (y.f2 - (G.l5.length : Int))))).f2 ∧ (rd_T52 G.l0 (rd ds (wrap64 (y.f2 - (G.l5.length : Int))))).f2 < (G.l4.length : Int)) := by
  obtain ⟨r0, r1, r2⟩ := hr
  have hg := hD.regs
  obtain ⟨j, hj⟩ : ∃ j : Nat, y.f2 - (G.l5.length : Int) = (j : Int) := ⟨(y.f2 - (G.l5.length : Int)).toNat, by omega⟩
  have hw : wrap64 (y.f2 - (G.l5.length : Int)) = (j : Int) := by rw [Go.Proofs.Ytcalcbeonbfkmaa.M.wrap64_in _ (by omega)]; exact hj
  have h2 := r2 h
  rw [hj, Int.toNat_natCast] at h2
  obtain ⟨q, hq, he, _⟩ := hD.all j (by omega)
  have hrd : rd ds (j : Int) = (q : Int) := by unfold rd; rw [Int.toNat_natCast]; exact he
  rw [hw, hrd]
  exact ⟨by omega, by omega, by omega, by omega, (hI q (by omega)).inp⟩
theorem uses_ok {G : Gr} {ds : List Int} {p : Nat} {y : S52} {us : List Int} (h : UsesP y.f0 y.f1 y.f2 y.f3 us) (hr : ∀ j : Nat, j < us.length → RegOK G ds p (us.getD j 0)) :
    (y.f0 = 2 ∨ y.f0 = 3 ∨ y.f0 = 13 → RegOK G ds p y.f2) ∧ (4 ≤ y.f0 ∧ y.f0 ≤ 10 ∨ y.f0 = 15 → RegOK G ds p y.f2 ∧ RegOK G ds p y.f3) ∧ (y.f0 = 11 → RegOK G ds p y.f3) ∧ (y.f0 = 14 → RegOK G ds p y.f1 ∧ RegOK G ds p y.f3) := by
  obtain ⟨h1, h2, h3, h4, _⟩ := h
  refine ⟨fun e => ?_, fun e => ?_, fun e => ?_, fun e => ?_⟩
  · rw [h1 e] at hr; exact hr 0 (Nat.zero_lt_succ _)
  · rw [h2 e] at hr; exact ⟨hr 0 (Nat.zero_lt_succ _), hr 1 (Nat.lt_succ_self _)⟩
  · rw [h3 e] at hr; exact hr 0 (Nat.zero_lt_succ _)
  · rw [h4 e] at hr; exact ⟨hr 0 (Nat.zero_lt_succ _), hr 1 (Nat.lt_succ_self _)⟩
structure Nine (G : Gr) (p : Nat) (y : S52) : Prop where
  op : 1 ≤ y.f0 ∧ y.f0 ≤ 21
  lp : y.f0 = 17 → (p : Int) = G.loop
  ba : y.f0 = 2 ∨ y.f0 = 3 → y.f3 = 0
  nx : (y.f0 = 21 → y.f6.f0 = -1 ∧ y.f6.f1 = -1) ∧ (y.f0 ≠ 21 → 0 ≤ y.f6.f0 ∧ y.f6.f0 < (G.l0.length : Int)) ∧ (y.f0 = 15 → 0 ≤ y.f6.f1 ∧ y.f6.f1 < (G.l0.length : Int)) ∧ (y.f0 ≠ 15 → y.f6.f1 = -1)
structure FitOK (G : Gr) : Prop where
  n1 : 1 ≤ G.l0.length
  n2 : G.l0.length ≤ 4096
  l1 : 0 ≤ G.loop
  l2 : G.loop < (G.l0.length : Int)
  l3 : (rd_T52 G.l0 G.loop).f0 = 17
  parts : PartsOK G
  rest : ∃ ds : List Int, DefsOK G ds ∧ ∀ p : Nat, p < G.l0.length → InstrOK G ds p (rd_T52 G.l0 (p : Int))
  ends : ∃ f, Ranked G.l0 f
def FitP (G : Gr) (b : Bool) : Prop := b = true → FitOK G
set_option maxHeartbeats 8000000 in
set_option maxRecDepth 100000 in
theorem fit_calls (G : Gr) (w : World) (hG : G.Held w)
    (hd : ∀ p : Nat, p < G.l0.length → -9223372036854775808 ≤ (rd_T52 G.l0 (p : Int)).f1 ∧ (rd_T52 G.l0 (p : Int)).f1 ≤ 9223372036854775807) : Calls Try.prog 7 #[G.v] w fun e w' => RetB e (FitP G) ∧ Below w.heap.size w w' := by
  obtain ⟨A0, c0, l0, a1, a2, a3, A4, c4, l4, A5, c5, l5, A6, c6, l6, A7, c7, l7⟩ := G
  simp only [Gr.v] at *
  have hu28 := Try.underlying28
  have hu52 := Try.underlying52
  have HB := Aside0.mk (Below.refl w.heap.size w)
  have QG := Aside0.mk hG
  have H0 := hG.h0
  have k0 := hG.k0
  have k5 := hG.k5
  simp only at H0 k0 k5
  have Q0 := Aside0.mk H0
  have KD := Aside0.mk hd
  clear H0 hd hG
  by_cases hi : (1 ≤ l0.length ∧ l0.length ≤ 4096) ∧ 0 ≤ a1 ∧ a1 < (l0.length : Int)
  · obtain ⟨⟨hi1, hi2⟩, hi3, hi4⟩ := hi
    obtain ⟨ad0, ee, hx_0, _, _, _, _, _, _, _⟩ := at_T52 Q0.out a1 hi3 hi4
    cases ee
    have i1 : decide ((l0.length : Int) < 1) = false := decide_eq_false (by omega)
    have i2 : decide ((4096 : Int) < (l0.length : Int)) = false := decide_eq_false (by omega)
    have i3 : decide (a1 < 0) = false := decide_eq_false (by omega)
    have i4 : decide ((l0.length : Int) ≤ a1) = false := decide_eq_false (by omega)
    have p1 := eq_true hi3
    have q1 := eq_true hi4
    go_enter Try.func7, Try.ntmps7
    by_cases h17 : (rd_T52 l0 a1).f0 = 17
    · have h17b : ((rd_T52 l0 a1).f0 != 17) = false := bne_eq_false_iff_eq.mpr h17
      go_upto_region 6 with (first | ((with_reducible refine gate_dst (N := 1) rfl ?_); refine boxQ 1 #[.slice (some ad0) l0.length c0, .int .i64 a1, .int .i64 a2, .int .i64 a3, .slice A4 l4.length c4, .slice A5 l5.length c5, .slice A6 l6.length c6, .slice A7 l7.length c7] 28 HB ?_; clear HB; intro gb w1 _ GW BK _ HB; replace hx_0 := (HB.out.cell (World.block_lt_of_cell? w _ hx_0)).trans hx_0; have hcf := hcf8 BK; obtain ⟨_, _, _, _, _, _, _, _, _, _, _, _, _, _, _, _⟩ := hcf) | (go_at_call 18; refine (parts_calls ⟨some ad0, c0, l0, a1, a2, a3, A4, c4, l4, A5, c5, l5, A6, c6, l6, A7, c7, l7⟩ _ (QG.out.below (bpk HB).out)).mono ?_; rintro e w' ⟨⟨pb, rfl, hp⟩, hb⟩; have HPT := Aside0.mk hp; replace BK := bbw BK hb; replace HB := bst HB hb; clear hb hp hx_0; have hcf := hcf8 BK; obtain ⟨_, _, _, _, _, _, _, _, _, _, _, _, _, _, _, _⟩ := hcf; cases pb) | ((with_reducible refine gate_callee (f := 19) rfl ?_); refine goesL_ (some 50) rfl rfl Try.func19 (by kernel_rfl) rfl #[.agg #[.slice (some ad0) l0.length c0, .int .i64 a1, .int .i64 a2, .int .i64 a3, .slice A4 l4.length c4, .slice A5 l5.length c5, .slice A6 l6.length c6, .slice A7 l7.length c7]] rfl (by (try simp only [List.map_toArray, List.map_cons, List.map_nil]); first | done | rfl) ?_; refine (defs_calls ⟨some ad0, c0, l0, a1, a2, a3, A4, c4, l4, A5, c5, l5, A6, c6, l6, A7, c7, l7⟩ _ (QG.out.below (bpk HB).out) hi2 (HPT.out rfl).n5 KD.out).mono ?_; rintro e w' ⟨⟨Ad, cd, db, ds, rfl, hC, hdo⟩, hb⟩; replace BK := bbw BK hb; replace HB := bst HB hb; clear hb; have HDS := Aside0.mk hC; have HDO := Aside0.mk hdo; clear hC hdo; have hcf := hcf8 BK; obtain ⟨_, _, _, _, _, _, _, _, _, _, _, _, _, _, _, _⟩ := hcf; refine ⟨_, rfl, ?_⟩; cases db))
      all_goals first | (go_ret; exact ⟨⟨_, rfl, fun h => nomatch h⟩, (bpk HB).out⟩) | skip
      have HPO := Aside0.mk (HPT.out rfl)
      have HDK := Aside0.mk (HDO.out rfl)
      clear HPT HDO
      rename World => wd
      have HBw := HB
      have QD := Aside0.mk (QG.out.below HB.out)
      have BKd := BK
      clear HB BK QG Q0
      have HB := Aside0.mk (Below.refl wd.heap.size wd)
      have hn5 := HPO.out.n5
      have hdl := HDK.out.le
      have hrg := HDK.out.regs
      (try dsimp only at hn5 hdl hrg)
      have KRG := Aside0.mk hrg
      clear hrg
      go_wp2
      go_loopw [58] (fun i wr => ∃ p : Nat, p ≤ l0.length ∧ i = .int .i64 (p : Int) ∧ Aside0 (∀ q : Nat, q < p → InstrOK ⟨some ad0, c0, l0, a1, a2, a3, A4, c4, l4, A5, c5, l5, A6, c6, l6, A7, c7, l7⟩ ds q (rd_T52 l0 (q : Int))) ∧ Aside0 (Below wd.heap.size wd wr)) (fun i _ => l0.length - (intOf i).toNat)
      case atStart => exact ⟨0, Nat.zero_le _, rfl, ⟨fun q hq => absurd hq (Nat.not_lt_zero q)⟩, bpk HB⟩
      case round =>
       as_aux_lemma =>
       rename World => wl
       clear HB
       obtain ⟨p, hp, rfl, HI, HB⟩ := hrel
       have BK : Aside0 (wl.heap[gb]? = _) := ⟨blk_below BKd.out HB.out⟩
       have hcf := hcf8 BK
       obtain ⟨_, _, _, _, _, _, _, _, _, _, _, _, _, _, _, _⟩ := hcf
       by_cases hlt : p < l0.length
       · have hlt2 : decide ((p : Int) < (l0.length : Int)) = true := decide_eq_true (by omega)
         obtain ⟨ad1, ee, hx_0, hx_1, hx_2, hx_3, hx_4, hx_5, hx_6, hx_7⟩ := at_T52 (show Kd.C k52 wd (some ad0) l0.length l0 from QD.out.h0) (p : Int) (by omega) (by omega)
         replace hx_0 := (HB.out.cell (World.block_lt_of_cell? wd _ hx_0)).trans hx_0
         replace hx_1 := (HB.out.cell (World.block_lt_of_cell? wd _ hx_1)).trans hx_1
         replace hx_2 := (HB.out.cell (World.block_lt_of_cell? wd _ hx_2)).trans hx_2
         replace hx_3 := (HB.out.cell (World.block_lt_of_cell? wd _ hx_3)).trans hx_3
         replace hx_4 := (HB.out.cell (World.block_lt_of_cell? wd _ hx_4)).trans hx_4
         replace hx_5 := (HB.out.cell (World.block_lt_of_cell? wd _ hx_5)).trans hx_5
         replace hx_6 := (HB.out.cell (World.block_lt_of_cell? wd _ hx_6)).trans hx_6
         replace hx_7 := (HB.out.cell (World.block_lt_of_cell? wd _ hx_7)).trans hx_7
         generalize hy : rd_T52 l0 (p : Int) = y at hx_0 hx_1 hx_2 hx_3 hx_4 hx_5 hx_6 hx_7
         cases ee
         simp only [Int.toNat_natCast] at hx_0 hx_1 hx_2 hx_3 hx_4 hx_5 hx_6 hx_7
         have KY := Aside0.mk hy
         clear hy
         go_upto_region 9 with (first | ((with_reducible refine gate_dst (N := 6) rfl ?_); refine boxQ 6 #[.int .i64 0, .int .i64 0, .int .i64 0, .int .i64 0, .int .i64 0, .int .i64 0, .int .i64 0, .int .i64 0] 52 HB ?_; intro gx wx eg GX BX hb HX; clear HB eg hb; have HB := HX; clear HX; have BK2 : Aside0 (wx.heap[gb]? = _) := ⟨blk_below BKd.out HB.out⟩; have NX : Aside0 (gb ≠ gx) := ⟨fun e_ => by have h1_ := blk_lt BKd.out; have h2_ := GX.out; omega⟩; have hcf := hcf8 BX; obtain ⟨_, _, _, _, _, _, _, _, _, _, _, _, _, _, _, _⟩ := hcf; have hnx := NX.out) | ((with_reducible refine gate_store (p := 6) (t := 52) rfl ?_); refine store_box rfl rfl rfl gx 52 _ #[.int .i64 y.f0, .int .i64 y.f1, .int .i64 y.f2, .int .i64 y.f3, .int .i64 y.f4, .int .i64 y.f5, .int .i64 y.f6.f0, .int .i64 y.f6.f1] (pkA BX).out rfl rfl (by kernel_rfl) rfl (by kernel_rfl) ?_; intro ws hbs hgs; have HS := Aside0.mk (Below_boxed (bpk HB).out (Nat.le_refl _) GX.out hgs); clear HB BX BK BK2 hgs; have HB := HS; have BX := Aside0.mk hbs; have BK : Aside0 (ws.heap[gb]? = _) := ⟨blk_below BKd.out HB.out⟩; clear HS hbs; have hcf := hcf8 BX; obtain ⟨_, _, _, _, _, _, _, _, _, _, _, _, _, _, _, _⟩ := hcf; have hcf := hcf8 BK; obtain ⟨_, _, _, _, _, _, _, _, _, _, _, _, _, _, _, _⟩ := hcf))
         clear hx_0 hx_1 hx_2 hx_3 hx_4 hx_5 hx_6 hx_7
         go_cut [94] (fun v94 wc => ∃ b : Bool, v94 = .bool b ∧ Aside0 (b = false → Nine ⟨some ad0, c0, l0, a1, a2, a3, A4, c4, l4, A5, c5, l5, A6, c6, l6, A7, c7, l7⟩ p y) ∧ Aside0 (wc.heap[gx]? = some (.cells #[.int .i64 y.f0, .int .i64 y.f1, .int .i64 y.f2, .int .i64 y.f3, .int .i64 y.f4, .int .i64 y.f5, .int .i64 y.f6.f0, .int .i64 y.f6.f1] 52 (0, 0))) ∧ Aside0 (Below wd.heap.size wd wc))
         case first =>
          as_aux_lemma =>
          by_cases hop : (1 ≤ y.f0 ∧ y.f0 ≤ 21) ∧ (y.f0 = 17 → (p : Int) = a1)
          · obtain ⟨⟨ho1, ho2⟩, ho3⟩ := hop
            have KOP := Aside0.mk (And.intro (And.intro ho1 ho2) ho3)
            have o1 : decide (y.f0 < 1) = false := decide_eq_false (by omega)
            have o2 : decide (22 ≤ y.f0) = false := decide_eq_false (by omega)
            have hcase : ((y.f0 == 17) = false ∧ True) ∨ ((y.f0 == 17) = true ∧ ((p : Int) != a1) = false) := if o3 : y.f0 = 17 then .inr ⟨beq_iff_eq.mpr o3, bne_eq_false_iff_eq.mpr (ho3 o3)⟩ else .inl ⟨beq_eq_false_iff_ne.mpr o3, trivial⟩
            clear ho3 ho1 ho2
            rcases hcase with ⟨o3b, o4b⟩ | ⟨o3b, o4b⟩
            all_goals go_wp2_with (first | (go_at_call 20; refine (bare_calls y.f0 y.f1 y.f2 y.f3 y.f4 y.f5 y.f6.f0 y.f6.f1 _).mono ?_; rintro e w' ⟨⟨rb, rfl, hp⟩, hb⟩; have HBA := Aside0.mk hp; clear hp; replace BX := bbw BX hb; replace HB := bst HB hb; clear hb; have BK : Aside0 (w'.heap[gb]? = _) := ⟨blk_below BKd.out HB.out⟩; have hcf := hcf8 BX; obtain ⟨_, _, _, _, _, _, _, _, _, _, _, _, _, _, _, _⟩ := hcf; have hcf := hcf8 BK; obtain ⟨_, _, _, _, _, _, _, _, _, _, _, _, _, _, _, _⟩ := hcf; cases rb) | (go_at_call 21; refine (next_calls y.f0 y.f1 y.f2 y.f3 y.f4 y.f5 y.f6.f0 y.f6.f1 _ _).mono ?_; rintro e w' ⟨⟨rb, rfl, hp⟩, hb⟩; have HNX := Aside0.mk hp; clear hp; replace BX := bbw BX hb; replace HB := bst HB hb; clear hb; have BK : Aside0 (w'.heap[gb]? = _) := ⟨blk_below BKd.out HB.out⟩; have hcf := hcf8 BX; obtain ⟨_, _, _, _, _, _, _, _, _, _, _, _, _, _, _, _⟩ := hcf; have hcf := hcf8 BK; obtain ⟨_, _, _, _, _, _, _, _, _, _, _, _, _, _, _, _⟩ := hcf; cases rb))
            all_goals (go_meet; (case rel => exact ⟨_, rfl, ⟨fun h => by first | exact absurd h (by decide) | exact ⟨KOP.out.1, KOP.out.2, HBA.out rfl, HNX.out rfl⟩⟩, pkA BX, bpk HB⟩))
          · go_wp2
            all_goals first | (go_meet; (case rel => exact ⟨_, rfl, ⟨fun h => absurd h (by decide)⟩, pkA BX, bpk HB⟩)) | (exfalso; simp only [beq_iff_eq, beq_eq_false_iff_ne, bne_iff_ne, bne_eq_false_iff_eq, ne_eq, decide_eq_true_eq, decide_eq_false_iff_not, Bool.or_eq_false_iff, Bool.and_eq_false_imp, Bool.not_eq_true, Bool.not_eq_false] at *; omega)
         case rest =>
          as_aux_lemma =>
          clear HB BX BK
          obtain ⟨b9, rfl, HN, BX, HB⟩ := hcut
          have BK : Aside0 (wc.heap[gb]? = _) := ⟨blk_below BKd.out HB.out⟩
          have hcf := hcf8 BX
          obtain ⟨_, _, _, _, _, _, _, _, _, _, _, _, _, _, _, _⟩ := hcf
          have hcf := hcf8 BK
          obtain ⟨_, _, _, _, _, _, _, _, _, _, _, _, _, _, _, _⟩ := hcf
          cases b9 with
          | true =>
            go_wp2
            go_ret
            exact ⟨⟨_, rfl, fun h => nomatch h⟩, below_step HBw.out (bpk HB).out⟩
          | false =>
            have HN9 := Aside0.mk (HN.out rfl)
            clear HN
            go_wp2_with (first | ((with_reducible refine gate_callee (f := 22) rfl ?_); refine goesL_ (some 96) rfl rfl Try.func22 (by kernel_rfl) rfl #[.agg #[.int .i64 y.f0, .int .i64 y.f1, .int .i64 y.f2, .int .i64 y.f3, .int .i64 y.f4, .int .i64 y.f5, .int .i64 y.f6.f0, .int .i64 y.f6.f1]] rfl (by (try simp only [List.map_toArray, List.map_cons, List.map_nil]); first | done | rfl) ?_; refine (uses_calls y.f0 y.f1 y.f2 y.f3 y.f4 y.f5 y.f6.f0 y.f6.f1 _).mono ?_; rintro e w' ⟨⟨Au, cu, us, rfl, hCu, hus⟩, hb⟩; have HCU := Aside0.mk hCu; have HUS := Aside0.mk hus; clear hCu hus; replace BX := bbw BX hb; replace HB := bst HB hb; clear hb; have BK : Aside0 (w'.heap[gb]? = _) := ⟨blk_below BKd.out HB.out⟩; have hcf := hcf8 BX; obtain ⟨_, _, _, _, _, _, _, _, _, _, _, _, _, _, _, _⟩ := hcf; have hcf := hcf8 BK; obtain ⟨_, _, _, _, _, _, _, _, _, _, _, _, _, _, _, _⟩ := hcf; refine ⟨_, rfl, ?_⟩))
            rename World => wu
            have BXu := BX
            have HBu := HB
            clear BX BK HB
            have HBU := Aside0.mk (Below.refl wu.heap.size wu)
            go_loopw [98] (fun i wr => ∃ k : Nat, k ≤ us.length ∧ i = .int .i64 (k : Int) ∧ Aside0 (∀ j : Nat, j < k → RegOK ⟨some ad0, c0, l0, a1, a2, a3, A4, c4, l4, A5, c5, l5, A6, c6, l6, A7, c7, l7⟩ ds p (us.getD j 0)) ∧ Aside0 (Below wu.heap.size wu wr)) (fun i _ => us.length - (intOf i).toNat)
            case atStart => exact ⟨0, Nat.zero_le _, rfl, ⟨fun j hj => absurd hj (Nat.not_lt_zero j)⟩, bpk HBU⟩
            case round =>
             as_aux_lemma =>
             rename World => wc
             clear HBU
             obtain ⟨k, hk, rfl, HU, HBU⟩ := hrel
             have BX : Aside0 (wc.heap[gx]? = _) := ⟨blk_below BXu.out HBU.out⟩
             have HB := Aside0.mk (below_step HBu.out HBU.out)
             have BK : Aside0 (wc.heap[gb]? = _) := ⟨blk_below BKd.out HB.out⟩
             have hcf := hcf8 BX
             obtain ⟨_, _, _, _, _, _, _, _, _, _, _, _, _, _, _, _⟩ := hcf
             have hcf := hcf8 BK
             obtain ⟨_, _, _, _, _, _, _, _, _, _, _, _, _, _, _, _⟩ := hcf
             by_cases hku : k < us.length
             · as_aux_lemma =>
                 have hk2 : decide ((k : Int) < (us.length : Int)) = true := decide_eq_true (by omega)
                 have hwk : IntKind.i64.wrap ((k : Int) + 1) = ((k + 1 : Nat) : Int) := (i64_w _).trans ((Go.Proofs.Ytcalcbeonbfkmaa.M.wrap64_in _ (by have := HUS.out.2.2.2.2; omega)).trans (by omega))
                 obtain ⟨adu, ee, hxu⟩ := Kd.at_int HCU.out (k : Int) (by omega) (by omega)
                 cases ee
                 replace hxu := (HBU.out.cell (World.block_lt_of_cell? wu _ hxu)).trans hxu
                 obtain ⟨u, hu⟩ : ∃ u, rd us (k : Int) = u := ⟨_, rfl⟩
                 rw [hu] at hxu
                 simp only [Int.toNat_natCast] at hxu
                 have KU : Aside0 (us.getD k 0 = u) := ⟨by rw [← hu]; unfold rd; rw [Int.toNat_natCast]⟩
                 clear hu
                 have pk := eq_true (show (0 : Int) ≤ (k : Int) by omega)
                 have qk := eq_true (show (k : Int) < (us.length : Int) by omega)
                 have qk2 := eq_true hku
                 by_cases r0 : u < 0
                 · have r0b := decide_eq_true r0
                   go_wp2
                   go_ret
                   exact ⟨⟨_, rfl, fun h => nomatch h⟩, below_step HBw.out (bpk HB).out⟩
                 · have r0b := decide_eq_false r0
                   by_cases r1 : a2 ≤ u
                   · have r1b := decide_eq_true r1
                     go_wp2
                     go_ret
                     exact ⟨⟨_, rfl, fun h => nomatch h⟩, below_step HBw.out (bpk HB).out⟩
                   · have r1b := decide_eq_false r1
                     by_cases r5 : (l5.length : Int) ≤ u
                     · have r5b := decide_eq_true r5
                       have hrg := KRG.out
                       obtain ⟨j, hj⟩ : ∃ j : Nat, u - (l5.length : Int) = (j : Int) := ⟨(u - (l5.length : Int)).toNat, by omega⟩
                       have hjw : IntKind.i64.wrap (u - (l5.length : Int)) = (j : Int) := (i64_w _).trans (by rw [Go.Proofs.Ytcalcbeonbfkmaa.M.wrap64_in _ (by omega)]; exact hj)
                       obtain ⟨add, ee, hxd⟩ := Kd.at_int HDS.out (j : Int) (by omega) (by omega)
                       cases ee
                       replace hxd := (HB.out.cell (World.block_lt_of_cell? wd _ hxd)).trans hxd
                       obtain ⟨dv, hdv⟩ : ∃ dv, rd ds (j : Int) = dv := ⟨_, rfl⟩
                       rw [hdv] at hxd
                       simp only [Int.toNat_natCast] at hxd
                       have KV : Aside0 (ds.getD j 0 = dv) := ⟨by rw [← hdv]; unfold rd; rw [Int.toNat_natCast]⟩
                       have KJ := Aside0.mk hj
                       have pj := eq_true (show (0 : Int) ≤ (j : Int) by omega)
                       have qj := eq_true (show (j : Int) < (ds.length : Int) by omega)
                       have qj2 := eq_true (show j < ds.length by omega)
                       clear hdv hj hrg
                       by_cases r6 : (p : Int) ≤ dv
                       · have r6b := decide_eq_true r6
                         go_wp2
                         go_ret
                         exact ⟨⟨_, rfl, fun h => nomatch h⟩, below_step HBw.out (bpk HB).out⟩
                       · have r6b := decide_eq_false r6
                         go_wp2
                         go_roundw
                         case measure => simp [intOf] <;> omega
                         case rel => exact ⟨k + 1, by omega, by first | rfl | simp, ⟨upto_next HU.out (by rw [KU.out]; exact ⟨by omega, show u < a2 by omega, fun _ => by (try dsimp only); rw [KJ.out, Int.toNat_natCast, KV.out]; omega⟩)⟩, bpk HBU⟩
                     · have r5b := decide_eq_false r5
                       go_wp2
                       go_roundw
                       case measure => simp [intOf] <;> omega
                       case rel => exact ⟨k + 1, by omega, by first | rfl | simp, ⟨upto_next HU.out (by rw [KU.out]; exact ⟨by omega, show u < a2 by omega, fun h => absurd h r5⟩)⟩, bpk HBU⟩
             · obtain rfl : k = us.length := by omega
               have hk2 : decide ((us.length : Int) < (us.length : Int)) = false := decide_eq_false (by omega)
               have KU := Aside0.mk (uses_ok HUS.out HU.out)
               clear HU HUS HCU
               go_upto_region 17 with (fail)
               go_cut [9] (fun v9 wc => ∃ b : Bool, v9 = .bool b ∧ Aside0 (b = true ↔ y.f0 = 11 ∨ y.f0 = 14) ∧ Aside0 (wc.heap[gx]? = some (.cells #[.int .i64 y.f0, .int .i64 y.f1, .int .i64 y.f2, .int .i64 y.f3, .int .i64 y.f4, .int .i64 y.f5, .int .i64 y.f6.f0, .int .i64 y.f6.f1] 52 (0, 0))) ∧ Aside0 (Below wd.heap.size wd wc))
               case first =>
                as_aux_lemma =>
                have hcase : ((y.f0 == 11) = true ∧ True) ∨ ((y.f0 == 11) = false ∧ (y.f0 == 14) = true) ∨ ((y.f0 == 11) = false ∧ (y.f0 == 14) = false) := by
                  cases (y.f0 == 11) <;> cases (y.f0 == 14) <;> simp
                rcases hcase with ⟨o1, o2⟩ | ⟨o1, o2⟩ | ⟨o1, o2⟩
                all_goals go_wp2
                all_goals (go_meet; (case rel => exact ⟨_, rfl, ⟨by simp only [beq_iff_eq, beq_eq_false_iff_ne, ne_eq] at o1 o2; first | (constructor <;> intro h <;> first | omega | (exact absurd h (by decide)) | rfl)⟩, pkA BX, bpk HB⟩))
               case rest =>
                as_aux_lemma =>
                clear HB BX BK
                obtain ⟨b17, rfl, HA17, BX, HB⟩ := hcut
                have BK : Aside0 (wc.heap[gb]? = _) := ⟨blk_below BKd.out HB.out⟩
                have hcf := hcf8 BX
                obtain ⟨_, _, _, _, _, _, _, _, _, _, _, _, _, _, _, _⟩ := hcf
                have hcf := hcf8 BK
                obtain ⟨_, _, _, _, _, _, _, _, _, _, _, _, _, _, _, _⟩ := hcf
                go_upto_region 18 with (fail)
                go_cut [187] (fun v187 wc => ∃ b : Bool, v187 = .bool b ∧ Aside0 (b = false → (y.f0 = 11 ∨ y.f0 = 14 → 0 ≤ y.f2 ∧ y.f2 < (l6.length : Int)) ∧ (y.f0 = 12 → 0 ≤ y.f2 ∧ y.f2 < (l4.length : Int)) ∧ (y.f0 = 13 → 0 ≤ y.f1 ∧ y.f1 < (l5.length : Int))) ∧ Aside0 (wc.heap[gx]? = some (.cells #[.int .i64 y.f0, .int .i64 y.f1, .int .i64 y.f2, .int .i64 y.f3, .int .i64 y.f4, .int .i64 y.f5, .int .i64 y.f6.f0, .int .i64 y.f6.f1] 52 (0, 0))) ∧ Aside0 (Below wd.heap.size wd wc))
                case first =>
                 as_aux_lemma =>
                 cases b17
                 all_goals go_wp2
                 all_goals (go_meet; (case rel => exact ⟨_, rfl, ⟨fun h => by first | exact absurd h (by decide) | (have h17 := HA17.out; simp only [beq_iff_eq, beq_eq_false_iff_ne, bne_iff_ne, bne_eq_false_iff_eq, ne_eq, decide_eq_true_eq, decide_eq_false_iff_not, Bool.or_eq_false_iff, Bool.and_eq_false_imp, Bool.not_eq_true, Bool.not_eq_false] at *; refine ⟨fun hh => ?_, fun hh => ?_, fun hh => ?_⟩ <;> first | omega | (have := h17.mpr hh; contradiction))⟩, pkA BX, bpk HB⟩))
                case rest =>
                 as_aux_lemma =>
                 clear HB BX BK HA17
                 obtain ⟨b18, rfl, HA18, BX, HB⟩ := hcut
                 have BK : Aside0 (wc.heap[gb]? = _) := ⟨blk_below BKd.out HB.out⟩
                 have hcf := hcf8 BX
                 obtain ⟨_, _, _, _, _, _, _, _, _, _, _, _, _, _, _, _⟩ := hcf
                 have hcf := hcf8 BK
                 obtain ⟨_, _, _, _, _, _, _, _, _, _, _, _, _, _, _, _⟩ := hcf
                 cases b18 with
                 | true =>
                   go_wp2
                   go_ret
                   exact ⟨⟨_, rfl, fun h => nomatch h⟩, below_step HBw.out (bpk HB).out⟩
                 | false =>
                   have KA := Aside0.mk (HA18.out rfl)
                   clear HA18
                   go_upto_region 20 with (fail)
                   go_cut [222] (fun v222 wc => ∃ b : Bool, v222 = .bool b ∧ Aside0 (b = false → (y.f0 = 1 → -2147483648 ≤ y.f4 ∧ y.f4 ≤ 2147483647) ∧ (y.f0 = 15 → 14 ≤ y.f4 ∧ y.f4 ≤ 19)) ∧ Aside0 (wc.heap[gx]? = some (.cells #[.int .i64 y.f0, .int .i64 y.f1, .int .i64 y.f2, .int .i64 y.f3, .int .i64 y.f4, .int .i64 y.f5, .int .i64 y.f6.f0, .int .i64 y.f6.f1] 52 (0, 0))) ∧ Aside0 (Below wd.heap.size wd wc))
                   case first =>
                    as_aux_lemma =>
                    have hcase : ((y.f0 == 1) = true ∧ (y.f0 == 15) = false) ∨ ((y.f0 == 1) = false ∧ (y.f0 == 15) = true) ∨ ((y.f0 == 1) = false ∧ (y.f0 == 15) = false) := by
                      by_cases h1 : y.f0 = 1
                      · exact .inl ⟨beq_iff_eq.mpr h1, beq_eq_false_iff_ne.mpr (by omega)⟩
                      · by_cases h2 : y.f0 = 15
                        · exact .inr (.inl ⟨beq_eq_false_iff_ne.mpr h1, beq_iff_eq.mpr h2⟩)
                        · exact .inr (.inr ⟨beq_eq_false_iff_ne.mpr h1, beq_eq_false_iff_ne.mpr h2⟩)
                    rcases hcase with ⟨o1, o2⟩ | ⟨o1, o2⟩ | ⟨o1, o2⟩
                    all_goals go_wp2_with (first | (go_at_call 23; refine (site_calls ⟨some ad0, c0, l0, a1, a2, a3, A4, c4, l4, A5, c5, l5, A6, c6, l6, A7, c7, l7⟩ Ad cd ds y _ (QD.out.below (bpk HB).out) (Kd.C_below HDS.out (bpk HB).out) (fun h => KA.out.1 (.inr h)) KA.out.2.2 (fun h => use13 HDK.out hn5 (by omega) (KU.out.1 (.inr (.inr h))) (by omega) HI.out)).mono ?_; rintro e w' ⟨⟨sb, rfl, _⟩, hb⟩; replace BX := bbw BX hb; replace HB := bst HB hb; clear hb; have BK : Aside0 (w'.heap[gb]? = _) := ⟨blk_below BKd.out HB.out⟩; have hcf := hcf8 BX; obtain ⟨_, _, _, _, _, _, _, _, _, _, _, _, _, _, _, _⟩ := hcf; have hcf := hcf8 BK; obtain ⟨_, _, _, _, _, _, _, _, _, _, _, _, _, _, _, _⟩ := hcf; cases sb))
                    all_goals (go_meet; (case rel => exact ⟨_, rfl, ⟨fun h => by first | exact absurd h (by decide) | (simp only [beq_iff_eq, beq_eq_false_iff_ne, ne_eq, decide_eq_true_eq, decide_eq_false_iff_not, Int.not_lt] at *; refine ⟨fun hh => ?_, fun hh => ?_⟩ <;> omega)⟩, pkA BX, bpk HB⟩))
                   case rest =>
                    as_aux_lemma =>
                    clear HB BX BK
                    obtain ⟨b20, rfl, HA20, BX, HB⟩ := hcut
                    cases b20 with
                    | true =>
                      go_wp2
                      go_ret
                      exact ⟨⟨_, rfl, fun h => nomatch h⟩, below_step HBw.out (bpk HB).out⟩
                    | false =>
                      have HIK : Aside0 (InstrOK ⟨some ad0, c0, l0, a1, a2, a3, A4, c4, l4, A5, c5, l5, A6, c6, l6, A7, c7, l7⟩ ds p y) := ⟨⟨HN9.out.op, HN9.out.lp, HN9.out.ba, HN9.out.nx, KU.out.1, KU.out.2.1, KU.out.2.2.1, KU.out.2.2.2, KA.out.1, KA.out.2.1, KA.out.2.2, (HA20.out rfl).1, (HA20.out rfl).2⟩⟩
                      go_wp2
                      go_roundw
                      case measure => simp [intOf] <;> omega
                      case rel => exact ⟨p + 1, by omega, by first | rfl | simp, ⟨upto_next HI.out (by rw [KY.out]; exact HIK.out)⟩, bpk HB⟩
       · obtain rfl : p = l0.length := by omega
         have hlt2 : decide ((l0.length : Int) < (l0.length : Int)) = false := decide_eq_false (by omega)
         go_wp2_with (first | ((with_reducible refine gate_callee (f := 24) rfl ?_); refine goesL_ (some 225) rfl rfl Try.func24 (by kernel_rfl) rfl #[.agg #[.slice (some ad0) l0.length c0, .int .i64 a1, .int .i64 a2, .int .i64 a3, .slice A4 l4.length c4, .slice A5 l5.length c5, .slice A6 l6.length c6, .slice A7 l7.length c7]] rfl (by (try simp only [List.map_toArray, List.map_cons, List.map_nil]); first | done | rfl) ?_; refine (ends_calls ⟨some ad0, c0, l0, a1, a2, a3, A4, c4, l4, A5, c5, l5, A6, c6, l6, A7, c7, l7⟩ _ (QD.out.below (bpk HB).out) hi2 hi1 (fun q hq => (HI.out q hq).nlt)).mono ?_; rintro e w' ⟨⟨eb, rfl, hp⟩, hb⟩; have HEN := Aside0.mk hp; replace HB := bst HB hb; clear hb hp; refine ⟨_, rfl, ?_⟩))
         go_ret
         exact ⟨⟨_, rfl, fun h => ⟨hi1, hi2, hi3, hi4, h17, HPO.out, ⟨ds, HDK.out, HI.out⟩, HEN.out h⟩⟩, below_step HBw.out (bpk HB).out⟩
    · have h17b : ((rd_T52 l0 a1).f0 != 17) = true := bne_iff_ne.mpr h17
      go_wp2_with (first | ((with_reducible refine gate_dst (N := 1) rfl ?_); refine boxQ 1 #[.slice (some ad0) l0.length c0, .int .i64 a1, .int .i64 a2, .int .i64 a3, .slice A4 l4.length c4, .slice A5 l5.length c5, .slice A6 l6.length c6, .slice A7 l7.length c7] 28 HB ?_; clear HB; intro gb w1 _ GW BK _ HB; replace hx_0 := (HB.out.cell (World.block_lt_of_cell? w _ hx_0)).trans hx_0; have hcf := hcf8 BK; obtain ⟨_, _, _, _, _, _, _, _, _, _, _, _, _, _, _, _⟩ := hcf))
      go_ret
      exact ⟨⟨_, rfl, fun h => nomatch h⟩, (bpk HB).out⟩
  · go_enter Try.func7, Try.ntmps7
    go_wp2_with (first | ((with_reducible refine gate_dst (N := 1) rfl ?_); refine boxQ 1 #[.slice A0 l0.length c0, .int .i64 a1, .int .i64 a2, .int .i64 a3, .slice A4 l4.length c4, .slice A5 l5.length c5, .slice A6 l6.length c6, .slice A7 l7.length c7] 28 HB ?_; clear HB; intro gb w1 _ GW BK _ HB; have hcf := hcf8 BK; obtain ⟨_, _, _, _, _, _, _, _, _, _, _, _, _, _, _, _⟩ := hcf))
    all_goals first | (exfalso; simp only [decide_eq_true_eq, decide_eq_false_iff_not] at *; omega) | (go_ret; exact ⟨⟨_, rfl, fun h => nomatch h⟩, (bpk HB).out⟩)
end Go.Proofs.Ytcalcbeonbfkmaa.P
