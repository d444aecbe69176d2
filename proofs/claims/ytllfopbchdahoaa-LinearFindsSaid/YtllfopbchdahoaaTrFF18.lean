import Derived.Test.YtllfopbchdahoaaTrFF13
import Derived.Test.YtllfopbchdahoaaTrFF16
/- What the law's proof needs of F17. -/
namespace Go.Proofs.Ytllfopbchdahoaa.P
open Go.RowKit Go.Proofs.YtllfopbchdahoaaW.PrintWords Go.Proofs.YtllfopbchdahoaaW.PrintLast Go.Proofs.YtllfopbchdahoaaW.PrintMore Go.Proofs.YtllfopbchdahoaaO
attribute [local go_sem] max2_int min2_int max_two min_two max_three min_three max_four min_four
set_option linter.unusedVariables false
set_option linter.unusedSimpArgs false
/-- A register's form, if it has one. -/
def getV (G : Gr) (r : Int) : S23 × Bool := if r < 0 ∨ G.regs ≤ r then (z23, false) else (rd_T23 (tabV G G.l0.length).1 r, (tabV G G.l0.length).2.getD r.toNat false)
theorem setK_len (n : Nat) : ∀ k, (setK n k).1.length = n ∧ (setK n k).2.length = n
  | 0 => ⟨List.length_replicate, List.length_replicate⟩
  | k + 1 => ⟨(List.length_set ..).trans (setK_len n k).1, (List.length_set ..).trans (setK_len n k).2⟩
theorem stepV_len (T : List S23 × List Bool) (y : S64) : (stepV T y).1.length = T.1.length ∧ (stepV T y).2.length = T.2.length := by
  unfold stepV
  split
  · exact ⟨List.length_set .., List.length_set ..⟩
  · exact ⟨rfl, rfl⟩
theorem tabV_len (G : Gr) : ∀ p, (tabV G p).1.length = G.regs.toNat ∧ (tabV G p).2.length = G.regs.toNat
  | 0 => setK_len _ _
  | p + 1 => ⟨(stepV_len _ _).1.trans (tabV_len G p).1, (stepV_len _ _).2.trans (tabV_len G p).2⟩
def N24aT : Bool × List (List Nat × List Nat) := (true, [([], []), ([], []), ([0, 1], [0, 1]), ([2], [2]), ([], []), ([], []), ([4, 5], [4, 5]), ([6], [6]), ([3, 0, 1, 2, 3], [3]), ([7, 8, 0, 1, 2, 3, 4, 5, 6, 7, 8], [7])])
def N24aB : List Nat := [0, 0, 3, 7, 0, 0, 48, 112, 15, 511]
theorem N24atab : rtab .any (opsOf Try.f24 4) = N24aT := by kernel_rfl
theorem N24abits : waitsOk N24aT.2 N24aB = true := by kernel_rfl
set_option maxHeartbeats 8000000 in
set_option maxRecDepth 100000 in
theorem refOf_calls (G : Gr) (r : Int) (w : World) (hG : G.Held w) (hF : FitOK G) : Calls Try.prog 24 #[G.v, .int .i64 r] w (Ret5 (getV G r) w) := by
  have hlen := tabV_len G G.l0.length
  have hgv : getV G r = if r < 0 ∨ G.regs ≤ r then (z23, false) else (rd_T23 (tabV G G.l0.length).1 r, (tabV G G.l0.length).2.getD r.toNat false) := rfl
  have KFC := Aside0.mk (fun (W : World) (h : G.Held W) => refForms_calls G W h hF)
  generalize tabV G G.l0.length = T at hlen hgv KFC
  rw [hgv]
  clear hgv
  obtain ⟨A0, c0, l0, a1, a2, a3, A4, c4, l4, A5, c5, l5, A6, c6, l6, A7, c7, l7⟩ := G
  have QG := Aside0.mk hG
  simp only [Gr.v] at *
  have hu41 := Try.underlying41
  have hu23 := Try.underlying23
  have HB := Aside0.mk (Below.refl w.heap.size w)
  clear hG hF
  by_cases h0 : r < 0
  · rw [if_pos (.inl h0)]
    have h0b := decide_eq_true h0
    go_enter Try.func24, Try.ntmps24
    go_wp2_with (first | ((with_reducible refine gate_dst (N := 2) rfl ?_); refine boxQ 2 #[.slice A0 l0.length c0, .int .i64 a1, .int .i64 a2, .int .i64 a3, .slice A4 l4.length c4, .slice A5 l5.length c5, .slice A6 l6.length c6, .slice A7 l7.length c7] 41 HB ?_; clear HB; intro gb w1 _ GW BK _ HB; have hcf := hcf8 BK; obtain ⟨_, _, _, _, _, _, _, _, _, _, _, _, _, _, _, _⟩ := hcf) | ((with_reducible refine gate_dst (N := 4) rfl ?_); refine boxQ 4 #[.int .i64 0, .int .i64 0, .int .i64 0, .int .i64 0, .int .i64 0] 23 HB ?_; intro gx wx eg GX BX hb HX; have NX := bn1 BK eg.out; replace BK := bbw BK hb.out; clear HB hb eg; have HB := HX; clear HX; have hcf := hcf8 BK; obtain ⟨_, _, _, _, _, _, _, _, _, _, _, _, _, _, _, _⟩ := hcf; have hcf := hcf5 BX; obtain ⟨_, _, _, _, _, _, _, _, _, _⟩ := hcf; have hnx := NX.out) | ((with_reducible refine gate_store (p := 4) (t := 23) rfl ?_); refine store_box rfl rfl rfl gx 23 _ _ (pkA BX).out rfl rfl (by kernel_rfl) rfl (by kernel_rfl) ?_; intro ws hbs hgs; have HS := Aside0.mk (Below_boxed (bpk HB).out (Nat.le_refl _) GX.out hgs); clear HB BX BK hgs; have HB := HS; have BX := Aside0.mk hbs; clear HS hbs))
    refine bodyPost_ret (results_ct rfl _ _ gx 23 _ (0, 0) _ rfl (pkA BX).out Try.underlying23 rfl (by kernel_rfl)) rfl ?_
    exact ⟨rfl, (bpk HB).out⟩
  · have h0b := decide_eq_false h0
    by_cases h1 : a2 ≤ r
    · rw [if_pos (.inr h1)]
      have h1b := decide_eq_true h1
      go_enter Try.func24, Try.ntmps24
      go_wp2_with (first | ((with_reducible refine gate_dst (N := 2) rfl ?_); refine boxQ 2 #[.slice A0 l0.length c0, .int .i64 a1, .int .i64 a2, .int .i64 a3, .slice A4 l4.length c4, .slice A5 l5.length c5, .slice A6 l6.length c6, .slice A7 l7.length c7] 41 HB ?_; clear HB; intro gb w1 _ GW BK _ HB; have hcf := hcf8 BK; obtain ⟨_, _, _, _, _, _, _, _, _, _, _, _, _, _, _, _⟩ := hcf) | ((with_reducible refine gate_dst (N := 4) rfl ?_); refine boxQ 4 #[.int .i64 0, .int .i64 0, .int .i64 0, .int .i64 0, .int .i64 0] 23 HB ?_; intro gx wx eg GX BX hb HX; have NX := bn1 BK eg.out; replace BK := bbw BK hb.out; clear HB hb eg; have HB := HX; clear HX; have hcf := hcf8 BK; obtain ⟨_, _, _, _, _, _, _, _, _, _, _, _, _, _, _, _⟩ := hcf; have hcf := hcf5 BX; obtain ⟨_, _, _, _, _, _, _, _, _, _⟩ := hcf; have hnx := NX.out) | ((with_reducible refine gate_store (p := 4) (t := 23) rfl ?_); refine store_box rfl rfl rfl gx 23 _ _ (pkA BX).out rfl rfl (by kernel_rfl) rfl (by kernel_rfl) ?_; intro ws hbs hgs; have HS := Aside0.mk (Below_boxed (bpk HB).out (Nat.le_refl _) GX.out hgs); clear HB BX BK hgs; have HB := HS; have BX := Aside0.mk hbs; clear HS hbs))
      refine bodyPost_ret (results_ct rfl _ _ gx 23 _ (0, 0) _ rfl (pkA BX).out Try.underlying23 rfl (by kernel_rfl)) rfl ?_
      exact ⟨rfl, (bpk HB).out⟩
    · rw [if_neg (fun h => h.elim h0 h1)]
      have h1b := decide_eq_false h1
      have KL := Aside0.mk hlen
      clear hlen
      have H01 := Aside0.mk (And.intro h0 h1)
      clear h0 h1
      go_enter Try.func24, Try.ntmps24
      go_upto_region 4 with (first | ((with_reducible refine gate_dst (N := 2) rfl ?_); refine boxQ 2 #[.slice A0 l0.length c0, .int .i64 a1, .int .i64 a2, .int .i64 a3, .slice A4 l4.length c4, .slice A5 l5.length c5, .slice A6 l6.length c6, .slice A7 l7.length c7] 41 HB ?_; clear HB; intro gb w1 _ GW BK _ HB; have hcf := hcf8 BK; obtain ⟨_, _, _, _, _, _, _, _, _, _, _, _, _, _, _, _⟩ := hcf) | ((with_reducible refine gate_dst (N := 4) rfl ?_); refine boxQ 4 #[.int .i64 0, .int .i64 0, .int .i64 0, .int .i64 0, .int .i64 0] 23 HB ?_; intro gx wx eg GX BX hb HX; have NX := bn1 BK eg.out; replace BK := bbw BK hb.out; clear HB hb eg; have HB := HX; clear HX; have hcf := hcf8 BK; obtain ⟨_, _, _, _, _, _, _, _, _, _, _, _, _, _, _, _⟩ := hcf; have hcf := hcf5 BX; obtain ⟨_, _, _, _, _, _, _, _, _, _⟩ := hcf; have hnx := NX.out) | ((with_reducible refine gate_callee (f := 22) rfl ?_); refine goesL_ (some 19) rfl rfl Try.func22 (by kernel_rfl) rfl #[.agg #[.slice A0 l0.length c0, .int .i64 a1, .int .i64 a2, .int .i64 a3, .slice A4 l4.length c4, .slice A5 l5.length c5, .slice A6 l6.length c6, .slice A7 l7.length c7]] rfl (by (try simp only [List.map_toArray, List.map_cons, List.map_nil]); first | done | rfl) ?_; refine (KFC.out _ (QG.out.below (bpk HB).out)).mono ?_; rintro e w' ⟨⟨Af, cf, Ao, co, rfl, hCf, hCo, hgf, hgo⟩, hb⟩; have HGF : Aside0 (0 < T.1.length → ∃ g, Af = some ⟨g, 0, none⟩ ∧ gx < g) := ⟨fun hp => (hgf hp).imp fun g hg => ⟨hg.1, Nat.lt_of_lt_of_le (blk_lt (pkA BX).out) hg.2⟩⟩; have HGO : Aside0 (0 < T.2.length → ∃ g, Ao = some ⟨g, 0, none⟩ ∧ gx < g) := ⟨fun hp => (hgo hp).imp fun g hg => ⟨hg.1, Nat.lt_of_lt_of_le (blk_lt (pkA BX).out) hg.2⟩⟩; clear hgf hgo; replace BX := bbw BX hb; replace HB := bst HB hb; clear hb BK; have QF := Aside0.mk hCf; have QO := Aside0.mk hCo; clear hCf hCo; refine ⟨_, rfl, ?_⟩))
      rename World => wd
      obtain ⟨h0, h1⟩ := H01.out
      obtain ⟨hlf, hlo⟩ := KL.out
      (try dsimp only at hlf hlo)
      have HBd := Aside0.mk (Below.refl wd.heap.size wd)
      obtain ⟨gF, ef, hgF⟩ := HGF.out (by omega)
      obtain ⟨gO, eo, hgO⟩ := HGO.out (by omega)
      subst ef
      subst eo
      obtain ⟨adF, ee, xf_0, xf_1, xf_2, xf_3, xf_4⟩ := at_T23 QF.out r (by omega) (by omega)
      cases ee
      obtain ⟨adO, ee, xo⟩ := Kd.at_bool QO.out r (by omega) (by omega)
      cases ee
      replace xo : wd.cell? _ = some (.bool (T.2.getD r.toNat false)) := xo
      simp only [add_plain] at xf_0 xf_1 xf_2 xf_3 xf_4 xo
      have pr := eq_true (show (0 : Int) ≤ r by omega)
      have qf := eq_true (show r < (T.1.length : Int) by omega)
      have qo := eq_true (show r < (T.2.length : Int) by omega)
      have qf2 := eq_true (show r.toNat < T.1.length by omega)
      have qo2 := eq_true (show r.toNat < T.2.length by omega)
      clear h0 h1 hlf hlo
      generalize rd_T23 T.1 r = la at *
      generalize T.2.getD r.toNat false = oa at *
      have hS : ∀ w' : World, Below wd.heap.size wd w' → (w'.cell? ⟨gF, r.toNat * 5, none⟩ = some (.int .i64 la.f0) ∧ w'.cell? ⟨gF, r.toNat * 5 + 1, none⟩ = some (.int .i64 la.f1) ∧ w'.cell? ⟨gF, r.toNat * 5 + 2, none⟩ = some (.int .i64 la.f2) ∧ w'.cell? ⟨gF, r.toNat * 5 + 3, none⟩ = some (.int .i64 la.f3) ∧ w'.cell? ⟨gF, r.toNat * 5 + 4, none⟩ = some (.int .i64 la.f4) ∧ w'.cell? ⟨gO, r.toNat, none⟩ = some (.bool oa)) := fun w' hB => ⟨(hB.cell (World.block_lt_of_cell? wd _ xf_0)).trans xf_0, (hB.cell (World.block_lt_of_cell? wd _ xf_1)).trans xf_1, (hB.cell (World.block_lt_of_cell? wd _ xf_2)).trans xf_2, (hB.cell (World.block_lt_of_cell? wd _ xf_3)).trans xf_3, (hB.cell (World.block_lt_of_cell? wd _ xf_4)).trans xf_4, (hB.cell (World.block_lt_of_cell? wd _ xo)).trans xo⟩
      refine start_ (n := 10) (S := fun w' => w'.cell? ⟨gF, r.toNat * 5, none⟩ = some (.int .i64 la.f0) ∧ w'.cell? ⟨gF, r.toNat * 5 + 1, none⟩ = some (.int .i64 la.f1) ∧ w'.cell? ⟨gF, r.toNat * 5 + 2, none⟩ = some (.int .i64 la.f2) ∧ w'.cell? ⟨gF, r.toNat * 5 + 3, none⟩ = some (.int .i64 la.f3) ∧ w'.cell? ⟨gF, r.toNat * 5 + 4, none⟩ = some (.int .i64 la.f4) ∧ w'.cell? ⟨gO, r.toNat, none⟩ = some (.bool oa)) (ds := []) #[false, false, false, false, false, false, false, false, false, false] (by kernel_rfl) rfl rfl (hS _ (below_drew1 HBd.out)) (fun hHeld => ?_)
      refine with_tabW N24atab N24abits (fun HT_ HW_ => ?_)
      replace BX := Aside0.mk (blk_drew (pkA BX).out)
      replace HB := Aside0.mk (below_drew1 (bpk HB).out)
      replace HBd := Aside0.mk (below_drew1 HBd.out)
      have GXd : Aside0 (gx < wd.heap.size) := ⟨blk_lt BX.out⟩
      generalize hwa : World.drew wd = wa at BX HB HBd hHeld ⊢
      refine pureQ 0 22 HT_.out ?_
      refine pureQ 1 23 HT_.out ?_
      refine pureQ 2 24 HT_.out ?_
      refine pureQ 4 26 HT_.out ?_
      refine pureQ 5 27 HT_.out ?_
      refine pureQ 6 28 HT_.out ?_
      refine takeQ 3 25 HT_.out HW_.out hHeld ?_
      refine takeQ 7 29 HT_.out HW_.out hHeld ?_
      refine one_ (i := 8) (N := none) #[true, true, true, true, true, true, true, true, true, false] rfl rfl (one_of HT_.out (by kernel_rfl)) (by decide) (fun K hK => ?_)
      obtain ⟨wz, hwz⟩ : ∃ wz, wz = (((((wa).setCell ⟨gx, 0, none⟩ (.int .i64 la.f0)).setCell ⟨gx, 1, none⟩ (.int .i64 la.f1)).setCell ⟨gx, 2, none⟩ (.int .i64 la.f2)).setCell ⟨gx, 3, none⟩ (.int .i64 la.f3)).setCell ⟨gx, 4, none⟩ (.int .i64 la.f4) := ⟨_, rfl⟩
      obtain ⟨z1, z2, z3⟩ := set5 BX.out _ _ _ _ _ wz hwz
      have hfx := hcf5 BX
      obtain ⟨_, _, _, _, _, _, _, _, _, _⟩ := hfx
      have KF := Aside0.mk hgF
      have KO := Aside0.mk hgO
      clear hgF hgO
      have hSz : wz.cell? ⟨gF, r.toNat * 5, none⟩ = some (.int .i64 la.f0) ∧ wz.cell? ⟨gF, r.toNat * 5 + 1, none⟩ = some (.int .i64 la.f1) ∧ wz.cell? ⟨gF, r.toNat * 5 + 2, none⟩ = some (.int .i64 la.f2) ∧ wz.cell? ⟨gF, r.toNat * 5 + 3, none⟩ = some (.int .i64 la.f3) ∧ wz.cell? ⟨gF, r.toNat * 5 + 4, none⟩ = some (.int .i64 la.f4) ∧ wz.cell? ⟨gO, r.toNat, none⟩ = some (.bool oa) := by
        have hfar : ∀ (p : Addr) (v : Value), wa.cell? p = some v → p.block ≠ gx → wz.cell? p = some v := fun p v hp hne => by
          have : ∀ (W : World) (i : Nat) (u : Value), (W.setCell ⟨gx, i, none⟩ u).cell? p = W.cell? p := fun W i u => cell_far hne u
          rw [hwz]
          simp only [this]
          exact hp
        have hnF := KF.out
        have hnO := KO.out
        obtain ⟨y0, y1, y2, y3, y4, y5⟩ := hHeld
        refine ⟨hfar _ _ y0 ?_, hfar _ _ y1 ?_, hfar _ _ y2 ?_, hfar _ _ y3 ?_, hfar _ _ y4 ?_, hfar _ _ y5 ?_⟩
        all_goals (dsimp only; omega)
      refine skip_ (w1 := wz) (by rfl) rfl (by rw [hwz]; go_simp) ?_
      clear hwz
      replace HB := Aside0.mk (z3 _ GX.out HB.out)
      clear BX
      have BX := Aside0.mk z1
      clear z1 z2 z3
      refine hK.out _ _ hSz (fun hHeld => ?_)
      clear hK K
      refine pureQ 9 5 HT_.out ?_
      refine done_ (done_of HT_.out (by kernel_rfl)) ?_
      clear hHeld HT_ HW_ hS hSz
      go_wp2
      refine bodyPost_ret (results_ct rfl _ _ gx 23 _ (0, 0) _ rfl (pkA BX).out Try.underlying23 rfl (by kernel_rfl)) rfl ?_
      exact ⟨rfl, (bpk HB).out⟩
end Go.Proofs.Ytllfopbchdahoaa.P
/- What the law's proof needs of F18. -/
namespace Go.Proofs.Ytllfopbchdahoaa.P
open Go.RowKit Go.Proofs.YtllfopbchdahoaaW.PrintWords Go.Proofs.YtllfopbchdahoaaW.PrintLast Go.Proofs.YtllfopbchdahoaaW.PrintMore Go.Proofs.YtllfopbchdahoaaO
attribute [local go_sem] max2_int min2_int max_two min_two max_three min_three max_four min_four
set_option linter.unusedVariables false
set_option linter.unusedSimpArgs false
def N23aT : Bool × List (List Nat × List Nat) := (true, [([], []), ([], []), ([0, 1], [0, 1]), ([2], [2]), ([], []), ([], []), ([4, 5], [4, 5]), ([6], [6]), ([3, 0, 1, 2, 3], [3]), ([7, 8, 0, 1, 2, 3, 4, 5, 6, 7, 8], [7])])
def N23aB : List Nat := [0, 0, 3, 7, 0, 0, 48, 112, 15, 511]
theorem N23atab : rtab .any (opsOf Try.f23 4) = N23aT := by kernel_rfl
theorem N23abits : waitsOk N23aT.2 N23aB = true := by kernel_rfl
set_option maxHeartbeats 8000000 in
set_option maxRecDepth 100000 in
theorem lOf_calls (G : Gr) (r : Int) (w : World) (hG : G.Held w) (hF : FitOK G) : Calls Try.prog 23 #[G.v, .int .i64 r] w (Ret5 (getV G r) w) := by
  have hlen := tabV_len G G.l0.length
  have hgv : getV G r = if r < 0 ∨ G.regs ≤ r then (z23, false) else (rd_T23 (tabV G G.l0.length).1 r, (tabV G G.l0.length).2.getD r.toNat false) := rfl
  have KFC := Aside0.mk (fun (W : World) (h : G.Held W) => forms_calls G W h hF)
  generalize tabV G G.l0.length = T at hlen hgv KFC
  rw [hgv]
  clear hgv
  obtain ⟨A0, c0, l0, a1, a2, a3, A4, c4, l4, A5, c5, l5, A6, c6, l6, A7, c7, l7⟩ := G
  have QG := Aside0.mk hG
  simp only [Gr.v] at *
  have hu41 := Try.underlying41
  have hu23 := Try.underlying23
  have HB := Aside0.mk (Below.refl w.heap.size w)
  clear hG hF
  by_cases h0 : r < 0
  · rw [if_pos (.inl h0)]
    have h0b := decide_eq_true h0
    go_enter Try.func23, Try.ntmps23
    go_wp2_with (first | ((with_reducible refine gate_dst (N := 2) rfl ?_); refine boxQ 2 #[.slice A0 l0.length c0, .int .i64 a1, .int .i64 a2, .int .i64 a3, .slice A4 l4.length c4, .slice A5 l5.length c5, .slice A6 l6.length c6, .slice A7 l7.length c7] 41 HB ?_; clear HB; intro gb w1 _ GW BK _ HB; have hcf := hcf8 BK; obtain ⟨_, _, _, _, _, _, _, _, _, _, _, _, _, _, _, _⟩ := hcf) | ((with_reducible refine gate_dst (N := 4) rfl ?_); refine boxQ 4 #[.int .i64 0, .int .i64 0, .int .i64 0, .int .i64 0, .int .i64 0] 23 HB ?_; intro gx wx eg GX BX hb HX; have NX := bn1 BK eg.out; replace BK := bbw BK hb.out; clear HB hb eg; have HB := HX; clear HX; have hcf := hcf8 BK; obtain ⟨_, _, _, _, _, _, _, _, _, _, _, _, _, _, _, _⟩ := hcf; have hcf := hcf5 BX; obtain ⟨_, _, _, _, _, _, _, _, _, _⟩ := hcf; have hnx := NX.out) | ((with_reducible refine gate_store (p := 4) (t := 23) rfl ?_); refine store_box rfl rfl rfl gx 23 _ _ (pkA BX).out rfl rfl (by kernel_rfl) rfl (by kernel_rfl) ?_; intro ws hbs hgs; have HS := Aside0.mk (Below_boxed (bpk HB).out (Nat.le_refl _) GX.out hgs); clear HB BX BK hgs; have HB := HS; have BX := Aside0.mk hbs; clear HS hbs))
    refine bodyPost_ret (results_ct rfl _ _ gx 23 _ (0, 0) _ rfl (pkA BX).out Try.underlying23 rfl (by kernel_rfl)) rfl ?_
    exact ⟨rfl, (bpk HB).out⟩
  · have h0b := decide_eq_false h0
    by_cases h1 : a2 ≤ r
    · rw [if_pos (.inr h1)]
      have h1b := decide_eq_true h1
      go_enter Try.func23, Try.ntmps23
      go_wp2_with (first | ((with_reducible refine gate_dst (N := 2) rfl ?_); refine boxQ 2 #[.slice A0 l0.length c0, .int .i64 a1, .int .i64 a2, .int .i64 a3, .slice A4 l4.length c4, .slice A5 l5.length c5, .slice A6 l6.length c6, .slice A7 l7.length c7] 41 HB ?_; clear HB; intro gb w1 _ GW BK _ HB; have hcf := hcf8 BK; obtain ⟨_, _, _, _, _, _, _, _, _, _, _, _, _, _, _, _⟩ := hcf) | ((with_reducible refine gate_dst (N := 4) rfl ?_); refine boxQ 4 #[.int .i64 0, .int .i64 0, .int .i64 0, .int .i64 0, .int .i64 0] 23 HB ?_; intro gx wx eg GX BX hb HX; have NX := bn1 BK eg.out; replace BK := bbw BK hb.out; clear HB hb eg; have HB := HX; clear HX; have hcf := hcf8 BK; obtain ⟨_, _, _, _, _, _, _, _, _, _, _, _, _, _, _, _⟩ := hcf; have hcf := hcf5 BX; obtain ⟨_, _, _, _, _, _, _, _, _, _⟩ := hcf; have hnx := NX.out) | ((with_reducible refine gate_store (p := 4) (t := 23) rfl ?_); refine store_box rfl rfl rfl gx 23 _ _ (pkA BX).out rfl rfl (by kernel_rfl) rfl (by kernel_rfl) ?_; intro ws hbs hgs; have HS := Aside0.mk (Below_boxed (bpk HB).out (Nat.le_refl _) GX.out hgs); clear HB BX BK hgs; have HB := HS; have BX := Aside0.mk hbs; clear HS hbs))
      refine bodyPost_ret (results_ct rfl _ _ gx 23 _ (0, 0) _ rfl (pkA BX).out Try.underlying23 rfl (by kernel_rfl)) rfl ?_
      exact ⟨rfl, (bpk HB).out⟩
    · rw [if_neg (fun h => h.elim h0 h1)]
      have h1b := decide_eq_false h1
      have KL := Aside0.mk hlen
      clear hlen
      have H01 := Aside0.mk (And.intro h0 h1)
      clear h0 h1
      go_enter Try.func23, Try.ntmps23
      go_upto_region 4 with (first | ((with_reducible refine gate_dst (N := 2) rfl ?_); refine boxQ 2 #[.slice A0 l0.length c0, .int .i64 a1, .int .i64 a2, .int .i64 a3, .slice A4 l4.length c4, .slice A5 l5.length c5, .slice A6 l6.length c6, .slice A7 l7.length c7] 41 HB ?_; clear HB; intro gb w1 _ GW BK _ HB; have hcf := hcf8 BK; obtain ⟨_, _, _, _, _, _, _, _, _, _, _, _, _, _, _, _⟩ := hcf) | ((with_reducible refine gate_dst (N := 4) rfl ?_); refine boxQ 4 #[.int .i64 0, .int .i64 0, .int .i64 0, .int .i64 0, .int .i64 0] 23 HB ?_; intro gx wx eg GX BX hb HX; have NX := bn1 BK eg.out; replace BK := bbw BK hb.out; clear HB hb eg; have HB := HX; clear HX; have hcf := hcf8 BK; obtain ⟨_, _, _, _, _, _, _, _, _, _, _, _, _, _, _, _⟩ := hcf; have hcf := hcf5 BX; obtain ⟨_, _, _, _, _, _, _, _, _, _⟩ := hcf; have hnx := NX.out) | ((with_reducible refine gate_callee (f := 21) rfl ?_); refine goesL_ (some 19) rfl rfl Try.func21 (by kernel_rfl) rfl #[.agg #[.slice A0 l0.length c0, .int .i64 a1, .int .i64 a2, .int .i64 a3, .slice A4 l4.length c4, .slice A5 l5.length c5, .slice A6 l6.length c6, .slice A7 l7.length c7]] rfl (by (try simp only [List.map_toArray, List.map_cons, List.map_nil]); first | done | rfl) ?_; refine (KFC.out _ (QG.out.below (bpk HB).out)).mono ?_; rintro e w' ⟨⟨Af, cf, Ao, co, rfl, hCf, hCo, hgf, hgo⟩, hb⟩; have HGF : Aside0 (0 < T.1.length → ∃ g, Af = some ⟨g, 0, none⟩ ∧ gx < g) := ⟨fun hp => (hgf hp).imp fun g hg => ⟨hg.1, Nat.lt_of_lt_of_le (blk_lt (pkA BX).out) hg.2⟩⟩; have HGO : Aside0 (0 < T.2.length → ∃ g, Ao = some ⟨g, 0, none⟩ ∧ gx < g) := ⟨fun hp => (hgo hp).imp fun g hg => ⟨hg.1, Nat.lt_of_lt_of_le (blk_lt (pkA BX).out) hg.2⟩⟩; clear hgf hgo; replace BX := bbw BX hb; replace HB := bst HB hb; clear hb BK; have QF := Aside0.mk hCf; have QO := Aside0.mk hCo; clear hCf hCo; refine ⟨_, rfl, ?_⟩))
      rename World => wd
      obtain ⟨h0, h1⟩ := H01.out
      obtain ⟨hlf, hlo⟩ := KL.out
      (try dsimp only at hlf hlo)
      have HBd := Aside0.mk (Below.refl wd.heap.size wd)
      obtain ⟨gF, ef, hgF⟩ := HGF.out (by omega)
      obtain ⟨gO, eo, hgO⟩ := HGO.out (by omega)
      subst ef
      subst eo
      obtain ⟨adF, ee, xf_0, xf_1, xf_2, xf_3, xf_4⟩ := at_T23 QF.out r (by omega) (by omega)
      cases ee
      obtain ⟨adO, ee, xo⟩ := Kd.at_bool QO.out r (by omega) (by omega)
      cases ee
      replace xo : wd.cell? _ = some (.bool (T.2.getD r.toNat false)) := xo
      simp only [add_plain] at xf_0 xf_1 xf_2 xf_3 xf_4 xo
      have pr := eq_true (show (0 : Int) ≤ r by omega)
      have qf := eq_true (show r < (T.1.length : Int) by omega)
      have qo := eq_true (show r < (T.2.length : Int) by omega)
      have qf2 := eq_true (show r.toNat < T.1.length by omega)
      have qo2 := eq_true (show r.toNat < T.2.length by omega)
      clear h0 h1 hlf hlo
      generalize rd_T23 T.1 r = la at *
      generalize T.2.getD r.toNat false = oa at *
      have hS : ∀ w' : World, Below wd.heap.size wd w' → (w'.cell? ⟨gF, r.toNat * 5, none⟩ = some (.int .i64 la.f0) ∧ w'.cell? ⟨gF, r.toNat * 5 + 1, none⟩ = some (.int .i64 la.f1) ∧ w'.cell? ⟨gF, r.toNat * 5 + 2, none⟩ = some (.int .i64 la.f2) ∧ w'.cell? ⟨gF, r.toNat * 5 + 3, none⟩ = some (.int .i64 la.f3) ∧ w'.cell? ⟨gF, r.toNat * 5 + 4, none⟩ = some (.int .i64 la.f4) ∧ w'.cell? ⟨gO, r.toNat, none⟩ = some (.bool oa)) := fun w' hB => ⟨(hB.cell (World.block_lt_of_cell? wd _ xf_0)).trans xf_0, (hB.cell (World.block_lt_of_cell? wd _ xf_1)).trans xf_1, (hB.cell (World.block_lt_of_cell? wd _ xf_2)).trans xf_2, (hB.cell (World.block_lt_of_cell? wd _ xf_3)).trans xf_3, (hB.cell (World.block_lt_of_cell? wd _ xf_4)).trans xf_4, (hB.cell (World.block_lt_of_cell? wd _ xo)).trans xo⟩
      refine start_ (n := 10) (S := fun w' => w'.cell? ⟨gF, r.toNat * 5, none⟩ = some (.int .i64 la.f0) ∧ w'.cell? ⟨gF, r.toNat * 5 + 1, none⟩ = some (.int .i64 la.f1) ∧ w'.cell? ⟨gF, r.toNat * 5 + 2, none⟩ = some (.int .i64 la.f2) ∧ w'.cell? ⟨gF, r.toNat * 5 + 3, none⟩ = some (.int .i64 la.f3) ∧ w'.cell? ⟨gF, r.toNat * 5 + 4, none⟩ = some (.int .i64 la.f4) ∧ w'.cell? ⟨gO, r.toNat, none⟩ = some (.bool oa)) (ds := []) #[false, false, false, false, false, false, false, false, false, false] (by kernel_rfl) rfl rfl (hS _ (below_drew1 HBd.out)) (fun hHeld => ?_)
      refine with_tabW N23atab N23abits (fun HT_ HW_ => ?_)
      replace BX := Aside0.mk (blk_drew (pkA BX).out)
      replace HB := Aside0.mk (below_drew1 (bpk HB).out)
      replace HBd := Aside0.mk (below_drew1 HBd.out)
      have GXd : Aside0 (gx < wd.heap.size) := ⟨blk_lt BX.out⟩
      generalize hwa : World.drew wd = wa at BX HB HBd hHeld ⊢
      refine pureQ 0 22 HT_.out ?_
      refine pureQ 1 23 HT_.out ?_
      refine pureQ 2 24 HT_.out ?_
      refine pureQ 4 26 HT_.out ?_
      refine pureQ 5 27 HT_.out ?_
      refine pureQ 6 28 HT_.out ?_
      refine takeQ 3 25 HT_.out HW_.out hHeld ?_
      refine takeQ 7 29 HT_.out HW_.out hHeld ?_
      refine one_ (i := 8) (N := none) #[true, true, true, true, true, true, true, true, true, false] rfl rfl (one_of HT_.out (by kernel_rfl)) (by decide) (fun K hK => ?_)
      obtain ⟨wz, hwz⟩ : ∃ wz, wz = (((((wa).setCell ⟨gx, 0, none⟩ (.int .i64 la.f0)).setCell ⟨gx, 1, none⟩ (.int .i64 la.f1)).setCell ⟨gx, 2, none⟩ (.int .i64 la.f2)).setCell ⟨gx, 3, none⟩ (.int .i64 la.f3)).setCell ⟨gx, 4, none⟩ (.int .i64 la.f4) := ⟨_, rfl⟩
      obtain ⟨z1, z2, z3⟩ := set5 BX.out _ _ _ _ _ wz hwz
      have hfx := hcf5 BX
      obtain ⟨_, _, _, _, _, _, _, _, _, _⟩ := hfx
      have KF := Aside0.mk hgF
      have KO := Aside0.mk hgO
      clear hgF hgO
      have hSz : wz.cell? ⟨gF, r.toNat * 5, none⟩ = some (.int .i64 la.f0) ∧ wz.cell? ⟨gF, r.toNat * 5 + 1, none⟩ = some (.int .i64 la.f1) ∧ wz.cell? ⟨gF, r.toNat * 5 + 2, none⟩ = some (.int .i64 la.f2) ∧ wz.cell? ⟨gF, r.toNat * 5 + 3, none⟩ = some (.int .i64 la.f3) ∧ wz.cell? ⟨gF, r.toNat * 5 + 4, none⟩ = some (.int .i64 la.f4) ∧ wz.cell? ⟨gO, r.toNat, none⟩ = some (.bool oa) := by
        have hfar : ∀ (p : Addr) (v : Value), wa.cell? p = some v → p.block ≠ gx → wz.cell? p = some v := fun p v hp hne => by
          have : ∀ (W : World) (i : Nat) (u : Value), (W.setCell ⟨gx, i, none⟩ u).cell? p = W.cell? p := fun W i u => cell_far hne u
          rw [hwz]
          simp only [this]
          exact hp
        have hnF := KF.out
        have hnO := KO.out
        obtain ⟨y0, y1, y2, y3, y4, y5⟩ := hHeld
        refine ⟨hfar _ _ y0 ?_, hfar _ _ y1 ?_, hfar _ _ y2 ?_, hfar _ _ y3 ?_, hfar _ _ y4 ?_, hfar _ _ y5 ?_⟩
        all_goals (dsimp only; omega)
      refine skip_ (w1 := wz) (by rfl) rfl (by rw [hwz]; go_simp) ?_
      clear hwz
      replace HB := Aside0.mk (z3 _ GX.out HB.out)
      clear BX
      have BX := Aside0.mk z1
      clear z1 z2 z3
      refine hK.out _ _ hSz (fun hHeld => ?_)
      clear hK K
      refine pureQ 9 5 HT_.out ?_
      refine done_ (done_of HT_.out (by kernel_rfl)) ?_
      clear hHeld HT_ HW_ hS hSz
      go_wp2
      refine bodyPost_ret (results_ct rfl _ _ gx 23 _ (0, 0) _ rfl (pkA BX).out Try.underlying23 rfl (by kernel_rfl)) rfl ?_
      exact ⟨rfl, (bpk HB).out⟩
end Go.Proofs.Ytllfopbchdahoaa.P
