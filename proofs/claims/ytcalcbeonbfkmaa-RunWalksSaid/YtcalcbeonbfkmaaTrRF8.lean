/- What the law's proof needs of F8. -/
import Derived.Test.YtcalcbeonbfkmaaTrRF7
namespace Go.Proofs.Ytcalcbeonbfkmaa.P
open Go.RowKit Go.Proofs.YtcalcbeonbfkmaaW.PrintWords Go.Proofs.YtcalcbeonbfkmaaW.PrintLast Go.Proofs.YtcalcbeonbfkmaaW.PrintMore Go.Proofs.YtcalcbeonbfkmaaO
attribute [local go_sem] max2_int min2_int max_two min_two max_three min_three max_four min_four
set_option linter.unusedVariables false
set_option linter.unusedSimpArgs false
/-- It gives a temp its value. -/
def isP (y : S52) : Prop := 1 ≤ y.f0 ∧ y.f0 ≤ 12
instance (y : S52) : Decidable (isP y) := by unfold isP; infer_instance
def cnt (l : List S52) : Nat → Nat
  | 0 => 0
  | k + 1 => cnt l k + if isP (rd_T52 l (k : Int)) then 1 else 0
theorem cnt_le (l : List S52) : ∀ k, cnt l k ≤ k
  | 0 => Nat.le_refl _
  | k + 1 => by have := cnt_le l k; unfold cnt; split <;> omega
theorem cnt_pos {l : List S52} {k : Nat} (h : isP (rd_T52 l (k : Int))) : cnt l (k + 1) = cnt l k + 1 := by show cnt l k + _ = _; rw [if_pos h]
theorem cnt_neg {l : List S52} {k : Nat} (h : ¬ isP (rd_T52 l (k : Int))) : cnt l (k + 1) = cnt l k := by show cnt l k + _ = _; rw [if_neg h]; rfl
structure DefsOK (G : Gr) (ds : List Int) : Prop where
  regs : G.regs = (G.l5.length : Int) + (ds.length : Int)
  le : ds.length ≤ G.l0.length
  dst : ∀ p : Nat, p < G.l0.length → isP (rd_T52 G.l0 (p : Int)) → ∃ j : Nat, j < ds.length ∧ (rd_T52 G.l0 (p : Int)).f1 = (G.l5.length : Int) + (j : Int) ∧ ds.getD j 0 = (p : Int)
  all : ∀ j : Nat, j < ds.length → ∃ p : Nat, p < G.l0.length ∧ ds.getD j 0 = (p : Int) ∧ isP (rd_T52 G.l0 (p : Int))
def RetD (G : Gr) (e : Ending) (w' : World) : Prop := ∃ A c b, ∃ ds : List Int, e = .returned (.tuple #[.slice A ds.length c, .bool b]) ∧ Kd.C (Kd.int .i64) w' A ds.length ds ∧ (b = true → DefsOK G ds)
theorem RetD_no {G : Gr} {w' : World} : RetD G (.returned (.tuple #[.slice none 0 0, .bool false])) w' := ⟨none, 0, false, [], rfl, (Kd.R_reads' (Kd.R_nil (Kd.int .i64) 3 w' 0 (fun _ => True))).2.2, fun h => nomatch h⟩
theorem RetD_R {G : Gr} {W w' : World} {b : Nat} {ok : Nat → Prop} {A : Option Addr} {n c : Nat} {us : List Int} (HO : Aside0 (Kd.R (Kd.int .i64) 3 W b ok (.slice A n c) us)) (h : DefsOK G us) (hW : Kd.R (Kd.int .i64) 3 W b ok (.slice A n c) us → Kd.R (Kd.int .i64) 3 w' b ok (.slice A n c) us := by (intro hq_; (with_reducible repeat (first | exact hq_ | apply Kd.R_alloc | apply Kd.R_drewN | apply Kd.R_drew)); try exact hq_)) : RetD G (.returned (.tuple #[.slice A n c, .bool true])) w' := by
  have h2 := hW HO.out
  have e := (Kd.R_reads' h2).1
  subst e
  exact ⟨A, c, true, us, rfl, (Kd.R_reads' h2).2.2, fun _ => h⟩
theorem getD_set {l : List Int} {i j : Nat} {v : Int} (hi : i < l.length) : (l.set i v).getD j 0 = if i = j then v else l.getD j 0 := by
  rw [List.getD_eq_getElem?_getD, List.getElem?_set]
  by_cases e : i = j
  · rw [if_pos e, if_pos e, if_pos hi]; rfl
  · rw [if_neg e, if_neg e, List.getD_eq_getElem?_getD]
/-- The places that are still free. -/
def free (l : List Int) : Nat := l.countP (fun x => decide (x < 0))
theorem free_set {l : List Int} {i : Nat} {v : Int} (hi : i < l.length) (h0 : l.getD i 0 < 0) (hv : 0 ≤ v) : free (l.set i v) + 1 = free l := by
  have e : l[i] < 0 := by rw [List.getD_eq_getElem?_getD, List.getElem?_eq_getElem hi] at h0; exact h0
  have hp : 0 < l.countP (fun x => decide (x < 0)) := List.countP_pos_iff.mpr ⟨l[i], List.getElem_mem hi, decide_eq_true e⟩
  unfold free
  rw [List.countP_set hi, if_pos (by simpa using e), if_neg (by simpa using hv)]
  omega
theorem free_zero {l : List Int} (h : free l = 0) (j : Nat) (hj : j < l.length) : 0 ≤ l.getD j 0 := by
  unfold free at h
  rw [List.countP_eq_zero] at h
  have := h l[j] (List.getElem_mem hj)
  rw [List.getD_eq_getElem?_getD, List.getElem?_eq_getElem hj]
  simpa using this
/-- What the third loop keeps. -/
structure Kept3 (G : Gr) (n k : Nat) (ds : List Int) : Prop where
  len : ds.length = n
  dst : ∀ p : Nat, p < k → isP (rd_T52 G.l0 (p : Int)) → ∃ j : Nat, j < n ∧ (rd_T52 G.l0 (p : Int)).f1 = (G.l5.length : Int) + (j : Int) ∧ ds.getD j 0 = (p : Int)
  all : ∀ j : Nat, j < n → ds.getD j 0 < 0 ∨ ∃ p : Nat, p < k ∧ ds.getD j 0 = (p : Int) ∧ isP (rd_T52 G.l0 (p : Int))
  fr : free ds + cnt G.l0 k = n
theorem Kept3.start {G : Gr} {ds : List Int} (h : ∀ j : Nat, j < ds.length → ds.getD j 0 = -1) : Kept3 G ds.length 0 ds :=
  ⟨rfl, fun p hp => absurd hp (Nat.not_lt_zero p), fun j hj => .inl (by rw [h j hj]; decide), by
    have : free ds = ds.length := List.countP_eq_length.mpr fun a ha => by
      obtain ⟨j, hj, rfl⟩ := List.mem_iff_getElem.mp ha
      have := h j hj
      rw [List.getD_eq_getElem?_getD, List.getElem?_eq_getElem hj] at this
      simp only [Option.getD_some] at this
      simp [this]
    unfold cnt; omega⟩
theorem Kept3.pass {G : Gr} {n k : Nat} {ds : List Int} (h : Kept3 G n k ds) (hp : ¬ isP (rd_T52 G.l0 (k : Int))) : Kept3 G n (k + 1) ds :=
  ⟨h.len, fun p hk hi => by
    by_cases e : p = k
    · subst e; exact absurd hi hp
    · exact h.dst p (by omega) hi, fun j hj => (h.all j hj).imp id fun ⟨p, hk, e⟩ => ⟨p, by omega, e⟩, by unfold cnt; rw [if_neg hp]; exact h.fr⟩
theorem Kept3.put {G : Gr} {n k j : Nat} {ds : List Int} (h : Kept3 G n k ds) (hp : isP (rd_T52 G.l0 (k : Int))) (hj : j < n) (hd : (rd_T52 G.l0 (k : Int)).f1 = (G.l5.length : Int) + (j : Int)) (hn : ds.getD j 0 < 0) : Kept3 G n (k + 1) (ds.set j (k : Int)) := by
  have hl : j < ds.length := by rw [h.len]; exact hj
  refine ⟨by rw [List.length_set]; exact h.len, fun p hk hi => ?_, fun i hi => ?_, ?_⟩
  · by_cases e : p = k
    · subst e
      exact ⟨j, hj, hd, by rw [getD_set hl, if_pos rfl]⟩
    · obtain ⟨i, hi1, hi2, hi3⟩ := h.dst p (by omega) hi
      refine ⟨i, hi1, hi2, ?_⟩
      rw [getD_set hl, if_neg]
      · exact hi3
      · intro e2
        subst e2
        omega
  · rw [getD_set hl]
    by_cases e : j = i
    · rw [if_pos e]
      exact .inr ⟨k, by omega, rfl, hp⟩
    · rw [if_neg e]
      exact (h.all i hi).imp id fun ⟨p, hk, e⟩ => ⟨p, by omega, e⟩
  · have := free_set hl hn (v := (k : Int)) (by omega)
    have := h.fr
    unfold cnt
    rw [if_pos hp]
    omega
theorem Kept3.done {G : Gr} {n : Nat} {ds : List Int} (h : Kept3 G n G.l0.length ds) (hn : n = cnt G.l0 G.l0.length) (hr : G.regs = (G.l5.length : Int) + (n : Int)) : DefsOK G ds := by
  have hf : free ds = 0 := by have := h.fr; omega
  have hl := h.len
  refine ⟨by rw [hl]; exact hr, by rw [hl, hn]; exact cnt_le _ _, fun p hp hi => ?_, fun j hj => ?_⟩
  · obtain ⟨j, h1, h2, h3⟩ := h.dst p hp hi
    exact ⟨j, by omega, h2, h3⟩
  · rcases h.all j (by omega) with h1 | h1
    · have := free_zero hf j hj; omega
    · exact h1
theorem boxed_other {w w' : World} {g g' : Nat} {o : Obj} (h : Aside0 (w.heap[g']? = some o)) (hg : w.grownBy w' (some g)) (hne : Aside0 (g' ≠ g)) : Aside0 (w'.heap[g']? = some o) :=
  ⟨blk_grown h.out hg (fun e => hne.out (Option.some.inj e))⟩
set_option maxHeartbeats 8000000 in
set_option maxRecDepth 100000 in
theorem defs_calls (G : Gr) (w : World) (hG : G.Held w) (hn0 : G.l0.length ≤ 4096) (hn5 : G.l5.length ≤ 64)
    (hd : ∀ p : Nat, p < G.l0.length → -9223372036854775808 ≤ (rd_T52 G.l0 (p : Int)).f1 ∧ (rd_T52 G.l0 (p : Int)).f1 ≤ 9223372036854775807) : Calls Try.prog 19 #[G.v] w fun e w' => RetD G e w' ∧ Below w.heap.size w w' := by
  obtain ⟨A0, c0, l0, a1, a2, a3, A4, c4, l4, A5, c5, l5, A6, c6, l6, A7, c7, l7⟩ := G
  obtain ⟨H0, H4, H5, H6, H7, k0, k5, k7⟩ := hG
  simp only [Gr.v] at *
  have hu28 := Try.underlying28
  have hu52 := Try.underlying52
  have HB := Aside0.mk (Below.refl w.heap.size w)
  have Q0 := Aside0.mk H0
  have KD := Aside0.mk hd
  clear H0 H4 H5 H6 H7 hd
  go_enter Try.func19, Try.ntmps19
  go_wp2_with (first | ((with_reducible refine gate_dst (N := 1) rfl ?_); refine boxQ 1 #[.slice A0 l0.length c0, .int .i64 a1, .int .i64 a2, .int .i64 a3, .slice A4 l4.length c4, .slice A5 l5.length c5, .slice A6 l6.length c6, .slice A7 l7.length c7] 28 HB ?_; clear HB; intro gb w1 _ GW BK _ HB; have hcf := hcf8 BK; obtain ⟨_, _, _, _, _, _, _, _, _, _, _, _, _, _, _, _⟩ := hcf))
  go_loopw [4, 15] (fun n i wr => ∃ k : Nat, k ≤ l0.length ∧ n = .int .i64 (cnt l0 k : Int) ∧ i = .int .i64 (k : Int) ∧ Aside0 (wr.heap[gb]? = some (.cells #[.slice A0 l0.length c0, .int .i64 a1, .int .i64 a2, .int .i64 a3, .slice A4 l4.length c4, .slice A5 l5.length c5, .slice A6 l6.length c6, .slice A7 l7.length c7] 28 (0, 0))) ∧ Aside0 (Below w.heap.size w wr)) (fun _ i _ => l0.length - (intOf i).toNat)
  case atStart => exact ⟨0, Nat.zero_le _, rfl, rfl, pkA BK, bpk HB⟩
  case round =>
   rename World => wl
   clear HB BK
   obtain ⟨k, hk, rfl, rfl, BK, HB⟩ := hrel
   by_cases hlt : k < l0.length
   · obtain ⟨ad0, ee, hx_0, hx_1, hx_2, hx_3, hx_4, hx_5, hx_6, hx_7⟩ := at_T52 Q0.out (k : Int) (by omega) (by omega)
     replace hx_0 := (HB.out.cell (World.block_lt_of_cell? w _ hx_0)).trans hx_0
     replace hx_1 := (HB.out.cell (World.block_lt_of_cell? w _ hx_1)).trans hx_1
     replace hx_2 := (HB.out.cell (World.block_lt_of_cell? w _ hx_2)).trans hx_2
     replace hx_3 := (HB.out.cell (World.block_lt_of_cell? w _ hx_3)).trans hx_3
     replace hx_4 := (HB.out.cell (World.block_lt_of_cell? w _ hx_4)).trans hx_4
     replace hx_5 := (HB.out.cell (World.block_lt_of_cell? w _ hx_5)).trans hx_5
     replace hx_6 := (HB.out.cell (World.block_lt_of_cell? w _ hx_6)).trans hx_6
     replace hx_7 := (HB.out.cell (World.block_lt_of_cell? w _ hx_7)).trans hx_7
     have hcf := hcf8 BK
     obtain ⟨_, _, _, _, _, _, _, _, _, _, _, _, _, _, _, _⟩ := hcf
     have hlt2 : decide ((k : Int) < (l0.length : Int)) = true := decide_eq_true (by omega)
     generalize hy : rd_T52 l0 (k : Int) = y at hx_0 hx_1 hx_2 hx_3 hx_4 hx_5 hx_6 hx_7
     cases ee
     simp only [Int.toNat_natCast] at hx_0 hx_1 hx_2 hx_3 hx_4 hx_5 hx_6 hx_7
     have hcw : wrap64 ((cnt l0 k : Int) + 1) = ((cnt l0 k + 1 : Nat) : Int) := by rw [Go.Proofs.Ytcalcbeonbfkmaa.M.wrap64_in _ (by have := cnt_le l0 k; omega)]; omega
     go_wp2_with (first | ((with_reducible refine gate_dst (N := 6) rfl ?_); refine boxQ 6 #[.int .i64 0, .int .i64 0, .int .i64 0, .int .i64 0, .int .i64 0, .int .i64 0, .int .i64 0, .int .i64 0] 52 HB ?_; intro gx wx eg GX BX hb HX; have NX := bn1 BK eg.out; have NX2 := bn2 BK eg.out; replace BK := bbw BK hb.out; clear HB hb eg; have HB := HX; clear HX; have hcf := hcf8 BX; obtain ⟨_, _, _, _, _, _, _, _, _, _, _, _, _, _, _, _⟩ := hcf; have hnx := NX.out; have hnx2 := NX2.out) | ((with_reducible refine gate_store (p := 6) (t := 52) rfl ?_); refine store_box rfl rfl rfl gx 52 _ #[.int .i64 y.f0, .int .i64 y.f1, .int .i64 y.f2, .int .i64 y.f3, .int .i64 y.f4, .int .i64 y.f5, .int .i64 y.f6.f0, .int .i64 y.f6.f1] (pkA BX).out rfl rfl (by kernel_rfl) rfl (by kernel_rfl) ?_; intro ws hbs hgs; have HS := Aside0.mk (Below_boxed (bpk HB).out (Nat.le_refl _) GX.out hgs); replace BK := boxed_other (pkA BK) hgs NX; clear HB BX hgs; have HB := HS; have BX := Aside0.mk hbs; clear HS hbs; have hcf := hcf8 BX; obtain ⟨_, _, _, _, _, _, _, _, _, _, _, _, _, _, _, _⟩ := hcf))
     all_goals (go_roundw; (case measure => simp [intOf]; omega); (case rel => exact ⟨k + 1, by omega, by (first | rw [cnt_pos (by rw [hy]; unfold isP; omega), ← hcw] | rw [cnt_neg (by rw [hy]; unfold isP; omega)]), by simp, pkA BK, bpk HB⟩))
   · obtain rfl : k = l0.length := by omega
     have hlt2 : decide ((l0.length : Int) < (l0.length : Int)) = false := decide_eq_false (by omega)
     have hcf := hcf8 BK
     obtain ⟨_, _, _, _, _, _, _, _, _, _, _, _, _, _, _, _⟩ := hcf
     have hcn := cnt_le l0 l0.length
     generalize hN : cnt l0 l0.length = n at *
     have hw1 : wrap64 ((l5.length : Int) + (n : Int)) = (l5.length : Int) + (n : Int) := Go.Proofs.Ytcalcbeonbfkmaa.M.wrap64_in _ (by omega)
     have hw2 : IntKind.i64.wrap ((l5.length : Int) + (n : Int)) = (l5.length : Int) + (n : Int) := (i64_w _).trans hw1
     by_cases hr : a2 = (l5.length : Int) + (n : Int)
     · have hrb : (a2 != (l5.length : Int) + (n : Int)) = false := bne_eq_false_iff_eq.mpr hr
       go_wp2_with (first | ((with_reducible refine gate_dst (N := 39) rfl ?_); refine Kd.R_make (Kd.int .i64) _ 3 rfl (N := 39) rfl 53 _ _ rfl (n : Int) rfl rfl Try.underlying53 (.int .i64 0) 8 info3 rfl (by decide) (by omega) 0 (ok := fun _ => True) (okp := fun _ => True) rfl (fun _ hk => hk) trivial (by omega) (by rw [Int.toNat_natCast]; omega) (Below.refl _ _) (Nat.le_refl _) ?_; intro v wo ho hb hg_ hnew_; clear hg_ hnew_; rw [Int.toNat_natCast] at ho; have HO := Aside0.mk (Kd.R_lower ho (below_size (bpk HB).out)); replace BK := bbw BK hb; replace HB := bst HB hb; clear hb ho; obtain ⟨Ao, co, eo⟩ := Kd.R_slice HO.out; subst eo; rw [List.length_replicate] at HO ⊢))
       go_loopw [42] (fun i wr => ∃ k : Nat, ∃ ds : List Int, k ≤ n ∧ ds.length = n ∧ i = .int .i64 (k : Int) ∧ (∀ j : Nat, j < k → ds.getD j 0 = -1) ∧ Aside0 (Kd.R (Kd.int .i64) 3 wr w.heap.size (fun _ => True) (.slice Ao n co) ds) ∧ Aside0 (wr.heap[gb]? = some (.cells #[.slice A0 l0.length c0, .int .i64 a1, .int .i64 a2, .int .i64 a3, .slice A4 l4.length c4, .slice A5 l5.length c5, .slice A6 l6.length c6, .slice A7 l7.length c7] 28 (0, 0))) ∧ Aside0 (Below w.heap.size w wr)) (fun i _ => n - (intOf i).toNat)
       case atStart => exact ⟨0, List.replicate n 0, Nat.zero_le _, List.length_replicate, rfl, fun j hj => absurd hj (Nat.not_lt_zero j), ⟨rup HO⟩, pkA BK, bpk HB⟩
       case round =>
        rename World => wm
        clear HB BK HO
        obtain ⟨k, ds, hk, hl, rfl, hm, HO, BK, HB⟩ := hrel
        have hcf := hcf8 BK
        obtain ⟨_, _, _, _, _, _, _, _, _, _, _, _, _, _, _, _⟩ := hcf
        by_cases hlt : k < n
        · obtain ⟨go, co2, eo, gB, gL, cL, HG⟩ := Kd.R_form HO.out (by omega)
          injection eo with ea en ec
          subst ea
          have GB := Aside0.mk gB
          clear gB gL HG en ec cL co2
          have hlt2 : decide ((k : Int) < (n : Int)) = true := decide_eq_true (by omega)
          have p1 : ((0 : Int) ≤ (k : Int)) = True := eq_true (by omega)
          have q1 : ((k : Int) < (n : Int)) = True := eq_true (by omega)
          have q2 : (k < n) = True := eq_true (by omega)
          obtain ⟨hx, hf⟩ := Kd.R_celln 0 HO.out (k : Int) (by omega) (by omega)
          have HP := Kd.R_putg HO.out (k : Int) (-1)
          simp only [Int.toNat_natCast] at hx hf HP
          go_wp2_with (first | ((with_reducible refine gate_store (t := 3) (p := 47) rfl ?_); refine store_event (t := 3) (p := 47) (v := ?vo47) (w1 := (wm.setCell ⟨go, k, none⟩ (.int .i64 (-1)))) ?hg ?ho ?hn ?hr ?_; (case ho => rfl); (case hg => rfl); (case hn => rfl); (case hr => first | (go_simp; done) | (go_simp; rfl)); intro wq hw; have hg : wm.grownBy wq (some go) := (by rw [hw]; exact HP.2); have n0_ : Aside0 (Kd.R (Kd.int .i64) 3 wq w.heap.size (fun _ => True) (.slice (some ⟨go, 0, none⟩) n co) (ds.set k (-1))) := ⟨by rw [hw]; exact HP.1⟩; have n1_ := Aside0.mk (blk_grown (pkA BK).out hg (Kd.R_ne HO.out BK.out (by decide))); have n2_ : Aside0 (Below w.heap.size w wq) := ⟨by rw [hw]; exact below_set HB.out GB.out⟩; clear HP HO BK HB; have HO := n0_; have BK := n1_; have HB := n2_; clear n0_ n1_ n2_ hg hw))
          go_roundw
          case measure => simp [intOf]; omega
          case rel => exact ⟨k + 1, ds.set k (-1), by omega, by rw [List.length_set]; exact hl, by simp, upto_next (P := fun j => (ds.set k (-1)).getD j 0 = -1) (fun j hj => by rw [getD_set (by omega), if_neg (by omega)]; exact hm j hj) (by rw [getD_set (by omega), if_pos rfl]), ⟨rup HO⟩, pkA BK, bpk HB⟩
        · obtain rfl : n = k := by omega
          have hlt2 : decide ((n : Int) < (n : Int)) = false := decide_eq_false (by omega)
          have HK := Kept3.start (G := ⟨A0, c0, l0, a1, a2, a3, A4, c4, l4, A5, c5, l5, A6, c6, l6, A7, c7, l7⟩) (ds := ds) (by rw [hl]; exact hm)
          rw [hl] at HK
          go_wp2
          clear hl hm hk hlt hlt2
          go_loopw [52] (fun i wr => ∃ k : Nat, ∃ ds : List Int, k ≤ l0.length ∧ i = .int .i64 (k : Int) ∧ Kept3 (⟨A0, c0, l0, a1, a2, a3, A4, c4, l4, A5, c5, l5, A6, c6, l6, A7, c7, l7⟩ : Gr) n k ds ∧ Aside0 (Kd.R (Kd.int .i64) 3 wr w.heap.size (fun _ => True) (.slice Ao n co) ds) ∧ Aside0 (wr.heap[gb]? = some (.cells #[.slice A0 l0.length c0, .int .i64 a1, .int .i64 a2, .int .i64 a3, .slice A4 l4.length c4, .slice A5 l5.length c5, .slice A6 l6.length c6, .slice A7 l7.length c7] 28 (0, 0))) ∧ Aside0 (Below w.heap.size w wr)) (fun i _ => l0.length - (intOf i).toNat)
          case atStart => exact ⟨0, ds, Nat.zero_le _, rfl, HK, ⟨rup HO⟩, pkA BK, bpk HB⟩
          case round =>
           rename World => wn
           clear HB BK HO HK ds
           obtain ⟨k, ds, hk, rfl, HK, HO, BK, HB⟩ := hrel
           by_cases hlt : k < l0.length
           · obtain ⟨ad0, ee, hx_0, hx_1, hx_2, hx_3, hx_4, hx_5, hx_6, hx_7⟩ := at_T52 Q0.out (k : Int) (by omega) (by omega)
             replace hx_0 := (HB.out.cell (World.block_lt_of_cell? w _ hx_0)).trans hx_0
             replace hx_1 := (HB.out.cell (World.block_lt_of_cell? w _ hx_1)).trans hx_1
             replace hx_2 := (HB.out.cell (World.block_lt_of_cell? w _ hx_2)).trans hx_2
             replace hx_3 := (HB.out.cell (World.block_lt_of_cell? w _ hx_3)).trans hx_3
             replace hx_4 := (HB.out.cell (World.block_lt_of_cell? w _ hx_4)).trans hx_4
             replace hx_5 := (HB.out.cell (World.block_lt_of_cell? w _ hx_5)).trans hx_5
             replace hx_6 := (HB.out.cell (World.block_lt_of_cell? w _ hx_6)).trans hx_6
             replace hx_7 := (HB.out.cell (World.block_lt_of_cell? w _ hx_7)).trans hx_7
             have hcf := hcf8 BK
             obtain ⟨_, _, _, _, _, _, _, _, _, _, _, _, _, _, _, _⟩ := hcf
             have hlt2 : decide ((k : Int) < (l0.length : Int)) = true := decide_eq_true (by omega)
             generalize hy : rd_T52 l0 (k : Int) = y at hx_0 hx_1 hx_2 hx_3 hx_4 hx_5 hx_6 hx_7
             cases ee
             simp only [Int.toNat_natCast] at hx_0 hx_1 hx_2 hx_3 hx_4 hx_5 hx_6 hx_7
             have hyP := hy
             go_upto_region 19 with (first | ((with_reducible refine gate_dst (N := 10) rfl ?_); refine boxQ 10 #[.int .i64 0, .int .i64 0, .int .i64 0, .int .i64 0, .int .i64 0, .int .i64 0, .int .i64 0, .int .i64 0] 52 HB ?_; intro gx wx eg GX BX hb HX; have NX := bn1 BK eg.out; have NX2 := bn2 BK eg.out; replace BK := bbw BK hb.out; replace HO := rbw HO hb.out; clear HB hb eg; have HB := HX; clear HX; have hcf := hcf8 BX; obtain ⟨_, _, _, _, _, _, _, _, _, _, _, _, _, _, _, _⟩ := hcf; have hnx := NX.out; have hnx2 := NX2.out) | ((with_reducible refine gate_store (p := 10) (t := 52) rfl ?_); refine store_box rfl rfl rfl gx 52 _ #[.int .i64 y.f0, .int .i64 y.f1, .int .i64 y.f2, .int .i64 y.f3, .int .i64 y.f4, .int .i64 y.f5, .int .i64 y.f6.f0, .int .i64 y.f6.f1] (pkA BX).out rfl rfl (by kernel_rfl) rfl (by kernel_rfl) ?_; intro ws hbs hgs; have HS := Aside0.mk (Below_boxed (bpk HB).out (Nat.le_refl _) GX.out hgs); replace BK := boxed_other (pkA BK) hgs NX; have HO2 := Aside0.mk (R_boxed (t := 52) (rup HO) (pkA BX).out (by decide) hgs); clear HO; have HO := HO2; clear HO2; clear HB BX hgs; have HB := HS; have BX := Aside0.mk hbs; clear HS hbs; have hcf := hcf8 BX; obtain ⟨_, _, _, _, _, _, _, _, _, _, _, _, _, _, _, _⟩ := hcf))
             clear hx_0 hx_1 hx_2 hx_3 hx_4 hx_5 hx_6 hx_7
             by_cases hp : isP y
             · have hp1 : decide (y.f0 < 1) = false := decide_eq_false (by unfold isP at hp; omega)
               have hp2 : decide (12 < y.f0) = false := decide_eq_false (by unfold isP at hp; omega)
               obtain ⟨jj, hjj⟩ : ∃ j_ : Int, wrap64 (y.f1 - (l5.length : Int)) = j_ := ⟨_, rfl⟩
               have hjw : IntKind.i64.wrap (y.f1 - (l5.length : Int)) = jj := (i64_w _).trans hjj
               have hcf := hcf8 BK
               obtain ⟨_, _, _, _, _, _, _, _, _, _, _, _, _, _, _, _⟩ := hcf
               by_cases c1 : jj < 0
               · have c1b := decide_eq_true c1
                 go_wp2
                 go_ret2
                 exact ⟨RetD_no, (bpk HB).out⟩
               · have c1b := decide_eq_false c1
                 by_cases c2 : (n : Int) ≤ jj
                 · have c2b := decide_eq_true c2
                   go_wp2
                   go_ret2
                   exact ⟨RetD_no, (bpk HB).out⟩
                 · have c2b := decide_eq_false c2
                   obtain ⟨j, rfl⟩ : ∃ j : Nat, jj = (j : Int) := ⟨jj.toNat, by omega⟩
                   have hln := HK.len
                   obtain ⟨go, co2, eo, gB, gL, cL, HG⟩ := Kd.R_form HO.out (by omega)
                   injection eo with ea en ec
                   subst ea
                   have GB := Aside0.mk gB
                   clear gB gL HG en ec cL co2
                   obtain ⟨hx, hf⟩ := Kd.R_celln 0 HO.out (j : Int) (by omega) (by omega)
                   have HP := Kd.R_putg HO.out (j : Int) (k : Int)
                   simp only [Int.toNat_natCast] at hx hf HP
                   replace hx : ws.cell? ⟨go, j, none⟩ = some (.int .i64 (ds.getD j 0)) := hx
                   have p1 : ((0 : Int) ≤ (j : Int)) = True := eq_true (by omega)
                   have q1 : ((j : Int) < (n : Int)) = True := eq_true (by omega)
                   have q2 : (j < n) = True := eq_true (by omega)
                   obtain ⟨dv, hdv⟩ : ∃ dv, ds.getD j 0 = dv := ⟨_, rfl⟩
                   rw [hdv] at hx
                   by_cases c3 : 0 ≤ dv
                   · have c3b := decide_eq_true c3
                     go_wp2
                     go_ret2
                     exact ⟨RetD_no, (bpk HB).out⟩
                   · have c3b := decide_eq_false c3
                     go_wp2_with (first | ((with_reducible refine gate_store (t := 3) (p := 88) rfl ?_); refine store_event (t := 3) (p := 88) (v := ?vo88) (w1 := (ws.setCell ⟨go, j, none⟩ (.int .i64 (k : Int)))) ?hg ?ho ?hn ?hr ?_; (case ho => rfl); (case hg => rfl); (case hn => rfl); (case hr => first | (go_simp; done) | (go_simp; rfl)); intro wq hw; have hg : ws.grownBy wq (some go) := (by rw [hw]; exact HP.2); have n0_ : Aside0 (Kd.R (Kd.int .i64) 3 wq w.heap.size (fun _ => True) (.slice (some ⟨go, 0, none⟩) n co) (ds.set j (k : Int))) := ⟨by rw [hw]; exact HP.1⟩; have n1_ := Aside0.mk (blk_grown (pkA BK).out hg (Kd.R_ne HO.out BK.out (by decide))); have n2_ : Aside0 (Below w.heap.size w wq) := ⟨by rw [hw]; exact below_set HB.out GB.out⟩; clear HP HO BK HB; have HO := n0_; have BK := n1_; have HB := n2_; clear n0_ n1_ n2_ hg hw))
                     go_roundw
                     case measure => simp [intOf]; omega
                     case rel => exact ⟨k + 1, ds.set j (k : Int), by omega, by simp, HK.put (by show isP (rd_T52 l0 (k : Int)); rw [hy]; exact hp) (by omega) (by show (rd_T52 l0 (k : Int)).f1 = (l5.length : Int) + _; rw [hy]; have hb := KD.out k hlt; simp only [hy] at hb; unfold wrap64 at hjj; omega) (by omega), ⟨rup HO⟩, pkA BK, bpk HB⟩
             · go_wp2
               all_goals (first | (exfalso; unfold isP at hp; omega) | skip)
               all_goals (go_roundw; (case measure => simp [intOf]; omega); (case rel => exact ⟨k + 1, ds, by omega, by simp, HK.pass (by show ¬ isP (rd_T52 l0 (k : Int)); rw [hy]; exact hp), ⟨rup HO⟩, pkA BK, bpk HB⟩))
           · obtain rfl : k = l0.length := by omega
             have hlt2 : decide ((l0.length : Int) < (l0.length : Int)) = false := decide_eq_false (by omega)
             have hcf := hcf8 BK
             obtain ⟨_, _, _, _, _, _, _, _, _, _, _, _, _, _, _, _⟩ := hcf
             go_wp2
             go_ret2
             exact ⟨RetD_R HO (HK.done hN.symm hr), (bpk HB).out⟩
     · have hrb : (a2 != (l5.length : Int) + (n : Int)) = true := bne_iff_ne.mpr hr
       go_wp2
       go_ret2
       exact ⟨RetD_no, (bpk HB).out⟩
end Go.Proofs.Ytcalcbeonbfkmaa.P
