/- What the law's proof needs of F16. -/
import Derived.Test.YtllfopbchdahoaaTrFF15
namespace Go.Proofs.Ytllfopbchdahoaa.P
open Go.RowKit Go.Proofs.YtllfopbchdahoaaW.PrintWords Go.Proofs.YtllfopbchdahoaaW.PrintLast Go.Proofs.YtllfopbchdahoaaW.PrintMore Go.Proofs.YtllfopbchdahoaaO
attribute [local go_sem] max2_int min2_int max_two min_two max_three min_three max_four min_four
set_option linter.unusedVariables false
set_option linter.unusedSimpArgs false
def N21aT : Bool × List (List Nat × List Nat) := (true, [([], []), ([0], [0]), ([1], [1]), ([2, 2], [2]), ([], []), ([4], [4]), ([5], [5]), ([6, 6], [6]), ([3, 7], [3, 7]), ([8], [8]), ([9, 0, 1, 2, 3, 4, 5, 6, 7, 8, 9], [9])])
def N21aB : List Nat := [0, 1, 3, 7, 0, 16, 48, 112, 255, 511, 1023]
theorem N21atab : rtab .any (opsOf Try.f21 1) = N21aT := by kernel_rfl
theorem N21abits : waitsOk N21aT.2 N21aB = true := by kernel_rfl
def N21bT : Bool × List (List Nat × List Nat) := (true, [([], []), ([0], [0]), ([1], [1]), ([2], [2]), ([], []), ([], []), ([5], [5]), ([6], [6]), ([7], [7]), ([], []), ([], []), ([10], [10]), ([3, 4, 0, 1, 2, 3, 4, 8, 10, 11], [3, 4]), ([12, 11, 0, 1, 2, 3, 4, 8, 10, 11], [11, 12]), ([8, 9, 0, 1, 2, 3, 4, 5, 6, 7, 8, 9, 10, 11, 12, 13], [8, 9]), ([14, 13, 0, 1, 2, 3, 4, 5, 6, 7, 8, 9, 10, 11, 12, 13], [14])])
def N21bB : List Nat := [0, 1, 3, 7, 0, 0, 32, 96, 224, 0, 0, 1024, 3583, 7679, 16383, 32767]
theorem N21btab : rtab .any (opsOf Try.f21 5) = N21bT := by kernel_rfl
theorem N21bbits : waitsOk N21bT.2 N21bB = true := by kernel_rfl
def N21cT : Bool × List (List Nat × List Nat) := (true, [([], []), ([0], [0]), ([1], [1]), ([2], [2]), ([], []), ([4], [4]), ([], []), ([6], [6]), ([7], [7]), ([8], [8]), ([], []), ([10], [10]), ([], []), ([], []), ([], []), ([12, 13, 14], [12, 13, 14]), ([15], [15]), ([16], [16]), ([16], [16]), ([3, 5, 0, 1, 2, 3, 4, 5, 9, 12, 13, 14, 15, 16, 17], [3, 5]), ([19, 17, 15, 0, 1, 2, 3, 4, 5, 9, 12, 13, 14, 15, 16, 17], [17, 19]), ([9, 11, 0, 1, 2, 3, 4, 5, 6, 7, 8, 9, 10, 11, 12, 13, 14, 15, 16, 17, 18, 19, 20], [9, 11]), ([21, 18, 20, 0, 1, 2, 3, 4, 5, 6, 7, 8, 9, 10, 11, 12, 13, 14, 15, 16, 17, 18, 19, 20], [18, 21])])
def N21cB : List Nat := [0, 1, 3, 7, 0, 16, 0, 64, 192, 448, 0, 1024, 0, 0, 0, 28672, 61440, 126976, 126976, 259071, 783359, 2097151, 4194303]
theorem N21ctab : rtab .any (opsOf Try.f21 13) = N21cT := by kernel_rfl
theorem N21cbits : waitsOk N21cT.2 N21cB = true := by kernel_rfl
/-- What is not given its value yet has none. -/
def Fresh (G : Gr) (p : Nat) (T : List S23 × List Bool) : Prop := ∀ q : Nat, p ≤ q → q < G.l0.length → isP (rd_T64 G.l0 (q : Int)) → T.1.getD (rd_T64 G.l0 (q : Int)).f1.toNat z23 = z23 ∧ T.2.getD (rd_T64 G.l0 (q : Int)).f1.toNat false = false
theorem getF_set {l : List S23} {i j : Nat} {v : S23} (hne : i ≠ j) : (l.set i v).getD j z23 = l.getD j z23 := by
  rw [List.getD_eq_getElem?_getD, List.getElem?_set, if_neg hne, List.getD_eq_getElem?_getD]
theorem getO_set {l : List Bool} {i j : Nat} {v : Bool} (hne : i ≠ j) : (l.set i v).getD j false = l.getD j false := by
  rw [List.getD_eq_getElem?_getD, List.getElem?_set, if_neg hne, List.getD_eq_getElem?_getD]
theorem setK_other (n : Nat) : ∀ k j : Nat, k ≤ j → (setK n k).1.getD j z23 = z23 ∧ (setK n k).2.getD j false = false
  | 0, j, _ => by
    show (List.replicate n z23).getD j z23 = z23 ∧ (List.replicate n false).getD j false = false
    constructor
    · rw [List.getD_eq_getElem?_getD, List.getElem?_replicate]; split <;> rfl
    · rw [List.getD_eq_getElem?_getD, List.getElem?_replicate]; split <;> rfl
  | k + 1, j, h => by
    obtain ⟨h1, h2⟩ := setK_other n k j (by omega)
    exact ⟨(getF_set (by omega)).trans h1, (getO_set (by omega)).trans h2⟩
theorem Fresh.start {G : Gr} {ds : List Int} (hD : DefsOK G ds) (n : Nat) : Fresh G 0 (setK n G.l5.length) := fun q _ hq hp => by
  obtain ⟨j, _, hj, _⟩ := hD.dst q hq hp
  exact setK_other n _ _ (by omega)
theorem Fresh.next {G : Gr} {ds : List Int} (hD : DefsOK G ds) {p : Nat} {T : List S23 × List Bool} (h : Fresh G p T) (hp : p < G.l0.length) : Fresh G (p + 1) (stepV T (rd_T64 G.l0 (p : Int))) := fun q hpq hq hi => by
  obtain ⟨h1, h2⟩ := h q (by omega) hq hi
  unfold stepV
  by_cases e : isP (rd_T64 G.l0 (p : Int))
  · rw [if_pos e]
    obtain ⟨j, _, hj, hjd⟩ := hD.dst p hp e
    obtain ⟨j2, _, hj2, hjd2⟩ := hD.dst q hq hi
    have hne : (rd_T64 G.l0 (p : Int)).f1.toNat ≠ (rd_T64 G.l0 (q : Int)).f1.toNat := fun e2 => by
      have : j = j2 := by omega
      subst this
      omega
    exact ⟨(getF_set hne).trans h1, (getO_set hne).trans h2⟩
  · rw [if_neg e]; exact ⟨h1, h2⟩
theorem set_same {α : Type} {l : List α} {i : Nat} {z : α} (h : l.getD i z = z) : l.set i z = l := by
  apply List.ext_getElem?
  intro j
  rw [List.getElem?_set]
  by_cases e : i = j
  · rw [if_pos e]
    subst e
    by_cases hi : i < l.length
    · rw [if_pos hi, List.getElem?_eq_getElem hi]
      rw [List.getD_eq_getElem?_getD, List.getElem?_eq_getElem hi] at h
      exact congrArg some h.symm
    · rw [if_neg hi, List.getElem?_eq_none (by omega)]
  · rw [if_neg e]
theorem step_none {T : List S23 × List Bool} {y : S64} (hf : isP y → T.1.getD y.f1.toNat z23 = z23 ∧ T.2.getD y.f1.toNat false = false) (h : y.f0 ≠ 1 ∧ y.f0 ≠ 2 ∧ y.f0 ≠ 4 ∧ y.f0 ≠ 5 ∧ y.f0 ≠ 6) : stepV T y = T := by
  unfold stepV
  by_cases e : isP y
  · obtain ⟨h1, h2⟩ := hf e
    have hv : ∀ la oa lb ob, ofV y.f0 y.f4 la oa lb ob = (z23, false) := fun la oa lb ob => by
      unfold ofV
      rw [if_neg h.1, if_neg h.2.1, if_neg h.2.2.2.2, if_neg h.2.2.1, if_neg h.2.2.2.1]
    rw [if_pos e, hv]
    exact Prod.ext (set_same h1) (set_same h2)
  · rw [if_neg e]
def mkF : Array Value := #[.nilFunc, .func (.func 38) #[] #[], .func (.func 39) #[] #[], .nilFunc, .func (.func 40) #[] #[], .func (.func 41) #[] #[], .func (.func 42) #[] #[], .nilFunc, .nilFunc, .nilFunc, .nilFunc, .nilFunc, .nilFunc, .nilFunc, .nilFunc, .nilFunc, .nilFunc, .nilFunc, .nilFunc, .nilFunc, .nilFunc, .nilFunc]
theorem mkF_none (j : Nat) (hj : j < 22) (h : j ≠ 1 ∧ j ≠ 2 ∧ j ≠ 4 ∧ j ≠ 5 ∧ j ≠ 6) : mkF[j]? = some .nilFunc := by
  have : j = 0 ∨ j = 3 ∨ j = 7 ∨ j = 8 ∨ j = 9 ∨ j = 10 ∨ j = 11 ∨ j = 12 ∨ j = 13 ∨ j = 14 ∨ j = 15 ∨ j = 16 ∨ j = 17 ∨ j = 18 ∨ j = 19 ∨ j = 20 ∨ j = 21 := by omega
  rcases this with rfl | rfl | rfl | rfl | rfl | rfl | rfl | rfl | rfl | rfl | rfl | rfl | rfl | rfl | rfl | rfl | rfl <;> rfl
theorem Tab.tb {w W : World} {gt : Nat} {Af Ao : Option Addr} {n cf co : Nat} {T : List S23 × List Bool} (h : Tab w W Af Ao n cf co T) (hb : W.heap[gt]? = some (.cells #[.slice Af n cf, .slice Ao n co] 74 (0, 0))) : TB W gt Af Ao n cf co T := by
  have e1 := h.lf
  have e2 := h.lo
  refine ⟨h.lf, h.lo, hcz ⟨hb⟩ 0, hcz ⟨hb⟩ 1, ?_, ?_⟩
  · have := (Kd.R_reads' h.rf).2.2
    rwa [e1] at this
  · have := (Kd.R_reads' h.ro).2.2
    rwa [e2] at this
/-- What the method of an instruction's kind gives. -/
theorem meth_calls {W : World} {gt : Nat} {Af Ao : Option Addr} {n cf co : Nat} {T : List S23 × List Bool} {y : S64} {G : Gr} {ds : List Int} {p : Nat} (hi : InstrOK G ds p y) (hn : G.regs = (n : Int)) (h : TB W gt Af Ao n cf co T) {r : S23 × Bool}
    (hr : ofV y.f0 y.f4 (rd_T23 T.1 y.f2) (T.2.getD y.f2.toNat false) (rd_T23 T.1 y.f3) (T.2.getD y.f3.toNat false) = r) (f c : Nat) (hc : y.f0 = (c : Int)) (hf : (c = 1 ∧ f = 38) ∨ (c = 2 ∧ f = 39) ∨ (c = 4 ∧ f = 40) ∨ (c = 5 ∧ f = 41) ∨ (c = 6 ∧ f = 42)) :
    Calls Try.prog f #[.pointer (some ⟨gt, 0, none⟩), .agg #[.int .i64 y.f0, .int .i64 y.f1, .int .i64 y.f2, .int .i64 y.f3, .int .i64 y.f4, .int .i64 y.f5, .int .i64 y.f6.f0, .int .i64 y.f6.f1]] W (Ret5 r W) := by
  have hA : ∀ x, RegOK G ds p x → 0 ≤ x ∧ x < (n : Int) := fun x hx => ⟨hx.1, by rw [← hn]; exact hx.2.1⟩
  rw [← hr]
  rcases hf with ⟨rfl, rfl⟩ | ⟨rfl, rfl⟩ | ⟨rfl, rfl⟩ | ⟨rfl, rfl⟩ | ⟨rfl, rfl⟩
  · exact const_calls gt Af Ao n cf co T y W h hc (hi.num hc).1 (hi.num hc).2
  · exact tneg_calls gt Af Ao n cf co T y W h hc (hA _ (hi.u1 (.inl hc)))
  · exact tadd_calls gt Af Ao n cf co T y W h hc (hA _ (hi.u2 (.inl ⟨by omega, by omega⟩)).1) (hA _ (hi.u2 (.inl ⟨by omega, by omega⟩)).2)
  · exact tsub_calls gt Af Ao n cf co T y W h hc (hA _ (hi.u2 (.inl ⟨by omega, by omega⟩)).1) (hA _ (hi.u2 (.inl ⟨by omega, by omega⟩)).2)
  · exact tmul_calls gt Af Ao n cf co T y W h hc (hA _ (hi.u2 (.inl ⟨by omega, by omega⟩)).1) (hA _ (hi.u2 (.inl ⟨by omega, by omega⟩)).2)
set_option maxHeartbeats 8000000 in
set_option maxRecDepth 100000 in
theorem forms_calls (G : Gr) (w : World) (hG : G.Held w) (hF : FitOK G) : Calls Try.prog 21 #[G.v] w fun e w' => RetT e w w' (tabV G G.l0.length) ∧ Below w.heap.size w w' := by
  obtain ⟨ds, hD, hI⟩ := hF.rest
  obtain ⟨n, hn⟩ : ∃ n : Nat, G.regs = (n : Int) := ⟨G.regs.toNat, by have := hD.regs; omega⟩
  have hregs := hD.regs
  have h5n : G.l5.length ≤ n := by omega
  have hsm : n ≤ 5000 := by have := hF.parts.n5; have := hD.le; have := hF.n2; omega
  have KF := Aside0.mk hF
  have KD := Aside0.mk hD
  have KI := Aside0.mk hI
  have KG := Aside0.mk hn
  have KFR := Aside0.mk (Fresh.start hD n)
  have HT0 : tabV G 0 = setK n G.l5.length := by unfold tabV; rw [hn, Int.toNat_natCast]
  obtain ⟨A0, c0, l0, a1, a2, a3, A4, c4, l4, A5, c5, l5, A6, c6, l6, A7, c7, l7⟩ := G
  have H0 := hG.h0
  simp only [Gr.v] at *
  subst hn
  have hu41 := Try.underlying41
  have hu64 := Try.underlying64
  have hu23 := Try.underlying23
  have hu74 := Try.underlying74
  have hu77 := Try.underlying77
  have HB := Aside0.mk (Below.refl w.heap.size w)
  have Q0 := Aside0.mk H0
  have hn2 := KF.out.n2
  (try dsimp only at hn2)
  have KT0 := Aside0.mk HT0
  clear H0 hG hF hD hI HT0 hregs
  have hfn1 : ∀ (f : Nat) (W : World), (binOp .neq 75 (.func (.func f) #[] #[]) .nilFunc).run Try.prog W = .ok (.bool true) W := fun _ _ => by kernel_rfl
  have hfn2 : ∀ (W : World), (binOp .neq 75 .nilFunc .nilFunc).run Try.prog W = .ok (.bool false) W := fun _ => by kernel_rfl
  have hmx : mx (n : Int) 0 = (n : Int) := by unfold mx; split <;> omega
  have hmx2 : max (n : Int) 0 = (n : Int) := by omega
  go_enter Try.func21, Try.ntmps21
  go_upto_region 1 with (first | ((with_reducible refine gate_dst (N := 1) rfl ?_); refine boxQ 1 #[.slice A0 l0.length c0, .int .i64 a1, .int .i64 (n : Int), .int .i64 a3, .slice A4 l4.length c4, .slice A5 l5.length c5, .slice A6 l6.length c6, .slice A7 l7.length c7] 41 HB ?_; clear HB; intro gb w1 _ GW BK _ HB; have hcf := hcf8 BK; obtain ⟨_, _, _, _, _, _, _, _, _, _, _, _, _, _, _, _⟩ := hcf))
  go_cut [4] (fun v4 wc => ∃ (gt : Nat) (Af Ao : Option Addr) (cf co : Nat), v4 = .pointer (some ⟨gt, 0, none⟩) ∧ Aside0 (Tab w wc Af Ao n cf co (setK n 0)) ∧ Aside0 (wc.heap[gt]? = some (.cells #[.slice Af n cf, .slice Ao n co] 74 (0, 0))) ∧ Aside0 (w.heap.size ≤ gt) ∧ Aside0 (wc.heap[gb]? = some (.cells #[.slice A0 l0.length c0, .int .i64 a1, .int .i64 (n : Int), .int .i64 a3, .slice A4 l4.length c4, .slice A5 l5.length c5, .slice A6 l6.length c6, .slice A7 l7.length c7] 41 (0, 0))))
  case first =>
   have hS : ∀ w' : World, w'.heap[gb]? = some (.cells #[.slice A0 l0.length c0, .int .i64 a1, .int .i64 (n : Int), .int .i64 a3, .slice A4 l4.length c4, .slice A5 l5.length c5, .slice A6 l6.length c6, .slice A7 l7.length c7] 41 (0, 0)) → (w'.cell? ⟨gb, 2, none⟩ = some (.int .i64 (n : Int))) := fun w' hb => hcz ⟨hb⟩ 2
   refine start_ (n := 11) (S := fun w' => w'.cell? ⟨gb, 2, none⟩ = some (.int .i64 (n : Int))) (ds := []) #[false, false, false, false, false, false, false, false, false, false, false] (by kernel_rfl) rfl rfl (hS _ (blk_drew (pkA BK).out)) (fun hHeld => ?_)
   refine with_tabW N21atab N21abits (fun HT_ HW_ => ?_)
   replace BK := Aside0.mk (blk_drew BK.out)
   replace HB := Aside0.mk (below_drew1 HB.out)
   generalize World.drew _ = wa at BK HB hHeld ⊢
   refine pureQ 0 10 HT_.out ?_
   refine pureQ 4 14 HT_.out ?_
   refine takeQ 1 11 HT_.out HW_.out hHeld ?_
   refine pureQ 2 12 HT_.out ?_
   refine takeQ 5 15 HT_.out HW_.out hHeld ?_
   refine pureQ 6 16 HT_.out ?_
   (try rw [hmx])
   (try rw [hmx2])
   refine two_ (i := 3) (j := 7) (Ni := some 13) (Nj := some 17) #[true, true, true, true, true, true, true, false, false, false, false] #[true, true, true, false, true, true, true, true, false, false, false] rfl rfl rfl rfl (by kernel_rfl) (by decide) (by decide) (fun K hK => ?_) (fun K hK => ?_)
   · refine Kd.R_make_step k23 _ 23 (by rfl) rfl 43 _ _ rfl (n : Int) rfl rfl Try.underlying43 (.agg #[(.int .i64 0), (.int .i64 0), (.int .i64 0), (.int .i64 0), (.int .i64 0)]) 40 info23 rfl (by decide) (by omega) z23 (ok := fun _ => True) (okp := fun _ => True) (k23_mkM _ _ _ z23) (fun _ hk => hk) trivial (by omega) (by rw [Int.toNat_natCast]; omega) (Below.refl _ _) (Nat.le_refl _) ?_
     intro v wo ho hb hg_ hnew_
     clear hg_ hnew_
     rw [Int.toNat_natCast] at ho
     have HO := Aside0.mk (Kd.R_lower ho (below_size (bpk HB).out))
     replace BK := bbw BK hb
     replace HB := bst HB hb
     clear hb ho
     obtain ⟨Af, cf, eo⟩ := Kd.R_slice HO.out
     subst eo
     rw [List.length_replicate] at HO ⊢
     refine hK.out _ _ (hS _ BK.out) (fun hHeld => ?_)
     clear hK K
     refine normQ (N := 13) ?_
     refine oneQ 7 17 HT_.out (fun K hK => ?_)
     refine Kd.R_make_step Kd.bool _ 4 (by rfl) rfl 44 _ _ rfl (n : Int) rfl rfl Try.underlying44 (.bool false) 1 info4 rfl (by decide) (by omega) false (ok := fun _ => True) (okp := fun _ => True) rfl (fun _ hk => hk) trivial (by omega) (by rw [Int.toNat_natCast]; omega) (Below.refl _ _) (Nat.le_refl _) ?_
     intro v2 wo2 ho hb hg_ hnew_
     clear hg_ hnew_
     rw [Int.toNat_natCast] at ho
     have HO2 := Aside0.mk (Kd.R_lower ho (below_size (bpk HB).out))
     replace HO := rbw HO hb
     replace BK := bbw BK hb
     replace HB := bst HB hb
     clear hb ho
     obtain ⟨Ao, co, eo⟩ := Kd.R_slice HO2.out
     subst eo
     rw [List.length_replicate] at HO2 ⊢
     refine hK.out _ _ (hS _ BK.out) (fun hHeld => ?_)
     clear hK K
     refine normQ (N := 17) ?_
     refine pureQ 8 18 HT_.out ?_
     refine oneQ 9 19 HT_.out (fun K hK => ?_)
     refine box_step ?hg (N := 19) ?hd (cs := #[.slice Af n cf, .slice Ao n co]) (t := 74) ?hr ?_; (case hd => rfl); (case hg => rfl); (case hr => first | (go_simp; done) | (go_simp; rfl))
     intro gt hg w3 hbox hb
     have GTB := bsz HB hg
     replace BK := bbw BK hb
     replace HO := rbw HO hb
     replace HO2 := rbw HO2 hb
     replace HB := bst HB hb
     have BT := Aside0.mk hbox
     clear hb hbox hg
     refine hK.out _ _ (hS _ BK.out) (fun hHeld => ?_)
     clear hK K
     refine normQ (N := 19) ?_
     refine pureQ 10 4 HT_.out ?_
     refine done_ (done_of HT_.out (by kernel_rfl)) ?_
     clear hHeld HT_ HW_ hS
     try go_wp2
     go_meet
     case rel => exact ⟨gt, Af, Ao, cf, co, rfl, ⟨⟨List.length_replicate, List.length_replicate, HO.out, HO2.out, HB.out⟩⟩, BT, GTB, BK⟩
   · refine Kd.R_make_step Kd.bool _ 4 (by rfl) rfl 44 _ _ rfl (n : Int) rfl rfl Try.underlying44 (.bool false) 1 info4 rfl (by decide) (by omega) false (ok := fun _ => True) (okp := fun _ => True) rfl (fun _ hk => hk) trivial (by omega) (by rw [Int.toNat_natCast]; omega) (Below.refl _ _) (Nat.le_refl _) ?_
     intro v2 wo2 ho hb hg_ hnew_
     clear hg_ hnew_
     rw [Int.toNat_natCast] at ho
     have HO2 := Aside0.mk (Kd.R_lower ho (below_size (bpk HB).out))
     replace BK := bbw BK hb
     replace HB := bst HB hb
     clear hb ho
     obtain ⟨Ao, co, eo⟩ := Kd.R_slice HO2.out
     subst eo
     rw [List.length_replicate] at HO2 ⊢
     refine hK.out _ _ (hS _ BK.out) (fun hHeld => ?_)
     clear hK K
     refine normQ (N := 17) ?_
     refine oneQ 3 13 HT_.out (fun K hK => ?_)
     refine Kd.R_make_step k23 _ 23 (by rfl) rfl 43 _ _ rfl (n : Int) rfl rfl Try.underlying43 (.agg #[(.int .i64 0), (.int .i64 0), (.int .i64 0), (.int .i64 0), (.int .i64 0)]) 40 info23 rfl (by decide) (by omega) z23 (ok := fun _ => True) (okp := fun _ => True) (k23_mkM _ _ _ z23) (fun _ hk => hk) trivial (by omega) (by rw [Int.toNat_natCast]; omega) (Below.refl _ _) (Nat.le_refl _) ?_
     intro v wo ho hb hg_ hnew_
     clear hg_ hnew_
     rw [Int.toNat_natCast] at ho
     have HO := Aside0.mk (Kd.R_lower ho (below_size (bpk HB).out))
     replace HO2 := rbw HO2 hb
     replace BK := bbw BK hb
     replace HB := bst HB hb
     clear hb ho
     obtain ⟨Af, cf, eo⟩ := Kd.R_slice HO.out
     subst eo
     rw [List.length_replicate] at HO ⊢
     refine hK.out _ _ (hS _ BK.out) (fun hHeld => ?_)
     clear hK K
     refine normQ (N := 13) ?_
     refine pureQ 8 18 HT_.out ?_
     refine oneQ 9 19 HT_.out (fun K hK => ?_)
     refine box_step ?hg (N := 19) ?hd (cs := #[.slice Af n cf, .slice Ao n co]) (t := 74) ?hr ?_; (case hd => rfl); (case hg => rfl); (case hr => first | (go_simp; done) | (go_simp; rfl))
     intro gt hg w3 hbox hb
     have GTB := bsz HB hg
     replace BK := bbw BK hb
     replace HO := rbw HO hb
     replace HO2 := rbw HO2 hb
     replace HB := bst HB hb
     have BT := Aside0.mk hbox
     clear hb hbox hg
     refine hK.out _ _ (hS _ BK.out) (fun hHeld => ?_)
     clear hK K
     refine normQ (N := 19) ?_
     refine pureQ 10 4 HT_.out ?_
     refine done_ (done_of HT_.out (by kernel_rfl)) ?_
     clear hHeld HT_ HW_ hS
     try go_wp2
     go_meet
     case rel => exact ⟨gt, Af, Ao, cf, co, rfl, ⟨⟨List.length_replicate, List.length_replicate, HO.out, HO2.out, HB.out⟩⟩, BT, GTB, BK⟩
  case rest =>
   clear HB BK
   obtain ⟨gt, Af, Ao, cf, co, rfl, HT, BT, GTB, BK⟩ := hcut
   have hcf := hcf8 BK
   obtain ⟨_, _, _, _, _, _, _, _, _, _, _, _, _, _, _, _⟩ := hcf
   go_wp2
   go_loopw [23] (fun i wr => ∃ k : Nat, k ≤ l5.length ∧ i = .int .i64 (k : Int) ∧ Aside0 (Tab w wr Af Ao n cf co (setK n k)) ∧ Aside0 (wr.heap[gt]? = some (.cells #[.slice Af n cf, .slice Ao n co] 74 (0, 0))) ∧ Aside0 (wr.heap[gb]? = some (.cells #[.slice A0 l0.length c0, .int .i64 a1, .int .i64 (n : Int), .int .i64 a3, .slice A4 l4.length c4, .slice A5 l5.length c5, .slice A6 l6.length c6, .slice A7 l7.length c7] 41 (0, 0)))) (fun i _ => l5.length - (intOf i).toNat)
   case atStart => exact ⟨0, Nat.zero_le _, rfl, HT, BT, pkA BK⟩
   case round =>
    rename World => wl
    clear HT BK BT
    obtain ⟨k, hk, rfl, HT, BT, BK⟩ := hrel
    have hcf := hcf8 BK
    obtain ⟨_, _, _, _, _, _, _, _, _, _, _, _, _, _, _, _⟩ := hcf
    by_cases hlt : k < l5.length
    · obtain ⟨gf, ef⟩ := HT.out.formF (by omega)
      obtain ⟨go, eo⟩ := HT.out.formO (by omega)
      subst ef
      subst eo
      have hlt2 : decide ((k : Int) < (l5.length : Int)) = true := decide_eq_true (by omega)
      have hwk : IntKind.i64.wrap ((k : Int) + 1) = ((k + 1 : Nat) : Int) := (i64_w _).trans ((Go.Proofs.Ytllfopbchdahoaa.M.wrap64_in _ (by omega)).trans (by omega))
      have p1 : ((0 : Int) ≤ (k : Int)) = True := eq_true (by omega)
      have q1 : ((k : Int) < (n : Int)) = True := eq_true (by omega)
      have q2 : (k < n) = True := eq_true (by omega)
      go_upto_region 5 with (fail)
      have hS : ∀ w' : World, w'.heap[gt]? = some (.cells #[.slice (some ⟨gf, 0, none⟩) n cf, .slice (some ⟨go, 0, none⟩) n co] 74 (0, 0)) → (w'.cell? ⟨gt, 0, none⟩ = some (.slice (some ⟨gf, 0, none⟩) n cf) ∧ w'.cell? ⟨gt, 1, none⟩ = some (.slice (some ⟨go, 0, none⟩) n co)) := fun w' hb => ⟨hcz ⟨hb⟩ 0, hcz ⟨hb⟩ 1⟩
      refine start_ (n := 16) (S := fun w' => w'.cell? ⟨gt, 0, none⟩ = some (.slice (some ⟨gf, 0, none⟩) n cf) ∧ w'.cell? ⟨gt, 1, none⟩ = some (.slice (some ⟨go, 0, none⟩) n co)) (ds := []) #[false, false, false, false, false, false, false, false, false, false, false, false, false, false, false, false] (by kernel_rfl) rfl rfl (hS _ (blk_drew (pkA BT).out)) (fun hHeld => ?_)
      refine with_tabW N21btab N21bbits (fun HT_ HW_ => ?_)
      replace HT := Aside0.mk (HT.out.below (below_drew1 (Below.refl _ _)))
      replace BT := Aside0.mk (blk_drew BT.out)
      replace BK := Aside0.mk (blk_drew BK.out)
      generalize World.drew _ = wa at HT BT BK hHeld ⊢
      refine pureQ 0 26 HT_.out ?_
      refine pureQ 1 27 HT_.out ?_
      refine pureQ 2 28 HT_.out ?_
      refine pureQ 4 30 HT_.out ?_
      refine pureQ 5 31 HT_.out ?_
      refine pureQ 6 32 HT_.out ?_
      refine pureQ 7 33 HT_.out ?_
      refine pureQ 9 35 HT_.out ?_
      refine pureQ 10 36 HT_.out ?_
      refine pureQ 11 37 HT_.out ?_
      refine takeQ 3 29 HT_.out HW_.out hHeld ?_
      refine takeQ 8 34 HT_.out HW_.out hHeld ?_
      refine pureQ 12 38 HT_.out ?_
      refine one_ (i := 13) (N := none) #[true, true, true, true, true, true, true, true, true, true, true, true, true, true, false, false] rfl rfl (one_of HT_.out (by kernel_rfl)) (by decide) (fun K hK => ?_)
      obtain ⟨⟨_, _, _, _, _, _, _, _, _, _⟩, ⟨_, _, _, _, _⟩, ⟨_, _⟩, _⟩ := HT.out.cells (j := k) (by omega)
      obtain ⟨wz, hwz⟩ : ∃ wz, wz = (((((wa).setCell ⟨gf, k * 5, none⟩ (.int .i64 (k : Int))).setCell ⟨gf, k * 5 + 1, none⟩ (.int .i64 1)).setCell ⟨gf, k * 5 + 2, none⟩ (.int .i64 0)).setCell ⟨gf, k * 5 + 3, none⟩ (.int .i64 0)).setCell ⟨gf, k * 5 + 4, none⟩ (.int .i64 0) := ⟨_, rfl⟩
      obtain ⟨h1, hg⟩ := HT.out.setF (j := k) (by omega) ⟨(k : Int), 1, 0, 0, 0⟩ wz hwz
      refine skip_ (w1 := wz) (by rfl) rfl (by rw [hwz]; go_simp) ?_
      clear hwz
      replace BT := Aside0.mk (blk_grown BT.out hg (HT.out.other BT.out (by decide) (by decide)).1)
      replace BK := Aside0.mk (blk_grown BK.out hg (HT.out.other BK.out (by decide) (by decide)).1)
      replace HT := Aside0.mk h1
      clear h1 hg
      refine hK.out _ _ (hS _ BT.out) (fun hHeld => ?_)
      clear hK K
      refine pureQ 14 39 HT_.out ?_
      refine one_ (i := 15) (N := none) #[true, true, true, true, true, true, true, true, true, true, true, true, true, true, true, true] rfl rfl (one_of HT_.out (by kernel_rfl)) (by decide) (fun K hK => ?_)
      obtain ⟨_, _, ⟨_, _⟩, _⟩ := HT.out.cells (j := k) (by omega)
      obtain ⟨wy, hwy⟩ : ∃ wy, wy = wz.setCell ⟨go, k, none⟩ (.bool true) := ⟨_, rfl⟩
      obtain ⟨h1, hg⟩ := HT.out.setO (j := k) (by omega) true wy hwy
      refine skip_ (w1 := wy) (by rfl) rfl (by rw [hwy]; go_simp) ?_
      clear hwy
      replace BT := Aside0.mk (blk_grown BT.out hg (HT.out.other BT.out (by decide) (by decide)).2)
      replace BK := Aside0.mk (blk_grown BK.out hg (HT.out.other BK.out (by decide) (by decide)).2)
      replace HT := Aside0.mk h1
      clear h1 hg
      refine hK.out _ _ (hS _ BT.out) (fun hHeld => ?_)
      clear hK K
      refine done_ (done_of HT_.out (by kernel_rfl)) ?_
      clear hHeld HT_ HW_ hS
      go_wp2
      go_roundw
      case measure => simp [intOf] <;> omega
      case rel => exact ⟨k + 1, by omega, by first | rfl | simp, HT, pkA BT, pkA BK⟩
    · obtain rfl : k = l5.length := by omega
      have hlt2 : decide ((l5.length : Int) < (l5.length : Int)) = false := decide_eq_false (by omega)
      have HBl := Aside0.mk (Below.refl wl.heap.size wl)
      go_wp2_with (first | ((with_reducible refine gate_dst (N := 6) rfl ?_); refine boxQ 6 #[.nilFunc, .nilFunc, .nilFunc, .nilFunc, .nilFunc, .nilFunc, .nilFunc, .nilFunc, .nilFunc, .nilFunc, .nilFunc, .nilFunc, .nilFunc, .nilFunc, .nilFunc, .nilFunc, .nilFunc, .nilFunc, .nilFunc, .nilFunc, .nilFunc, .nilFunc] 77 HBl ?_; intro gm wx eg GM BM hb HX; have NM := bn1 BK eg.out; have NMt := bn1 BT eg.out; replace BK := bbw BK hb.out; replace BT := bbw BT hb.out; clear HBl hb eg; have HBl := HX; clear HX) | ((with_reducible refine gate_store (p := 6) (t := 77) rfl ?_); refine store_box rfl rfl rfl gm 77 _ #[.nilFunc, .func (.func 38) #[] #[], .func (.func 39) #[] #[], .nilFunc, .func (.func 40) #[] #[], .func (.func 41) #[] #[], .func (.func 42) #[] #[], .nilFunc, .nilFunc, .nilFunc, .nilFunc, .nilFunc, .nilFunc, .nilFunc, .nilFunc, .nilFunc, .nilFunc, .nilFunc, .nilFunc, .nilFunc, .nilFunc, .nilFunc] (pkA BM).out rfl rfl (by kernel_rfl) rfl (by kernel_rfl) ?_; intro ws hbs hgs; have HS := Aside0.mk (Below_boxed (bpk HBl).out (Nat.le_refl _) GM.out hgs); replace HT := Aside0.mk (HT.out.far (bpk HBl).out hgs GM.out HS.out); replace BK := boxed_other (pkA BK) hgs NM; replace BT := boxed_other (pkA BT) hgs NMt; clear HBl BM hgs HS; have BM : Aside0 (ws.heap[gm]? = some (.cells mkF 77 (0, 0))) := ⟨hbs⟩; clear hbs; have hcf := hcf8 BK; obtain ⟨_, _, _, _, _, _, _, _, _, _, _, _, _, _, _, _⟩ := hcf))
      have HT2 : Aside0 (Tab w ws Af Ao n cf co (tabV (⟨A0, c0, l0, a1, (n : Int), a3, A4, c4, l4, A5, c5, l5, A6, c6, l6, A7, c7, l7⟩ : Gr) 0)) := ⟨by rw [KT0.out]; exact HT.out⟩
      have HFR : Aside0 (Fresh (⟨A0, c0, l0, a1, (n : Int), a3, A4, c4, l4, A5, c5, l5, A6, c6, l6, A7, c7, l7⟩ : Gr) 0 (tabV (⟨A0, c0, l0, a1, (n : Int), a3, A4, c4, l4, A5, c5, l5, A6, c6, l6, A7, c7, l7⟩ : Gr) 0)) := ⟨by rw [KT0.out]; exact KFR.out⟩
      clear HT KT0 KFR
      go_loopw [45] (fun i wr => ∃ p : Nat, p ≤ l0.length ∧ i = .int .i64 (p : Int) ∧ Aside0 (Tab w wr Af Ao n cf co (tabV (⟨A0, c0, l0, a1, (n : Int), a3, A4, c4, l4, A5, c5, l5, A6, c6, l6, A7, c7, l7⟩ : Gr) p)) ∧ Aside0 (Fresh (⟨A0, c0, l0, a1, (n : Int), a3, A4, c4, l4, A5, c5, l5, A6, c6, l6, A7, c7, l7⟩ : Gr) p (tabV (⟨A0, c0, l0, a1, (n : Int), a3, A4, c4, l4, A5, c5, l5, A6, c6, l6, A7, c7, l7⟩ : Gr) p)) ∧ Aside0 (wr.heap[gt]? = some (.cells #[.slice Af n cf, .slice Ao n co] 74 (0, 0))) ∧ Aside0 (wr.heap[gb]? = some (.cells #[.slice A0 l0.length c0, .int .i64 a1, .int .i64 (n : Int), .int .i64 a3, .slice A4 l4.length c4, .slice A5 l5.length c5, .slice A6 l6.length c6, .slice A7 l7.length c7] 41 (0, 0))) ∧ Aside0 (wr.heap[gm]? = some (.cells mkF 77 (0, 0)))) (fun i _ => l0.length - (intOf i).toNat)
      case atStart => exact ⟨0, Nat.zero_le _, rfl, HT2, HFR, pkA BT, pkA BK, pkA BM⟩
      case round =>
       rename World => wm
       clear HT2 BK BT BM HFR
       obtain ⟨p, hp, rfl, HT, HFR, BT, BK, BM⟩ := hrel
       have hcf := hcf8 BK
       obtain ⟨_, _, _, _, _, _, _, _, _, _, _, _, _, _, _, _⟩ := hcf
       by_cases hlt : p < l0.length
       · have hlt2 : decide ((p : Int) < (l0.length : Int)) = true := decide_eq_true (by omega)
         have hwp : IntKind.i64.wrap ((p : Int) + 1) = ((p + 1 : Nat) : Int) := (i64_w _).trans ((Go.Proofs.Ytllfopbchdahoaa.M.wrap64_in _ (by omega)).trans (by omega))
         have hii := KI.out p hlt
         have hfn : Fresh (⟨A0, c0, l0, a1, (n : Int), a3, A4, c4, l4, A5, c5, l5, A6, c6, l6, A7, c7, l7⟩ : Gr) (p + 1) (tabV (⟨A0, c0, l0, a1, (n : Int), a3, A4, c4, l4, A5, c5, l5, A6, c6, l6, A7, c7, l7⟩ : Gr) (p + 1)) := HFR.out.next KD.out hlt
         have hfp := HFR.out p (Nat.le_refl _) hlt
         clear HFR
         obtain ⟨ad0, ee, hx_0, hx_1, hx_2, hx_3, hx_4, hx_5, hx_6, hx_7⟩ := at_T64 Q0.out (p : Int) (by omega) (by omega)
         replace hx_0 := (HT.out.hb.cell (World.block_lt_of_cell? w _ hx_0)).trans hx_0
         replace hx_1 := (HT.out.hb.cell (World.block_lt_of_cell? w _ hx_1)).trans hx_1
         replace hx_2 := (HT.out.hb.cell (World.block_lt_of_cell? w _ hx_2)).trans hx_2
         replace hx_3 := (HT.out.hb.cell (World.block_lt_of_cell? w _ hx_3)).trans hx_3
         replace hx_4 := (HT.out.hb.cell (World.block_lt_of_cell? w _ hx_4)).trans hx_4
         replace hx_5 := (HT.out.hb.cell (World.block_lt_of_cell? w _ hx_5)).trans hx_5
         replace hx_6 := (HT.out.hb.cell (World.block_lt_of_cell? w _ hx_6)).trans hx_6
         replace hx_7 := (HT.out.hb.cell (World.block_lt_of_cell? w _ hx_7)).trans hx_7
         have hst : ∀ T, tabV (⟨A0, c0, l0, a1, (n : Int), a3, A4, c4, l4, A5, c5, l5, A6, c6, l6, A7, c7, l7⟩ : Gr) p = T → tabV (⟨A0, c0, l0, a1, (n : Int), a3, A4, c4, l4, A5, c5, l5, A6, c6, l6, A7, c7, l7⟩ : Gr) (p + 1) = stepV T (rd_T64 l0 (p : Int)) := fun T e => by rw [← e]; rfl
         have hdst := KD.out.dst p hlt
         (try dsimp only at hii hdst hfp)
         generalize hy : rd_T64 l0 (p : Int) = y at hst hii hdst hfp hx_0 hx_1 hx_2 hx_3 hx_4 hx_5 hx_6 hx_7
         have KII := Aside0.mk hii
         have KST := Aside0.mk hst
         have KDS := Aside0.mk hdst
         have HFN := Aside0.mk hfn
         have HFP := Aside0.mk hfp
         clear hii hst hdst hy hfn hfp
         generalize hTT : tabV (⟨A0, c0, l0, a1, (n : Int), a3, A4, c4, l4, A5, c5, l5, A6, c6, l6, A7, c7, l7⟩ : Gr) p = T at HT KST HFP
         have KS2 := Aside0.mk (KST.out T rfl)
         clear hTT KST
         cases ee
         simp only [Int.toNat_natCast] at hx_0 hx_1 hx_2 hx_3 hx_4 hx_5 hx_6 hx_7
         have HBm := Aside0.mk (Below.refl wm.heap.size wm)
         go_upto_region 11 with (first | ((with_reducible refine gate_dst (N := 8) rfl ?_); refine boxQ 8 #[.int .i64 0, .int .i64 0, .int .i64 0, .int .i64 0, .int .i64 0, .int .i64 0, .int .i64 0, .int .i64 0] 64 HBm ?_; intro gx wx eg GX BX hb HX; have NX := bn1 BK eg.out; have NXt := bn1 BT eg.out; have NXm := bn1 BM eg.out; replace BK := bbw BK hb.out; replace BT := bbw BT hb.out; replace BM := bbw BM hb.out; clear HBm hb eg; have HBm := HX; clear HX; have hcf := hcf8 BX; obtain ⟨_, _, _, _, _, _, _, _, _, _, _, _, _, _, _, _⟩ := hcf; have hnx := NX.out) | ((with_reducible refine gate_store (p := 8) (t := 64) rfl ?_); refine store_box rfl rfl rfl gx 64 _ #[.int .i64 y.f0, .int .i64 y.f1, .int .i64 y.f2, .int .i64 y.f3, .int .i64 y.f4, .int .i64 y.f5, .int .i64 y.f6.f0, .int .i64 y.f6.f1] (pkA BX).out rfl rfl (by kernel_rfl) rfl (by kernel_rfl) ?_; intro ws hbs hgs; have HS := Aside0.mk (Below_boxed (bpk HBm).out (Nat.le_refl _) GX.out hgs); replace HT := Aside0.mk (HT.out.far (bpk HBm).out hgs GX.out HS.out); replace BK := boxed_other (pkA BK) hgs NX; replace BT := boxed_other (pkA BT) hgs NXt; replace BM := boxed_other (pkA BM) hgs NXm; clear HBm BX hgs HS; have BX := Aside0.mk hbs; clear hbs; have hcf := hcf8 BX; obtain ⟨_, _, _, _, _, _, _, _, _, _, _, _, _, _, _, _⟩ := hcf))
         clear hx_0 hx_1 hx_2 hx_3 hx_4 hx_5 hx_6 hx_7
         have hop := KII.out.op
         obtain ⟨c, hc⟩ : ∃ c : Nat, y.f0 = (c : Int) := ⟨y.f0.toNat, by omega⟩
         have hc22 : c < 22 := by omega
         have pc : ((0 : Int) ≤ y.f0) = True := eq_true (by omega)
         have qc : (y.f0 < (22 : Int)) = True := eq_true (by omega)
         have qc2 : (y.f0.toNat < 22) = True := eq_true (by omega)
         have hcN : y.f0.toNat = c := by omega
         by_cases hcl : c = 1 ∨ c = 2 ∨ c = 4 ∨ c = 5 ∨ c = 6
         · have hisP : isP y := by unfold isP; omega
           obtain ⟨j, hj, hjd, _⟩ := KDS.out hisP
           have hrg := KD.out.regs
           (try dsimp only at hrg)
           have hdn : y.f1.toNat < n := by omega
           have hd0 : 0 ≤ y.f1 := by omega
           have hd1 : y.f1 < (n : Int) := by omega
           obtain ⟨gf, ef⟩ := HT.out.formF (by omega)
           obtain ⟨go, eo⟩ := HT.out.formO (by omega)
           subst ef
           subst eo
           obtain ⟨r, hr⟩ : ∃ r, ofV y.f0 y.f4 (rd_T23 T.1 y.f2) (T.2.getD y.f2.toNat false) (rd_T23 T.1 y.f3) (T.2.getD y.f3.toNat false) = r := ⟨_, rfl⟩
           have KN : Aside0 (tabV (⟨some ad0, c0, l0, a1, (n : Int), a3, A4, c4, l4, A5, c5, l5, A6, c6, l6, A7, c7, l7⟩ : Gr) (p + 1) = (T.1.set y.f1.toNat r.1, T.2.set y.f1.toNat r.2)) := ⟨by rw [KS2.out]; unfold stepV; rw [if_pos hisP, hr]⟩
           obtain ⟨f, hff, hcell⟩ : ∃ f : Nat, ((c = 1 ∧ f = 38) ∨ (c = 2 ∧ f = 39) ∨ (c = 4 ∧ f = 40) ∨ (c = 5 ∧ f = 41) ∨ (c = 6 ∧ f = 42)) ∧ mkF[c]? = some (.func (.func f) #[] #[]) := by
             rcases hcl with rfl | rfl | rfl | rfl | rfl
             · exact ⟨38, by simp, rfl⟩
             · exact ⟨39, by simp, rfl⟩
             · exact ⟨40, by simp, rfl⟩
             · exact ⟨41, by simp, rfl⟩
             · exact ⟨42, by simp, rfl⟩
           have hcm : ws.cell? ⟨gm, y.f0.toNat, none⟩ = some (.func (.func f) #[] #[]) := by rw [hcN]; exact (blk_cell BM.out c).trans hcell
           have KR := Aside0.mk hr
           have KC := Aside0.mk hc
           have KFF := Aside0.mk hff
           clear hcl hisP hjd hj hrg hr hc hff hcell hcN hc22 hop
           have p1 := eq_true hd0
           have q1 := eq_true hd1
           have q2 := eq_true hdn
           go_upto_region 13 with (simp only [Act.put, Bool.not_true, Bool.not_false, List.setIfInBounds_toArray, List.set_cons_zero, List.set_cons_succ])
           skip
           have hS : ∀ w' : World, w'.heap[gt]? = some (.cells #[.slice (some ⟨gf, 0, none⟩) n cf, .slice (some ⟨go, 0, none⟩) n co] 74 (0, 0)) → w'.heap[gx]? = some (.cells #[.int .i64 y.f0, .int .i64 y.f1, .int .i64 y.f2, .int .i64 y.f3, .int .i64 y.f4, .int .i64 y.f5, .int .i64 y.f6.f0, .int .i64 y.f6.f1] 64 (0, 0)) → (w'.cell? ⟨gt, 0, none⟩ = some (.slice (some ⟨gf, 0, none⟩) n cf) ∧ w'.cell? ⟨gt, 1, none⟩ = some (.slice (some ⟨go, 0, none⟩) n co) ∧ w'.cell? ⟨gx, 0, none⟩ = some (.int .i64 y.f0) ∧ w'.cell? ⟨gx, 1, none⟩ = some (.int .i64 y.f1) ∧ w'.cell? ⟨gx, 2, none⟩ = some (.int .i64 y.f2) ∧ w'.cell? ⟨gx, 3, none⟩ = some (.int .i64 y.f3) ∧ w'.cell? ⟨gx, 4, none⟩ = some (.int .i64 y.f4) ∧ w'.cell? ⟨gx, 5, none⟩ = some (.int .i64 y.f5) ∧ w'.cell? ⟨gx, 6, none⟩ = some (.int .i64 y.f6.f0) ∧ w'.cell? ⟨gx, 7, none⟩ = some (.int .i64 y.f6.f1)) := fun w' hb hx => ⟨hcz ⟨hb⟩ 0, hcz ⟨hb⟩ 1, hcz ⟨hx⟩ 0, hcz ⟨hx⟩ 1, hcz ⟨hx⟩ 2, hcz ⟨hx⟩ 3, hcz ⟨hx⟩ 4, hcz ⟨hx⟩ 5, hcz ⟨hx⟩ 6, hcz ⟨hx⟩ 7⟩
           refine start_ (n := 23) (S := fun w' => w'.cell? ⟨gt, 0, none⟩ = some (.slice (some ⟨gf, 0, none⟩) n cf) ∧ w'.cell? ⟨gt, 1, none⟩ = some (.slice (some ⟨go, 0, none⟩) n co) ∧ w'.cell? ⟨gx, 0, none⟩ = some (.int .i64 y.f0) ∧ w'.cell? ⟨gx, 1, none⟩ = some (.int .i64 y.f1) ∧ w'.cell? ⟨gx, 2, none⟩ = some (.int .i64 y.f2) ∧ w'.cell? ⟨gx, 3, none⟩ = some (.int .i64 y.f3) ∧ w'.cell? ⟨gx, 4, none⟩ = some (.int .i64 y.f4) ∧ w'.cell? ⟨gx, 5, none⟩ = some (.int .i64 y.f5) ∧ w'.cell? ⟨gx, 6, none⟩ = some (.int .i64 y.f6.f0) ∧ w'.cell? ⟨gx, 7, none⟩ = some (.int .i64 y.f6.f1)) (ds := []) #[false, false, false, false, false, false, false, false, false, false, false, false, false, false, false, false, false, false, false, false, false, false, false] (by kernel_rfl) rfl rfl (hS _ (blk_drew (pkA BT).out) (blk_drew (pkA BX).out)) (fun hHeld => ?_)
           refine with_tabW N21ctab N21cbits (fun HT_ HW_ => ?_)
           replace HT := Aside0.mk (HT.out.below (below_drew1 (Below.refl _ _)))
           replace BT := Aside0.mk (blk_drew BT.out)
           replace BK := Aside0.mk (blk_drew BK.out)
           replace BM := Aside0.mk (blk_drew BM.out)
           replace BX := Aside0.mk (blk_drew BX.out)
           generalize World.drew _ = wa at HT BT BK BM BX hHeld ⊢
           refine pureQ 0 56 HT_.out ?_
           refine pureQ 1 57 HT_.out ?_
           refine pureQ 2 58 HT_.out ?_
           refine pureQ 4 60 HT_.out ?_
           refine pureQ 6 62 HT_.out ?_
           refine pureQ 7 63 HT_.out ?_
           refine pureQ 8 64 HT_.out ?_
           refine pureQ 10 66 HT_.out ?_
           refine pureQ 12 68 HT_.out ?_
           refine pureQ 13 69 HT_.out ?_
           refine takeQ 3 59 HT_.out HW_.out hHeld ?_
           refine takeQ 5 61 HT_.out HW_.out hHeld ?_
           refine takeQ 9 65 HT_.out HW_.out hHeld ?_
           refine takeQ 11 67 HT_.out HW_.out hHeld ?_
           refine takeQ 14 70 HT_.out HW_.out hHeld ?_
           refine oneQ 15 71 HT_.out (fun K hK => ?_)
           have hcallee := meth_calls KII.out rfl (HT.out.tb BT.out) KR.out f c KC.out KFF.out
           rcases KFF.out with ⟨_, hf⟩ | ⟨_, hf⟩ | ⟨_, hf⟩ | ⟨_, hf⟩ | ⟨_, hf⟩
           · subst hf
             refine goesD (t := 68) Try.func38 #[.pointer (some ⟨gt, 0, none⟩), .agg #[.int .i64 y.f0, .int .i64 y.f1, .int .i64 y.f2, .int .i64 y.f3, .int .i64 y.f4, .int .i64 y.f5, .int .i64 y.f6.f0, .int .i64 y.f6.f1]] ?_ rfl
             refine hcallee.mono ?_
             rintro e w' ⟨rfl, hb⟩
             refine ⟨_, rfl, ?_⟩
             replace HT := Aside0.mk (HT.out.below hb)
             replace BK := bbw BK hb
             replace BT := bbw BT hb
             replace BM := bbw BM hb
             replace BX := bbw BX hb
             clear hb
             refine hK.out _ _ (hS _ BT.out BX.out) (fun hHeld => ?_)
             clear hK K hcallee
             refine normQ (N := 71) ?_
             refine pureQ 16 55 HT_.out ?_
             refine pureQ 17 72 HT_.out ?_
             refine pureQ 18 73 HT_.out ?_
             refine pureQ 19 74 HT_.out ?_
             refine one_ (i := 20) (N := none) #[true, true, true, true, true, true, true, true, true, true, true, true, true, true, true, true, true, true, true, true, true, false, false] rfl rfl (one_of HT_.out (by kernel_rfl)) (by decide) (fun K hK => ?_)
             obtain ⟨⟨_, _, _, _, _, _, _, _, _, _⟩, ⟨_, _, _, _, _⟩, ⟨_, _⟩, _⟩ := HT.out.cells (j := y.f1.toNat) (by omega)
             obtain ⟨wz, hwz⟩ : ∃ wz, wz = (((((w').setCell ⟨gf, y.f1.toNat * 5, none⟩ (.int .i64 r.1.f0)).setCell ⟨gf, y.f1.toNat * 5 + 1, none⟩ (.int .i64 r.1.f1)).setCell ⟨gf, y.f1.toNat * 5 + 2, none⟩ (.int .i64 r.1.f2)).setCell ⟨gf, y.f1.toNat * 5 + 3, none⟩ (.int .i64 r.1.f3)).setCell ⟨gf, y.f1.toNat * 5 + 4, none⟩ (.int .i64 r.1.f4) := ⟨_, rfl⟩
             obtain ⟨h1, hg⟩ := HT.out.setF (j := y.f1.toNat) (by omega) r.1 wz hwz
             refine skip_ (w1 := wz) (by rfl) rfl (by rw [hwz]; go_simp) ?_
             clear hwz
             replace BT := Aside0.mk (blk_grown BT.out hg (HT.out.other BT.out (by decide) (by decide)).1)
             replace BK := Aside0.mk (blk_grown BK.out hg (HT.out.other BK.out (by decide) (by decide)).1)
             replace BM := Aside0.mk (blk_grown BM.out hg (HT.out.other BM.out (by decide) (by decide)).1)
             replace BX := Aside0.mk (blk_grown BX.out hg (HT.out.other BX.out (by decide) (by decide)).1)
             replace HT := Aside0.mk h1
             clear h1 hg
             refine hK.out _ _ (hS _ BT.out BX.out) (fun hHeld => ?_)
             clear hK K
             refine pureQ 21 75 HT_.out ?_
             refine one_ (i := 22) (N := none) #[true, true, true, true, true, true, true, true, true, true, true, true, true, true, true, true, true, true, true, true, true, true, true] rfl rfl (one_of HT_.out (by kernel_rfl)) (by decide) (fun K hK => ?_)
             obtain ⟨_, _, ⟨_, _⟩, _⟩ := HT.out.cells (j := y.f1.toNat) (by omega)
             obtain ⟨wy, hwy⟩ : ∃ wy, wy = wz.setCell ⟨go, y.f1.toNat, none⟩ (.bool r.2) := ⟨_, rfl⟩
             obtain ⟨h1, hg⟩ := HT.out.setO (j := y.f1.toNat) (by omega) r.2 wy hwy
             refine skip_ (w1 := wy) (by rfl) rfl (by rw [hwy]; go_simp) ?_
             clear hwy
             replace BT := Aside0.mk (blk_grown BT.out hg (HT.out.other BT.out (by decide) (by decide)).2)
             replace BK := Aside0.mk (blk_grown BK.out hg (HT.out.other BK.out (by decide) (by decide)).2)
             replace BM := Aside0.mk (blk_grown BM.out hg (HT.out.other BM.out (by decide) (by decide)).2)
             replace BX := Aside0.mk (blk_grown BX.out hg (HT.out.other BX.out (by decide) (by decide)).2)
             replace HT := Aside0.mk h1
             clear h1 hg
             refine hK.out _ _ (hS _ BT.out BX.out) (fun hHeld => ?_)
             clear hK K
             refine done_ (done_of HT_.out (by kernel_rfl)) ?_
             clear hHeld HT_ HW_ hS
             go_wp2
             go_roundw
             case measure => simp [intOf] <;> omega
             case rel => exact ⟨p + 1, by omega, by first | rfl | simp, ⟨by rw [KN.out]; exact HT.out⟩, HFN, pkA BT, pkA BK, pkA BM⟩
           · subst hf
             refine goesD (t := 68) Try.func39 #[.pointer (some ⟨gt, 0, none⟩), .agg #[.int .i64 y.f0, .int .i64 y.f1, .int .i64 y.f2, .int .i64 y.f3, .int .i64 y.f4, .int .i64 y.f5, .int .i64 y.f6.f0, .int .i64 y.f6.f1]] ?_ rfl
             refine hcallee.mono ?_
             rintro e w' ⟨rfl, hb⟩
             refine ⟨_, rfl, ?_⟩
             replace HT := Aside0.mk (HT.out.below hb)
             replace BK := bbw BK hb
             replace BT := bbw BT hb
             replace BM := bbw BM hb
             replace BX := bbw BX hb
             clear hb
             refine hK.out _ _ (hS _ BT.out BX.out) (fun hHeld => ?_)
             clear hK K hcallee
             refine normQ (N := 71) ?_
             refine pureQ 16 55 HT_.out ?_
             refine pureQ 17 72 HT_.out ?_
             refine pureQ 18 73 HT_.out ?_
             refine pureQ 19 74 HT_.out ?_
             refine one_ (i := 20) (N := none) #[true, true, true, true, true, true, true, true, true, true, true, true, true, true, true, true, true, true, true, true, true, false, false] rfl rfl (one_of HT_.out (by kernel_rfl)) (by decide) (fun K hK => ?_)
             obtain ⟨⟨_, _, _, _, _, _, _, _, _, _⟩, ⟨_, _, _, _, _⟩, ⟨_, _⟩, _⟩ := HT.out.cells (j := y.f1.toNat) (by omega)
             obtain ⟨wz, hwz⟩ : ∃ wz, wz = (((((w').setCell ⟨gf, y.f1.toNat * 5, none⟩ (.int .i64 r.1.f0)).setCell ⟨gf, y.f1.toNat * 5 + 1, none⟩ (.int .i64 r.1.f1)).setCell ⟨gf, y.f1.toNat * 5 + 2, none⟩ (.int .i64 r.1.f2)).setCell ⟨gf, y.f1.toNat * 5 + 3, none⟩ (.int .i64 r.1.f3)).setCell ⟨gf, y.f1.toNat * 5 + 4, none⟩ (.int .i64 r.1.f4) := ⟨_, rfl⟩
             obtain ⟨h1, hg⟩ := HT.out.setF (j := y.f1.toNat) (by omega) r.1 wz hwz
             refine skip_ (w1 := wz) (by rfl) rfl (by rw [hwz]; go_simp) ?_
             clear hwz
             replace BT := Aside0.mk (blk_grown BT.out hg (HT.out.other BT.out (by decide) (by decide)).1)
             replace BK := Aside0.mk (blk_grown BK.out hg (HT.out.other BK.out (by decide) (by decide)).1)
             replace BM := Aside0.mk (blk_grown BM.out hg (HT.out.other BM.out (by decide) (by decide)).1)
             replace BX := Aside0.mk (blk_grown BX.out hg (HT.out.other BX.out (by decide) (by decide)).1)
             replace HT := Aside0.mk h1
             clear h1 hg
             refine hK.out _ _ (hS _ BT.out BX.out) (fun hHeld => ?_)
             clear hK K
             refine pureQ 21 75 HT_.out ?_
             refine one_ (i := 22) (N := none) #[true, true, true, true, true, true, true, true, true, true, true, true, true, true, true, true, true, true, true, true, true, true, true] rfl rfl (one_of HT_.out (by kernel_rfl)) (by decide) (fun K hK => ?_)
             obtain ⟨_, _, ⟨_, _⟩, _⟩ := HT.out.cells (j := y.f1.toNat) (by omega)
             obtain ⟨wy, hwy⟩ : ∃ wy, wy = wz.setCell ⟨go, y.f1.toNat, none⟩ (.bool r.2) := ⟨_, rfl⟩
             obtain ⟨h1, hg⟩ := HT.out.setO (j := y.f1.toNat) (by omega) r.2 wy hwy
             refine skip_ (w1 := wy) (by rfl) rfl (by rw [hwy]; go_simp) ?_
             clear hwy
             replace BT := Aside0.mk (blk_grown BT.out hg (HT.out.other BT.out (by decide) (by decide)).2)
             replace BK := Aside0.mk (blk_grown BK.out hg (HT.out.other BK.out (by decide) (by decide)).2)
             replace BM := Aside0.mk (blk_grown BM.out hg (HT.out.other BM.out (by decide) (by decide)).2)
             replace BX := Aside0.mk (blk_grown BX.out hg (HT.out.other BX.out (by decide) (by decide)).2)
             replace HT := Aside0.mk h1
             clear h1 hg
             refine hK.out _ _ (hS _ BT.out BX.out) (fun hHeld => ?_)
             clear hK K
             refine done_ (done_of HT_.out (by kernel_rfl)) ?_
             clear hHeld HT_ HW_ hS
             go_wp2
             go_roundw
             case measure => simp [intOf] <;> omega
             case rel => exact ⟨p + 1, by omega, by first | rfl | simp, ⟨by rw [KN.out]; exact HT.out⟩, HFN, pkA BT, pkA BK, pkA BM⟩
           · subst hf
             refine goesD (t := 68) Try.func40 #[.pointer (some ⟨gt, 0, none⟩), .agg #[.int .i64 y.f0, .int .i64 y.f1, .int .i64 y.f2, .int .i64 y.f3, .int .i64 y.f4, .int .i64 y.f5, .int .i64 y.f6.f0, .int .i64 y.f6.f1]] ?_ rfl
             refine hcallee.mono ?_
             rintro e w' ⟨rfl, hb⟩
             refine ⟨_, rfl, ?_⟩
             replace HT := Aside0.mk (HT.out.below hb)
             replace BK := bbw BK hb
             replace BT := bbw BT hb
             replace BM := bbw BM hb
             replace BX := bbw BX hb
             clear hb
             refine hK.out _ _ (hS _ BT.out BX.out) (fun hHeld => ?_)
             clear hK K hcallee
             refine normQ (N := 71) ?_
             refine pureQ 16 55 HT_.out ?_
             refine pureQ 17 72 HT_.out ?_
             refine pureQ 18 73 HT_.out ?_
             refine pureQ 19 74 HT_.out ?_
             refine one_ (i := 20) (N := none) #[true, true, true, true, true, true, true, true, true, true, true, true, true, true, true, true, true, true, true, true, true, false, false] rfl rfl (one_of HT_.out (by kernel_rfl)) (by decide) (fun K hK => ?_)
             obtain ⟨⟨_, _, _, _, _, _, _, _, _, _⟩, ⟨_, _, _, _, _⟩, ⟨_, _⟩, _⟩ := HT.out.cells (j := y.f1.toNat) (by omega)
             obtain ⟨wz, hwz⟩ : ∃ wz, wz = (((((w').setCell ⟨gf, y.f1.toNat * 5, none⟩ (.int .i64 r.1.f0)).setCell ⟨gf, y.f1.toNat * 5 + 1, none⟩ (.int .i64 r.1.f1)).setCell ⟨gf, y.f1.toNat * 5 + 2, none⟩ (.int .i64 r.1.f2)).setCell ⟨gf, y.f1.toNat * 5 + 3, none⟩ (.int .i64 r.1.f3)).setCell ⟨gf, y.f1.toNat * 5 + 4, none⟩ (.int .i64 r.1.f4) := ⟨_, rfl⟩
             obtain ⟨h1, hg⟩ := HT.out.setF (j := y.f1.toNat) (by omega) r.1 wz hwz
             refine skip_ (w1 := wz) (by rfl) rfl (by rw [hwz]; go_simp) ?_
             clear hwz
             replace BT := Aside0.mk (blk_grown BT.out hg (HT.out.other BT.out (by decide) (by decide)).1)
             replace BK := Aside0.mk (blk_grown BK.out hg (HT.out.other BK.out (by decide) (by decide)).1)
             replace BM := Aside0.mk (blk_grown BM.out hg (HT.out.other BM.out (by decide) (by decide)).1)
             replace BX := Aside0.mk (blk_grown BX.out hg (HT.out.other BX.out (by decide) (by decide)).1)
             replace HT := Aside0.mk h1
             clear h1 hg
             refine hK.out _ _ (hS _ BT.out BX.out) (fun hHeld => ?_)
             clear hK K
             refine pureQ 21 75 HT_.out ?_
             refine one_ (i := 22) (N := none) #[true, true, true, true, true, true, true, true, true, true, true, true, true, true, true, true, true, true, true, true, true, true, true] rfl rfl (one_of HT_.out (by kernel_rfl)) (by decide) (fun K hK => ?_)
             obtain ⟨_, _, ⟨_, _⟩, _⟩ := HT.out.cells (j := y.f1.toNat) (by omega)
             obtain ⟨wy, hwy⟩ : ∃ wy, wy = wz.setCell ⟨go, y.f1.toNat, none⟩ (.bool r.2) := ⟨_, rfl⟩
             obtain ⟨h1, hg⟩ := HT.out.setO (j := y.f1.toNat) (by omega) r.2 wy hwy
             refine skip_ (w1 := wy) (by rfl) rfl (by rw [hwy]; go_simp) ?_
             clear hwy
             replace BT := Aside0.mk (blk_grown BT.out hg (HT.out.other BT.out (by decide) (by decide)).2)
             replace BK := Aside0.mk (blk_grown BK.out hg (HT.out.other BK.out (by decide) (by decide)).2)
             replace BM := Aside0.mk (blk_grown BM.out hg (HT.out.other BM.out (by decide) (by decide)).2)
             replace BX := Aside0.mk (blk_grown BX.out hg (HT.out.other BX.out (by decide) (by decide)).2)
             replace HT := Aside0.mk h1
             clear h1 hg
             refine hK.out _ _ (hS _ BT.out BX.out) (fun hHeld => ?_)
             clear hK K
             refine done_ (done_of HT_.out (by kernel_rfl)) ?_
             clear hHeld HT_ HW_ hS
             go_wp2
             go_roundw
             case measure => simp [intOf] <;> omega
             case rel => exact ⟨p + 1, by omega, by first | rfl | simp, ⟨by rw [KN.out]; exact HT.out⟩, HFN, pkA BT, pkA BK, pkA BM⟩
           · subst hf
             refine goesD (t := 68) Try.func41 #[.pointer (some ⟨gt, 0, none⟩), .agg #[.int .i64 y.f0, .int .i64 y.f1, .int .i64 y.f2, .int .i64 y.f3, .int .i64 y.f4, .int .i64 y.f5, .int .i64 y.f6.f0, .int .i64 y.f6.f1]] ?_ rfl
             refine hcallee.mono ?_
             rintro e w' ⟨rfl, hb⟩
             refine ⟨_, rfl, ?_⟩
             replace HT := Aside0.mk (HT.out.below hb)
             replace BK := bbw BK hb
             replace BT := bbw BT hb
             replace BM := bbw BM hb
             replace BX := bbw BX hb
             clear hb
             refine hK.out _ _ (hS _ BT.out BX.out) (fun hHeld => ?_)
             clear hK K hcallee
             refine normQ (N := 71) ?_
             refine pureQ 16 55 HT_.out ?_
             refine pureQ 17 72 HT_.out ?_
             refine pureQ 18 73 HT_.out ?_
             refine pureQ 19 74 HT_.out ?_
             refine one_ (i := 20) (N := none) #[true, true, true, true, true, true, true, true, true, true, true, true, true, true, true, true, true, true, true, true, true, false, false] rfl rfl (one_of HT_.out (by kernel_rfl)) (by decide) (fun K hK => ?_)
             obtain ⟨⟨_, _, _, _, _, _, _, _, _, _⟩, ⟨_, _, _, _, _⟩, ⟨_, _⟩, _⟩ := HT.out.cells (j := y.f1.toNat) (by omega)
             obtain ⟨wz, hwz⟩ : ∃ wz, wz = (((((w').setCell ⟨gf, y.f1.toNat * 5, none⟩ (.int .i64 r.1.f0)).setCell ⟨gf, y.f1.toNat * 5 + 1, none⟩ (.int .i64 r.1.f1)).setCell ⟨gf, y.f1.toNat * 5 + 2, none⟩ (.int .i64 r.1.f2)).setCell ⟨gf, y.f1.toNat * 5 + 3, none⟩ (.int .i64 r.1.f3)).setCell ⟨gf, y.f1.toNat * 5 + 4, none⟩ (.int .i64 r.1.f4) := ⟨_, rfl⟩
             obtain ⟨h1, hg⟩ := HT.out.setF (j := y.f1.toNat) (by omega) r.1 wz hwz
             refine skip_ (w1 := wz) (by rfl) rfl (by rw [hwz]; go_simp) ?_
             clear hwz
             replace BT := Aside0.mk (blk_grown BT.out hg (HT.out.other BT.out (by decide) (by decide)).1)
             replace BK := Aside0.mk (blk_grown BK.out hg (HT.out.other BK.out (by decide) (by decide)).1)
             replace BM := Aside0.mk (blk_grown BM.out hg (HT.out.other BM.out (by decide) (by decide)).1)
             replace BX := Aside0.mk (blk_grown BX.out hg (HT.out.other BX.out (by decide) (by decide)).1)
             replace HT := Aside0.mk h1
             clear h1 hg
             refine hK.out _ _ (hS _ BT.out BX.out) (fun hHeld => ?_)
             clear hK K
             refine pureQ 21 75 HT_.out ?_
             refine one_ (i := 22) (N := none) #[true, true, true, true, true, true, true, true, true, true, true, true, true, true, true, true, true, true, true, true, true, true, true] rfl rfl (one_of HT_.out (by kernel_rfl)) (by decide) (fun K hK => ?_)
             obtain ⟨_, _, ⟨_, _⟩, _⟩ := HT.out.cells (j := y.f1.toNat) (by omega)
             obtain ⟨wy, hwy⟩ : ∃ wy, wy = wz.setCell ⟨go, y.f1.toNat, none⟩ (.bool r.2) := ⟨_, rfl⟩
             obtain ⟨h1, hg⟩ := HT.out.setO (j := y.f1.toNat) (by omega) r.2 wy hwy
             refine skip_ (w1 := wy) (by rfl) rfl (by rw [hwy]; go_simp) ?_
             clear hwy
             replace BT := Aside0.mk (blk_grown BT.out hg (HT.out.other BT.out (by decide) (by decide)).2)
             replace BK := Aside0.mk (blk_grown BK.out hg (HT.out.other BK.out (by decide) (by decide)).2)
             replace BM := Aside0.mk (blk_grown BM.out hg (HT.out.other BM.out (by decide) (by decide)).2)
             replace BX := Aside0.mk (blk_grown BX.out hg (HT.out.other BX.out (by decide) (by decide)).2)
             replace HT := Aside0.mk h1
             clear h1 hg
             refine hK.out _ _ (hS _ BT.out BX.out) (fun hHeld => ?_)
             clear hK K
             refine done_ (done_of HT_.out (by kernel_rfl)) ?_
             clear hHeld HT_ HW_ hS
             go_wp2
             go_roundw
             case measure => simp [intOf] <;> omega
             case rel => exact ⟨p + 1, by omega, by first | rfl | simp, ⟨by rw [KN.out]; exact HT.out⟩, HFN, pkA BT, pkA BK, pkA BM⟩
           · subst hf
             refine goesD (t := 68) Try.func42 #[.pointer (some ⟨gt, 0, none⟩), .agg #[.int .i64 y.f0, .int .i64 y.f1, .int .i64 y.f2, .int .i64 y.f3, .int .i64 y.f4, .int .i64 y.f5, .int .i64 y.f6.f0, .int .i64 y.f6.f1]] ?_ rfl
             refine hcallee.mono ?_
             rintro e w' ⟨rfl, hb⟩
             refine ⟨_, rfl, ?_⟩
             replace HT := Aside0.mk (HT.out.below hb)
             replace BK := bbw BK hb
             replace BT := bbw BT hb
             replace BM := bbw BM hb
             replace BX := bbw BX hb
             clear hb
             refine hK.out _ _ (hS _ BT.out BX.out) (fun hHeld => ?_)
             clear hK K hcallee
             refine normQ (N := 71) ?_
             refine pureQ 16 55 HT_.out ?_
             refine pureQ 17 72 HT_.out ?_
             refine pureQ 18 73 HT_.out ?_
             refine pureQ 19 74 HT_.out ?_
             refine one_ (i := 20) (N := none) #[true, true, true, true, true, true, true, true, true, true, true, true, true, true, true, true, true, true, true, true, true, false, false] rfl rfl (one_of HT_.out (by kernel_rfl)) (by decide) (fun K hK => ?_)
             obtain ⟨⟨_, _, _, _, _, _, _, _, _, _⟩, ⟨_, _, _, _, _⟩, ⟨_, _⟩, _⟩ := HT.out.cells (j := y.f1.toNat) (by omega)
             obtain ⟨wz, hwz⟩ : ∃ wz, wz = (((((w').setCell ⟨gf, y.f1.toNat * 5, none⟩ (.int .i64 r.1.f0)).setCell ⟨gf, y.f1.toNat * 5 + 1, none⟩ (.int .i64 r.1.f1)).setCell ⟨gf, y.f1.toNat * 5 + 2, none⟩ (.int .i64 r.1.f2)).setCell ⟨gf, y.f1.toNat * 5 + 3, none⟩ (.int .i64 r.1.f3)).setCell ⟨gf, y.f1.toNat * 5 + 4, none⟩ (.int .i64 r.1.f4) := ⟨_, rfl⟩
             obtain ⟨h1, hg⟩ := HT.out.setF (j := y.f1.toNat) (by omega) r.1 wz hwz
             refine skip_ (w1 := wz) (by rfl) rfl (by rw [hwz]; go_simp) ?_
             clear hwz
             replace BT := Aside0.mk (blk_grown BT.out hg (HT.out.other BT.out (by decide) (by decide)).1)
             replace BK := Aside0.mk (blk_grown BK.out hg (HT.out.other BK.out (by decide) (by decide)).1)
             replace BM := Aside0.mk (blk_grown BM.out hg (HT.out.other BM.out (by decide) (by decide)).1)
             replace BX := Aside0.mk (blk_grown BX.out hg (HT.out.other BX.out (by decide) (by decide)).1)
             replace HT := Aside0.mk h1
             clear h1 hg
             refine hK.out _ _ (hS _ BT.out BX.out) (fun hHeld => ?_)
             clear hK K
             refine pureQ 21 75 HT_.out ?_
             refine one_ (i := 22) (N := none) #[true, true, true, true, true, true, true, true, true, true, true, true, true, true, true, true, true, true, true, true, true, true, true] rfl rfl (one_of HT_.out (by kernel_rfl)) (by decide) (fun K hK => ?_)
             obtain ⟨_, _, ⟨_, _⟩, _⟩ := HT.out.cells (j := y.f1.toNat) (by omega)
             obtain ⟨wy, hwy⟩ : ∃ wy, wy = wz.setCell ⟨go, y.f1.toNat, none⟩ (.bool r.2) := ⟨_, rfl⟩
             obtain ⟨h1, hg⟩ := HT.out.setO (j := y.f1.toNat) (by omega) r.2 wy hwy
             refine skip_ (w1 := wy) (by rfl) rfl (by rw [hwy]; go_simp) ?_
             clear hwy
             replace BT := Aside0.mk (blk_grown BT.out hg (HT.out.other BT.out (by decide) (by decide)).2)
             replace BK := Aside0.mk (blk_grown BK.out hg (HT.out.other BK.out (by decide) (by decide)).2)
             replace BM := Aside0.mk (blk_grown BM.out hg (HT.out.other BM.out (by decide) (by decide)).2)
             replace BX := Aside0.mk (blk_grown BX.out hg (HT.out.other BX.out (by decide) (by decide)).2)
             replace HT := Aside0.mk h1
             clear h1 hg
             refine hK.out _ _ (hS _ BT.out BX.out) (fun hHeld => ?_)
             clear hK K
             refine done_ (done_of HT_.out (by kernel_rfl)) ?_
             clear hHeld HT_ HW_ hS
             go_wp2
             go_roundw
             case measure => simp [intOf] <;> omega
             case rel => exact ⟨p + 1, by omega, by first | rfl | simp, ⟨by rw [KN.out]; exact HT.out⟩, HFN, pkA BT, pkA BK, pkA BM⟩
         · have hcell : mkF[c]? = some .nilFunc := mkF_none c hc22 ⟨fun h => hcl (by omega), fun h => hcl (by omega), fun h => hcl (by omega), fun h => hcl (by omega), fun h => hcl (by omega)⟩
           have hcm : ws.cell? ⟨gm, y.f0.toNat, none⟩ = some .nilFunc := by rw [hcN]; exact (blk_cell BM.out c).trans hcell
           have KN : Aside0 (tabV (⟨some ad0, c0, l0, a1, (n : Int), a3, A4, c4, l4, A5, c5, l5, A6, c6, l6, A7, c7, l7⟩ : Gr) (p + 1) = T) := ⟨by rw [KS2.out]; exact step_none HFP.out ⟨fun h => hcl (by omega), fun h => hcl (by omega), fun h => hcl (by omega), fun h => hcl (by omega), fun h => hcl (by omega)⟩⟩
           clear hcl hcell hcN hc22 hop hc
           go_wp2_with (simp only [Act.put, Bool.not_true, Bool.not_false, List.setIfInBounds_toArray, List.set_cons_zero, List.set_cons_succ])
           go_roundw
           case measure => simp [intOf] <;> omega
           case rel => exact ⟨p + 1, by omega, by first | rfl | simp, ⟨by rw [KN.out]; exact HT.out⟩, HFN, pkA BT, pkA BK, pkA BM⟩
       · obtain rfl : p = l0.length := by omega
         have hlt2 : decide ((l0.length : Int) < (l0.length : Int)) = false := decide_eq_false (by omega)
         have xt_0 := hcz BT 0
         have xt_1 := hcz BT 1
         go_upto_region 15 with (fail)
         go_quiet (fail)
         go_wp2
         go_ret2
         exact ⟨RetT_of (HT.out.below (pw_below_drewN (Below.refl _ _) _)), pw_below_drewN HT.out.hb _⟩
end Go.Proofs.Ytllfopbchdahoaa.P
