/- What the law's proof needs of H11. -/
import Derived.Test.YtcalcbeonbfkmaaTrRH10
import Derived.Test.YtcalcbeonbfkmaaTrRH6
import Derived.Test.YtcalcbeonbfkmaaTrRH7
namespace Go.Proofs.Ytcalcbeonbfkmaa.P
open Go.RowKit Go.Proofs.YtcalcbeonbfkmaaW.PrintWords Go.Proofs.YtcalcbeonbfkmaaW.PrintLast Go.Proofs.YtcalcbeonbfkmaaW.PrintMore Go.Proofs.YtcalcbeonbfkmaaO
attribute [local go_sem] max2_int min2_int max_two min_two max_three min_three max_four min_four
set_option linter.unusedVariables false
set_option linter.unusedSimpArgs false
def WalkR (w : World) (E : List (Nat × Array Value × Nat)) (G : Gr) (vs : Value) (gb gr cr : Nat) (va : Value) (sc : List Int) (S0 : St) (N d : Nat) (wr : World) : Prop :=
  d ≤ N ∧ ∃ vm, MR w wr E G vs gb (.slice (some ⟨gr, 0, none⟩) G.regs.toNat cr) va vm (stepRN G sc S0 (N - d))
set_option maxHeartbeats 8000000 in
set_option maxRecDepth 100000 in
theorem rrun_calls (G : Gr) (w : World) (hG : G.Held w) (As : Option Addr) (sc : List Int) (cs : Nat) (f : Int) (hsc : Kd.C (Kd.int .i64) w As sc.length sc) (hl : sc.length ≤ 9223372036854775807) (hF : FitOK G) {N : Nat} (hR : RunsR G sc (beginS G f G.l5.length G.l6.length) N) :
    Calls Try.prog 11 #[G.v, .slice As sc.length cs, .int .i64 f] w fun e w' => RetO e w' G (stepRN G sc (beginS G f G.l5.length G.l6.length) N) ∧ Below w.heap.size w w' := by
  have hu28 := Try.underlying28
  have hu66 := Try.underlying66
  have hu36 := Try.underlying36
  have HB := Aside0.mk (Below.refl w.heap.size w)
  obtain ⟨S0, hS0⟩ : ∃ S, beginS G f G.l5.length G.l6.length = S := ⟨_, rfl⟩
  rw [hS0] at hR ⊢
  have KS0 := Aside0.mk hS0
  have KR := Aside0.mk hR
  have KF := Aside0.mk hF
  have KG := Aside0.mk hG
  have KC := Aside0.mk hsc
  clear hR hF hG hsc hS0
  have KD : Aside0 (0 ≤ G.regs ∧ (G.l5.length : Int) ≤ G.regs ∧ G.regs ≤ 10000) := ⟨by obtain ⟨ds, hD, _⟩ := KF.out.rest; have := hD.regs; have := hD.le; have := KF.out.n2; have := KF.out.parts.n5; omega⟩
  go_enter Try.func11, Try.ntmps11
  go_wp2_with (first | ((with_reducible refine gate_dst (N := 3) rfl ?_); refine boxQ 3 (gC G) 28 HB ?_; clear HB; intro g3 w1 _ GW3 B3 _ HB; have hcf := hcf8 B3; obtain ⟨_, _, _, _, _, _, _, _, _, _, _, _, _, _, _, _⟩ := hcf) | ((with_reducible refine gate_dst (N := 6) rfl ?_); refine boxQ 6 #[.int .i64 0, .int .i64 0, .int .i64 0, .int .i64 0, .int .i64 0, .slice none 0 0, .slice none 0 0, .slice none 0 0] 36 HB ?_; intro g6 w2 eg GW6 B6 hb HX; replace B3 := bbw B3 hb.out; clear HB hb eg; have HB := HX; clear HX; have hcf := hcf8 B3; obtain ⟨_, _, _, _, _, _, _, _, _, _, _, _, _, _, _, _⟩ := hcf) | ((with_reducible refine gate_callee (f := 29) rfl ?_); refine goesL_ _ rfl rfl Try.func29 (by kernel_rfl) rfl #[G.v, .slice As sc.length cs, .int .i64 f] rfl (by (try simp only [List.map_toArray, List.map_cons, List.map_nil]); first | done | rfl) ?_; refine (new_calls G _ (KG.out.below (bpk HB).out) As sc.length cs f KD.out.1 KD.out.2.1 KD.out.2.2 KF.out.parts).mono ?_; rintro e w3 ⟨gb, va, rfl, gr, cr, hm⟩; rw [KS0.out] at hm; have HM := Aside0.mk hm; clear hm B3; refine ⟨_, rfl, ?_⟩))
  obtain ⟨Pd, hPd⟩ : ∃ P, P = (WalkR w2 [] G (.slice As sc.length cs) gb gr cr va sc S0 N) := ⟨_, rfl⟩
  have KPd := Aside0.mk hPd
  have hst : Pd N w3 := by rw [hPd]; exact ⟨Nat.le_refl _, .slice none 0 0, by rw [Nat.sub_self]; exact HM.out⟩
  have HP := Aside0.mk hst
  clear hst hPd HM
  (try simp only [Act.put, List.setIfInBounds_toArray, List.set_cons_zero, List.set_cons_succ])
  go_loopw [] (fun wr => ∃ d, Aside0 (Pd d wr)) (fun wr => dist Pd wr)
  case atStart => exact ⟨N, HP⟩
  case round =>
   rename World => wl
   clear HP
   obtain ⟨d0, hP0⟩ := hrel
   have hP1 := dist_spec hP0.out
   obtain ⟨d, hd⟩ : ∃ d, dist Pd wl = d := ⟨_, rfl⟩
   rw [hd] at hP1 ⊢
   rw [KPd.out] at hP1
   obtain ⟨hdN, vm, hm⟩ := hP1
   have HM := Aside0.mk hm
   clear hm hP0
   have c12 := HM.out.cell 12
   by_cases hz : d = 0
   · subst hz
     have hs := KR.out.stop
     have KGd := Aside0.mk (KR.out.good N (Nat.le_refl _))
     rw [Nat.sub_zero] at HM c12
     obtain ⟨S, hSN⟩ : ∃ S, stepRN G sc S0 N = S := ⟨_, rfl⟩
     rw [hSN] at HM c12 hs KGd
     have KSN := Aside0.mk hSN
     clear hSN
     have eb : (S.en == 0) = false := beq_eq_false_iff_ne.mpr hs
     clear hs
     have h5r : G.l5.length ≤ S.regs.length := by have := KGd.out.regs; have := KD.out; omega
     have hsm : S.regs.length ≤ 100000 := by have := KGd.out.regs; have := KD.out; omega
     have hvr : Value.slice (some ⟨gr, 0, none⟩) G.regs.toNat cr = .slice (some ⟨gr, 0, none⟩) S.regs.length cr := by have := KGd.out.regs; rw [show G.regs.toNat = S.regs.length by omega]
     go_wp2_with (first | ((with_reducible refine gate_callee (f := 31) rfl ?_); refine goesL_ _ rfl rfl Try.func31 (by kernel_rfl) rfl #[.pointer (some ⟨gb, 0, none⟩)] rfl (by (try simp only [List.map_toArray, List.map_cons, List.map_nil]); first | done | rfl) ?_; refine (routcome_calls (mup HM).out h5r ⟨gr, cr, hvr⟩ hsm).mono ?_; rintro e w8 ⟨hO, hb⟩; obtain ⟨A1, c1, A2, c2, A3, c3, b1, b2, ok1, ok2, ok3, he, r1, r2, r3⟩ := hO; obtain ⟨row, er⟩ : ∃ r, S.regs.take G.l5.length = r := ⟨_, rfl⟩; rw [er] at he r1; subst he; have ER := Aside0.mk er; clear er; have HX := bst HB hb; replace B6 := bbw B6 hb; clear HB hb HM c12; have HB := HX; clear HX; have K1 := Aside0.mk r1; have K2 := Aside0.mk r2; have K3 := Aside0.mk r3; clear r1 r2 r3; refine ⟨_, rfl, ?_⟩) | ((with_reducible refine gate_store (p := 6) (t := 36) rfl ?_); refine Hold.out ?_))
     constructor
     refine store_box rfl rfl rfl g6 36 _ #[.int .i64 S.en, .int .i64 S.site, .int .i64 S.kind, .int .i64 S.ticks, .int .i64 S.reads, .slice A1 row.length c1, .slice A2 S.arrs.length c2, .slice A3 S.marks.length c3] (pkA B6).out rfl rfl (by kernel_rfl) rfl (by kernel_rfl) ?_
     intro w9 hbs hgs
     have hO : RetO (.returned (.agg #[.int .i64 S.en, .int .i64 S.site, .int .i64 S.kind, .int .i64 S.ticks, .int .i64 S.reads, .slice A1 row.length c1, .slice A2 S.arrs.length c2, .slice A3 S.marks.length c3])) w9 G S := RetO.boxed ⟨A1, c1, A2, c2, A3, c3, b1, b2, ok1, ok2, ok3, by rw [ER.out], by rw [ER.out]; exact K1.out, K2.out, K3.out⟩ (pkA B6).out hgs
     have hw := Below_boxed (bpk HB).out (Nat.le_refl _) GW6.out hgs
     clear HB
     go_wp2
     refine bodyPost_ret (results_cell_row rfl _ _ g6 36 _ (0, 0) _ rfl hbs Try.underlying36 rfl (by kernel_rfl)) rfl ?_
     rw [KSN.out]
     exact ⟨hO, hw⟩
   · have hgo := KR.out.go (N - d) (by omega)
     have KGd := Aside0.mk (KR.out.good (N - d) (by omega))
     have hnx : stepRN G sc S0 (N - (d - 1)) = stepR G sc (stepRN G sc S0 (N - d)) := by rw [show N - (d - 1) = (N - d) + 1 by omega]; rfl
     have KNX := Aside0.mk hnx
     clear hnx
     generalize stepRN G sc S0 (N - d) = S at HM c12 hgo KGd KNX
     obtain ⟨ge, ga⟩ := hgo
     have eb : (S.en == 0) = true := beq_iff_eq.mpr ge
     replace ge := Aside0.mk ge
     replace ga := Aside0.mk ga
     have hvr : ∃ a b, Value.slice (some ⟨gr, 0, none⟩) G.regs.toNat cr = .slice (some ⟨a, 0, none⟩) S.regs.length b := ⟨gr, cr, by have := KGd.out.regs; rw [show G.regs.toNat = S.regs.length by omega]⟩
     go_wp2_with (first | ((with_reducible refine gate_callee (f := 30) rfl ?_); refine goesL_ _ rfl rfl Try.func30 (by kernel_rfl) rfl #[.pointer (some ⟨gb, 0, none⟩)] rfl (by (try simp only [List.map_toArray, List.map_cons, List.map_nil]); first | done | rfl) ?_; refine (step_calls (mup HM).out rfl (KG.out.below HB.out) (Kd.C_below KC.out HB.out) hl KF.out KGd.out hvr ge.out ga.out).mono ?_; rintro e w10 ⟨rfl, vm2, hm2⟩; have HN := Aside0.mk hm2; clear HM hm2 c12; refine ⟨_, rfl, ?_⟩))
     have hp : Pd (d - 1) w10 := by rw [KPd.out]; exact ⟨by omega, vm2, by rw [KNX.out]; exact HN.out⟩
     (try simp only [Act.put, List.setIfInBounds_toArray, List.set_cons_zero, List.set_cons_succ])
     go_roundw
     case measure => exact Nat.lt_of_le_of_lt (dist_le hp) (by omega)
     case rel => exact ⟨d - 1, ⟨hp⟩⟩
end Go.Proofs.Ytcalcbeonbfkmaa.P
