/- What the law's proof needs of H5. -/
import Derived.Test.YtcalcbeonbfkmaaTrRH4
namespace Go.Proofs.Ytcalcbeonbfkmaa.P
open Go.RowKit Go.Proofs.YtcalcbeonbfkmaaW.PrintWords Go.Proofs.YtcalcbeonbfkmaaW.PrintLast Go.Proofs.YtcalcbeonbfkmaaW.PrintMore Go.Proofs.YtcalcbeonbfkmaaO
attribute [local go_sem] max2_int min2_int max_two min_two max_three min_three max_four min_four
set_option linter.unusedVariables false
set_option linter.unusedSimpArgs false
set_option maxHeartbeats 8000000 in
set_option maxRecDepth 100000 in
theorem rconst_calls {w W : World} {E : List (Nat × Array Value × Nat)} {G : Gr} {vs vr va vm : Value} {gb : Nat} {S : St} (h : MR w W E G vs gb vr va vm S) (y : S52) (h0 : y.f0 = 1) :
    Calls Try.prog 45 #[.pointer (some ⟨gb, 0, none⟩), .agg #[.int .i64 y.f0, .int .i64 y.f1, .int .i64 y.f2, .int .i64 y.f3, .int .i64 y.f4, .int .i64 y.f5, .int .i64 y.f6.f0, .int .i64 y.f6.f1]] W fun e W' => e = .returned (.tuple #[.int .i64 y.f4, .int .i64 0]) ∧ MR w W' E G vs gb vr va vm S := by
  have hu52 := Try.underlying52
  have hu66 := Try.underlying66
  have hu36 := Try.underlying36
  have hu28 := Try.underlying28
  have HM := Aside0.mk h
  clear h
  have k1 : (y.f0 == (1 : Int)) = true := by rw [h0]; rfl
  clear h0
  go_enter Try.func45, Try.ntmps45
  go_upto_region 1 with (first | ((with_reducible refine gate_dst (N := 3) rfl ?_); refine boxM 3 #[.int .i64 y.f0, .int .i64 y.f1, .int .i64 y.f2, .int .i64 y.f3, .int .i64 y.f4, .int .i64 y.f5, .int .i64 y.f6.f0, .int .i64 y.f6.f1] 52 HM ?_; clear HM; intro g w1 _ NG BK _ HM; have hcf := hcf8 BK; obtain ⟨_, _, _, _, _, _, _, _, _, _, _, _, _, _, _, _⟩ := hcf))
  have b0 := hcz BK 0
  have b4 := hcz BK 4
  go_wp2
  all_goals go_ret2
  all_goals exact ⟨rfl, (mup HM).out⟩
def N44T : Bool × List (List Nat × List Nat) := (true, [([], []), ([], []), ([1], [1]), ([2], [2]), ([3], [3]), ([], []), ([5], [5]), ([6], [6]), ([7], [7]), ([8], [8]), ([9], [9]), ([4, 10], [4, 10]), ([0, 11], [0, 11]), ([12, 12, 0, 1, 2, 3, 4, 5, 6, 7, 8, 9, 10, 11, 12], [12])])
def N44B : List Nat := [0, 0, 2, 6, 14, 0, 32, 96, 224, 480, 992, 2046, 4095, 8191]
theorem N44tab : rtab .any (opsOf Try.f44 2) = N44T := by kernel_rfl
theorem N44bits : waitsOk N44T.2 N44B = true := by kernel_rfl
set_option maxHeartbeats 8000000 in
set_option maxRecDepth 100000 in
theorem rscalars_calls {w W : World} {E : List (Nat × Array Value × Nat)} {G : Gr} {vs vr va vm : Value} {gb : Nat} {S : St} (h : MR w W E G vs gb vr va vm S) (h5 : G.l5.length ≤ S.regs.length) (h0 : ∃ gr cr, vr = .slice (some ⟨gr, 0, none⟩) S.regs.length cr) (hl : S.regs.length ≤ 100000) :
    Calls Try.prog 44 #[.pointer (some ⟨gb, 0, none⟩)] W fun e W' => ∃ v, e = .returned v ∧ Kd.R (Kd.int .i64) 2 W' W.heap.size (fun k => W.heap.size ≤ k) v (S.regs.take G.l5.length) ∧ MR w W' E G vs gb vr va vm S ∧ Below W.heap.size W W' := by
  obtain ⟨gr, cr, rfl⟩ := h0
  have hu52 := Try.underlying52
  have hu66 := Try.underlying66
  have hu36 := Try.underlying36
  have hu28 := Try.underlying28
  have HM := Aside0.mk h
  clear h
  have hu29 := Try.underlying29
  have q5 : ((G.l5.length : Int) ≤ (cr : Int)) = True := eq_true (by have := HM.out.mem.regCap; omega)
  have q6 : (G.l5.length ≤ cr) = True := eq_true (by have := HM.out.mem.regCap; omega)
  have HB := Aside0.mk (Below.refl W.heap.size W)
  have HM0 := HM
  have HL := Aside0.mk (And.intro h5 hl)
  have HO := Aside0.mk (Kd.R_nil (Kd.int .i64) 2 W W.heap.size (fun k => W.heap.size ≤ k))
  go_enter Try.func44, Try.ntmps44
  go_upto_region 2 with (fail)
  have hS : ∀ w' : World, MR w w' E G vs gb (.slice (some ⟨gr, 0, none⟩) S.regs.length cr) va vm S → (w'.cell? ⟨gb, 11, none⟩ = some (.slice (some ⟨gr, 0, none⟩) S.regs.length cr) ∧ w'.cell? ⟨gb, 5, none⟩ = some (.slice G.A5 G.l5.length G.c5)) := fun w' hm => ⟨hm.cell 11, hm.cell 5⟩
  refine start_ (n := 14) (S := fun w' => w'.cell? ⟨gb, 11, none⟩ = some (.slice (some ⟨gr, 0, none⟩) S.regs.length cr) ∧ w'.cell? ⟨gb, 5, none⟩ = some (.slice G.A5 G.l5.length G.c5)) (ds := []) #[false, false, false, false, false, false, false, false, false, false, false, false, false, false] (by kernel_rfl) rfl rfl (hS _ HM.out.drew) (fun hHeld => ?_)
  refine with_tabW N44tab N44bits (fun HT_ HW_ => ?_)
  replace HM := Aside0.mk HM.out.drew
  replace HB := Aside0.mk (below_drew1 HB.out)
  replace HO := Aside0.mk (Kd.R_below HO.out HB.out)
  generalize World.drew _ = wa at HM HB HO hHeld ⊢
  refine pureQ 0 4 HT_.out ?_
  refine pureQ 1 5 HT_.out ?_
  refine pureQ 2 6 HT_.out ?_
  refine pureQ 3 7 HT_.out ?_
  refine takeQ 4 8 HT_.out HW_.out hHeld ?_
  refine pureQ 5 9 HT_.out ?_
  refine pureQ 6 10 HT_.out ?_
  refine pureQ 7 11 HT_.out ?_
  refine pureQ 8 12 HT_.out ?_
  refine takeQ 9 13 HT_.out HW_.out hHeld ?_
  refine pureQ 10 14 HT_.out ?_
  refine pureQ 11 15 HT_.out ?_
  refine oneQ 12 16 HT_.out (fun K hK => ?_)
  refine Kd.R_append_rows_step (Kd.int .i64) (w0 := W) W.heap.size (by rfl) (.tmp 4) (.tmp 15) 29 2 (.int .i64 0) 8 rfl Try.underlying29 info2 rfl (by decide) (by omega) (.slice none 0 0) ([] : List Int) (S.regs.take G.l5.length) _ _ _ (fun k => W.heap.size ≤ k) (fun _ => False) rfl rfl HO.out ?aR (fun _ _ h => h) (fun _ h => h.elim) (fun k hk => Nat.le_trans HB.out.size hk) HB.out HB.out.size ?aL ?_
  case aR => have := Kd.C_take HM.out.mem.regC (m := G.l5.length) HL.out.1; rwa [List.length_take, Nat.min_eq_left HL.out.1] at this
  case aL => have := HL.out; simp; omega
  intro v1 w1 ho hb hg hat
  rw [List.nil_append] at ho
  have HO1 := Aside0.mk ho
  replace HM := Aside0.mk (HM0.out.below hb)
  replace HB := Aside0.mk hb
  clear ho hb hg hat HO
  refine hK.out _ _ (hS _ HM.out) (fun hHeld => ?_)
  clear hK K
  refine normQ (N := 16) ?_
  refine pureQ 13 2 HT_.out ?_
  refine done_ (done_of HT_.out (by kernel_rfl)) ?_
  clear hHeld HT_ HW_
  go_wp2
  go_ret
  exact ⟨v1, rfl, HO1.out, HM.out, HB.out⟩
end Go.Proofs.Ytcalcbeonbfkmaa.P
