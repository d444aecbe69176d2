/- What the law's proof needs of G2. -/
import Derived.Test.YtcalcbeonbfkmaaTrRG1
import Derived.Test.YtcalcbeonbfkmaaTrRPx12
import Derived.StillTailTactics
namespace Go.Proofs.Ytcalcbeonbfkmaa.P
open Go.RowKit Go.Proofs.YtcalcbeonbfkmaaW.PrintWords Go.Proofs.YtcalcbeonbfkmaaW.PrintLast Go.Proofs.YtcalcbeonbfkmaaW.PrintMore Go.Proofs.YtcalcbeonbfkmaaO
attribute [local go_sem] max2_int min2_int max_two min_two max_three min_three max_four min_four
set_option linter.unusedVariables false
set_option linter.unusedSimpArgs false
/-- The code's machine: its twenty cells. -/
abbrev bC (G : Gr) (vs vr va vm : Value) (S : St) : Array Value := #[.slice G.A0 G.l0.length G.c0, .int .i64 G.loop, .int .i64 G.regs, .int .i64 G.ticks, .slice G.A4 G.l4.length G.c4, .slice G.A5 G.l5.length G.c5, .slice G.A6 G.l6.length G.c6, .slice G.A7 G.l7.length G.c7, vs, .int .i64 S.fuel, vr, .int .i64 S.at_, .int .i64 S.en, .int .i64 S.site, .int .i64 S.kind, .int .i64 S.ticks, .int .i64 S.reads, .slice none 0 0, va, vm]
abbrev MC (w W : World) (E : List (Nat × Array Value × Nat)) (G : Gr) (vs : Value) (gb : Nat) (vr va vm : Value) (S : St) : Prop := MB w W E gb 74 (bC G vs vr va vm S) vr va vm S.regs S.arrs S.marks
section
variable {P : Program} {ops : Array Oper} {oi : Oper} {rest : List Oper} {a : Act} {Q : Exit → Act → World → Prop}
/-- A box beside a machine, as one step. -/
theorem boxM {w W0 W : World} {E : List (Nat × Array Value × Nat)} {gb tb : Nat} {cb : Array Value} {vr va vm : Value} {rs : List Int} {ars mks : List (List Int)} (N : Tmp) (cs : Array Value) (t : TypeId) (HM : Aside0 (MB w W0 E gb tb cb vr va vm rs ars mks))
    (h : ∀ g w1, Aside0 (g = W.heap.size) → Aside0 (gb ≠ g) → Aside0 (w1.heap[g]? = some (.cells cs t (0, 0))) → Aside0 (Below W.heap.size W w1) → Aside0 (MB w w1 E gb tb cb vr va vm rs ars mks) → wpList P ops Q rest (a.put oi.dst (.pointer (some ⟨g, 0, none⟩))) w1)
    (hd : oi.dst = some N := by rfl) (hg : oi.guard = none := by rfl)
    (hr : (execOp a.eval oi).run P W = .ok (.value (.pointer (some ⟨W.heap.size, 0, none⟩))) (W.alloc (.cells cs t (0, 0))) := by (first | (go_simp; done) | (go_simp; rfl)))
    (hW : MB w W0 E gb tb cb vr va vm rs ars mks → MB w W E gb tb cb vr va vm rs ars mks := by (intro hq_; (with_reducible repeat (first | exact hq_ | apply MB.alloc | apply MB.drewN | apply MB.drew)); try exact hq_)) :
    wpList P ops Q (oi :: rest) a W :=
  box_event hg (N := N) hd hr fun g eg w1 hbox hb => h g w1 ⟨eg⟩ ⟨(hW HM.out).new eg⟩ ⟨hbox⟩ ⟨hb⟩ ⟨(hW HM.out).below hb⟩
/-- A call of a function that lies in a slot, with what it caught. -/
theorem goesLD {w : World} (N : Option Tmp) (hd : oi.dst = N) (hg : oi.guard = none) {f : FuncId} {fn : Func} {t : Tmp} {xs : Array Operand} {ts : Array TypeId} {caps : Array Value} (hf : P.funcs[f]? = some fn) (args : Array Value)
    (hop : oi.op = .call { callee := .value (.tmp t), args := xs, argTypes := ts }) (hv : a.eval (.tmp t) = .func (.func f) #[] caps) (hargs : xs.map a.eval ++ caps = args)
    (hname : (fn.name == "runtime.NumGoroutine") = false) (hb : fn.body.isSome = true)
    (h : Calls P f args w fun e w' => ∃ v, e = .returned v ∧ wpList P ops Q rest (a.put N v) w') : wpList P ops Q (oi :: rest) a w := by
  refine wpList_plain hg fun K hK => ?_
  have he := enters_ hf hname hb args w
  have hrun : (execOp a.eval oi).run P w = .ok (.enter f args) w := by
    unfold execOp
    simp [hop, resolve, Deferred.ofValue, invoke, hv, hargs, he]
  unfold Oper.wp
  rw [hrun, Oper.upon_enter]
  refine h.mono fun e w'' hh => ?_
  obtain ⟨v, rfl, hk⟩ := hh
  subst hd
  exact hK _ _ hk
end
theorem mup {w W0 W : World} {E : List (Nat × Array Value × Nat)} {gb tb : Nat} {cb : Array Value} {vr va vm : Value} {rs : List Int} {ars mks : List (List Int)} (HM : Aside0 (MB w W0 E gb tb cb vr va vm rs ars mks))
    (hW : MB w W0 E gb tb cb vr va vm rs ars mks → MB w W E gb tb cb vr va vm rs ars mks := by (intro hq_; (with_reducible repeat (first | exact hq_ | apply MB.alloc | apply MB.drewN | apply MB.drew)); try exact hq_)) : Aside0 (MB w W E gb tb cb vr va vm rs ars mks) := ⟨hW HM.out⟩
/-- Is a number of a type? -/
def okB (t x : Int) : Bool := decide (LoV t ≤ x ∧ x ≤ HiV t)
theorem within_q (x t : Int) (w : World) (ht : 1 ≤ t ∧ t ≤ 3) : Calls Try.prog 48 #[.int .i64 x, .int .i64 t] w fun e w' => e = .returned (.bool (okB t x)) ∧ Drawn0 w w' :=
  run_within.calls x t _ w (by
    have h1 : (IntKind.u64.wrap 1 : Int) = 1 := by decide
    have h2 : (IntKind.u64.wrap 2 : Int) = 2 := by decide
    have h3 : (IntKind.u64.wrap 3 : Int) = 3 := by decide
    have a1 : (IntKind.u64.wrap ((shl .u64 4 1) - 1) : Int) = 7 := by decide
    have a2 : (IntKind.u64.wrap ((shl .u64 4 2) - 1) : Int) = 15 := by decide
    have a3 : (IntKind.u64.wrap ((shl .u64 4 3) - 1) : Int) = 31 := by decide
    have b1 : (shl .i64 1 7 : Int) = 128 := by decide
    have b2 : (shl .i64 1 15 : Int) = 32768 := by decide
    have b3 : (shl .i64 1 31 : Int) = 2147483648 := by decide
    have c1 : (wrap64 (-128) : Int) = -128 := M.wrap64_in _ (by omega)
    have c2 : (wrap64 (-32768) : Int) = -32768 := M.wrap64_in _ (by omega)
    have c3 : (wrap64 (-2147483648) : Int) = -2147483648 := M.wrap64_in _ (by omega)
    have key : ∀ L H : Int, (if x ≥ L then some (decide (x < H)) else some false) = some (decide (L ≤ x ∧ x ≤ H - 1)) := fun L H => by
      by_cases c : x ≥ L
      · rw [if_pos c]; congr 1; exact decide_eq_decide.mpr ⟨fun h => ⟨c, by omega⟩, fun h => by omega⟩
      · rw [if_neg c]; congr 1; exact (decide_eq_false (fun h => c h.1)).symm
    have ht2 : t = 1 ∨ t = 2 ∨ t = 3 := by omega
    unfold run_within.f
    rcases ht2 with rfl | rfl | rfl
    · rw [h1, a1, b1, c1, if_pos (by decide), if_pos (by decide)]; exact key _ _
    · rw [h2, a2, b2, c2, if_pos (by decide), if_pos (by decide)]; exact key _ _
    · rw [h3, a3, b3, c3, if_pos (by decide), if_pos (by decide)]; exact key _ _)
/-- What two numbers give. -/
def rf (f : Nat) (a b : Int) : Int := if f = 52 then wrap64 (-a) else if f = 53 then mx a (wrap64 (-a)) else if f = 54 then wrap64 (a + b) else if f = 55 then wrap64 (a - b) else if f = 56 then wrap64 (a * b) else if f = 58 then mn a b else mx a b
def failS (S : St) (y : S52) (k : Int) : St := { S with en := 1, site := y.f5, kind := k }
def spendS (S : St) : St := if S.fuel ≤ 0 then { S with en := 4 } else { S with fuel := S.fuel - 1 }
def setS (G : Gr) (S : St) (y : S52) : St := if okB (rd_T83 G.l5 y.f1).f1 (S.regs.getD y.f2.toNat 0) = true then { S with regs := S.regs.set y.f1.toNat (S.regs.getD y.f2.toNat 0) } else failS S y 1
set_option maxHeartbeats 8000000 in
set_option maxRecDepth 100000 in
theorem fneg_c (a b : Int) (w : World) : Calls Try.prog 52 #[.int .i64 a, .int .i64 b] w fun e w' => e = .returned (.int .i64 (wrap64 (-a))) ∧ Below w.heap.size w w' := by
  have HB := Aside0.mk (Below.refl w.heap.size w)
  go_enter Try.func52, Try.ntmps52
  go_wp2
  all_goals go_ret
  all_goals exact ⟨by first | rfl | (simp only [i64_w]; rfl) | (unfold mx; rw [if_pos (by omega)]; rfl) | (unfold mx; rw [if_neg (by omega)]; rfl) | (unfold mn; rw [if_pos (by omega)]; rfl) | (unfold mn; rw [if_neg (by omega)]; rfl), (bpk HB).out⟩
set_option maxHeartbeats 8000000 in
set_option maxRecDepth 100000 in
theorem fabs_c (a b : Int) (w : World) : Calls Try.prog 53 #[.int .i64 a, .int .i64 b] w fun e w' => e = .returned (.int .i64 (mx a (wrap64 (-a)))) ∧ Below w.heap.size w w' := by
  have HB := Aside0.mk (Below.refl w.heap.size w)
  go_enter Try.func53, Try.ntmps53
  go_wp2
  all_goals go_ret
  all_goals exact ⟨by first | rfl | (simp only [i64_w]; rfl) | (unfold mx; rw [if_pos (by omega)]; rfl) | (unfold mx; rw [if_neg (by omega)]; rfl) | (unfold mn; rw [if_pos (by omega)]; rfl) | (unfold mn; rw [if_neg (by omega)]; rfl), (bpk HB).out⟩
set_option maxHeartbeats 8000000 in
set_option maxRecDepth 100000 in
theorem fadd_c (a b : Int) (w : World) : Calls Try.prog 54 #[.int .i64 a, .int .i64 b] w fun e w' => e = .returned (.int .i64 (wrap64 (a + b))) ∧ Below w.heap.size w w' := by
  have HB := Aside0.mk (Below.refl w.heap.size w)
  go_enter Try.func54, Try.ntmps54
  go_wp2
  all_goals go_ret
  all_goals exact ⟨by first | rfl | (simp only [i64_w]; rfl) | (unfold mx; rw [if_pos (by omega)]; rfl) | (unfold mx; rw [if_neg (by omega)]; rfl) | (unfold mn; rw [if_pos (by omega)]; rfl) | (unfold mn; rw [if_neg (by omega)]; rfl), (bpk HB).out⟩
set_option maxHeartbeats 8000000 in
set_option maxRecDepth 100000 in
theorem fsub_c (a b : Int) (w : World) : Calls Try.prog 55 #[.int .i64 a, .int .i64 b] w fun e w' => e = .returned (.int .i64 (wrap64 (a - b))) ∧ Below w.heap.size w w' := by
  have HB := Aside0.mk (Below.refl w.heap.size w)
  go_enter Try.func55, Try.ntmps55
  go_wp2
  all_goals go_ret
  all_goals exact ⟨by first | rfl | (simp only [i64_w]; rfl) | (unfold mx; rw [if_pos (by omega)]; rfl) | (unfold mx; rw [if_neg (by omega)]; rfl) | (unfold mn; rw [if_pos (by omega)]; rfl) | (unfold mn; rw [if_neg (by omega)]; rfl), (bpk HB).out⟩
set_option maxHeartbeats 8000000 in
set_option maxRecDepth 100000 in
theorem fmul_c (a b : Int) (w : World) : Calls Try.prog 56 #[.int .i64 a, .int .i64 b] w fun e w' => e = .returned (.int .i64 (wrap64 (a * b))) ∧ Below w.heap.size w w' := by
  have HB := Aside0.mk (Below.refl w.heap.size w)
  go_enter Try.func56, Try.ntmps56
  go_wp2
  all_goals go_ret
  all_goals exact ⟨by first | rfl | (simp only [i64_w]; rfl) | (unfold mx; rw [if_pos (by omega)]; rfl) | (unfold mx; rw [if_neg (by omega)]; rfl) | (unfold mn; rw [if_pos (by omega)]; rfl) | (unfold mn; rw [if_neg (by omega)]; rfl), (bpk HB).out⟩
set_option maxHeartbeats 8000000 in
set_option maxRecDepth 100000 in
theorem fmin_c (a b : Int) (w : World) : Calls Try.prog 58 #[.int .i64 a, .int .i64 b] w fun e w' => e = .returned (.int .i64 (mn a b)) ∧ Below w.heap.size w w' := by
  have HB := Aside0.mk (Below.refl w.heap.size w)
  go_enter Try.func58, Try.ntmps58
  go_wp2
  all_goals go_ret
  all_goals exact ⟨by first | rfl | (simp only [i64_w]; rfl) | (unfold mx; rw [if_pos (by omega)]; rfl) | (unfold mx; rw [if_neg (by omega)]; rfl) | (unfold mn; rw [if_pos (by omega)]; rfl) | (unfold mn; rw [if_neg (by omega)]; rfl), (bpk HB).out⟩
set_option maxHeartbeats 8000000 in
set_option maxRecDepth 100000 in
theorem fmax_c (a b : Int) (w : World) : Calls Try.prog 59 #[.int .i64 a, .int .i64 b] w fun e w' => e = .returned (.int .i64 (mx a b)) ∧ Below w.heap.size w w' := by
  have HB := Aside0.mk (Below.refl w.heap.size w)
  go_enter Try.func59, Try.ntmps59
  go_wp2
  all_goals go_ret
  all_goals exact ⟨by first | rfl | (simp only [i64_w]; rfl) | (unfold mx; rw [if_pos (by omega)]; rfl) | (unfold mx; rw [if_neg (by omega)]; rfl) | (unfold mn; rw [if_pos (by omega)]; rfl) | (unfold mn; rw [if_neg (by omega)]; rfl), (bpk HB).out⟩
theorem rf_c (f : Nat) (a b : Int) (w : World) (hf : f = 52 ∨ f = 53 ∨ f = 54 ∨ f = 55 ∨ f = 56 ∨ f = 58 ∨ f = 59) : Calls Try.prog f #[.int .i64 a, .int .i64 b] w fun e w' => e = .returned (.int .i64 (rf f a b)) ∧ Below w.heap.size w w' := by
  rcases hf with rfl | rfl | rfl | rfl | rfl | rfl | rfl
  · exact fneg_c a b w
  · exact fabs_c a b w
  · exact fadd_c a b w
  · exact fsub_c a b w
  · exact fmul_c a b w
  · exact fmin_c a b w
  · exact fmax_c a b w
set_option maxHeartbeats 8000000 in
set_option maxRecDepth 100000 in
theorem stop_calls {w W : World} {E : List (Nat × Array Value × Nat)} {G : Gr} {vs vr va vm : Value} {gb : Nat} {S : St} (h : MC w W E G vs gb vr va vm S) (k : Int) :
    Calls Try.prog 71 #[.pointer (some ⟨gb, 0, none⟩), .int .i64 k] W fun e W' => e = .returned (.tuple #[]) ∧ MC w W' E G vs gb vr va vm { S with en := k } := by
  have hu52 := Try.underlying52
  have hu74 := Try.underlying74
  have hu36 := Try.underlying36
  have hu28 := Try.underlying28
  have HM := Aside0.mk h
  clear h
  have c12 := HM.out.cell 12
  have f12 := HM.out.froz 12
  go_enter Try.func71, Try.ntmps71
  go_wp2
  first | go_end0 | ((try simp only [Exit.inBlock, Exit.then]); refine bodyPost_ret (results_none rfl _ _ _) rfl ?_)
  exact ⟨rfl, (mup HM).out.set 12 _ rfl⟩
def N49T : Bool × List (List Nat × List Nat) := (true, [([], []), ([], []), ([], []), ([], []), ([3], [3]), ([], []), ([0, 0], [0]), ([6, 0], [6]), ([7, 0], [7]), ([8, 0], [8]), ([1, 0, 1, 3, 4, 6, 7, 8, 9], [1]), ([10, 0, 1, 3, 4, 6, 7, 8, 9], [10]), ([11, 0, 1, 3, 4, 6, 7, 8, 9], [11]), ([12, 4, 9, 0, 1, 3, 4, 6, 7, 8, 9], [4, 12]), ([2, 0, 1, 2, 3, 4, 5, 6, 7, 8, 9, 10, 11, 12, 13], [2]), ([14, 0, 1, 2, 3, 4, 5, 6, 7, 8, 9, 10, 11, 12, 13], [14]), ([15, 0, 1, 2, 3, 4, 5, 6, 7, 8, 9, 10, 11, 12, 13], [15]), ([16, 5, 13, 0, 1, 2, 3, 4, 5, 6, 7, 8, 9, 10, 11, 12, 13], [5, 16])])
def N49B : List Nat := [0, 0, 0, 0, 8, 0, 1, 65, 193, 449, 987, 2011, 4059, 8155, 16383, 32767, 65535, 131071]
theorem N49tab : rtab .any (opsOf Try.f49 1) = N49T := by kernel_rfl
theorem N49bits : waitsOk N49T.2 N49B = true := by kernel_rfl
set_option maxHeartbeats 8000000 in
set_option maxRecDepth 100000 in
theorem fail_calls {w W : World} {E : List (Nat × Array Value × Nat)} {G : Gr} {vs vr va vm : Value} {gb : Nat} {S : St} (h : MC w W E G vs gb vr va vm S) (y : S52) (k : Int) :
    Calls Try.prog 49 #[.pointer (some ⟨gb, 0, none⟩), .agg #[.int .i64 y.f0, .int .i64 y.f1, .int .i64 y.f2, .int .i64 y.f3, .int .i64 y.f4, .int .i64 y.f5, .int .i64 y.f6.f0, .int .i64 y.f6.f1], .int .i64 k] W fun e W' => e = .returned (.tuple #[]) ∧ MC w W' E G vs gb vr va vm (failS S y k) := by
  have hu52 := Try.underlying52
  have hu74 := Try.underlying74
  have hu36 := Try.underlying36
  have hu28 := Try.underlying28
  have HM := Aside0.mk h
  clear h
  go_enter Try.func49, Try.ntmps49
  go_upto_region 1 with (first | ((with_reducible refine gate_dst (N := 4) rfl ?_); refine boxM 4 #[.int .i64 y.f0, .int .i64 y.f1, .int .i64 y.f2, .int .i64 y.f3, .int .i64 y.f4, .int .i64 y.f5, .int .i64 y.f6.f0, .int .i64 y.f6.f1] 52 HM ?_; clear HM; intro g w1 _ NG BK _ HM; have hcf := hcf8 BK; obtain ⟨_, _, _, _, _, _, _, _, _, _, _, _, _, _, _, _⟩ := hcf))
  have hS : ∀ w' : World, w'.heap[g]? = some (.cells #[.int .i64 y.f0, .int .i64 y.f1, .int .i64 y.f2, .int .i64 y.f3, .int .i64 y.f4, .int .i64 y.f5, .int .i64 y.f6.f0, .int .i64 y.f6.f1] 52 (0, 0)) → (w'.cell? ⟨g, 5, none⟩ = some (.int .i64 y.f5)) := fun w' hb => hcz ⟨hb⟩ 5
  refine start_ (n := 18) (S := fun w' => w'.cell? ⟨g, 5, none⟩ = some (.int .i64 y.f5)) (ds := []) #[false, false, false, false, false, false, false, false, false, false, false, false, false, false, false, false, false, false] (by kernel_rfl) rfl rfl (hS _ (blk_drew BK.out)) (fun hHeld => ?_)
  refine with_tabW N49tab N49bits (fun HT_ HW_ => ?_)
  replace HM := Aside0.mk (HM.out.drew)
  replace BK := Aside0.mk (blk_drew BK.out)
  generalize World.drew _ = wa at HM BK hHeld ⊢
  refine pureQ 0 6 HT_.out ?_
  refine pureQ 1 7 HT_.out ?_
  refine pureQ 2 8 HT_.out ?_
  refine pureQ 3 9 HT_.out ?_
  refine takeQ 4 10 HT_.out HW_.out hHeld ?_
  refine pureQ 5 11 HT_.out ?_
  refine pureQ 6 12 HT_.out ?_
  refine pureQ 7 13 HT_.out ?_
  refine pureQ 8 14 HT_.out ?_
  refine one_ (i := 9) (N := none) #[true, true, true, true, true, true, true, true, true, true, false, false, false, false, false, false, false, false] rfl rfl (one_of HT_.out (by kernel_rfl)) (by decide) (fun K hK => ?_)
  have cc := HM.out.cell 12
  have ff := HM.out.froz 12
  obtain ⟨wy0, hwz⟩ : ∃ wz, wz = World.setCell wa ⟨gb, 12, none⟩ (.int .i64 1) := ⟨_, rfl⟩
  refine skip_ (w1 := wy0) (by rfl) rfl (by rw [hwz] <;> go_simp) ?_
  clear cc ff
  replace HM := Aside0.mk (HM.out.set 12 (.int .i64 1) rfl)
  replace BK : Aside0 (wy0.heap[g]? = some (.cells #[.int .i64 y.f0, .int .i64 y.f1, .int .i64 y.f2, .int .i64 y.f3, .int .i64 y.f4, .int .i64 y.f5, .int .i64 y.f6.f0, .int .i64 y.f6.f1] 52 (0, 0))) := ⟨by rw [hwz]; exact (Below.heap_setCell _ _ _ g (fun e => NG.out e.symm)).trans BK.out⟩
  rw [← hwz] at HM
  clear hwz
  refine hK.out _ _ (hS _ BK.out) (fun hHeld => ?_)
  clear hK K
  refine pureQ 10 15 HT_.out ?_
  refine pureQ 11 16 HT_.out ?_
  refine pureQ 12 17 HT_.out ?_
  refine one_ (i := 13) (N := none) #[true, true, true, true, true, true, true, true, true, true, true, true, true, true, false, false, false, false] rfl rfl (one_of HT_.out (by kernel_rfl)) (by decide) (fun K hK => ?_)
  have cc := HM.out.cell 13
  have ff := HM.out.froz 13
  obtain ⟨wy1, hwz⟩ : ∃ wz, wz = World.setCell wy0 ⟨gb, 13, none⟩ (.int .i64 y.f5) := ⟨_, rfl⟩
  refine skip_ (w1 := wy1) (by rfl) rfl (by rw [hwz] <;> go_simp) ?_
  clear cc ff
  replace HM := Aside0.mk (HM.out.set 13 (.int .i64 y.f5) rfl)
  replace BK : Aside0 (wy1.heap[g]? = some (.cells #[.int .i64 y.f0, .int .i64 y.f1, .int .i64 y.f2, .int .i64 y.f3, .int .i64 y.f4, .int .i64 y.f5, .int .i64 y.f6.f0, .int .i64 y.f6.f1] 52 (0, 0))) := ⟨by rw [hwz]; exact (Below.heap_setCell _ _ _ g (fun e => NG.out e.symm)).trans BK.out⟩
  rw [← hwz] at HM
  clear hwz
  refine hK.out _ _ (hS _ BK.out) (fun hHeld => ?_)
  clear hK K
  refine pureQ 14 18 HT_.out ?_
  refine pureQ 15 19 HT_.out ?_
  refine pureQ 16 20 HT_.out ?_
  refine one_ (i := 17) (N := none) #[true, true, true, true, true, true, true, true, true, true, true, true, true, true, true, true, true, true] rfl rfl (one_of HT_.out (by kernel_rfl)) (by decide) (fun K hK => ?_)
  have cc := HM.out.cell 14
  have ff := HM.out.froz 14
  obtain ⟨wy, hwz⟩ : ∃ wz, wz = World.setCell wy1 ⟨gb, 14, none⟩ (.int .i64 k) := ⟨_, rfl⟩
  refine skip_ (w1 := wy) (by rfl) rfl (by rw [hwz] <;> go_simp) ?_
  clear cc ff
  replace HM := Aside0.mk (HM.out.set 14 (.int .i64 k) rfl)
  replace BK : Aside0 (wy.heap[g]? = some (.cells #[.int .i64 y.f0, .int .i64 y.f1, .int .i64 y.f2, .int .i64 y.f3, .int .i64 y.f4, .int .i64 y.f5, .int .i64 y.f6.f0, .int .i64 y.f6.f1] 52 (0, 0))) := ⟨by rw [hwz]; exact (Below.heap_setCell _ _ _ g (fun e => NG.out e.symm)).trans BK.out⟩
  rw [← hwz] at HM
  clear hwz
  refine hK.out _ _ (hS _ BK.out) (fun hHeld => ?_)
  clear hK K
  refine done_ (done_of HT_.out (by kernel_rfl)) ?_
  clear hHeld HT_ HW_
  first | go_end0 | ((try simp only [Exit.inBlock, Exit.then]); refine bodyPost_ret (results_none rfl _ _ _) rfl ?_)
  exact ⟨rfl, HM.out⟩
set_option maxHeartbeats 8000000 in
set_option maxRecDepth 100000 in
theorem spend_calls {w W : World} {E : List (Nat × Array Value × Nat)} {G : Gr} {vs vr va vm : Value} {gb : Nat} {S : St} (h : MC w W E G vs gb vr va vm S) (hf : 0 ≤ S.fuel ∧ S.fuel ≤ 9223372036854775807) :
    Calls Try.prog 68 #[.pointer (some ⟨gb, 0, none⟩)] W fun e W' => e = .returned (.bool (decide (0 < S.fuel))) ∧ MC w W' E G vs gb vr va vm (spendS S) := by
  have hu52 := Try.underlying52
  have hu74 := Try.underlying74
  have hu36 := Try.underlying36
  have hu28 := Try.underlying28
  have HM := Aside0.mk h
  clear h
  have c9 := HM.out.cell 9
  have f9 := HM.out.froz 9
  by_cases c : S.fuel = 0
  · have cb : (S.fuel == 0) = true := beq_iff_eq.mpr c
    rw [show decide (0 < S.fuel) = false from decide_eq_false (by omega), show spendS S = { S with en := 4 } from if_pos (by omega)]
    go_enter Try.func68, Try.ntmps68
    go_wp2_with ((with_reducible refine gate_callee (f := 71) rfl ?_); refine goesL_ _ rfl rfl Try.func71 (by kernel_rfl) rfl #[.pointer (some ⟨gb, 0, none⟩), .int .i64 4] rfl (by (try simp only [List.map_toArray, List.map_cons, List.map_nil]); first | done | rfl) ?_; refine (stop_calls (mup HM).out 4).mono ?_; rintro e w' ⟨rfl, hm⟩; clear HM; have HM := Aside0.mk hm; refine ⟨_, rfl, ?_⟩)
    go_ret
    exact ⟨rfl, HM.out⟩
  · have cb : (S.fuel == 0) = false := beq_eq_false_iff_ne.mpr c
    have hw : IntKind.i64.wrap (S.fuel - 1) = S.fuel - 1 := (i64_w _).trans (M.wrap64_in _ (by omega))
    rw [show decide (0 < S.fuel) = true from decide_eq_true (by omega), show spendS S = { S with fuel := S.fuel - 1 } from if_neg (by omega)]
    go_enter Try.func68, Try.ntmps68
    go_wp2
    go_ret
    exact ⟨rfl, (mup HM).out.set 9 _ rfl⟩
set_option maxHeartbeats 8000000 in
set_option maxRecDepth 100000 in
theorem const_calls {w W : World} {E : List (Nat × Array Value × Nat)} {G : Gr} {vs vr va vm : Value} {gb : Nat} {S : St} (h : MC w W E G vs gb vr va vm S) (y : S52) (hf1 : 0 ≤ y.f1 ∧ y.f1 < (S.regs.length : Int)) :
    Calls Try.prog 51 #[.pointer (some ⟨gb, 0, none⟩), .agg #[.int .i64 y.f0, .int .i64 y.f1, .int .i64 y.f2, .int .i64 y.f3, .int .i64 y.f4, .int .i64 y.f5, .int .i64 y.f6.f0, .int .i64 y.f6.f1]] W fun e W' => e = .returned (.tuple #[]) ∧ MC w W' E G vs gb vr va vm { S with regs := S.regs.set y.f1.toNat y.f4 } := by
  obtain ⟨gr, cr, rfl⟩ := h.mem.regForm (by omega)
  have hu52 := Try.underlying52
  have hu74 := Try.underlying74
  have hu36 := Try.underlying36
  have hu28 := Try.underlying28
  have HM := Aside0.mk h
  clear h
  have pf1 := eq_true hf1.1
  have qf1 := eq_true hf1.2
  have zf1 : (y.f1.toNat < S.regs.length) = True := eq_true (by omega)
  go_enter Try.func51, Try.ntmps51
  go_wp2_with (first | ((with_reducible refine gate_dst (N := 3) rfl ?_); refine boxM 3 #[.int .i64 y.f0, .int .i64 y.f1, .int .i64 y.f2, .int .i64 y.f3, .int .i64 y.f4, .int .i64 y.f5, .int .i64 y.f6.f0, .int .i64 y.f6.f1] 52 HM ?_; clear HM; intro g w1 _ NG BK _ HM; have hcf := hcf8 BK; obtain ⟨_, _, _, _, _, _, _, _, _, _, _, _, _, _, _, _⟩ := hcf))
  have c10 := HM.out.cell 10
  obtain ⟨xf1, rf1⟩ := HM.out.mem.reg y.f1.toNat (by omega)
  go_still_tail 9, (by kernel_rfl)
  change wpList _ _ _ _ _ w1.drew
  go_wp2
  first | go_end0 | ((try simp only [Exit.inBlock, Exit.then]); refine bodyPost_ret (results_none rfl _ _ _) rfl ?_)
  exact ⟨rfl, HM.out.drew.setReg _ _⟩
set_option maxHeartbeats 8000000 in
set_option maxRecDepth 100000 in
theorem on_calls {w W : World} {E : List (Nat × Array Value × Nat)} {G : Gr} {vs vr va vm : Value} {gb : Nat} {S : St} (h : MC w W E G vs gb vr va vm S) (y : S52) :
    Calls Try.prog 50 #[.pointer (some ⟨gb, 0, none⟩), .agg #[.int .i64 y.f0, .int .i64 y.f1, .int .i64 y.f2, .int .i64 y.f3, .int .i64 y.f4, .int .i64 y.f5, .int .i64 y.f6.f0, .int .i64 y.f6.f1]] W fun e W' => e = .returned (.tuple #[]) ∧ MC w W' E G vs gb vr va vm S := by
  have hu52 := Try.underlying52
  have hu74 := Try.underlying74
  have hu36 := Try.underlying36
  have hu28 := Try.underlying28
  have HM := Aside0.mk h
  clear h
  go_enter Try.func50, Try.ntmps50
  go_wp2_with (first | ((with_reducible refine gate_dst (N := 3) rfl ?_); refine boxM 3 #[.int .i64 y.f0, .int .i64 y.f1, .int .i64 y.f2, .int .i64 y.f3, .int .i64 y.f4, .int .i64 y.f5, .int .i64 y.f6.f0, .int .i64 y.f6.f1] 52 HM ?_; clear HM; intro g w1 _ NG BK _ HM; have hcf := hcf8 BK; obtain ⟨_, _, _, _, _, _, _, _, _, _, _, _, _, _, _, _⟩ := hcf))
  first | go_end0 | ((try simp only [Exit.inBlock, Exit.then]); refine bodyPost_ret (results_none rfl _ _ _) rfl ?_)
  exact ⟨rfl, (mup HM).out⟩
set_option maxHeartbeats 8000000 in
set_option maxRecDepth 100000 in
theorem tick_calls {w W : World} {E : List (Nat × Array Value × Nat)} {G : Gr} {vs vr va vm : Value} {gb : Nat} {S : St} (h : MC w W E G vs gb vr va vm S) (y : S52) :
    Calls Try.prog 66 #[.pointer (some ⟨gb, 0, none⟩), .agg #[.int .i64 y.f0, .int .i64 y.f1, .int .i64 y.f2, .int .i64 y.f3, .int .i64 y.f4, .int .i64 y.f5, .int .i64 y.f6.f0, .int .i64 y.f6.f1]] W fun e W' => e = .returned (.tuple #[]) ∧ MC w W' E G vs gb vr va vm { S with ticks := wrap64 (S.ticks + 1) } := by
  have hu52 := Try.underlying52
  have hu74 := Try.underlying74
  have hu36 := Try.underlying36
  have hu28 := Try.underlying28
  have HM := Aside0.mk h
  clear h
  go_enter Try.func66, Try.ntmps66
  go_wp2_with (first | ((with_reducible refine gate_dst (N := 3) rfl ?_); refine boxM 3 #[.int .i64 y.f0, .int .i64 y.f1, .int .i64 y.f2, .int .i64 y.f3, .int .i64 y.f4, .int .i64 y.f5, .int .i64 y.f6.f0, .int .i64 y.f6.f1] 52 HM ?_; clear HM; intro g w1 _ NG BK _ HM; have hcf := hcf8 BK; obtain ⟨_, _, _, _, _, _, _, _, _, _, _, _, _, _, _, _⟩ := hcf; have c15 := HM.out.cell 15; have f15 := HM.out.froz 15))
  first | go_end0 | ((try simp only [Exit.inBlock, Exit.then]); refine bodyPost_ret (results_none rfl _ _ _) rfl ?_)
  exact ⟨rfl, (mup HM).out.set 15 _ (by first | rfl | (simp only [i64_w]; rfl))⟩
set_option maxHeartbeats 8000000 in
set_option maxRecDepth 100000 in
theorem enter_calls {w W : World} {E : List (Nat × Array Value × Nat)} {G : Gr} {vs vr va vm : Value} {gb : Nat} {S : St} (h : MC w W E G vs gb vr va vm S) (y : S52) (hf : 0 ≤ S.fuel ∧ S.fuel ≤ 9223372036854775807) :
    Calls Try.prog 67 #[.pointer (some ⟨gb, 0, none⟩), .agg #[.int .i64 y.f0, .int .i64 y.f1, .int .i64 y.f2, .int .i64 y.f3, .int .i64 y.f4, .int .i64 y.f5, .int .i64 y.f6.f0, .int .i64 y.f6.f1]] W fun e W' => e = .returned (.tuple #[]) ∧ MC w W' E G vs gb vr va vm (spendS S) := by
  have hu52 := Try.underlying52
  have hu74 := Try.underlying74
  have hu36 := Try.underlying36
  have hu28 := Try.underlying28
  have HM := Aside0.mk h
  clear h
  go_enter Try.func67, Try.ntmps67
  go_wp2_with (first | ((with_reducible refine gate_dst (N := 3) rfl ?_); refine boxM 3 #[.int .i64 y.f0, .int .i64 y.f1, .int .i64 y.f2, .int .i64 y.f3, .int .i64 y.f4, .int .i64 y.f5, .int .i64 y.f6.f0, .int .i64 y.f6.f1] 52 HM ?_; clear HM; intro g w1 _ NG BK _ HM; have hcf := hcf8 BK; obtain ⟨_, _, _, _, _, _, _, _, _, _, _, _, _, _, _, _⟩ := hcf) | ((with_reducible refine gate_callee (f := 68) rfl ?_); refine goesL_ _ rfl rfl Try.func68 (by kernel_rfl) rfl #[.pointer (some ⟨gb, 0, none⟩)] rfl (by (try simp only [List.map_toArray, List.map_cons, List.map_nil]); first | done | rfl) ?_; refine (spend_calls (mup HM).out hf).mono ?_; rintro e w' ⟨rfl, hm⟩; clear HM; have HM := Aside0.mk hm; clear hm; refine ⟨_, rfl, ?_⟩))
  first | go_end0 | ((try simp only [Exit.inBlock, Exit.then]); refine bodyPost_ret (results_none rfl _ _ _) rfl ?_)
  exact ⟨rfl, HM.out⟩
set_option maxHeartbeats 8000000 in
set_option maxRecDepth 100000 in
theorem failop_calls {w W : World} {E : List (Nat × Array Value × Nat)} {G : Gr} {vs vr va vm : Value} {gb : Nat} {S : St} (h : MC w W E G vs gb vr va vm S) (y : S52) :
    Calls Try.prog 69 #[.pointer (some ⟨gb, 0, none⟩), .agg #[.int .i64 y.f0, .int .i64 y.f1, .int .i64 y.f2, .int .i64 y.f3, .int .i64 y.f4, .int .i64 y.f5, .int .i64 y.f6.f0, .int .i64 y.f6.f1]] W fun e W' => e = .returned (.tuple #[]) ∧ MC w W' E G vs gb vr va vm (failS S y 5) := by
  have hu52 := Try.underlying52
  have hu74 := Try.underlying74
  have hu36 := Try.underlying36
  have hu28 := Try.underlying28
  have HM := Aside0.mk h
  clear h
  go_enter Try.func69, Try.ntmps69
  go_wp2_with (first | ((with_reducible refine gate_dst (N := 3) rfl ?_); refine boxM 3 #[.int .i64 y.f0, .int .i64 y.f1, .int .i64 y.f2, .int .i64 y.f3, .int .i64 y.f4, .int .i64 y.f5, .int .i64 y.f6.f0, .int .i64 y.f6.f1] 52 HM ?_; clear HM; intro g w1 _ NG BK _ HM; have hcf := hcf8 BK; obtain ⟨_, _, _, _, _, _, _, _, _, _, _, _, _, _, _, _⟩ := hcf) | ((with_reducible refine gate_callee (f := 49) rfl ?_); refine goesL_ _ rfl rfl Try.func49 (by kernel_rfl) rfl #[.pointer (some ⟨gb, 0, none⟩), .agg #[.int .i64 y.f0, .int .i64 y.f1, .int .i64 y.f2, .int .i64 y.f3, .int .i64 y.f4, .int .i64 y.f5, .int .i64 y.f6.f0, .int .i64 y.f6.f1], .int .i64 5] rfl (by (try simp only [List.map_toArray, List.map_cons, List.map_nil]); first | done | rfl) ?_; refine (fail_calls (mup HM).out y 5).mono ?_; rintro e w' ⟨rfl, hm⟩; clear HM; have HM := Aside0.mk hm; clear hm; refine ⟨_, rfl, ?_⟩))
  first | go_end0 | ((try simp only [Exit.inBlock, Exit.then]); refine bodyPost_ret (results_none rfl _ _ _) rfl ?_)
  exact ⟨rfl, HM.out⟩
end Go.Proofs.Ytcalcbeonbfkmaa.P
