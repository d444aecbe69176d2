/- What the law's proof needs of G9. -/
import Derived.Test.YtcalcbeonbfkmaaTrRG8
import Derived.Test.YtcalcbeonbfkmaaTrRF10
namespace Go.Proofs.Ytcalcbeonbfkmaa.P
open Go.RowKit Go.Proofs.YtcalcbeonbfkmaaW.PrintWords Go.Proofs.YtcalcbeonbfkmaaW.PrintLast Go.Proofs.YtcalcbeonbfkmaaW.PrintMore Go.Proofs.YtcalcbeonbfkmaaO
attribute [local go_sem] max2_int min2_int max_two min_two max_three min_three max_four min_four
set_option linter.unusedVariables false
set_option linter.unusedSimpArgs false
/-- What an instruction does. -/
def opS (G : Gr) (sc : List Int) (S : St) (y : S52) : St :=
  if y.f0 = 1 then { S with regs := S.regs.set y.f1.toNat y.f4 }
  else if y.f0 = 2 then reckS S y 52 true
  else if y.f0 = 3 then reckS S y 53 true
  else if y.f0 = 4 then reckS S y 54 true
  else if y.f0 = 5 then reckS S y 55 true
  else if y.f0 = 6 then reckS S y 56 true
  else if y.f0 = 7 then divS S y
  else if y.f0 = 8 then divS S y
  else if y.f0 = 9 then reckS S y 58 false
  else if y.f0 = 10 then reckS S y 59 false
  else if y.f0 = 11 then loadS S y
  else if y.f0 = 12 then readS G sc S y
  else if y.f0 = 13 then setS G S y
  else if y.f0 = 14 then storeS G S y
  else if y.f0 = 15 then testS S y
  else if y.f0 = 16 then S
  else if y.f0 = 17 then loopS G S
  else if y.f0 = 18 then { S with ticks := wrap64 (S.ticks + 1) }
  else if y.f0 = 19 then S
  else if y.f0 = 20 then spendS S
  else failS S y 5
/-- A run that fits its graph. -/
structure Good (G : Gr) (sc : List Int) (S : St) : Prop where
  regs : (S.regs.length : Int) = G.regs
  fuel : 0 ≤ S.fuel ∧ S.fuel ≤ 9223372036854775807
  reads : 0 ≤ S.reads ∧ S.reads ≤ (sc.length : Int)
  arrs : S.arrs.length = G.l6.length
  sizes : ∀ i : Nat, i < G.l6.length → ((S.arrs.getD i []).length : Int) = (rd_T85 G.l6 (i : Int)).f2
theorem DefsOK.temp {G : Gr} {ds : List Int} (hD : DefsOK G ds) {p : Nat} (hp : p < G.l0.length) (h : isP (rd_T52 G.l0 (p : Int))) : 0 ≤ (rd_T52 G.l0 (p : Int)).f1 ∧ (rd_T52 G.l0 (p : Int)).f1 < G.regs := by
  obtain ⟨j, hj, e, _⟩ := hD.dst p hp h
  have := hD.regs
  omega
set_option maxHeartbeats 8000000 in
set_option maxRecDepth 100000 in
theorem op_calls {w W : World} {E : List (Nat × Array Value × Nat)} {G : Gr} {vs vr va vm : Value} {gb : Nat} {S : St} (h : MC w W E G vs gb vr va vm S) {As : Option Addr} {sc : List Int} {cs b : Nat} (hvs : vs = .slice As sc.length cs) (hG : G.Held w) (hsc : Kd.C (Kd.int .i64) w As sc.length sc) (hl : sc.length ≤ 9223372036854775807) (hF : FitOK G) (hK : Good G sc S) (hvr : ∃ gr cr, vr = .slice (some ⟨gr, 0, none⟩) S.regs.length cr) (hE : ∀ z ∈ stOps b, z ∈ E) {p : Nat} (hp : p < G.l0.length) {y : S52} (hy : rd_T52 G.l0 (p : Int) = y) :
    ∃ (c f : Nat) (caps : Array Value), y.f0 = (c : Int) ∧ c < 22 ∧ (mkOps b)[c]? = some (.func (.func f) #[] caps) ∧ (∃ fn, Try.prog.funcs[f]? = some fn ∧ (fn.name == "runtime.NumGoroutine") = false ∧ fn.body.isSome = true) ∧
      Calls Try.prog f (#[.pointer (some ⟨gb, 0, none⟩), .agg #[.int .i64 y.f0, .int .i64 y.f1, .int .i64 y.f2, .int .i64 y.f3, .int .i64 y.f4, .int .i64 y.f5, .int .i64 y.f6.f0, .int .i64 y.f6.f1]] ++ caps) W fun e W' => (∃ v, e = .returned v) ∧ ∃ v, MC w W' E G vs gb vr va v (opS G sc S y) := by
  obtain ⟨ds, hD, hI⟩ := hF.rest
  have I := hI p hp
  have T := hD.temp hp
  have hrg := hD.regs
  have hdl := hD.le
  have h2 := hF.n2
  have h5 := hF.parts.n5
  rw [hy] at I T
  have hkr := hK.regs
  have rok : ∀ x : Int, RegOK G ds p x → 0 ≤ x ∧ x < (S.regs.length : Int) := fun x hx => ⟨hx.1, by rw [hkr]; exact hx.2.1⟩
  have tok : isP y → 0 ≤ y.f1 ∧ y.f1 < (S.regs.length : Int) := fun h => ⟨(T h).1, by rw [hkr]; exact (T h).2⟩
  have harr : y.f0 = 11 ∨ y.f0 = 14 → ∃ i : Nat, y.f2 = (i : Int) ∧ i < G.l6.length ∧ ((S.arrs.getD y.f2.toNat []).length : Int) = (rd_T85 G.l6 y.f2).f2 ∧ 1 ≤ (rd_T85 G.l6 y.f2).f2 ∧ 1 ≤ (rd_T85 G.l6 y.f2).f1 ∧ (rd_T85 G.l6 y.f2).f1 ≤ 3 := fun h => by
    obtain ⟨a1, a2⟩ := I.ar h
    obtain ⟨i, hi⟩ : ∃ i : Nat, y.f2 = (i : Int) := ⟨y.f2.toNat, by omega⟩
    have hi2 : i < G.l6.length := by omega
    obtain ⟨t1, t2, t3⟩ := hF.parts.ar i hi2
    rw [hi, Int.toNat_natCast]
    exact ⟨i, rfl, hi2, hK.sizes i hi2, t2, t1⟩
  obtain ⟨op0, op1⟩ := I.op
  have hc : y.f0 = 1 ∨ y.f0 = 2 ∨ y.f0 = 3 ∨ y.f0 = 4 ∨ y.f0 = 5 ∨ y.f0 = 6 ∨ y.f0 = 7 ∨ y.f0 = 8 ∨ y.f0 = 9 ∨ y.f0 = 10 ∨ y.f0 = 11 ∨ y.f0 = 12 ∨ y.f0 = 13 ∨ y.f0 = 14 ∨ y.f0 = 15 ∨ y.f0 = 16 ∨ y.f0 = 17 ∨ y.f0 = 18 ∨ y.f0 = 19 ∨ y.f0 = 20 ∨ y.f0 = 21 := by omega
  have hsm : S.regs.length ≤ 100000 := by omega
  have h5r : G.l5.length ≤ S.regs.length := by omega
  rcases hc with e | e | e | e | e | e | e | e | e | e | e | e | e | e | e | e | e | e | e | e | e
  · have ho : opS G sc S y = { S with regs := S.regs.set y.f1.toNat y.f4 } := by unfold opS; simp only [e]; rfl
    rw [ho]
    have ip : isP y := ⟨by omega, by omega⟩
    refine ⟨1, 51, #[], e, by omega, rfl, ⟨_, Try.func51, by kernel_rfl, rfl⟩, ?_⟩
    exact (const_calls h y (tok ip)).mono fun e W' ⟨he, hm⟩ => ⟨⟨_, he⟩, _, hm⟩
  · have ho : opS G sc S y = reckS S y 52 true := by unfold opS; simp only [e]; rfl
    rw [ho]
    have ip : isP y := ⟨by omega, by omega⟩
    have r2 := rok _ (I.u1 (.inl e))
    have r3 : 0 ≤ y.f3 ∧ y.f3 < (S.regs.length : Int) := by rw [I.ba (.inl e)]; exact ⟨Int.le_refl _, by omega⟩
    refine ⟨2, 47, #[.pointer (some ⟨b + 1, 0, none⟩), .pointer (some ⟨b + 2, 0, none⟩)], e, by omega, rfl, ⟨_, Try.func47, by kernel_rfl, rfl⟩, ?_⟩
    exact (reckon_calls h y (tok ip) r2 r3 (f := 52) (chk := true) (by omega) (hE _ (by simp [stOps])) (hE _ (by simp [stOps]))).mono fun e W' ⟨he, hm⟩ => ⟨⟨_, he⟩, _, hm⟩
  · have ho : opS G sc S y = reckS S y 53 true := by unfold opS; simp only [e]; rfl
    rw [ho]
    have ip : isP y := ⟨by omega, by omega⟩
    have r2 := rok _ (I.u1 (.inr (.inl e)))
    have r3 : 0 ≤ y.f3 ∧ y.f3 < (S.regs.length : Int) := by rw [I.ba (.inr e)]; exact ⟨Int.le_refl _, by omega⟩
    refine ⟨3, 47, #[.pointer (some ⟨b + 3, 0, none⟩), .pointer (some ⟨b + 4, 0, none⟩)], e, by omega, rfl, ⟨_, Try.func47, by kernel_rfl, rfl⟩, ?_⟩
    exact (reckon_calls h y (tok ip) r2 r3 (f := 53) (chk := true) (by omega) (hE _ (by simp [stOps])) (hE _ (by simp [stOps]))).mono fun e W' ⟨he, hm⟩ => ⟨⟨_, he⟩, _, hm⟩
  · have ho : opS G sc S y = reckS S y 54 true := by unfold opS; simp only [e]; rfl
    rw [ho]
    have ip : isP y := ⟨by omega, by omega⟩
    have r2 := rok _ (I.u2 (.inl ⟨by omega, by omega⟩)).1
    have r3 := rok _ (I.u2 (.inl ⟨by omega, by omega⟩)).2
    refine ⟨4, 47, #[.pointer (some ⟨b + 5, 0, none⟩), .pointer (some ⟨b + 6, 0, none⟩)], e, by omega, rfl, ⟨_, Try.func47, by kernel_rfl, rfl⟩, ?_⟩
    exact (reckon_calls h y (tok ip) r2 r3 (f := 54) (chk := true) (by omega) (hE _ (by simp [stOps])) (hE _ (by simp [stOps]))).mono fun e W' ⟨he, hm⟩ => ⟨⟨_, he⟩, _, hm⟩
  · have ho : opS G sc S y = reckS S y 55 true := by unfold opS; simp only [e]; rfl
    rw [ho]
    have ip : isP y := ⟨by omega, by omega⟩
    have r2 := rok _ (I.u2 (.inl ⟨by omega, by omega⟩)).1
    have r3 := rok _ (I.u2 (.inl ⟨by omega, by omega⟩)).2
    refine ⟨5, 47, #[.pointer (some ⟨b + 7, 0, none⟩), .pointer (some ⟨b + 8, 0, none⟩)], e, by omega, rfl, ⟨_, Try.func47, by kernel_rfl, rfl⟩, ?_⟩
    exact (reckon_calls h y (tok ip) r2 r3 (f := 55) (chk := true) (by omega) (hE _ (by simp [stOps])) (hE _ (by simp [stOps]))).mono fun e W' ⟨he, hm⟩ => ⟨⟨_, he⟩, _, hm⟩
  · have ho : opS G sc S y = reckS S y 56 true := by unfold opS; simp only [e]; rfl
    rw [ho]
    have ip : isP y := ⟨by omega, by omega⟩
    have r2 := rok _ (I.u2 (.inl ⟨by omega, by omega⟩)).1
    have r3 := rok _ (I.u2 (.inl ⟨by omega, by omega⟩)).2
    refine ⟨6, 47, #[.pointer (some ⟨b + 9, 0, none⟩), .pointer (some ⟨b + 10, 0, none⟩)], e, by omega, rfl, ⟨_, Try.func47, by kernel_rfl, rfl⟩, ?_⟩
    exact (reckon_calls h y (tok ip) r2 r3 (f := 56) (chk := true) (by omega) (hE _ (by simp [stOps])) (hE _ (by simp [stOps]))).mono fun e W' ⟨he, hm⟩ => ⟨⟨_, he⟩, _, hm⟩
  · have ho : opS G sc S y = divS S y := by unfold opS; simp only [e]; rfl
    rw [ho]
    have ip : isP y := ⟨by omega, by omega⟩
    refine ⟨7, 57, #[], e, by omega, rfl, ⟨_, Try.func57, by kernel_rfl, rfl⟩, ?_⟩
    exact (divide_calls h y (tok ip) (rok _ (I.u2 (.inl ⟨by omega, by omega⟩)).1) (rok _ (I.u2 (.inl ⟨by omega, by omega⟩)).2) (.inl e)).mono fun e W' ⟨he, hm⟩ => ⟨⟨_, he⟩, _, hm⟩
  · have ho : opS G sc S y = divS S y := by unfold opS; simp only [e]; rfl
    rw [ho]
    have ip : isP y := ⟨by omega, by omega⟩
    refine ⟨8, 57, #[], e, by omega, rfl, ⟨_, Try.func57, by kernel_rfl, rfl⟩, ?_⟩
    exact (divide_calls h y (tok ip) (rok _ (I.u2 (.inl ⟨by omega, by omega⟩)).1) (rok _ (I.u2 (.inl ⟨by omega, by omega⟩)).2) (.inr e)).mono fun e W' ⟨he, hm⟩ => ⟨⟨_, he⟩, _, hm⟩
  · have ho : opS G sc S y = reckS S y 58 false := by unfold opS; simp only [e]; rfl
    rw [ho]
    have ip : isP y := ⟨by omega, by omega⟩
    have r2 := rok _ (I.u2 (.inl ⟨by omega, by omega⟩)).1
    have r3 := rok _ (I.u2 (.inl ⟨by omega, by omega⟩)).2
    refine ⟨9, 47, #[.pointer (some ⟨b + 11, 0, none⟩), .pointer (some ⟨b + 12, 0, none⟩)], e, by omega, rfl, ⟨_, Try.func47, by kernel_rfl, rfl⟩, ?_⟩
    exact (reckon_calls h y (tok ip) r2 r3 (f := 58) (chk := false) (by omega) (hE _ (by simp [stOps])) (hE _ (by simp [stOps]))).mono fun e W' ⟨he, hm⟩ => ⟨⟨_, he⟩, _, hm⟩
  · have ho : opS G sc S y = reckS S y 59 false := by unfold opS; simp only [e]; rfl
    rw [ho]
    have ip : isP y := ⟨by omega, by omega⟩
    have r2 := rok _ (I.u2 (.inl ⟨by omega, by omega⟩)).1
    have r3 := rok _ (I.u2 (.inl ⟨by omega, by omega⟩)).2
    refine ⟨10, 47, #[.pointer (some ⟨b + 13, 0, none⟩), .pointer (some ⟨b + 14, 0, none⟩)], e, by omega, rfl, ⟨_, Try.func47, by kernel_rfl, rfl⟩, ?_⟩
    exact (reckon_calls h y (tok ip) r2 r3 (f := 59) (chk := false) (by omega) (hE _ (by simp [stOps])) (hE _ (by simp [stOps]))).mono fun e W' ⟨he, hm⟩ => ⟨⟨_, he⟩, _, hm⟩
  · have ho : opS G sc S y = loadS S y := by unfold opS; simp only [e]; rfl
    rw [ho]
    have ip : isP y := ⟨by omega, by omega⟩
    obtain ⟨i, _, hi, a3, a4, a5⟩ := harr (.inl e)
    refine ⟨11, 60, #[], e, by omega, rfl, ⟨_, Try.func60, by kernel_rfl, rfl⟩, ?_⟩
    exact (load_calls h y (tok ip) (rok _ (I.u3 e)) rfl rfl hG (I.ar (.inl e)) hK.arrs a3 a4).mono fun e W' ⟨he, hm⟩ => ⟨⟨_, he⟩, _, hm⟩
  · have ho : opS G sc S y = readS G sc S y := by unfold opS; simp only [e]; rfl
    rw [ho]
    have ip : isP y := ⟨by omega, by omega⟩
    refine ⟨12, 61, #[], e, by omega, rfl, ⟨_, Try.func61, by kernel_rfl, rfl⟩, ?_⟩
    exact (read_calls h y (tok ip) hvs hG hsc hK.reads hl (I.inp e)).mono fun e W' ⟨he, hm⟩ => ⟨⟨_, he⟩, _, hm⟩
  · have ho : opS G sc S y = setS G S y := by unfold opS; simp only [e]; rfl
    rw [ho]
    have s0 := I.st e
    have s1 : 0 ≤ y.f1 ∧ y.f1 < (S.regs.length : Int) := ⟨s0.1, by omega⟩
    have s2 : 1 ≤ (rd_T83 G.l5 y.f1).f1 ∧ (rd_T83 G.l5 y.f1).f1 ≤ 3 := by
      obtain ⟨i, hi⟩ : ∃ i : Nat, y.f1 = (i : Int) := ⟨y.f1.toNat, by omega⟩
      rw [hi]
      exact hF.parts.sc i (by omega)
    refine ⟨13, 62, #[], e, by omega, rfl, ⟨_, Try.func62, by kernel_rfl, rfl⟩, ?_⟩
    exact (set_calls h y s1 (rok _ (I.u1 (.inr (.inr e)))) hG (I.st e) s2).mono fun e W' ⟨he, hm⟩ => ⟨⟨_, he⟩, _, hm⟩
  · have ho : opS G sc S y = storeS G S y := by unfold opS; simp only [e]; rfl
    rw [ho]
    obtain ⟨i, _, hi, a3, a4, a5⟩ := harr (.inr e)
    refine ⟨14, 63, #[], e, by omega, rfl, ⟨_, Try.func63, by kernel_rfl, rfl⟩, ?_⟩
    exact (store_calls h y (rok _ (I.u4 e).1) (rok _ (I.u4 e).2) rfl rfl hG (I.ar (.inr e)) hK.arrs a3 a4 a5).mono fun e W' ⟨he, hm⟩ => ⟨⟨_, he⟩, _, hm⟩
  · have ho : opS G sc S y = testS S y := by unfold opS; simp only [e]; rfl
    rw [ho]
    refine ⟨15, 64, #[], e, by omega, rfl, ⟨_, Try.func64, by kernel_rfl, rfl⟩, ?_⟩
    exact (test_calls h y (rok _ (I.u2 (.inr e)).1) (rok _ (I.u2 (.inr e)).2) (I.tst e)).mono fun e W' ⟨he, hm⟩ => ⟨⟨_, he⟩, _, hm⟩
  · have ho : opS G sc S y = S := by unfold opS; simp only [e]; rfl
    rw [ho]
    refine ⟨16, 50, #[], e, by omega, rfl, ⟨_, Try.func50, by kernel_rfl, rfl⟩, ?_⟩
    exact (on_calls h y).mono fun e W' ⟨he, hm⟩ => ⟨⟨_, he⟩, _, hm⟩
  · have ho : opS G sc S y = loopS G S := by unfold opS; simp only [e]; rfl
    rw [ho]
    refine ⟨17, 65, #[], e, by omega, rfl, ⟨_, Try.func65, by kernel_rfl, rfl⟩, ?_⟩
    exact (loop_calls h y h5r hvr hsm hK.fuel).mono fun e W' ⟨he, v, hm⟩ => ⟨⟨_, he⟩, v, hm⟩
  · have ho : opS G sc S y = { S with ticks := wrap64 (S.ticks + 1) } := by unfold opS; simp only [e]; rfl
    rw [ho]
    refine ⟨18, 66, #[], e, by omega, rfl, ⟨_, Try.func66, by kernel_rfl, rfl⟩, ?_⟩
    exact (tick_calls h y).mono fun e W' ⟨he, hm⟩ => ⟨⟨_, he⟩, _, hm⟩
  · have ho : opS G sc S y = S := by unfold opS; simp only [e]; rfl
    rw [ho]
    refine ⟨19, 50, #[], e, by omega, rfl, ⟨_, Try.func50, by kernel_rfl, rfl⟩, ?_⟩
    exact (on_calls h y).mono fun e W' ⟨he, hm⟩ => ⟨⟨_, he⟩, _, hm⟩
  · have ho : opS G sc S y = spendS S := by unfold opS; simp only [e]; rfl
    rw [ho]
    refine ⟨20, 67, #[], e, by omega, rfl, ⟨_, Try.func67, by kernel_rfl, rfl⟩, ?_⟩
    exact (enter_calls h y hK.fuel).mono fun e W' ⟨he, hm⟩ => ⟨⟨_, he⟩, _, hm⟩
  · have ho : opS G sc S y = failS S y 5 := by unfold opS; simp only [e]; rfl
    rw [ho]
    refine ⟨21, 69, #[], e, by omega, rfl, ⟨_, Try.func69, by kernel_rfl, rfl⟩, ?_⟩
    exact (failop_calls h y).mono fun e W' ⟨he, hm⟩ => ⟨⟨_, he⟩, _, hm⟩
end Go.Proofs.Ytcalcbeonbfkmaa.P
