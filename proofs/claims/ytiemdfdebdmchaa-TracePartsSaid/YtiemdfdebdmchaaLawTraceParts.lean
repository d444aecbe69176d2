/- The Go law gimballaw33_TraceParts answers true for every input, and its arguments read afterwards as they read before; no condition. -/
import Derived.Test.YtiemdfdebdmchaaOpen
import Derived.Lib.SmallJoins
import Derived.Test.YtiemdfdebdmchaaRows
import Derived.Test.YtiemdfdebdmchaaPx18
import Derived.Test.YtiemdfdebdmchaaR1
import Derived.Test.YtiemdfdebdmchaaPureTraceParts
import Derived.WalkKit
import Derived.ProofKit
import Derived.OpenShut
import Derived.ShutString
import Derived.ChangeOld
import Derived.Below
import Derived.SizedLaws
import Derived.Test.YtiemdfdebdmchaaWSized
namespace Go.Proofs.Ytiemdfdebdmchaa.traceParts
open Go.ChangeShapes Go.WideShapes Go.ChangeAt Go.RowKit
set_option linter.unusedVariables false
theorem own : ownKnob Try.prog.godebug = none := by kernel_rfl
theorem laidOut : laidOutB Try.prog = true := by kernel_rfl
open Go.Joins
set_option maxRecDepth 100000 in
theorem lifted (os : Os) (started : os.Started) (H : Type) (enc : TypeId × Value → H) :
    ReturnsInHanded {} Try.checked os 4 .any (Rows.tracePartsSpec.pre6 enc Try.prog Try.f4 Rows.tracePartsRow.domain false) (Rows.tracePartsSpec.post enc Try.prog Try.f4 false true false false) := by
  refine returnsInHanded_of_change_sized (C := Try.checked) own started (by kernel_rfl) Try.func4
    (ChangeSpec.witness6 (enc := enc) (C := Try.checked) false ⟨#[], #[.agg #[.int .i64 0, .slice none 0 0, .int .i64 0, .int .i64 0, .int .i64 0, .int .i64 0, .int .i64 0, .slice none 0 0, .slice none 0 0, .slice none 0 0], .agg #[.int .i64 0, .slice none 0 0, .int .i64 0, .int .i64 0, .int .i64 0, .int .i64 0, .int .i64 0, .slice none 0 0, .slice none 0 0, .slice none 0 0]], []⟩ 12 (by kernel_rfl) (by kernel_rfl) (by kernel_rfl) (by kernel_rfl)) ?_
  intro W base args ds gs before hval0 hW hcnd hsz0 _
  have hval : ∀ (j : Nat) t v, Try.f4.params[j]? = some t → args[j]? = some v → Value.okWide Try.prog W .any base t v := hval0
  have hW' := hW
  obtain ⟨p, q, hA0, hV, rfl, hfz, hnd⟩ := hW
  have hA : DataW.TrodAll enc Try.prog W 0 (fun _ => true) true Try.f4.params.toList args.toList ds p := hA0
  rw [Try.params4] at hA hval
  obtain ⟨v0, vs0, d0, ds0, p0, q0, hargs, rfl, rfl, h0, r0⟩ := trodAll_cons hA
  obtain ⟨v1, vs1, d1, ds1, p1, q1, rfl, rfl, rfl, h1, r1⟩ := trodAll_cons r0
  obtain ⟨rfl, rfl, rfl⟩ := trodAll_nil r1
  obtain rfl : args = #[v0, v1] := by cases args; simp_all
  obtain ⟨rfl, rfl⟩ := trodVars_none hV
  have k0 := h0
  have lt0 : ∀ x ∈ p0, x.block < W.heap.size := by obtain ⟨m, hm⟩ := k0; exact DataW.trod_lt m _ _ _ hm
  have k1 := h1
  have lt1 : ∀ x ∈ p1, x.block < W.heap.size := by obtain ⟨m, hm⟩ := k1; exact DataW.trod_lt m _ _ _ hm
  obtain ⟨a0, A1, c1, l1, a2, a3, a4, a5, a6, A7, c7, l7, A8, c8, l8, A9, c9, l9, rfl, x1, x7, x8, x9⟩ := R.open_trace (hval 0 27 v0 rfl rfl) h0
  obtain ⟨b0, B1, e1, m1, b2, b3, b4, b5, b6, B7, e7, m7, B8, e8, m8, B9, e9, m9, rfl, y1, y7, y8, y9⟩ := R.open_trace (hval 1 27 v1 rfl rfl) h1
  have big : maxLen ≤ 9223372036854775807 := by decide
  obtain ⟨k, hk⟩ := Pure.TraceParts a0 l1 a2 a3 a4 a5 a6 l7 l8 l9 b0 m1 b2 b3 b4 b5 b6 m7 m8 m9 (Nat.le_trans x9.2.2.1 big) (Nat.le_trans y9.2.2.1 big) (fun r hr => Nat.le_trans (x9.2.2.2 r hr) big) (fun r hr => Nat.le_trans (y9.2.2.2 r hr) big)
  clear hA0 hval0 hsz0
  refine (P.gimballaw33_TraceParts.calls k a0 A1 c1 l1 a2 a3 a4 a5 a6 A7 c7 l7 A8 c8 l8 A9 c9 l9 b0 B1 e1 m1 b2 b3 b4 b5 b6 B7 e7 m7 B8 e8 m8 B9 e9 m9 W x1.1 x1.2.1 x7.1 x7.2.1 x8.1 x8.2.1 x9.1 x9.2.1 y1.1 y1.2.1 y7.1 y7.2.1 y8.1 y8.2.1 y9.1 y9.2.1 hk).mono fun e W' ⟨he, bel⟩ => ?_
  subst he
  exact ⟨_, rfl, _, _, _, [], _, [], hW', trodAll_mk1 (shut_bool Try.underlying4 _), (trodAll_cons_mk (Below.trod laidOut (by kernel_rfl) (of_decide_eq_true (by kernel_rfl)) k0 bel lt0) (trodAll_cons_mk (Below.trod laidOut (by kernel_rfl) (of_decide_eq_true (by kernel_rfl)) k1 bel lt1) trodAll_mk0)), rfl, bel.frame _, fun h => by cases h⟩
theorem over : Rows.tracePartsRow.holds Try.pinned (OpenSpec.ofChange Rows.tracePartsSpec) :=
  OpenClaim.holds_of_wide 4 Try.f4 rfl rfl rfl rfl rfl rfl rfl ⟨rfl, rfl, rfl, rfl, rfl⟩ rfl rfl rfl rfl rfl (by kernel_rfl) Try.func4 (by kernel_rfl)
    (of_decide_eq_true (by kernel_rfl)) (by unfold Func.isWrapper; first | (rw [if_pos (by decide +kernel)]; kernel_rfl) | (rw [if_neg (by decide +kernel)]; exact ⟨rfl, rfl⟩))
    (fun os started H enc _ => lifted os started H enc)
theorem proved : Rows.TracePartsSaid := over
#print axioms proved
end Go.Proofs.Ytiemdfdebdmchaa.traceParts
namespace Go.Proofs.Ytiemdfdebdmchaa
/-- The row, under a short name, for the claim. -/
theorem traceParts_holds : Rows.TracePartsSaid := traceParts.proved
end Go.Proofs.Ytiemdfdebdmchaa
