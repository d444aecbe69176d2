/- The Go law gimballaw33_TraceSpoilt answers true for every input of bulk at most 1,048,576, and its arguments read afterwards as they read before; no other condition. -/
import Derived.Lib.SmallJoins
import Derived.Test.YtiemdfdebdmchaaTrSWWords
import Derived.OpenShut
import Derived.ShutString
import Derived.ChangeOld
import Derived.Test.YtiemdfdebdmchaaRows
import Derived.Test.YtiemdfdebdmchaaTrSPx36
import Derived.Test.YtiemdfdebdmchaaTrSR3
import Derived.Test.YtiemdfdebdmchaaTrSPureTraceSpoilt
import Derived.WalkKit
import Derived.ProofKit
import Derived.Below
import Derived.JoinedCond
namespace Go.Proofs.Ytiemdfdebdmchaa.traceSpoilt
open Go.ChangeShapes Go.WideShapes Go.ChangeAt Go.RowKit
set_option linter.unusedVariables false
theorem own : ownKnob Try.prog.godebug = none := by kernel_rfl
theorem laidOut : laidOutB Try.prog = true := by kernel_rfl
open Go.Joins
theorem contract (H : Type) (enc : TypeId × Value → H) (W : World) (base : Nat) (args : Array Value) (ds gs : List (DataW H)) (before : List MemPlace)
    (hval0 : ∀ (j : Nat) t v, Try.f7.params[j]? = some t → args[j]? = some v → Value.okWide Try.prog W .any base t v)
    (hW : DataW.Whole enc Try.prog Try.f7.params.toList Rows.traceSpoiltSpec.vars false W args.toList ds gs before) (hk : Rows.uptoSmall H (ds ++ gs) = true) :
    Calls Try.prog 7 args W fun e W' => ∃ v, e = .returned v ∧ Rows.traceSpoiltSpec.post enc Try.prog Try.f7 false true false false W args v W' := by
  have hval : ∀ (j : Nat) t v, Try.f7.params[j]? = some t → args[j]? = some v → Value.okWide Try.prog W .any base t v := hval0
  have hW' := hW
  obtain ⟨p, q, hA0, hV, rfl, hfz, hnd⟩ := hW
  have hA : DataW.TrodAll enc Try.prog W 0 (fun _ => true) true Try.f7.params.toList args.toList ds p := hA0
  rw [Try.params7] at hA hval
  obtain ⟨v0, vs0, d0, ds0, p0, q0, hargs, rfl, rfl, h0, r0⟩ := trodAll_cons hA
  obtain ⟨v1, vs1, d1, ds1, p1, q1, rfl, rfl, rfl, h1, r1⟩ := trodAll_cons r0
  obtain ⟨v2, vs2, d2, ds2, p2, q2, rfl, rfl, rfl, h2, r2⟩ := trodAll_cons r1
  obtain ⟨v3, vs3, d3, ds3, p3, q3, rfl, rfl, rfl, h3, r3⟩ := trodAll_cons r2
  obtain ⟨rfl, rfl, rfl⟩ := trodAll_nil r3
  obtain rfl : args = #[v0, v1, v2, v3] := by cases args; simp_all
  obtain ⟨rfl, rfl⟩ := trodVars_none hV
  have k0 := h0
  have lt0 : ∀ x ∈ p0, x.block < W.heap.size := by obtain ⟨m, hm⟩ := k0; exact DataW.trod_lt m _ _ _ hm
  obtain ⟨a0, A1, c1, l1, a2, a3, a4, a5, a6, A7, c7, l7, A8, c8, l8, A9, c9, l9, ⟨wf0, wf2, wf3, wf4, wf5, wf6, wf1, wf7, wf8, wf9⟩, hbk, rfl, x1, x7, x8, x9⟩ := R3.open_trace (hval 0 27 v0 rfl rfl) h0
  obtain ⟨b1, rfl, rfl, rfl, wb1⟩ := open_int Try.underlying3 (hval 1 3 v1 rfl rfl) h1
  obtain ⟨b2, rfl, rfl, rfl, wb2⟩ := open_int Try.underlying39 (hval 2 39 v2 rfl rfl) h2
  obtain ⟨b3, rfl, rfl, rfl, wb3⟩ := open_int Try.underlying3 (hval 3 3 v3 rfl rfl) h3
  have hsmall : Rows.uptoBulkAll ([d0, .lit (.int .i64 b1), .lit (.int .u32 b2), .lit (.int .i64 b3)] ++ []) ≤ 1048576 := of_decide_eq_true hk
  simp only [List.append_nil, Rows.uptoBulkAll] at hsmall
  have t8 := M.tot_len l8
  have t9 := M.tot_len l9
  have hu : 0 ≤ b2 ∧ b2 < 4294967296 := by
    have e1 : IntKind.u32.min = 0 := by decide
    have e2 : IntKind.u32.max = 4294967295 := by decide
    simp only [Lit.wf, Bool.and_eq_true, decide_eq_true_eq] at wb2
    omega
  obtain ⟨k, hkk⟩ := Pure.TraceSpoilt a0 l1 a2 a3 a4 a5 a6 l7 l8 l9 b1 b2 b3 (R3.wf64 wf0) ⟨fun n hn => R3.wf64 (wf1 n hn), by omega⟩ (R3.wf64 wf2) (R3.wf64 wf3) (R3.wf64 wf4) (R3.wf64 wf5) (R3.wf64 wf6) ⟨fun n hn => R3.wf64 (wf7 n hn), by omega⟩
    ⟨fun r hr => ⟨fun n hn => R3.wf64 (wf8 r hr n hn), by have := M.tot_row l8 r hr; omega⟩, by omega⟩ ⟨fun r hr => ⟨fun n hn => R3.wf64 (wf9 r hr n hn), by have := M.tot_row l9 r hr; omega⟩, by omega⟩ hu.1 hu.2 (by omega)
  clear hA0 hval0 hk
  refine (P.gimballaw33_TraceSpoilt.calls k a0 A1 c1 l1 a2 a3 a4 a5 a6 A7 c7 l7 A8 c8 l8 A9 c9 l9 b1 b2 b3 W x1.1 x1.2.1 x7.1 x7.2.1 x8.1 x8.2.1 x9.1 x9.2.1 hkk).mono fun e W' ⟨he, bel⟩ => ?_
  subst he
  exact ⟨_, rfl, _, _, _, [], _, [], hW', trodAll_mk1 (shut_bool Try.underlying4 _), (trodAll_cons_mk (Below.trod laidOut (by kernel_rfl) (of_decide_eq_true (by kernel_rfl)) k0 bel lt0) (trodAll_cons_mk (shut_int Try.underlying3 wb1) (trodAll_cons_mk (shut_int Try.underlying39 wb2) (trodAll_cons_mk (shut_int Try.underlying3 wb3) trodAll_mk0)))), rfl, bel.frame _, fun h => by cases h⟩
set_option maxRecDepth 100000 in
theorem lifted (os : Os) (started : os.Started) (H : Type) (enc : TypeId × Value → H) (F : Stop.Interp) :
    ReturnsInHanded {} Try.checked os 7 .any ((Rows.OpenSpec.upto Rows.traceSpoiltSpec).pre6 enc Try.prog Try.f7 Rows.traceSpoiltUptoRow.domain false) (((Rows.OpenSpec.upto Rows.traceSpoiltSpec).at F).post enc Try.prog Try.f7 false true false false) := by
  refine returnsInHanded_of_cond (C := Try.checked) (s := Rows.OpenSpec.upto Rows.traceSpoiltSpec) (k := Rows.uptoSmall) rfl own started (by kernel_rfl) Try.func7
    (OpenSpec.witness (enc := enc) (C := Try.checked) (s := Rows.OpenSpec.upto Rows.traceSpoiltSpec) (k := Rows.uptoSmall) rfl false ⟨#[], #[.agg #[.int .i64 0, .slice none 0 0, .int .i64 0, .int .i64 0, .int .i64 0, .int .i64 0, .int .i64 0, .slice none 0 0, .slice none 0 0, .slice none 0 0], .int .i64 0, .int .u32 0, .int .i64 0], []⟩ 12 (by kernel_rfl) (by kernel_rfl) (by kernel_rfl)
      (x := ([.agg [.lit (.int .i64 0), .nil, .agg [.lit (.int .i64 0), .lit (.int .i64 0), .lit (.int .i64 0), .lit (.int .i64 0), .lit (.int .i64 0), .nil, .nil, .nil]], .lit (.int .i64 0), .lit (.int .u32 0), .lit (.int .i64 0)], [], [])) (by kernel_rfl) rfl (by kernel_rfl)) ?_
  intro W base args ds gs before hval hW _ hk _
  exact contract H enc W base args ds gs before hval hW hk
theorem over : Rows.traceSpoiltUptoRow.holds Try.pinned (Rows.OpenSpec.upto Rows.traceSpoiltSpec) :=
  OpenClaim.holds_of_cond 7 Try.f7 rfl rfl rfl rfl rfl rfl rfl ⟨rfl, rfl, rfl, rfl, rfl⟩ rfl rfl rfl rfl rfl (by kernel_rfl) Try.func7 (by kernel_rfl)
    (of_decide_eq_true (by kernel_rfl)) (by unfold Func.isWrapper; first | (rw [if_pos (by decide +kernel)]; kernel_rfl) | (rw [if_neg (by decide +kernel)]; exact ⟨rfl, rfl⟩))
    (fun os started H enc _ F => lifted os started H enc F)
theorem proved : Rows.TraceSpoiltUptoSaid := over
#print axioms proved
end Go.Proofs.Ytiemdfdebdmchaa.traceSpoilt
namespace Go.Proofs.Ytiemdfdebdmchaa
/-- The row, under a short name, for the claim. -/
theorem traceSpoilt_holds : Rows.TraceSpoiltUptoSaid := traceSpoilt.proved
end Go.Proofs.Ytiemdfdebdmchaa
