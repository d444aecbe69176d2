/- The Go law gimballaw33_TraceBack answers true for every input of bulk at most 1,048,576, and its arguments read afterwards as they read before; no other condition. -/
import Derived.Lib.SmallJoins
import Derived.Test.YtiemdfdebdmchaaTrBWWords
import Derived.OpenShut
import Derived.ShutString
import Derived.ChangeOld
import Derived.Test.YtiemdfdebdmchaaRows
import Derived.Test.YtiemdfdebdmchaaTrBPx35
import Derived.Test.YtiemdfdebdmchaaTrBR3
import Derived.Test.YtiemdfdebdmchaaTrBPureTraceBack
import Derived.WalkKit
import Derived.ProofKit
import Derived.Below
import Derived.JoinedCond
namespace Go.Proofs.Ytiemdfdebdmchaa.traceBack
open Go.ChangeShapes Go.WideShapes Go.ChangeAt Go.RowKit
set_option linter.unusedVariables false
theorem own : ownKnob Try.prog.godebug = none := by kernel_rfl
theorem laidOut : laidOutB Try.prog = true := by kernel_rfl
open Go.Joins
theorem contract (H : Type) (enc : TypeId × Value → H) (W : World) (base : Nat) (args : Array Value) (ds gs : List (DataW H)) (before : List MemPlace)
    (hval0 : ∀ (j : Nat) t v, Try.f6.params[j]? = some t → args[j]? = some v → Value.okWide Try.prog W .any base t v)
    (hW : DataW.Whole enc Try.prog Try.f6.params.toList Rows.traceBackSpec.vars false W args.toList ds gs before) (hk : Rows.uptoSmall H (ds ++ gs) = true) :
    Calls Try.prog 6 args W fun e W' => ∃ v, e = .returned v ∧ Rows.traceBackSpec.post enc Try.prog Try.f6 false true false false W args v W' := by
  have hval : ∀ (j : Nat) t v, Try.f6.params[j]? = some t → args[j]? = some v → Value.okWide Try.prog W .any base t v := hval0
  have hW' := hW
  obtain ⟨p, q, hA0, hV, rfl, hfz, hnd⟩ := hW
  have hA : DataW.TrodAll enc Try.prog W 0 (fun _ => true) true Try.f6.params.toList args.toList ds p := hA0
  rw [Try.params6] at hA hval
  obtain ⟨v0, vs0, d0, ds0, p0, q0, hargs, rfl, rfl, h0, r0⟩ := trodAll_cons hA
  obtain ⟨v1, vs1, d1, ds1, p1, q1, rfl, rfl, rfl, h1, r1⟩ := trodAll_cons r0
  obtain ⟨rfl, rfl, rfl⟩ := trodAll_nil r1
  obtain rfl : args = #[v0, v1] := by cases args; simp_all
  obtain ⟨rfl, rfl⟩ := trodVars_none hV
  have k0 := h0
  have lt0 : ∀ x ∈ p0, x.block < W.heap.size := by obtain ⟨m, hm⟩ := k0; exact DataW.trod_lt m _ _ _ hm
  have k1 := h1
  have lt1 : ∀ x ∈ p1, x.block < W.heap.size := by obtain ⟨m, hm⟩ := k1; exact DataW.trod_lt m _ _ _ hm
  obtain ⟨a0, A1, c1, l1, a2, a3, a4, a5, a6, A7, c7, l7, A8, c8, l8, A9, c9, l9, ⟨wf0, wf2, wf3, wf4, wf5, wf6, wf1, wf7, wf8, wf9⟩, hbk, rfl, x1, x7, x8, x9⟩ := R3.open_trace (hval 0 27 v0 rfl rfl) h0
  obtain ⟨aB, lenB, capB, rfl⟩ := okWide_slice Try.underlying28 (hval 1 28 v1 rfl rfl)
  obtain ⟨AB, cB, lB, eB, xB, xBc, xBm, wfB, hbkB⟩ : ∃ (A : Option Addr) (cap : Nat) (l : List Int), Value.slice aB lenB capB = .slice A l.length cap ∧ Go.Proofs.YtiemdfdebdmchaaW.PrintWords.Kd.C (Go.Proofs.YtiemdfdebdmchaaW.PrintWords.Kd.int .u8) W A l.length l ∧ l.length ≤ cap ∧ l.length ≤ maxLen ∧ (∀ n ∈ l, (Lit.int .u8 n).wf = true) ∧ l.length + 1 ≤ Rows.uptoBulk d1 := by
    obtain ⟨fuel, hf⟩ := h1
    exact R3.bytes1 hf
  rw [eB] at k1 hval hW' ⊢
  have hsmall : Rows.uptoBulkAll ([d0, d1] ++ []) ≤ 1048576 := of_decide_eq_true hk
  simp only [List.append_nil, Rows.uptoBulkAll] at hsmall
  have t8 := M.tot_len l8
  have t9 := M.tot_len l9
  obtain ⟨k, hkk⟩ := Pure.TraceBack a0 l1 a2 a3 a4 a5 a6 l7 l8 l9 lB (R3.wf64 wf0) ⟨fun n hn => R3.wf64 (wf1 n hn), by omega⟩ (R3.wf64 wf2) (R3.wf64 wf3) (R3.wf64 wf4) (R3.wf64 wf5) (R3.wf64 wf6) ⟨fun n hn => R3.wf64 (wf7 n hn), by omega⟩
    ⟨fun r hr => ⟨fun n hn => R3.wf64 (wf8 r hr n hn), by have := M.tot_row l8 r hr; omega⟩, by omega⟩ ⟨fun r hr => ⟨fun n hn => R3.wf64 (wf9 r hr n hn), by have := M.tot_row l9 r hr; omega⟩, by omega⟩ (fun n hn => R3.wf8 (wfB n hn)) (by omega) (by omega)
  clear hA0 hval0 hk
  refine (P.gimballaw33_TraceBack.calls k a0 A1 c1 l1 a2 a3 a4 a5 a6 A7 c7 l7 A8 c8 l8 A9 c9 l9 AB cB lB W x1.1 x1.2.1 x7.1 x7.2.1 x8.1 x8.2.1 x9.1 x9.2.1 xB xBc hkk).mono fun e W' ⟨he, bel⟩ => ?_
  subst he
  exact ⟨_, rfl, _, _, _, [], _, [], hW', trodAll_mk1 (shut_bool Try.underlying4 _), (trodAll_cons_mk (Below.trod laidOut (by kernel_rfl) (of_decide_eq_true (by kernel_rfl)) k0 bel lt0) (trodAll_cons_mk (Below.trod laidOut (by kernel_rfl) (of_decide_eq_true (by kernel_rfl)) k1 bel lt1) trodAll_mk0)), rfl, bel.frame _, fun h => by cases h⟩
set_option maxRecDepth 100000 in
theorem lifted (os : Os) (started : os.Started) (H : Type) (enc : TypeId × Value → H) (F : Stop.Interp) :
    ReturnsInHanded {} Try.checked os 6 .any ((Rows.OpenSpec.upto Rows.traceBackSpec).pre6 enc Try.prog Try.f6 Rows.traceBackUptoRow.domain false) (((Rows.OpenSpec.upto Rows.traceBackSpec).at F).post enc Try.prog Try.f6 false true false false) := by
  refine returnsInHanded_of_cond (C := Try.checked) (s := Rows.OpenSpec.upto Rows.traceBackSpec) (k := Rows.uptoSmall) rfl own started (by kernel_rfl) Try.func6
    (OpenSpec.witness (enc := enc) (C := Try.checked) (s := Rows.OpenSpec.upto Rows.traceBackSpec) (k := Rows.uptoSmall) rfl false ⟨#[], #[.agg #[.int .i64 0, .slice none 0 0, .int .i64 0, .int .i64 0, .int .i64 0, .int .i64 0, .int .i64 0, .slice none 0 0, .slice none 0 0, .slice none 0 0], .slice none 0 0], []⟩ 12 (by kernel_rfl) (by kernel_rfl) (by kernel_rfl)
      (x := ([.agg [.lit (.int .i64 0), .nil, .agg [.lit (.int .i64 0), .lit (.int .i64 0), .lit (.int .i64 0), .lit (.int .i64 0), .lit (.int .i64 0), .nil, .nil, .nil]], .nil], [], [])) (by kernel_rfl) rfl (by kernel_rfl)) ?_
  intro W base args ds gs before hval hW _ hk _
  exact contract H enc W base args ds gs before hval hW hk
theorem over : Rows.traceBackUptoRow.holds Try.pinned (Rows.OpenSpec.upto Rows.traceBackSpec) :=
  OpenClaim.holds_of_cond 6 Try.f6 rfl rfl rfl rfl rfl rfl rfl ⟨rfl, rfl, rfl, rfl, rfl⟩ rfl rfl rfl rfl rfl (by kernel_rfl) Try.func6 (by kernel_rfl)
    (of_decide_eq_true (by kernel_rfl)) (by unfold Func.isWrapper; first | (rw [if_pos (by decide +kernel)]; kernel_rfl) | (rw [if_neg (by decide +kernel)]; exact ⟨rfl, rfl⟩))
    (fun os started H enc _ F => lifted os started H enc F)
theorem proved : Rows.TraceBackUptoSaid := over
#print axioms proved
end Go.Proofs.Ytiemdfdebdmchaa.traceBack
namespace Go.Proofs.Ytiemdfdebdmchaa
/-- The row, under a short name, for the claim. -/
theorem traceBack_holds : Rows.TraceBackUptoSaid := traceBack.proved
end Go.Proofs.Ytiemdfdebdmchaa
