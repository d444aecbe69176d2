/- The Go law gimballaw33_TraceReads answers true for every input of bulk at most 1,048,576, and its arguments read afterwards as they read before; no other condition. -/
import Derived.Lib.SmallJoins
import Derived.Test.YtiemdfdebdmchaaTrVWWords
import Derived.OpenShut
import Derived.ShutString
import Derived.ChangeOld
import Derived.Test.YtiemdfdebdmchaaRows
import Derived.Test.YtiemdfdebdmchaaTrVS7
import Derived.Test.YtiemdfdebdmchaaTrVR3
import Derived.Test.YtiemdfdebdmchaaTrVPureTraceReads
import Derived.WalkKit
import Derived.ProofKit
import Derived.Below
import Derived.JoinedCond
namespace Go.Proofs.Ytiemdfdebdmchaa.traceReads
open Go.ChangeShapes Go.WideShapes Go.ChangeAt Go.RowKit
set_option linter.unusedVariables false
theorem own : ownKnob Try.prog.godebug = none := by kernel_rfl
theorem laidOut : laidOutB Try.prog = true := by kernel_rfl
open Go.Joins
theorem contract (H : Type) (enc : TypeId × Value → H) (W : World) (base : Nat) (args : Array Value) (ds gs : List (DataW H)) (before : List MemPlace)
    (hval0 : ∀ (j : Nat) t v, Try.f5.params[j]? = some t → args[j]? = some v → Value.okWide Try.prog W .any base t v)
    (hW : DataW.Whole enc Try.prog Try.f5.params.toList Rows.traceReadsSpec.vars false W args.toList ds gs before) (hk : Rows.uptoSmall H (ds ++ gs) = true) :
    Calls Try.prog 5 args W fun e W' => ∃ v, e = .returned v ∧ Rows.traceReadsSpec.post enc Try.prog Try.f5 false true false false W args v W' := by
  have hval : ∀ (j : Nat) t v, Try.f5.params[j]? = some t → args[j]? = some v → Value.okWide Try.prog W .any base t v := hval0
  have hW' := hW
  obtain ⟨p, q, hA0, hV, rfl, hfz, hnd⟩ := hW
  have hA : DataW.TrodAll enc Try.prog W 0 (fun _ => true) true Try.f5.params.toList args.toList ds p := hA0
  rw [Try.params5] at hA hval
  obtain ⟨v0, vs0, d0, ds0, p0, q0, hargs, rfl, rfl, h0, r0⟩ := trodAll_cons hA
  obtain ⟨v1, vs1, d1, ds1, p1, q1, rfl, rfl, rfl, h1, r1⟩ := trodAll_cons r0
  obtain ⟨rfl, rfl, rfl⟩ := trodAll_nil r1
  obtain rfl : args = #[v0, v1] := by cases args; simp_all
  obtain ⟨rfl, rfl⟩ := trodVars_none hV
  have k0 := h0
  have lt0 : ∀ x ∈ p0, x.block < W.heap.size := by obtain ⟨m, hm⟩ := k0; exact DataW.trod_lt m _ _ _ hm
  obtain ⟨aB, lenB, capB, rfl⟩ := okWide_slice Try.underlying28 (hval 0 28 v0 rfl rfl)
  obtain ⟨AB, cB, lB, eB, xB, xBc, xBm, wfB, hbkB⟩ : ∃ (A : Option Addr) (cap : Nat) (l : List Int), Value.slice aB lenB capB = .slice A l.length cap ∧ Go.Proofs.YtiemdfdebdmchaaW.PrintWords.Kd.C (Go.Proofs.YtiemdfdebdmchaaW.PrintWords.Kd.int .u8) W A l.length l ∧ l.length ≤ cap ∧ l.length ≤ maxLen ∧ (∀ n ∈ l, (Lit.int .u8 n).wf = true) ∧ l.length + 1 ≤ Rows.uptoBulk d0 := by
    obtain ⟨fuel, hf⟩ := h0
    exact R3.bytes1 hf
  rw [eB] at k0 hval hW' ⊢
  obtain ⟨b1, rfl, rfl, rfl⟩ := open_bool Try.underlying4 (hval 1 4 v1 rfl rfl) h1
  have hsmall : Rows.uptoBulkAll ([d0, .lit (.bool b1)] ++ []) ≤ 1048576 := of_decide_eq_true hk
  simp only [List.append_nil, Rows.uptoBulkAll] at hsmall
  obtain ⟨k, t599, l0, r1, r2, r3, r4, r5, r6, r7, r8, r9, r10, r11, hs, hF1, hF2, hd, hd2, hsame, haw⟩ := Pure.TraceReads lB b1 (fun n hn => R3.wf8 (wfB n hn)) (by omega)
  clear hA0 hval0 hk
  refine (P.gimballaw33_TraceReads.calls2 k AB cB lB b1 t599 l0 r1 r2 r3 r4 r5 r6 r7 r8 r9 r10 r11 r11 W xB xBc hs hF1 hF2 (by omega) hd hd2 rfl hsame haw).mono fun e W' ⟨he, bel⟩ => ?_
  subst he
  exact ⟨_, rfl, _, _, _, [], _, [], hW', trodAll_mk1 (shut_bool Try.underlying4 _), (trodAll_cons_mk (Below.trod laidOut (by kernel_rfl) (of_decide_eq_true (by kernel_rfl)) k0 bel lt0) (trodAll_cons_mk (shut_bool Try.underlying4 _) trodAll_mk0)), rfl, bel.frame _, fun h => by cases h⟩
set_option maxRecDepth 100000 in
theorem lifted (os : Os) (started : os.Started) (H : Type) (enc : TypeId × Value → H) (F : Stop.Interp) :
    ReturnsInHanded {} Try.checked os 5 .any ((Rows.OpenSpec.upto Rows.traceReadsSpec).pre6 enc Try.prog Try.f5 Rows.traceReadsUptoRow.domain false) (((Rows.OpenSpec.upto Rows.traceReadsSpec).at F).post enc Try.prog Try.f5 false true false false) := by
  refine returnsInHanded_of_cond (C := Try.checked) (s := Rows.OpenSpec.upto Rows.traceReadsSpec) (k := Rows.uptoSmall) rfl own started (by kernel_rfl) Try.func5
    (OpenSpec.witness (enc := enc) (C := Try.checked) (s := Rows.OpenSpec.upto Rows.traceReadsSpec) (k := Rows.uptoSmall) rfl false ⟨#[], #[.slice none 0 0, .bool false], []⟩ 8 (by kernel_rfl) (by kernel_rfl) (by kernel_rfl)
      (x := ([.nil, .lit (.bool false)], [], [])) (by kernel_rfl) rfl (by kernel_rfl)) ?_
  intro W base args ds gs before hval hW _ hk _
  exact contract H enc W base args ds gs before hval hW hk
theorem over : Rows.traceReadsUptoRow.holds Try.pinned (Rows.OpenSpec.upto Rows.traceReadsSpec) :=
  OpenClaim.holds_of_cond 5 Try.f5 rfl rfl rfl rfl rfl rfl rfl ⟨rfl, rfl, rfl, rfl, rfl⟩ rfl rfl rfl rfl rfl (by kernel_rfl) Try.func5 (by kernel_rfl)
    (of_decide_eq_true (by kernel_rfl)) (by unfold Func.isWrapper; first | (rw [if_pos (by decide +kernel)]; kernel_rfl) | (rw [if_neg (by decide +kernel)]; exact ⟨rfl, rfl⟩))
    (fun os started H enc _ F => lifted os started H enc F)
theorem proved : Rows.TraceReadsUptoSaid := over
#print axioms proved
end Go.Proofs.Ytiemdfdebdmchaa.traceReads
namespace Go.Proofs.Ytiemdfdebdmchaa
/-- The row, under a short name, for the claim. -/
theorem traceReads_holds : Rows.TraceReadsUptoSaid := traceReads.proved
end Go.Proofs.Ytiemdfdebdmchaa
