/-
  No cell of these rows narrows 'for every input' (looked for: loops, veiled, ifaces, maps, wideKeys, modest, calm, conditions, laid).
  DERIVED. THE GIVEN ROWS OF THIS SEAT. 10 by the template 'for every input the law returns true; each argument reads behind the call as it read before'; 0 by the template 'total and deterministic' (their statements: YtbbnpipmjadpoaaTotals.lean).
  GIVEN WITH THE SEED: the statements are not yours to turn. If you find one false, say at which input.
  Laid BY PROGRAM, IN A SANDBOX (cutbox-rows.mjs): the forced cells as the released guide's own fill.sh prints them over the translation 829d0c5f99e9e227… (all of the seat's roots in one cut). By AI agents, Wed Nov 11 2026. No macro, syntax, notation, axiom, sorry.
-/
import Derived.Test.YtbbnpipmjadpoaaChecked
import GoSem.Claim
import GoSem.ClaimJoined
import GoSem.ClaimMapViews
import Derived.JoinedTies
import Derived.KernelRfl
namespace Go.Proofs.Ytbbnpipmjadpoaa
/- THE CELL 'sum', in the pinned program and in every row, IS THE sha256 OF THE DUMP (.gsa) THAT YtbbnpipmjadpoaaProg.lean LOADS. Nothing in Lean hashes anything: it is a label: what it is worth is what the hold of that sum in a sandbox is worth. -/
noncomputable def Try.pinned : Pinned := { name := "ytbbnpipmjadpoaa", sum := "829d0c5f99e9e2276771962f9dec2ca85bebbb74a34e94b4da4ccd94ca70de28", checked := Try.checked }
namespace Rows
def none {H : Type} : Left H := { results := [], args := [] }

/-- 'gimballaw02.ItvMakes': WHATEVER THE INPUT: true; the input reads as it did. -/
def itvMakesSpec : ChangeSpec := { name := "itvMakes", fn := fun _ => fun
  | [d1, d2, d3, d4] => { results := [.lit (.bool true)], args := [d1, d2, d3, d4] }
  | _ => none }
def itvMakesRow : OpenClaim := { program := "ytbbnpipmjadpoaa", sum := "829d0c5f99e9e2276771962f9dec2ca85bebbb74a34e94b4da4ccd94ca70de28", func := "gimbal/gimballaw02.ItvMakes", spec := "itvMakes", apart := false }
def ItvMakesSaid : Prop := itvMakesRow.holds Try.pinned (OpenSpec.ofChange itvMakesSpec)

/-- ITS FALSE NEIGHBOUR: 'it returns false'. Refute it at one input. -/
def itvMakesWrong : ChangeSpec := { name := "itvMakes", fn := fun _ => fun
  | [d1, d2, d3, d4] => { results := [.lit (.bool false)], args := [d1, d2, d3, d4] }
  | _ => none }
def ItvMakesWrongFalsely : Prop := itvMakesRow.holds Try.pinned (OpenSpec.ofChange itvMakesWrong)

/-- 'gimballaw02.ItvOrders': WHATEVER THE INPUT: true; the input reads as it did. -/
def itvOrdersSpec : ChangeSpec := { name := "itvOrders", fn := fun _ => fun
  | [d1, d2] => { results := [.lit (.bool true)], args := [d1, d2] }
  | _ => none }
def itvOrdersRow : OpenClaim := { program := "ytbbnpipmjadpoaa", sum := "829d0c5f99e9e2276771962f9dec2ca85bebbb74a34e94b4da4ccd94ca70de28", func := "gimbal/gimballaw02.ItvOrders", spec := "itvOrders", apart := false }
def ItvOrdersSaid : Prop := itvOrdersRow.holds Try.pinned (OpenSpec.ofChange itvOrdersSpec)

/-- ITS FALSE NEIGHBOUR: 'it returns false'. Refute it at one input. -/
def itvOrdersWrong : ChangeSpec := { name := "itvOrders", fn := fun _ => fun
  | [d1, d2] => { results := [.lit (.bool false)], args := [d1, d2] }
  | _ => none }
def ItvOrdersWrongFalsely : Prop := itvOrdersRow.holds Try.pinned (OpenSpec.ofChange itvOrdersWrong)

/-- 'gimballaw02.ItvTruth': WHATEVER THE INPUT: true; the input reads as it did. -/
def itvTruthSpec : ChangeSpec := { name := "itvTruth", fn := fun _ => fun
  | [d1, d2, d3] => { results := [.lit (.bool true)], args := [d1, d2, d3] }
  | _ => none }
def itvTruthRow : OpenClaim := { program := "ytbbnpipmjadpoaa", sum := "829d0c5f99e9e2276771962f9dec2ca85bebbb74a34e94b4da4ccd94ca70de28", func := "gimbal/gimballaw02.ItvTruth", spec := "itvTruth", apart := false }
def ItvTruthSaid : Prop := itvTruthRow.holds Try.pinned (OpenSpec.ofChange itvTruthSpec)

/-- ITS FALSE NEIGHBOUR: 'it returns false'. Refute it at one input. -/
def itvTruthWrong : ChangeSpec := { name := "itvTruth", fn := fun _ => fun
  | [d1, d2, d3] => { results := [.lit (.bool false)], args := [d1, d2, d3] }
  | _ => none }
def ItvTruthWrongFalsely : Prop := itvTruthRow.holds Try.pinned (OpenSpec.ofChange itvTruthWrong)

/-- 'gimballaw02.ItvLattice': WHATEVER THE INPUT: true; the input reads as it did. -/
def itvLatticeSpec : ChangeSpec := { name := "itvLattice", fn := fun _ => fun
  | [d1, d2, d3] => { results := [.lit (.bool true)], args := [d1, d2, d3] }
  | _ => none }
def itvLatticeRow : OpenClaim := { program := "ytbbnpipmjadpoaa", sum := "829d0c5f99e9e2276771962f9dec2ca85bebbb74a34e94b4da4ccd94ca70de28", func := "gimbal/gimballaw02.ItvLattice", spec := "itvLattice", unfollowed := true, recurses := true, apart := false }
def ItvLatticeSaid : Prop := itvLatticeRow.holds Try.pinned (OpenSpec.ofChange itvLatticeSpec)

/-- ITS FALSE NEIGHBOUR: 'it returns false'. Refute it at one input. -/
def itvLatticeWrong : ChangeSpec := { name := "itvLattice", fn := fun _ => fun
  | [d1, d2, d3] => { results := [.lit (.bool false)], args := [d1, d2, d3] }
  | _ => none }
def ItvLatticeWrongFalsely : Prop := itvLatticeRow.holds Try.pinned (OpenSpec.ofChange itvLatticeWrong)

/-- 'gimballaw02.ItvTests': WHATEVER THE INPUT: true; the input reads as it did. -/
def itvTestsSpec : ChangeSpec := { name := "itvTests", fn := fun _ => fun
  | [d1, d2, d3] => { results := [.lit (.bool true)], args := [d1, d2, d3] }
  | _ => none }
def itvTestsRow : OpenClaim := { program := "ytbbnpipmjadpoaa", sum := "829d0c5f99e9e2276771962f9dec2ca85bebbb74a34e94b4da4ccd94ca70de28", func := "gimbal/gimballaw02.ItvTests", spec := "itvTests", unfollowed := true, recurses := true, apart := false }
def ItvTestsSaid : Prop := itvTestsRow.holds Try.pinned (OpenSpec.ofChange itvTestsSpec)

/-- ITS FALSE NEIGHBOUR: 'it returns false'. Refute it at one input. -/
def itvTestsWrong : ChangeSpec := { name := "itvTests", fn := fun _ => fun
  | [d1, d2, d3] => { results := [.lit (.bool false)], args := [d1, d2, d3] }
  | _ => none }
def ItvTestsWrongFalsely : Prop := itvTestsRow.holds Try.pinned (OpenSpec.ofChange itvTestsWrong)

/-- 'gimballaw02.ItvLeast': WHATEVER THE INPUT: true; the input reads as it did. -/
def itvLeastSpec : ChangeSpec := { name := "itvLeast", fn := fun _ => fun
  | [d1, d2] => { results := [.lit (.bool true)], args := [d1, d2] }
  | _ => none }
def itvLeastRow : OpenClaim := { program := "ytbbnpipmjadpoaa", sum := "829d0c5f99e9e2276771962f9dec2ca85bebbb74a34e94b4da4ccd94ca70de28", func := "gimbal/gimballaw02.ItvLeast", spec := "itvLeast", unfollowed := true, recurses := true, apart := false }
def ItvLeastSaid : Prop := itvLeastRow.holds Try.pinned (OpenSpec.ofChange itvLeastSpec)

/-- ITS FALSE NEIGHBOUR: 'it returns false'. Refute it at one input. -/
def itvLeastWrong : ChangeSpec := { name := "itvLeast", fn := fun _ => fun
  | [d1, d2] => { results := [.lit (.bool false)], args := [d1, d2] }
  | _ => none }
def ItvLeastWrongFalsely : Prop := itvLeastRow.holds Try.pinned (OpenSpec.ofChange itvLeastWrong)

/-- 'gimballaw02.ItvReckons': WHATEVER THE INPUT: true; the input reads as it did. -/
def itvReckonsSpec : ChangeSpec := { name := "itvReckons", fn := fun _ => fun
  | [d1, d2] => { results := [.lit (.bool true)], args := [d1, d2] }
  | _ => none }
def itvReckonsRow : OpenClaim := { program := "ytbbnpipmjadpoaa", sum := "829d0c5f99e9e2276771962f9dec2ca85bebbb74a34e94b4da4ccd94ca70de28", func := "gimbal/gimballaw02.ItvReckons", spec := "itvReckons", unfollowed := true, recurses := true, apart := false }
def ItvReckonsSaid : Prop := itvReckonsRow.holds Try.pinned (OpenSpec.ofChange itvReckonsSpec)

/-- ITS FALSE NEIGHBOUR: 'it returns false'. Refute it at one input. -/
def itvReckonsWrong : ChangeSpec := { name := "itvReckons", fn := fun _ => fun
  | [d1, d2] => { results := [.lit (.bool false)], args := [d1, d2] }
  | _ => none }
def ItvReckonsWrongFalsely : Prop := itvReckonsRow.holds Try.pinned (OpenSpec.ofChange itvReckonsWrong)

/-- 'gimballaw02.ItvDivides': WHATEVER THE INPUT: true; the input reads as it did. -/
def itvDividesSpec : ChangeSpec := { name := "itvDivides", fn := fun _ => fun
  | [d1, d2] => { results := [.lit (.bool true)], args := [d1, d2] }
  | _ => none }
def itvDividesRow : OpenClaim := { program := "ytbbnpipmjadpoaa", sum := "829d0c5f99e9e2276771962f9dec2ca85bebbb74a34e94b4da4ccd94ca70de28", func := "gimbal/gimballaw02.ItvDivides", spec := "itvDivides", unfollowed := true, recurses := true, apart := false }
def ItvDividesSaid : Prop := itvDividesRow.holds Try.pinned (OpenSpec.ofChange itvDividesSpec)

/-- ITS FALSE NEIGHBOUR: 'it returns false'. Refute it at one input. -/
def itvDividesWrong : ChangeSpec := { name := "itvDivides", fn := fun _ => fun
  | [d1, d2] => { results := [.lit (.bool false)], args := [d1, d2] }
  | _ => none }
def ItvDividesWrongFalsely : Prop := itvDividesRow.holds Try.pinned (OpenSpec.ofChange itvDividesWrong)

/-- 'gimballaw02.ItvKeeps': WHATEVER THE INPUT: true; the input reads as it did. -/
def itvKeepsSpec : ChangeSpec := { name := "itvKeeps", fn := fun _ => fun
  | [d1, d2, d3, d4, d5] => { results := [.lit (.bool true)], args := [d1, d2, d3, d4, d5] }
  | _ => none }
def itvKeepsRow : OpenClaim := { program := "ytbbnpipmjadpoaa", sum := "829d0c5f99e9e2276771962f9dec2ca85bebbb74a34e94b4da4ccd94ca70de28", func := "gimbal/gimballaw02.ItvKeeps", spec := "itvKeeps", unfollowed := true, recurses := true, apart := false }
def ItvKeepsSaid : Prop := itvKeepsRow.holds Try.pinned (OpenSpec.ofChange itvKeepsSpec)

/-- ITS FALSE NEIGHBOUR: 'it returns false'. Refute it at one input. -/
def itvKeepsWrong : ChangeSpec := { name := "itvKeeps", fn := fun _ => fun
  | [d1, d2, d3, d4, d5] => { results := [.lit (.bool false)], args := [d1, d2, d3, d4, d5] }
  | _ => none }
def ItvKeepsWrongFalsely : Prop := itvKeepsRow.holds Try.pinned (OpenSpec.ofChange itvKeepsWrong)

/-- 'gimballaw02.ItvGrows': WHATEVER THE INPUT: true; the input reads as it did. -/
def itvGrowsSpec : ChangeSpec := { name := "itvGrows", fn := fun _ => fun
  | [d1, d2, d3, d4, d5] => { results := [.lit (.bool true)], args := [d1, d2, d3, d4, d5] }
  | _ => none }
def itvGrowsRow : OpenClaim := { program := "ytbbnpipmjadpoaa", sum := "829d0c5f99e9e2276771962f9dec2ca85bebbb74a34e94b4da4ccd94ca70de28", func := "gimbal/gimballaw02.ItvGrows", spec := "itvGrows", unfollowed := true, recurses := true, apart := false }
def ItvGrowsSaid : Prop := itvGrowsRow.holds Try.pinned (OpenSpec.ofChange itvGrowsSpec)

/-- ITS FALSE NEIGHBOUR: 'it returns false'. Refute it at one input. -/
def itvGrowsWrong : ChangeSpec := { name := "itvGrows", fn := fun _ => fun
  | [d1, d2, d3, d4, d5] => { results := [.lit (.bool false)], args := [d1, d2, d3, d4, d5] }
  | _ => none }
def ItvGrowsWrongFalsely : Prop := itvGrowsRow.holds Try.pinned (OpenSpec.ofChange itvGrowsWrong)

/- THE SECOND FORM. 'bulk': how many values and letters a reading holds, each counted each time it is reached (what is shared counts as often as it is met; a slice's spare places count too). A statement '..UptoSaid' is the law's where the arguments, and the package variables that the reading takes, are together of bulk at most 1048576: NARROWER than '..Said'. Prove '..Said' where nothing that the law and all that it calls make is longer than what came in: it says more and counts as full. Else prove '..UptoSaid'. A law counts once. -/
mutual
def uptoBulk {H : Type} : DataW H → Nat
  | .lit (.string bytes) => bytes.length + 1
  | .lit _ => 1
  | .nil => 1
  | .ptr d => uptoBulk d + 1
  | .slice elems spare => uptoBulkAll elems + uptoBulkAll spare + 1
  | .agg parts => uptoBulkAll parts + 1
  | .iface _ d => uptoBulk d + 1
  | .map entries => uptoBulkEntries entries + 1
  | .held _ => 1
def uptoBulkAll {H : Type} : List (DataW H) → Nat
  | [] => 0
  | d :: r => uptoBulk d + uptoBulkAll r
def uptoBulkEntries {H : Type} : List (Lit × DataW H) → Nat
  | [] => 0
  | x :: r => uptoBulkEntry x + uptoBulkEntries r
def uptoBulkEntry {H : Type} : Lit × DataW H → Nat
  | (.string bytes, d) => bytes.length + uptoBulk d + 1
  | (_, d) => uptoBulk d + 1
 end
def uptoSmall : (H : Type) → List (DataW H) → Bool := fun _ ds => decide (uptoBulkAll ds ≤ 1048576)
def OpenSpec.upto (s : _root_.Go.ChangeSpec) : _root_.Go.OpenSpec := { _root_.Go.OpenSpec.ofChange s with cond := some uptoSmall }

/-- 'gimballaw02.ItvMakes', WHERE WHAT IT READS IS OF BULK AT MOST 1048576: true; the input reads as it did. -/
def itvMakesUptoRow : OpenClaim := { program := "ytbbnpipmjadpoaa", sum := "829d0c5f99e9e2276771962f9dec2ca85bebbb74a34e94b4da4ccd94ca70de28", func := "gimbal/gimballaw02.ItvMakes", spec := "itvMakes", apart := false, narrowed := true }
def ItvMakesUptoSaid : Prop := itvMakesUptoRow.holds Try.pinned (OpenSpec.upto itvMakesSpec)

/-- 'gimballaw02.ItvOrders', WHERE WHAT IT READS IS OF BULK AT MOST 1048576: true; the input reads as it did. -/
def itvOrdersUptoRow : OpenClaim := { program := "ytbbnpipmjadpoaa", sum := "829d0c5f99e9e2276771962f9dec2ca85bebbb74a34e94b4da4ccd94ca70de28", func := "gimbal/gimballaw02.ItvOrders", spec := "itvOrders", apart := false, narrowed := true }
def ItvOrdersUptoSaid : Prop := itvOrdersUptoRow.holds Try.pinned (OpenSpec.upto itvOrdersSpec)

/-- 'gimballaw02.ItvTruth', WHERE WHAT IT READS IS OF BULK AT MOST 1048576: true; the input reads as it did. -/
def itvTruthUptoRow : OpenClaim := { program := "ytbbnpipmjadpoaa", sum := "829d0c5f99e9e2276771962f9dec2ca85bebbb74a34e94b4da4ccd94ca70de28", func := "gimbal/gimballaw02.ItvTruth", spec := "itvTruth", apart := false, narrowed := true }
def ItvTruthUptoSaid : Prop := itvTruthUptoRow.holds Try.pinned (OpenSpec.upto itvTruthSpec)

/-- 'gimballaw02.ItvLattice', WHERE WHAT IT READS IS OF BULK AT MOST 1048576: true; the input reads as it did. -/
def itvLatticeUptoRow : OpenClaim := { program := "ytbbnpipmjadpoaa", sum := "829d0c5f99e9e2276771962f9dec2ca85bebbb74a34e94b4da4ccd94ca70de28", func := "gimbal/gimballaw02.ItvLattice", spec := "itvLattice", unfollowed := true, recurses := true, apart := false, narrowed := true }
def ItvLatticeUptoSaid : Prop := itvLatticeUptoRow.holds Try.pinned (OpenSpec.upto itvLatticeSpec)

/-- 'gimballaw02.ItvTests', WHERE WHAT IT READS IS OF BULK AT MOST 1048576: true; the input reads as it did. -/
def itvTestsUptoRow : OpenClaim := { program := "ytbbnpipmjadpoaa", sum := "829d0c5f99e9e2276771962f9dec2ca85bebbb74a34e94b4da4ccd94ca70de28", func := "gimbal/gimballaw02.ItvTests", spec := "itvTests", unfollowed := true, recurses := true, apart := false, narrowed := true }
def ItvTestsUptoSaid : Prop := itvTestsUptoRow.holds Try.pinned (OpenSpec.upto itvTestsSpec)

/-- 'gimballaw02.ItvLeast', WHERE WHAT IT READS IS OF BULK AT MOST 1048576: true; the input reads as it did. -/
def itvLeastUptoRow : OpenClaim := { program := "ytbbnpipmjadpoaa", sum := "829d0c5f99e9e2276771962f9dec2ca85bebbb74a34e94b4da4ccd94ca70de28", func := "gimbal/gimballaw02.ItvLeast", spec := "itvLeast", unfollowed := true, recurses := true, apart := false, narrowed := true }
def ItvLeastUptoSaid : Prop := itvLeastUptoRow.holds Try.pinned (OpenSpec.upto itvLeastSpec)

/-- 'gimballaw02.ItvReckons', WHERE WHAT IT READS IS OF BULK AT MOST 1048576: true; the input reads as it did. -/
def itvReckonsUptoRow : OpenClaim := { program := "ytbbnpipmjadpoaa", sum := "829d0c5f99e9e2276771962f9dec2ca85bebbb74a34e94b4da4ccd94ca70de28", func := "gimbal/gimballaw02.ItvReckons", spec := "itvReckons", unfollowed := true, recurses := true, apart := false, narrowed := true }
def ItvReckonsUptoSaid : Prop := itvReckonsUptoRow.holds Try.pinned (OpenSpec.upto itvReckonsSpec)

/-- 'gimballaw02.ItvDivides', WHERE WHAT IT READS IS OF BULK AT MOST 1048576: true; the input reads as it did. -/
def itvDividesUptoRow : OpenClaim := { program := "ytbbnpipmjadpoaa", sum := "829d0c5f99e9e2276771962f9dec2ca85bebbb74a34e94b4da4ccd94ca70de28", func := "gimbal/gimballaw02.ItvDivides", spec := "itvDivides", unfollowed := true, recurses := true, apart := false, narrowed := true }
def ItvDividesUptoSaid : Prop := itvDividesUptoRow.holds Try.pinned (OpenSpec.upto itvDividesSpec)

/-- 'gimballaw02.ItvKeeps', WHERE WHAT IT READS IS OF BULK AT MOST 1048576: true; the input reads as it did. -/
def itvKeepsUptoRow : OpenClaim := { program := "ytbbnpipmjadpoaa", sum := "829d0c5f99e9e2276771962f9dec2ca85bebbb74a34e94b4da4ccd94ca70de28", func := "gimbal/gimballaw02.ItvKeeps", spec := "itvKeeps", unfollowed := true, recurses := true, apart := false, narrowed := true }
def ItvKeepsUptoSaid : Prop := itvKeepsUptoRow.holds Try.pinned (OpenSpec.upto itvKeepsSpec)

/-- 'gimballaw02.ItvGrows', WHERE WHAT IT READS IS OF BULK AT MOST 1048576: true; the input reads as it did. -/
def itvGrowsUptoRow : OpenClaim := { program := "ytbbnpipmjadpoaa", sum := "829d0c5f99e9e2276771962f9dec2ca85bebbb74a34e94b4da4ccd94ca70de28", func := "gimbal/gimballaw02.ItvGrows", spec := "itvGrows", unfollowed := true, recurses := true, apart := false, narrowed := true }
def ItvGrowsUptoSaid : Prop := itvGrowsUptoRow.holds Try.pinned (OpenSpec.upto itvGrowsSpec)

end Rows
end Go.Proofs.Ytbbnpipmjadpoaa
