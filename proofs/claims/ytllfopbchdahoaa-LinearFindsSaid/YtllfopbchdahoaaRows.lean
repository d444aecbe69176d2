/-
  No cell of these rows narrows 'for every input' (looked for: loops, veiled, ifaces, maps, wideKeys, modest, calm, conditions, laid).
  DERIVED. THE GIVEN ROWS OF THIS SEAT. 5 by the template 'for every input the law returns true; each argument reads behind the call as it read before'; 0 by the template 'total and deterministic' (their statements: YtllfopbchdahoaaTotals.lean).
  GIVEN WITH THE SEED: the statements are not yours to turn. If you find one false, say at which input.
  Laid BY PROGRAM, IN A SANDBOX (cutbox-rows.mjs): the forced cells as the released guide's own fill.sh prints them over the translation 4bbe31a85b478ea1… (all of the seat's roots in one cut). By AI agents, Wed Nov 11 2026. No macro, syntax, notation, axiom, sorry.
-/
import Derived.Test.YtllfopbchdahoaaChecked
import GoSem.Claim
import GoSem.ClaimJoined
import GoSem.ClaimMapViews
import Derived.JoinedTies
import Derived.KernelRfl
namespace Go.Proofs.Ytllfopbchdahoaa
/- THE CELL 'sum', in the pinned program and in every row, IS THE sha256 OF THE DUMP (.gsa) THAT YtllfopbchdahoaaProg.lean LOADS. Nothing in Lean hashes anything: it is a label: what it is worth is what the hold of that sum in a sandbox is worth. -/
noncomputable def Try.pinned : Pinned := { name := "ytllfopbchdahoaa", sum := "4bbe31a85b478ea137e0c314d98dc30a9c8625443662f519dec50ccf9918aae7", checked := Try.checked }
namespace Rows
def none {H : Type} : Left H := { results := [], args := [] }

/-- 'gimballaw14.LinearValues': WHATEVER THE INPUT: true; the input reads as it did. -/
def linearValuesSpec : ChangeSpec := { name := "linearValues", fn := fun _ => fun
  | [d1, d2] => { results := [.lit (.bool true)], args := [d1, d2] }
  | _ => none }
def linearValuesRow : OpenClaim := { program := "ytllfopbchdahoaa", sum := "4bbe31a85b478ea137e0c314d98dc30a9c8625443662f519dec50ccf9918aae7", func := "gimbal/gimballaw14.LinearValues", spec := "linearValues", unfollowed := true, recurses := true, apart := false }
def LinearValuesSaid : Prop := linearValuesRow.holds Try.pinned (OpenSpec.ofChange linearValuesSpec)

/-- ITS FALSE NEIGHBOUR: 'it returns false'. Refute it at one input. -/
def linearValuesWrong : ChangeSpec := { name := "linearValues", fn := fun _ => fun
  | [d1, d2] => { results := [.lit (.bool false)], args := [d1, d2] }
  | _ => none }
def LinearValuesWrongFalsely : Prop := linearValuesRow.holds Try.pinned (OpenSpec.ofChange linearValuesWrong)

/-- 'gimballaw14.LinearReckons': WHATEVER THE INPUT: true; the input reads as it did. -/
def linearReckonsSpec : ChangeSpec := { name := "linearReckons", fn := fun _ => fun
  | [d1, d2] => { results := [.lit (.bool true)], args := [d1, d2] }
  | _ => none }
def linearReckonsRow : OpenClaim := { program := "ytllfopbchdahoaa", sum := "4bbe31a85b478ea137e0c314d98dc30a9c8625443662f519dec50ccf9918aae7", func := "gimbal/gimballaw14.LinearReckons", spec := "linearReckons", unfollowed := true, recurses := true, apart := false }
def LinearReckonsSaid : Prop := linearReckonsRow.holds Try.pinned (OpenSpec.ofChange linearReckonsSpec)

/-- ITS FALSE NEIGHBOUR: 'it returns false'. Refute it at one input. -/
def linearReckonsWrong : ChangeSpec := { name := "linearReckons", fn := fun _ => fun
  | [d1, d2] => { results := [.lit (.bool false)], args := [d1, d2] }
  | _ => none }
def LinearReckonsWrongFalsely : Prop := linearReckonsRow.holds Try.pinned (OpenSpec.ofChange linearReckonsWrong)

/-- 'gimballaw14.LinearSums': WHATEVER THE INPUT: true; the input reads as it did. -/
def linearSumsSpec : ChangeSpec := { name := "linearSums", fn := fun _ => fun
  | [d1, d2, d3] => { results := [.lit (.bool true)], args := [d1, d2, d3] }
  | _ => none }
def linearSumsRow : OpenClaim := { program := "ytllfopbchdahoaa", sum := "4bbe31a85b478ea137e0c314d98dc30a9c8625443662f519dec50ccf9918aae7", func := "gimbal/gimballaw14.LinearSums", spec := "linearSums", unfollowed := true, recurses := true, apart := false }
def LinearSumsSaid : Prop := linearSumsRow.holds Try.pinned (OpenSpec.ofChange linearSumsSpec)

/-- ITS FALSE NEIGHBOUR: 'it returns false'. Refute it at one input. -/
def linearSumsWrong : ChangeSpec := { name := "linearSums", fn := fun _ => fun
  | [d1, d2, d3] => { results := [.lit (.bool false)], args := [d1, d2, d3] }
  | _ => none }
def LinearSumsWrongFalsely : Prop := linearSumsRow.holds Try.pinned (OpenSpec.ofChange linearSumsWrong)

/-- 'gimballaw14.LinearRules': WHATEVER THE INPUT: true; the input reads as it did. -/
def linearRulesSpec : ChangeSpec := { name := "linearRules", fn := fun _ => fun
  | [d1, d2] => { results := [.lit (.bool true)], args := [d1, d2] }
  | _ => none }
def linearRulesRow : OpenClaim := { program := "ytllfopbchdahoaa", sum := "4bbe31a85b478ea137e0c314d98dc30a9c8625443662f519dec50ccf9918aae7", func := "gimbal/gimballaw14.LinearRules", spec := "linearRules", unfollowed := true, recurses := true, apart := false }
def LinearRulesSaid : Prop := linearRulesRow.holds Try.pinned (OpenSpec.ofChange linearRulesSpec)

/-- ITS FALSE NEIGHBOUR: 'it returns false'. Refute it at one input. -/
def linearRulesWrong : ChangeSpec := { name := "linearRules", fn := fun _ => fun
  | [d1, d2] => { results := [.lit (.bool false)], args := [d1, d2] }
  | _ => none }
def LinearRulesWrongFalsely : Prop := linearRulesRow.holds Try.pinned (OpenSpec.ofChange linearRulesWrong)

/-- 'gimballaw14.LinearFinds': WHATEVER THE INPUT: true; the input reads as it did. -/
def linearFindsSpec : ChangeSpec := { name := "linearFinds", fn := fun _ => fun
  | [d1, d2] => { results := [.lit (.bool true)], args := [d1, d2] }
  | _ => none }
def linearFindsRow : OpenClaim := { program := "ytllfopbchdahoaa", sum := "4bbe31a85b478ea137e0c314d98dc30a9c8625443662f519dec50ccf9918aae7", func := "gimbal/gimballaw14.LinearFinds", spec := "linearFinds", unfollowed := true, recurses := true, apart := false }
def LinearFindsSaid : Prop := linearFindsRow.holds Try.pinned (OpenSpec.ofChange linearFindsSpec)

/-- ITS FALSE NEIGHBOUR: 'it returns false'. Refute it at one input. -/
def linearFindsWrong : ChangeSpec := { name := "linearFinds", fn := fun _ => fun
  | [d1, d2] => { results := [.lit (.bool false)], args := [d1, d2] }
  | _ => none }
def LinearFindsWrongFalsely : Prop := linearFindsRow.holds Try.pinned (OpenSpec.ofChange linearFindsWrong)

/- THE SECOND FORM. 'bulk': how many values and letters a reading holds, each counted each time it is reached (what is shared counts as often as it is met; a slice's spare places count too). A statement '..UptoSaid' is the law's where the arguments, and the package variables that the reading takes, are together of bulk at most 1048576: NARROWER than '..Said'. Prove '..Said' where nothing that the law and all that it calls make is longer than what came in: it says more and counts as full. Else prove '..UptoSaid'. A law counts once. -/
mutual
def uptoBulk {H : Type} : DataW H → Nat
  | .lit (.string bytes) => bytes.length + 1
  | .lit _ => 1
  | .nil => 1
  | .ptr d => uptoBulk d + 1
  | .slice elems spare => uptoBulkAll elems + uptoBulkAll spare + 1
  | .agg parts => uptoBulkAll parts + 1
  | .iface _ d => uptoBulk d + 1
  | .map entries => uptoBulkEntries entries + 1
  | .held _ => 1
def uptoBulkAll {H : Type} : List (DataW H) → Nat
  | [] => 0
  | d :: r => uptoBulk d + uptoBulkAll r
def uptoBulkEntries {H : Type} : List (Lit × DataW H) → Nat
  | [] => 0
  | x :: r => uptoBulkEntry x + uptoBulkEntries r
def uptoBulkEntry {H : Type} : Lit × DataW H → Nat
  | (.string bytes, d) => bytes.length + uptoBulk d + 1
  | (_, d) => uptoBulk d + 1
 end
def uptoSmall : (H : Type) → List (DataW H) → Bool := fun _ ds => decide (uptoBulkAll ds ≤ 1048576)
def OpenSpec.upto (s : _root_.Go.ChangeSpec) : _root_.Go.OpenSpec := { _root_.Go.OpenSpec.ofChange s with cond := some uptoSmall }

/-- 'gimballaw14.LinearValues', WHERE WHAT IT READS IS OF BULK AT MOST 1048576: true; the input reads as it did. -/
def linearValuesUptoRow : OpenClaim := { program := "ytllfopbchdahoaa", sum := "4bbe31a85b478ea137e0c314d98dc30a9c8625443662f519dec50ccf9918aae7", func := "gimbal/gimballaw14.LinearValues", spec := "linearValues", unfollowed := true, recurses := true, apart := false, narrowed := true }
def LinearValuesUptoSaid : Prop := linearValuesUptoRow.holds Try.pinned (OpenSpec.upto linearValuesSpec)

/-- 'gimballaw14.LinearReckons', WHERE WHAT IT READS IS OF BULK AT MOST 1048576: true; the input reads as it did. -/
def linearReckonsUptoRow : OpenClaim := { program := "ytllfopbchdahoaa", sum := "4bbe31a85b478ea137e0c314d98dc30a9c8625443662f519dec50ccf9918aae7", func := "gimbal/gimballaw14.LinearReckons", spec := "linearReckons", unfollowed := true, recurses := true, apart := false, narrowed := true }
def LinearReckonsUptoSaid : Prop := linearReckonsUptoRow.holds Try.pinned (OpenSpec.upto linearReckonsSpec)

/-- 'gimballaw14.LinearSums', WHERE WHAT IT READS IS OF BULK AT MOST 1048576: true; the input reads as it did. -/
def linearSumsUptoRow : OpenClaim := { program := "ytllfopbchdahoaa", sum := "4bbe31a85b478ea137e0c314d98dc30a9c8625443662f519dec50ccf9918aae7", func := "gimbal/gimballaw14.LinearSums", spec := "linearSums", unfollowed := true, recurses := true, apart := false, narrowed := true }
def LinearSumsUptoSaid : Prop := linearSumsUptoRow.holds Try.pinned (OpenSpec.upto linearSumsSpec)

/-- 'gimballaw14.LinearRules', WHERE WHAT IT READS IS OF BULK AT MOST 1048576: true; the input reads as it did. -/
def linearRulesUptoRow : OpenClaim := { program := "ytllfopbchdahoaa", sum := "4bbe31a85b478ea137e0c314d98dc30a9c8625443662f519dec50ccf9918aae7", func := "gimbal/gimballaw14.LinearRules", spec := "linearRules", unfollowed := true, recurses := true, apart := false, narrowed := true }
def LinearRulesUptoSaid : Prop := linearRulesUptoRow.holds Try.pinned (OpenSpec.upto linearRulesSpec)

/-- 'gimballaw14.LinearFinds', WHERE WHAT IT READS IS OF BULK AT MOST 1048576: true; the input reads as it did. -/
def linearFindsUptoRow : OpenClaim := { program := "ytllfopbchdahoaa", sum := "4bbe31a85b478ea137e0c314d98dc30a9c8625443662f519dec50ccf9918aae7", func := "gimbal/gimballaw14.LinearFinds", spec := "linearFinds", unfollowed := true, recurses := true, apart := false, narrowed := true }
def LinearFindsUptoSaid : Prop := linearFindsUptoRow.holds Try.pinned (OpenSpec.upto linearFindsSpec)

end Rows
end Go.Proofs.Ytllfopbchdahoaa
