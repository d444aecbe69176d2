/-
  No cell of these rows narrows 'for every input' (looked for: loops, veiled, ifaces, maps, wideKeys, modest, calm, conditions, laid).
  DERIVED. THE GIVEN ROWS OF THIS SEAT. 10 by the template 'for every input the law returns true; each argument reads behind the call as it read before'; 0 by the template 'total and deterministic' (their statements: YtklignhpkojmhaaTotals.lean).
  GIVEN WITH THE SEED: the statements are not yours to turn. If you find one false, say at which input.
  Laid BY PROGRAM, IN A SANDBOX (cutbox-rows.mjs): the forced cells as the released guide's own fill.sh prints them over the translation 4c152b24a986e0d3… (all of the seat's roots in one cut). By AI agents, Wed Nov 11 2026. No macro, syntax, notation, axiom, sorry.
-/
import Derived.Test.YtklignhpkojmhaaChecked
import GoSem.Claim
import GoSem.ClaimJoined
import GoSem.ClaimMapViews
import Derived.JoinedTies
import Derived.KernelRfl
namespace Go.Proofs.Ytklignhpkojmhaa
/- THE CELL 'sum', in the pinned program and in every row, IS THE sha256 OF THE DUMP (.gsa) THAT YtklignhpkojmhaaProg.lean LOADS. Nothing in Lean hashes anything: it is a label: what it is worth is what the hold of that sum in a sandbox is worth. -/
noncomputable def Try.pinned : Pinned := { name := "ytklignhpkojmhaa", sum := "4c152b24a986e0d33118228081640fd88acaafdef62dda39d0d60f0c8bfdbe79", checked := Try.checked }
namespace Rows
def none {H : Type} : Left H := { results := [], args := [] }

/-- 'gimballaw10.DbmMakes': WHATEVER THE INPUT: true; the input reads as it did. -/
def dbmMakesSpec : ChangeSpec := { name := "dbmMakes", fn := fun _ => fun
  | [d1, d2] => { results := [.lit (.bool true)], args := [d1, d2] }
  | _ => none }
def dbmMakesRow : OpenClaim := { program := "ytklignhpkojmhaa", sum := "4c152b24a986e0d33118228081640fd88acaafdef62dda39d0d60f0c8bfdbe79", func := "gimbal/gimballaw10.DbmMakes", spec := "dbmMakes", apart := false }
def DbmMakesSaid : Prop := dbmMakesRow.holds Try.pinned (OpenSpec.ofChange dbmMakesSpec)

/-- ITS FALSE NEIGHBOUR: 'it returns false'. Refute it at one input. -/
def dbmMakesWrong : ChangeSpec := { name := "dbmMakes", fn := fun _ => fun
  | [d1, d2] => { results := [.lit (.bool false)], args := [d1, d2] }
  | _ => none }
def DbmMakesWrongFalsely : Prop := dbmMakesRow.holds Try.pinned (OpenSpec.ofChange dbmMakesWrong)

/-- 'gimballaw10.DbmSets': WHATEVER THE INPUT: true; the input reads as it did. -/
def dbmSetsSpec : ChangeSpec := { name := "dbmSets", fn := fun _ => fun
  | [d1, d2, d3, d4] => { results := [.lit (.bool true)], args := [d1, d2, d3, d4] }
  | _ => none }
def dbmSetsRow : OpenClaim := { program := "ytklignhpkojmhaa", sum := "4c152b24a986e0d33118228081640fd88acaafdef62dda39d0d60f0c8bfdbe79", func := "gimbal/gimballaw10.DbmSets", spec := "dbmSets", unfollowed := true, recurses := true, apart := false }
def DbmSetsSaid : Prop := dbmSetsRow.holds Try.pinned (OpenSpec.ofChange dbmSetsSpec)

/-- ITS FALSE NEIGHBOUR: 'it returns false'. Refute it at one input. -/
def dbmSetsWrong : ChangeSpec := { name := "dbmSets", fn := fun _ => fun
  | [d1, d2, d3, d4] => { results := [.lit (.bool false)], args := [d1, d2, d3, d4] }
  | _ => none }
def DbmSetsWrongFalsely : Prop := dbmSetsRow.holds Try.pinned (OpenSpec.ofChange dbmSetsWrong)

/-- 'gimballaw10.DbmCloses': WHATEVER THE INPUT: true; the input reads as it did. -/
def dbmClosesSpec : ChangeSpec := { name := "dbmCloses", fn := fun _ => fun
  | [d] => { results := [.lit (.bool true)], args := [d] }
  | _ => none }
def dbmClosesRow : OpenClaim := { program := "ytklignhpkojmhaa", sum := "4c152b24a986e0d33118228081640fd88acaafdef62dda39d0d60f0c8bfdbe79", func := "gimbal/gimballaw10.DbmCloses", spec := "dbmCloses", unfollowed := true, recurses := true, apart := false }
def DbmClosesSaid : Prop := dbmClosesRow.holds Try.pinned (OpenSpec.ofChange dbmClosesSpec)

/-- ITS FALSE NEIGHBOUR: 'it returns false'. Refute it at one input. -/
def dbmClosesWrong : ChangeSpec := { name := "dbmCloses", fn := fun _ => fun
  | [d] => { results := [.lit (.bool false)], args := [d] }
  | _ => none }
def DbmClosesWrongFalsely : Prop := dbmClosesRow.holds Try.pinned (OpenSpec.ofChange dbmClosesWrong)

/-- 'gimballaw10.DbmKeeps': WHATEVER THE INPUT: true; the input reads as it did. -/
def dbmKeepsSpec : ChangeSpec := { name := "dbmKeeps", fn := fun _ => fun
  | [d1, d2] => { results := [.lit (.bool true)], args := [d1, d2] }
  | _ => none }
def dbmKeepsRow : OpenClaim := { program := "ytklignhpkojmhaa", sum := "4c152b24a986e0d33118228081640fd88acaafdef62dda39d0d60f0c8bfdbe79", func := "gimbal/gimballaw10.DbmKeeps", spec := "dbmKeeps", unfollowed := true, recurses := true, apart := false }
def DbmKeepsSaid : Prop := dbmKeepsRow.holds Try.pinned (OpenSpec.ofChange dbmKeepsSpec)

/-- ITS FALSE NEIGHBOUR: 'it returns false'. Refute it at one input. -/
def dbmKeepsWrong : ChangeSpec := { name := "dbmKeeps", fn := fun _ => fun
  | [d1, d2] => { results := [.lit (.bool false)], args := [d1, d2] }
  | _ => none }
def DbmKeepsWrongFalsely : Prop := dbmKeepsRow.holds Try.pinned (OpenSpec.ofChange dbmKeepsWrong)

/-- 'gimballaw10.DbmMeets': WHATEVER THE INPUT: true; the input reads as it did. -/
def dbmMeetsSpec : ChangeSpec := { name := "dbmMeets", fn := fun _ => fun
  | [d1, d2] => { results := [.lit (.bool true)], args := [d1, d2] }
  | _ => none }
def dbmMeetsRow : OpenClaim := { program := "ytklignhpkojmhaa", sum := "4c152b24a986e0d33118228081640fd88acaafdef62dda39d0d60f0c8bfdbe79", func := "gimbal/gimballaw10.DbmMeets", spec := "dbmMeets", unfollowed := true, recurses := true, apart := false }
def DbmMeetsSaid : Prop := dbmMeetsRow.holds Try.pinned (OpenSpec.ofChange dbmMeetsSpec)

/-- ITS FALSE NEIGHBOUR: 'it returns false'. Refute it at one input. -/
def dbmMeetsWrong : ChangeSpec := { name := "dbmMeets", fn := fun _ => fun
  | [d1, d2] => { results := [.lit (.bool false)], args := [d1, d2] }
  | _ => none }
def DbmMeetsWrongFalsely : Prop := dbmMeetsRow.holds Try.pinned (OpenSpec.ofChange dbmMeetsWrong)

/-- 'gimballaw10.DbmGrows': WHATEVER THE INPUT: true; the input reads as it did. -/
def dbmGrowsSpec : ChangeSpec := { name := "dbmGrows", fn := fun _ => fun
  | [d1, d2] => { results := [.lit (.bool true)], args := [d1, d2] }
  | _ => none }
def dbmGrowsRow : OpenClaim := { program := "ytklignhpkojmhaa", sum := "4c152b24a986e0d33118228081640fd88acaafdef62dda39d0d60f0c8bfdbe79", func := "gimbal/gimballaw10.DbmGrows", spec := "dbmGrows", unfollowed := true, recurses := true, apart := false }
def DbmGrowsSaid : Prop := dbmGrowsRow.holds Try.pinned (OpenSpec.ofChange dbmGrowsSpec)

/-- ITS FALSE NEIGHBOUR: 'it returns false'. Refute it at one input. -/
def dbmGrowsWrong : ChangeSpec := { name := "dbmGrows", fn := fun _ => fun
  | [d1, d2] => { results := [.lit (.bool false)], args := [d1, d2] }
  | _ => none }
def DbmGrowsWrongFalsely : Prop := dbmGrowsRow.holds Try.pinned (OpenSpec.ofChange dbmGrowsWrong)

/-- 'gimballaw10.DbmTriangles': WHATEVER THE INPUT: true; the input reads as it did. -/
def dbmTrianglesSpec : ChangeSpec := { name := "dbmTriangles", fn := fun _ => fun
  | [d] => { results := [.lit (.bool true)], args := [d] }
  | _ => none }
def dbmTrianglesRow : OpenClaim := { program := "ytklignhpkojmhaa", sum := "4c152b24a986e0d33118228081640fd88acaafdef62dda39d0d60f0c8bfdbe79", func := "gimbal/gimballaw10.DbmTriangles", spec := "dbmTriangles", unfollowed := true, recurses := true, apart := false }
def DbmTrianglesSaid : Prop := dbmTrianglesRow.holds Try.pinned (OpenSpec.ofChange dbmTrianglesSpec)

/-- ITS FALSE NEIGHBOUR: 'it returns false'. Refute it at one input. -/
def dbmTrianglesWrong : ChangeSpec := { name := "dbmTriangles", fn := fun _ => fun
  | [d] => { results := [.lit (.bool false)], args := [d] }
  | _ => none }
def DbmTrianglesWrongFalsely : Prop := dbmTrianglesRow.holds Try.pinned (OpenSpec.ofChange dbmTrianglesWrong)

/-- 'gimballaw10.DbmMirrors': WHATEVER THE INPUT: true; the input reads as it did. -/
def dbmMirrorsSpec : ChangeSpec := { name := "dbmMirrors", fn := fun _ => fun
  | [d1, d2, d3, d4, d5] => { results := [.lit (.bool true)], args := [d1, d2, d3, d4, d5] }
  | _ => none }
def dbmMirrorsRow : OpenClaim := { program := "ytklignhpkojmhaa", sum := "4c152b24a986e0d33118228081640fd88acaafdef62dda39d0d60f0c8bfdbe79", func := "gimbal/gimballaw10.DbmMirrors", spec := "dbmMirrors", unfollowed := true, recurses := true, apart := false }
def DbmMirrorsSaid : Prop := dbmMirrorsRow.holds Try.pinned (OpenSpec.ofChange dbmMirrorsSpec)

/-- ITS FALSE NEIGHBOUR: 'it returns false'. Refute it at one input. -/
def dbmMirrorsWrong : ChangeSpec := { name := "dbmMirrors", fn := fun _ => fun
  | [d1, d2, d3, d4, d5] => { results := [.lit (.bool false)], args := [d1, d2, d3, d4, d5] }
  | _ => none }
def DbmMirrorsWrongFalsely : Prop := dbmMirrorsRow.holds Try.pinned (OpenSpec.ofChange dbmMirrorsWrong)

/-- 'gimballaw10.DbmTells': WHATEVER THE INPUT: true; the input reads as it did. -/
def dbmTellsSpec : ChangeSpec := { name := "dbmTells", fn := fun _ => fun
  | [d1, d2] => { results := [.lit (.bool true)], args := [d1, d2] }
  | _ => none }
def dbmTellsRow : OpenClaim := { program := "ytklignhpkojmhaa", sum := "4c152b24a986e0d33118228081640fd88acaafdef62dda39d0d60f0c8bfdbe79", func := "gimbal/gimballaw10.DbmTells", spec := "dbmTells", unfollowed := true, recurses := true, apart := false }
def DbmTellsSaid : Prop := dbmTellsRow.holds Try.pinned (OpenSpec.ofChange dbmTellsSpec)

/-- ITS FALSE NEIGHBOUR: 'it returns false'. Refute it at one input. -/
def dbmTellsWrong : ChangeSpec := { name := "dbmTells", fn := fun _ => fun
  | [d1, d2] => { results := [.lit (.bool false)], args := [d1, d2] }
  | _ => none }
def DbmTellsWrongFalsely : Prop := dbmTellsRow.holds Try.pinned (OpenSpec.ofChange dbmTellsWrong)

/-- 'gimballaw10.DbmAgain': WHATEVER THE INPUT: true; the input reads as it did. -/
def dbmAgainSpec : ChangeSpec := { name := "dbmAgain", fn := fun _ => fun
  | [d] => { results := [.lit (.bool true)], args := [d] }
  | _ => none }
def dbmAgainRow : OpenClaim := { program := "ytklignhpkojmhaa", sum := "4c152b24a986e0d33118228081640fd88acaafdef62dda39d0d60f0c8bfdbe79", func := "gimbal/gimballaw10.DbmAgain", spec := "dbmAgain", unfollowed := true, recurses := true, apart := false }
def DbmAgainSaid : Prop := dbmAgainRow.holds Try.pinned (OpenSpec.ofChange dbmAgainSpec)

/-- ITS FALSE NEIGHBOUR: 'it returns false'. Refute it at one input. -/
def dbmAgainWrong : ChangeSpec := { name := "dbmAgain", fn := fun _ => fun
  | [d] => { results := [.lit (.bool false)], args := [d] }
  | _ => none }
def DbmAgainWrongFalsely : Prop := dbmAgainRow.holds Try.pinned (OpenSpec.ofChange dbmAgainWrong)

/- THE SECOND FORM. 'bulk': how many values and letters a reading holds, each counted each time it is reached (what is shared counts as often as it is met; a slice's spare places count too). A statement '..UptoSaid' is the law's where the arguments, and the package variables that the reading takes, are together of bulk at most 1048576: NARROWER than '..Said'. Prove '..Said' where nothing that the law and all that it calls make is longer than what came in: it says more and counts as full. Else prove '..UptoSaid'. A law counts once. -/
mutual
def uptoBulk {H : Type} : DataW H → Nat
  | .lit (.string bytes) => bytes.length + 1
  | .lit _ => 1
  | .nil => 1
  | .ptr d => uptoBulk d + 1
  | .slice elems spare => uptoBulkAll elems + uptoBulkAll spare + 1
  | .agg parts => uptoBulkAll parts + 1
  | .iface _ d => uptoBulk d + 1
  | .map entries => uptoBulkEntries entries + 1
  | .held _ => 1
def uptoBulkAll {H : Type} : List (DataW H) → Nat
  | [] => 0
  | d :: r => uptoBulk d + uptoBulkAll r
def uptoBulkEntries {H : Type} : List (Lit × DataW H) → Nat
  | [] => 0
  | x :: r => uptoBulkEntry x + uptoBulkEntries r
def uptoBulkEntry {H : Type} : Lit × DataW H → Nat
  | (.string bytes, d) => bytes.length + uptoBulk d + 1
  | (_, d) => uptoBulk d + 1
 end
def uptoSmall : (H : Type) → List (DataW H) → Bool := fun _ ds => decide (uptoBulkAll ds ≤ 1048576)
def OpenSpec.upto (s : _root_.Go.ChangeSpec) : _root_.Go.OpenSpec := { _root_.Go.OpenSpec.ofChange s with cond := some uptoSmall }

/-- 'gimballaw10.DbmMakes', WHERE WHAT IT READS IS OF BULK AT MOST 1048576: true; the input reads as it did. -/
def dbmMakesUptoRow : OpenClaim := { program := "ytklignhpkojmhaa", sum := "4c152b24a986e0d33118228081640fd88acaafdef62dda39d0d60f0c8bfdbe79", func := "gimbal/gimballaw10.DbmMakes", spec := "dbmMakes", apart := false, narrowed := true }
def DbmMakesUptoSaid : Prop := dbmMakesUptoRow.holds Try.pinned (OpenSpec.upto dbmMakesSpec)

/-- 'gimballaw10.DbmSets', WHERE WHAT IT READS IS OF BULK AT MOST 1048576: true; the input reads as it did. -/
def dbmSetsUptoRow : OpenClaim := { program := "ytklignhpkojmhaa", sum := "4c152b24a986e0d33118228081640fd88acaafdef62dda39d0d60f0c8bfdbe79", func := "gimbal/gimballaw10.DbmSets", spec := "dbmSets", unfollowed := true, recurses := true, apart := false, narrowed := true }
def DbmSetsUptoSaid : Prop := dbmSetsUptoRow.holds Try.pinned (OpenSpec.upto dbmSetsSpec)

/-- 'gimballaw10.DbmCloses', WHERE WHAT IT READS IS OF BULK AT MOST 1048576: true; the input reads as it did. -/
def dbmClosesUptoRow : OpenClaim := { program := "ytklignhpkojmhaa", sum := "4c152b24a986e0d33118228081640fd88acaafdef62dda39d0d60f0c8bfdbe79", func := "gimbal/gimballaw10.DbmCloses", spec := "dbmCloses", unfollowed := true, recurses := true, apart := false, narrowed := true }
def DbmClosesUptoSaid : Prop := dbmClosesUptoRow.holds Try.pinned (OpenSpec.upto dbmClosesSpec)

/-- 'gimballaw10.DbmKeeps', WHERE WHAT IT READS IS OF BULK AT MOST 1048576: true; the input reads as it did. -/
def dbmKeepsUptoRow : OpenClaim := { program := "ytklignhpkojmhaa", sum := "4c152b24a986e0d33118228081640fd88acaafdef62dda39d0d60f0c8bfdbe79", func := "gimbal/gimballaw10.DbmKeeps", spec := "dbmKeeps", unfollowed := true, recurses := true, apart := false, narrowed := true }
def DbmKeepsUptoSaid : Prop := dbmKeepsUptoRow.holds Try.pinned (OpenSpec.upto dbmKeepsSpec)

/-- 'gimballaw10.DbmMeets', WHERE WHAT IT READS IS OF BULK AT MOST 1048576: true; the input reads as it did. -/
def dbmMeetsUptoRow : OpenClaim := { program := "ytklignhpkojmhaa", sum := "4c152b24a986e0d33118228081640fd88acaafdef62dda39d0d60f0c8bfdbe79", func := "gimbal/gimballaw10.DbmMeets", spec := "dbmMeets", unfollowed := true, recurses := true, apart := false, narrowed := true }
def DbmMeetsUptoSaid : Prop := dbmMeetsUptoRow.holds Try.pinned (OpenSpec.upto dbmMeetsSpec)

/-- 'gimballaw10.DbmGrows', WHERE WHAT IT READS IS OF BULK AT MOST 1048576: true; the input reads as it did. -/
def dbmGrowsUptoRow : OpenClaim := { program := "ytklignhpkojmhaa", sum := "4c152b24a986e0d33118228081640fd88acaafdef62dda39d0d60f0c8bfdbe79", func := "gimbal/gimballaw10.DbmGrows", spec := "dbmGrows", unfollowed := true, recurses := true, apart := false, narrowed := true }
def DbmGrowsUptoSaid : Prop := dbmGrowsUptoRow.holds Try.pinned (OpenSpec.upto dbmGrowsSpec)

/-- 'gimballaw10.DbmTriangles', WHERE WHAT IT READS IS OF BULK AT MOST 1048576: true; the input reads as it did. -/
def dbmTrianglesUptoRow : OpenClaim := { program := "ytklignhpkojmhaa", sum := "4c152b24a986e0d33118228081640fd88acaafdef62dda39d0d60f0c8bfdbe79", func := "gimbal/gimballaw10.DbmTriangles", spec := "dbmTriangles", unfollowed := true, recurses := true, apart := false, narrowed := true }
def DbmTrianglesUptoSaid : Prop := dbmTrianglesUptoRow.holds Try.pinned (OpenSpec.upto dbmTrianglesSpec)

/-- 'gimballaw10.DbmMirrors', WHERE WHAT IT READS IS OF BULK AT MOST 1048576: true; the input reads as it did. -/
def dbmMirrorsUptoRow : OpenClaim := { program := "ytklignhpkojmhaa", sum := "4c152b24a986e0d33118228081640fd88acaafdef62dda39d0d60f0c8bfdbe79", func := "gimbal/gimballaw10.DbmMirrors", spec := "dbmMirrors", unfollowed := true, recurses := true, apart := false, narrowed := true }
def DbmMirrorsUptoSaid : Prop := dbmMirrorsUptoRow.holds Try.pinned (OpenSpec.upto dbmMirrorsSpec)

/-- 'gimballaw10.DbmTells', WHERE WHAT IT READS IS OF BULK AT MOST 1048576: true; the input reads as it did. -/
def dbmTellsUptoRow : OpenClaim := { program := "ytklignhpkojmhaa", sum := "4c152b24a986e0d33118228081640fd88acaafdef62dda39d0d60f0c8bfdbe79", func := "gimbal/gimballaw10.DbmTells", spec := "dbmTells", unfollowed := true, recurses := true, apart := false, narrowed := true }
def DbmTellsUptoSaid : Prop := dbmTellsUptoRow.holds Try.pinned (OpenSpec.upto dbmTellsSpec)

/-- 'gimballaw10.DbmAgain', WHERE WHAT IT READS IS OF BULK AT MOST 1048576: true; the input reads as it did. -/
def dbmAgainUptoRow : OpenClaim := { program := "ytklignhpkojmhaa", sum := "4c152b24a986e0d33118228081640fd88acaafdef62dda39d0d60f0c8bfdbe79", func := "gimbal/gimballaw10.DbmAgain", spec := "dbmAgain", unfollowed := true, recurses := true, apart := false, narrowed := true }
def DbmAgainUptoSaid : Prop := dbmAgainUptoRow.holds Try.pinned (OpenSpec.upto dbmAgainSpec)

end Rows
end Go.Proofs.Ytklignhpkojmhaa
