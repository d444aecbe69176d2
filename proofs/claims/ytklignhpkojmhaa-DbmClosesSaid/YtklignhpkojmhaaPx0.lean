-- PRINTED by print.py (a twelfth state) out of the translation. Not trusted: Lean checks it.
import Derived.Test.YtklignhpkojmhaaProg
import Derived.Below
import Derived.Deep.Draws
import Derived.Deep.AppendLies
import Derived.Maps.AppendAt
import Derived.OwnWalk
import Derived.Laws.BytesArg
import Derived.Laws.MakeOwn
import Derived.Laws.OwnMore
import Derived.Deep.OwnRows
import Derived.Tactics
import Derived.Lib.ConvBytes
import Derived.Laws.Slices
import Derived.WalkKit
import Derived.KernelRfl
import Derived.RowKit3
import Derived.Deep.LoopGhost
import Derived.Deep.QuietTactic
import Derived.BigQuiet
import Derived.WideLaws
import Derived.Deep.DeepCutAuto
import Derived.Deep.CutBlock
import Derived.Deep.RegionHeld3
import Derived.Laws.Rows
import Derived.Lib.AppendStr
import Derived.ArgAppend
import Derived.Laws.IdiomCopy
import Derived.OrdersHeld
import Derived.Laws.BitsLemmas
import Derived.RowKit
import Derived.Test.YtklignhpkojmhaaO
import Derived.Test.YtklignhpkojmhaaWWords
import Derived.Test.YtklignhpkojmhaaWLast
import Derived.Test.YtklignhpkojmhaaWTab
import Derived.Test.YtklignhpkojmhaaWFour
import Derived.Test.YtklignhpkojmhaaWQPut
import Derived.Test.YtklignhpkojmhaaWApart
import Derived.Test.YtklignhpkojmhaaWArr
import Derived.Test.YtklignhpkojmhaaWZeros
import Derived.Test.YtklignhpkojmhaaWFoot
import Derived.Test.YtklignhpkojmhaaWKept
import Derived.Test.YtklignhpkojmhaaWShare
import Derived.Test.YtklignhpkojmhaaWN
import Derived.Test.YtklignhpkojmhaaWFootNe
import Derived.Test.YtklignhpkojmhaaWAt
import Derived.Test.YtklignhpkojmhaaWEqStruct
import Derived.Test.YtklignhpkojmhaaWRepsOne
import Derived.Test.YtklignhpkojmhaaWInv
import Derived.Test.YtklignhpkojmhaaWInvWords
import Derived.Test.YtklignhpkojmhaaWGuard
import Derived.Test.YtklignhpkojmhaaWNEv
import Derived.Test.YtklignhpkojmhaaWMore
namespace Go.Proofs.Ytklignhpkojmhaa.P
open Go.RowKit Go.Proofs.YtklignhpkojmhaaW.PrintWords Go.Proofs.YtklignhpkojmhaaW.PrintLast Go.Proofs.YtklignhpkojmhaaW.PrintMore Go.Proofs.YtklignhpkojmhaaO
attribute [local go_sem] max2_int min2_int max_two min_two max_three min_three max_four min_four   -- for this text's walks alone
set_option linter.unusedVariables false
set_option linter.unusedSimpArgs false



def errW : Option Int → Value
  | none => .nilIface
  | some c => .iface 0 (.int .i64 c)
theorem errW_none : errW none = .nilIface := rfl
theorem errW_some (c : Int) : errW (some c) = .iface 0 (.int .i64 c) := rfl

theorem info2 : (Try.prog.info? 2).map (fun i => (i.zero, i.size, i.bytes)) = some (some (.int .i64 0), 1, 8) := by kernel_rfl
-- the values' own types

end Go.Proofs.Ytklignhpkojmhaa.P
