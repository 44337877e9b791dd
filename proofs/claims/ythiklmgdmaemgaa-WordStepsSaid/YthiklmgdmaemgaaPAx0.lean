/- Go functions of this seat told as plain Lean functions, each with the proof that its call comes to just what it tells, and the rows over them; written by a program (wip/tools/xprint.sh). No condition beyond those that each text names. -/
import Derived.Test.YthiklmgdmaemgaaProg
import Derived.Below
import Derived.Deep.Draws
import Derived.Deep.AppendLies
import Derived.Maps.AppendAt
import Derived.OwnWalk
import Derived.Laws.BytesArg
import Derived.Laws.MakeOwn
import Derived.Laws.OwnMore
import Derived.Deep.OwnRows
import Derived.Tactics
import Derived.Lib.ConvBytes
import Derived.Laws.Slices
import Derived.WalkKit
import Derived.KernelRfl
import Derived.RowKit3
import Derived.Deep.LoopGhost
import Derived.Deep.QuietTactic
import Derived.BigQuiet
import Derived.WideLaws
import Derived.Deep.DeepCutAuto
import Derived.Deep.CutBlock
import Derived.Deep.RegionHeld3
import Derived.Laws.Rows
import Derived.Lib.AppendStr
import Derived.ArgAppend
import Derived.Laws.IdiomCopy
import Derived.OrdersHeld
import Derived.Laws.BitsLemmas
import Derived.RowKit
import Derived.Test.YthiklmgdmaemgaaWWords
import Derived.Test.YthiklmgdmaemgaaWLast
import Derived.Test.YthiklmgdmaemgaaWTab
import Derived.Test.YthiklmgdmaemgaaWFour
import Derived.Test.YthiklmgdmaemgaaWQPut
import Derived.Test.YthiklmgdmaemgaaWApart
import Derived.Test.YthiklmgdmaemgaaWArr
import Derived.Test.YthiklmgdmaemgaaWZeros
import Derived.Test.YthiklmgdmaemgaaWFoot
import Derived.Test.YthiklmgdmaemgaaWKept
import Derived.Test.YthiklmgdmaemgaaWShare
import Derived.Test.YthiklmgdmaemgaaWN
import Derived.Test.YthiklmgdmaemgaaWFootNe
import Derived.Test.YthiklmgdmaemgaaWAt
import Derived.Test.YthiklmgdmaemgaaWEqStruct
import Derived.Test.YthiklmgdmaemgaaWRepsOne
import Derived.Test.YthiklmgdmaemgaaWInv
import Derived.Test.YthiklmgdmaemgaaWInvWords
import Derived.Test.YthiklmgdmaemgaaWGuard
import Derived.Test.YthiklmgdmaemgaaWNEv
import Derived.Test.YthiklmgdmaemgaaWMore
import Derived.Test.YthiklmgdmaemgaaWFv
namespace Go.Proofs.Ythiklmgdmaemgaa.PA
open Go.RowKit Go.Proofs.YthiklmgdmaemgaaW.PrintWords Go.Proofs.YthiklmgdmaemgaaW.PrintLast Go.Proofs.YthiklmgdmaemgaaW.PrintMore
attribute [local go_sem] max2_int min2_int max_two min_two max_three min_three max_four min_four   -- for this text's walks alone
set_option linter.unusedVariables false
set_option linter.unusedSimpArgs false



def errW : Option Int → Value
  | none => .nilIface
  | some c => .iface 0 (.int .i64 c)
theorem errW_none : errW none = .nilIface := rfl
theorem errW_some (c : Int) : errW (some c) = .iface 0 (.int .i64 c) := rfl

theorem info23 : (Try.prog.info? 23).map (fun i => (i.zero, i.size, i.bytes)) = some (some (.int .u64 0), 1, 8) := by kernel_rfl
-- the values' own types

end Go.Proofs.Ythiklmgdmaemgaa.PA
