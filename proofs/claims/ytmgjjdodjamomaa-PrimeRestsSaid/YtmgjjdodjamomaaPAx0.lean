/- Printed by a turned copy of the print (wip/tools/turnprint.py): functions with the same answers as the Go code, and the proofs of that. -/
import Derived.Test.YtmgjjdodjamomaaProg
import Derived.Below
import Derived.Deep.Draws
import Derived.Deep.AppendLies
import Derived.Maps.AppendAt
import Derived.OwnWalk
import Derived.Laws.BytesArg
import Derived.Laws.MakeOwn
import Derived.Laws.OwnMore
import Derived.Deep.OwnRows
import Derived.Tactics
import Derived.Lib.ConvBytes
import Derived.Laws.Slices
import Derived.WalkKit
import Derived.KernelRfl
import Derived.RowKit3
import Derived.Deep.LoopGhost
import Derived.Deep.QuietTactic
import Derived.BigQuiet
import Derived.WideLaws
import Derived.Deep.DeepCutAuto
import Derived.Deep.CutBlock
import Derived.Deep.RegionHeld3
import Derived.Laws.Rows
import Derived.Lib.AppendStr
import Derived.ArgAppend
import Derived.Laws.IdiomCopy
import Derived.OrdersHeld
import Derived.Laws.BitsLemmas
import Derived.RowKit
import Derived.Test.YtmgjjdodjamomaaWWords
import Derived.Test.YtmgjjdodjamomaaWLast
import Derived.Test.YtmgjjdodjamomaaWTab
import Derived.Test.YtmgjjdodjamomaaWFour
import Derived.Test.YtmgjjdodjamomaaWQPut
import Derived.Test.YtmgjjdodjamomaaWApart
import Derived.Test.YtmgjjdodjamomaaWArr
import Derived.Test.YtmgjjdodjamomaaWZeros
import Derived.Test.YtmgjjdodjamomaaWFoot
import Derived.Test.YtmgjjdodjamomaaWKept
import Derived.Test.YtmgjjdodjamomaaWShare
import Derived.Test.YtmgjjdodjamomaaWN
import Derived.Test.YtmgjjdodjamomaaWFootNe
import Derived.Test.YtmgjjdodjamomaaWAt
import Derived.Test.YtmgjjdodjamomaaWEqStruct
import Derived.Test.YtmgjjdodjamomaaWRepsOne
import Derived.Test.YtmgjjdodjamomaaWInv
import Derived.Test.YtmgjjdodjamomaaWInvWords
import Derived.Test.YtmgjjdodjamomaaWGuard
import Derived.Test.YtmgjjdodjamomaaWNEv
import Derived.Test.YtmgjjdodjamomaaWMore
namespace Go.Proofs.Ytmgjjdodjamomaa.PA
open Go.RowKit Go.Proofs.YtmgjjdodjamomaaW.PrintWords Go.Proofs.YtmgjjdodjamomaaW.PrintLast Go.Proofs.YtmgjjdodjamomaaW.PrintMore
attribute [local go_sem] max2_int min2_int max_two min_two max_three min_three max_four min_four   -- for this text's walks alone
set_option linter.unusedVariables false
set_option linter.unusedSimpArgs false



def errW : Option Int → Value
  | none => .nilIface
  | some c => .iface 0 (.int .i64 c)
theorem errW_none : errW none = .nilIface := rfl
theorem errW_some (c : Int) : errW (some c) = .iface 0 (.int .i64 c) := rfl

theorem info59 : (Try.prog.info? 59).map (fun i => (i.zero, i.size, i.bytes)) = some (some (.int .u32 0), 1, 4) := by kernel_rfl
-- the values' own types

end Go.Proofs.Ytmgjjdodjamomaa.PA
