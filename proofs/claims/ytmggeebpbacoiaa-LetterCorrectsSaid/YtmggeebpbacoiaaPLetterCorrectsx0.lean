-- Written by a program of this session (wip/tools/myprint.py) over the kit's print. Not trusted: Lean checks it.
import Derived.Test.YtmggeebpbacoiaaProg
import Derived.Below
import Derived.Deep.Draws
import Derived.Deep.AppendLies
import Derived.Maps.AppendAt
import Derived.OwnWalk
import Derived.Laws.BytesArg
import Derived.Laws.MakeOwn
import Derived.Laws.OwnMore
import Derived.Deep.OwnRows
import Derived.Tactics
import Derived.Lib.ConvBytes
import Derived.Laws.Slices
import Derived.WalkKit
import Derived.KernelRfl
import Derived.RowKit3
import Derived.Deep.LoopGhost
import Derived.Deep.QuietTactic
import Derived.BigQuiet
import Derived.WideLaws
import Derived.Deep.DeepCutAuto
import Derived.Deep.CutBlock
import Derived.Deep.RegionHeld3
import Derived.Laws.Rows
import Derived.Lib.AppendStr
import Derived.ArgAppend
import Derived.Laws.IdiomCopy
import Derived.OrdersHeld
import Derived.Laws.BitsLemmas
import Derived.RowKit
import Derived.Test.YtmggeebpbacoiaaWWords
import Derived.Test.YtmggeebpbacoiaaWLast
import Derived.Test.YtmggeebpbacoiaaWTab
import Derived.Test.YtmggeebpbacoiaaWFour
import Derived.Test.YtmggeebpbacoiaaWQPut
import Derived.Test.YtmggeebpbacoiaaWApart
import Derived.Test.YtmggeebpbacoiaaWArr
import Derived.Test.YtmggeebpbacoiaaWZeros
import Derived.Test.YtmggeebpbacoiaaWFoot
import Derived.Test.YtmggeebpbacoiaaWKept
import Derived.Test.YtmggeebpbacoiaaWShare
import Derived.Test.YtmggeebpbacoiaaWN
import Derived.Test.YtmggeebpbacoiaaWFootNe
import Derived.Test.YtmggeebpbacoiaaWAt
import Derived.Test.YtmggeebpbacoiaaWEqStruct
import Derived.Test.YtmggeebpbacoiaaWRepsOne
import Derived.Test.YtmggeebpbacoiaaWInv
import Derived.Test.YtmggeebpbacoiaaWInvWords
import Derived.Test.YtmggeebpbacoiaaWGuard
import Derived.Test.YtmggeebpbacoiaaWNEv
import Derived.Test.YtmggeebpbacoiaaWMore
import Derived.Test.YtmggeebpbacoiaaYUp
import Derived.Test.YtmggeebpbacoiaaYVal
namespace Go.Proofs.Ytmggeebpbacoiaa.PLetterCorrects
open Go.RowKit Go.Proofs.YtmggeebpbacoiaaW.PrintWords Go.Proofs.YtmggeebpbacoiaaW.PrintLast Go.Proofs.YtmggeebpbacoiaaW.PrintMore
attribute [local go_sem] max2_int min2_int max_two min_two max_three min_three max_four min_four   -- for this text's walks alone
set_option linter.unusedVariables false
set_option linter.unusedSimpArgs false



def errW : Option Int → Value
  | none => .nilIface
  | some c => .iface 0 (.int .i64 c)
theorem errW_none : errW none = .nilIface := rfl
theorem errW_some (c : Int) : errW (some c) = .iface 0 (.int .i64 c) := rfl

theorem info3 : (Try.prog.info? 3).map (fun i => (i.zero, i.size, i.bytes)) = some (some (.int .i64 0), 1, 8) := by kernel_rfl
-- the values' own types

end Go.Proofs.Ytmggeebpbacoiaa.PLetterCorrects
