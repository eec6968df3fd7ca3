-- Written by a program of this session (wip/tools/myprint.py) over the kit's print. Not trusted: Lean checks it.
import Derived.Test.YtgcjhpcegmblgaaDoorProg
import Derived.Below
import Derived.Deep.Draws
import Derived.Deep.AppendLies
import Derived.Maps.AppendAt
import Derived.OwnWalk
import Derived.Laws.BytesArg
import Derived.Laws.MakeOwn
import Derived.Laws.OwnMore
import Derived.Deep.OwnRows
import Derived.Tactics
import Derived.Lib.ConvBytes
import Derived.Laws.Slices
import Derived.WalkKit
import Derived.KernelRfl
import Derived.RowKit3
import Derived.Deep.LoopGhost
import Derived.Deep.QuietTactic
import Derived.BigQuiet
import Derived.WideLaws
import Derived.Deep.DeepCutAuto
import Derived.Deep.CutBlock
import Derived.Deep.RegionHeld3
import Derived.Laws.Rows
import Derived.Lib.AppendStr
import Derived.ArgAppend
import Derived.Laws.IdiomCopy
import Derived.OrdersHeld
import Derived.Laws.BitsLemmas
import Derived.RowKit
import Derived.Test.YtgcjhpcegmblgaaDoorWWords
import Derived.Test.YtgcjhpcegmblgaaDoorWLast
import Derived.Test.YtgcjhpcegmblgaaDoorWTab
import Derived.Test.YtgcjhpcegmblgaaDoorWFour
import Derived.Test.YtgcjhpcegmblgaaDoorWQPut
import Derived.Test.YtgcjhpcegmblgaaDoorWApart
import Derived.Test.YtgcjhpcegmblgaaDoorWArr
import Derived.Test.YtgcjhpcegmblgaaDoorWZeros
import Derived.Test.YtgcjhpcegmblgaaDoorWFoot
import Derived.Test.YtgcjhpcegmblgaaDoorWKept
import Derived.Test.YtgcjhpcegmblgaaDoorWShare
import Derived.Test.YtgcjhpcegmblgaaDoorWN
import Derived.Test.YtgcjhpcegmblgaaDoorWFootNe
import Derived.Test.YtgcjhpcegmblgaaDoorWAt
import Derived.Test.YtgcjhpcegmblgaaDoorWEqStruct
import Derived.Test.YtgcjhpcegmblgaaDoorWRepsOne
import Derived.Test.YtgcjhpcegmblgaaDoorWInv
import Derived.Test.YtgcjhpcegmblgaaDoorWInvWords
import Derived.Test.YtgcjhpcegmblgaaDoorWGuard
import Derived.Test.YtgcjhpcegmblgaaDoorWNEv
import Derived.Test.YtgcjhpcegmblgaaDoorWMore
import Derived.Test.YtgcjhpcegmblgaaDoorYUp
import Derived.Test.YtgcjhpcegmblgaaDoorYShort
import Derived.Test.YtgcjhpcegmblgaaDoorYLays
namespace Go.Proofs.YtgcjhpcegmblgaaDoor.PBitmapParses
open Go.RowKit Go.Proofs.YtgcjhpcegmblgaaDoorW.PrintWords Go.Proofs.YtgcjhpcegmblgaaDoorW.PrintLast Go.Proofs.YtgcjhpcegmblgaaDoorW.PrintMore
attribute [local go_sem] max2_int min2_int max_two min_two max_three min_three max_four min_four   -- for this text's walks alone
set_option linter.unusedVariables false
set_option linter.unusedSimpArgs false



def errW : Option Int → Value
 | none => .nilIface
 | some c => .iface 0 (.int .i64 c)
theorem errW_none : errW none = .nilIface := rfl
theorem errW_some (c : Int) : errW (some c) = .iface 0 (.int .i64 c) := rfl

theorem info5 : (Tryd.prog.info? 5).map (fun i => (i.zero, i.size, i.bytes)) = some (some (.int .u8 0), 1, 1) := by kernel_rfl
-- the values' own types

end Go.Proofs.YtgcjhpcegmblgaaDoor.PBitmapParses
