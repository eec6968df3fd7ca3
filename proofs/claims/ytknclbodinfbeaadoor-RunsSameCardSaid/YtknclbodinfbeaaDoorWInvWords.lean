-- Words for printed walks: what this claim's texts use of them.
import Derived.Test.YtknclbodinfbeaaDoorWInv
import Derived.Test.YtknclbodinfbeaaDoorWFootNe
namespace Go.Proofs.YtknclbodinfbeaaDoorW.PrintWords
open Go.RowKit
end Go.Proofs.YtknclbodinfbeaaDoorW.PrintWords
namespace Go.Proofs.YtknclbodinfbeaaDoorW.PrintLast
section
variable {ops : Array Oper} {a : Act} {o og : Oper} {g : Nat} {t : Tmp} {u : Bool}
end
end Go.Proofs.YtknclbodinfbeaaDoorW.PrintLast
