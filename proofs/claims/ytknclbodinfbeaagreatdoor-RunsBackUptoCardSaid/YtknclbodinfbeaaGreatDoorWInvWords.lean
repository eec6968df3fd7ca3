-- Words for printed walks: what this claim's texts use of them.
import Derived.Test.YtknclbodinfbeaaGreatDoorWInv
import Derived.Test.YtknclbodinfbeaaGreatDoorWFootNe
namespace Go.Proofs.YtknclbodinfbeaaGreatDoorW.PrintWords
open Go.RowKit
end Go.Proofs.YtknclbodinfbeaaGreatDoorW.PrintWords
namespace Go.Proofs.YtknclbodinfbeaaGreatDoorW.PrintLast
section
variable {ops : Array Oper} {a : Act} {o og : Oper} {g : Nat} {t : Tmp} {u : Bool}
end
end Go.Proofs.YtknclbodinfbeaaGreatDoorW.PrintLast
