-- Words for printed walks: what this claim's texts use of them.
import Derived.Test.YtidgpjcgoocpeaaDoorWInv
import Derived.Test.YtidgpjcgoocpeaaDoorWFootNe
namespace Go.Proofs.YtidgpjcgoocpeaaDoorW.PrintWords
open Go.RowKit
end Go.Proofs.YtidgpjcgoocpeaaDoorW.PrintWords
namespace Go.Proofs.YtidgpjcgoocpeaaDoorW.PrintLast
section
variable {ops : Array Oper} {a : Act} {o og : Oper} {g : Nat} {t : Tmp} {u : Bool}
end
end Go.Proofs.YtidgpjcgoocpeaaDoorW.PrintLast
