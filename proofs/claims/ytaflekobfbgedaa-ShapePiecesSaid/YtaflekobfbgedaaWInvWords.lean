-- Words for printed walks: what this claim's texts use of them.
import Derived.Test.YtaflekobfbgedaaWInv
import Derived.Test.YtaflekobfbgedaaWFootNe
namespace Go.Proofs.YtaflekobfbgedaaW.PrintWords
open Go.RowKit
end Go.Proofs.YtaflekobfbgedaaW.PrintWords
namespace Go.Proofs.YtaflekobfbgedaaW.PrintLast
section
variable {ops : Array Oper} {a : Act} {o og : Oper} {g : Nat} {t : Tmp} {u : Bool}
end
end Go.Proofs.YtaflekobfbgedaaW.PrintLast
