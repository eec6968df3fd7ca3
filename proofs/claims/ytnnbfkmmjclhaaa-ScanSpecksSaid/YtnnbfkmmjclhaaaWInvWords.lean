-- Words for printed walks: what this claim's texts use of them.
import Derived.Test.YtnnbfkmmjclhaaaWInv
import Derived.Test.YtnnbfkmmjclhaaaWFootNe
namespace Go.Proofs.YtnnbfkmmjclhaaaW.PrintWords
open Go.RowKit
end Go.Proofs.YtnnbfkmmjclhaaaW.PrintWords
namespace Go.Proofs.YtnnbfkmmjclhaaaW.PrintLast
section
variable {ops : Array Oper} {a : Act} {o og : Oper} {g : Nat} {t : Tmp} {u : Bool}
end
end Go.Proofs.YtnnbfkmmjclhaaaW.PrintLast
