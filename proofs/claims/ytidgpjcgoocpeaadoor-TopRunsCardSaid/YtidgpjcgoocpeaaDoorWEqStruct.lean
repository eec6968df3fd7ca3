-- Words for printed walks: what this claim's texts use of them.
import Derived.Test.YtidgpjcgoocpeaaDoorWWords
import Derived.Laws.StructEq
namespace Go.Proofs.YtidgpjcgoocpeaaDoorW.PrintWords
open Go.RowKit
section
variable {P : Program} {d : Nat} {xs ys : Array Value} {f : Field} {fs : List Field} {a b : Value} {r s : Bool} {w : World}
end
end Go.Proofs.YtidgpjcgoocpeaaDoorW.PrintWords
