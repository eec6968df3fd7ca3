-- Words for printed walks: what this claim's texts use of them.
import Derived.Test.YtidgpjcgoocpeaaDoorWTab
namespace Go.Proofs.YtidgpjcgoocpeaaDoorW.PrintLast
section
variable {P : Program} {ops : Array Oper} {Q : Exit → Act → World → Prop} {md : Region.Mode} {S : World → Prop} {ds : List Nat} {T : Bool × List (List Nat × List Nat)}
end
end Go.Proofs.YtidgpjcgoocpeaaDoorW.PrintLast
