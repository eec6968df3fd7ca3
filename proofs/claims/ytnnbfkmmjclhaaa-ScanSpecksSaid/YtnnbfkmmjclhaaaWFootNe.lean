-- Words for printed walks: what this claim's texts use of them.
import Derived.Test.YtnnbfkmmjclhaaaWN
namespace Go.Proofs.YtnnbfkmmjclhaaaW.PrintWords
open Go.RowKit
namespace Kd
section
variable {α : Type} {d : Kd α} {W : World} {g n : Nat} {S ok : Nat → Prop} {A : Option Addr} {ad : Addr} {xs : List α}
end
end Kd
end Go.Proofs.YtnnbfkmmjclhaaaW.PrintWords
