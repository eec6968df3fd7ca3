-- Words for printed walks: what this claim's texts use of them.
import Derived.Test.YtnnbfkmmjclhaaaYUp
namespace Go.Proofs.YtnnbfkmmjclhaaaW.PrintWords
open Go.RowKit
class WOff (g : Nat) (w w' : World) : Prop where
  off : w.heap.size ≤ w'.heap.size ∧ ∀ k, k < w.heap.size → k ≠ g → w'.heap[k]? = w.heap[k]?
instance (g : Nat) (w : World) : WOff g w w := ⟨Nat.le_refl _, fun _ _ _ => rfl⟩
instance (g : Nat) (w w' : World) [h : WOff g w w'] : WOff g w w'.drew := ⟨h.off.1, fun k hk hn => h.off.2 k hk hn⟩
instance (g : Nat) (w w' : World) (n : Nat) [h : WOff g w w'] : WOff g w (w'.drewN n) := ⟨h.off.1, fun k hk hn => h.off.2 k hk hn⟩
instance (g : Nat) (w w' : World) (o : Obj) [h : WOff g w w'] : WOff g w (w'.alloc o) := ⟨Nat.le_trans h.off.1 (below_size (below_alloc (Below.refl _ w') o)), fun k hk hn => (Below.heap_alloc w' o k (Nat.lt_of_lt_of_le hk h.off.1)).trans (h.off.2 k hk hn)⟩
instance (g j : Nat) (w w' : World) (v : Value) [h : WOff g w w'] : WOff g w (w'.setCell ⟨g, j, none⟩ v) := ⟨by simpa [World.setCell] using h.off.1, fun k hk hn => (Below.heap_setCell w' ⟨g, j, none⟩ v k hn).trans (h.off.2 k hk hn)⟩
end Go.Proofs.YtnnbfkmmjclhaaaW.PrintWords
