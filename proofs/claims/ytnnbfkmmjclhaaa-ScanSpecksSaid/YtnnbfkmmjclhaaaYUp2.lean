-- Words for printed walks: what this claim's texts use of them.
import Derived.Test.YtnnbfkmmjclhaaaYUp
namespace Go.Proofs.YtnnbfkmmjclhaaaW.PrintWords
open Go.RowKit
class WUpO (w : outParam World) (w' : World) : Prop where
  up : w.heap.size ≤ w'.heap.size ∧ ∀ k, k < w.heap.size → w'.heap[k]? = w.heap[k]?
instance (w : World) : WUpO w w := ⟨Nat.le_refl _, fun _ _ => rfl⟩
instance (w w' : World) [h : WUpO w w'] : WUpO w w'.drew := ⟨h.up.1, fun k hk => h.up.2 k hk⟩
instance (w w' : World) (n : Nat) [h : WUpO w w'] : WUpO w (w'.drewN n) := ⟨h.up.1, fun k hk => h.up.2 k hk⟩
instance (w w' : World) (o : Obj) [h : WUpO w w'] : WUpO w (w'.alloc o) := ⟨Nat.le_trans h.up.1 (below_size (below_alloc (Below.refl _ w') o)), fun k hk => (Below.heap_alloc w' o k (Nat.lt_of_lt_of_le hk h.up.1)).trans (h.up.2 k hk)⟩
theorem bF {w w' : World} {p : Addr} {v : Value} [u : WUpO (w.setCell p v) w'] {g : Nat} {t : TypeId} {cs : Array Value} (hp : g ≠ p.block) (h : w.heap[g]? = some (.cells cs t (0, 0))) : w'.heap[g]? = some (.cells cs t (0, 0)) :=
  (u.up.2 g (blk_lt (blk_far h hp v))).trans (blk_far h hp v)
end Go.Proofs.YtnnbfkmmjclhaaaW.PrintWords
