/- Words for printed walks: what a block, or a row, tells still stands after draws and allocations, found by instances. No conditions. -/
import Derived.Test.YtacdchogjpeffaaDoorWWords
import Derived.Lib.SliceRun
namespace Go.Proofs.YtacdchogjpeffaaDoorW.PrintWords
open Go.RowKit

class WUp (w w' : World) : Prop where
  up : w.heap.size ≤ w'.heap.size ∧ ∀ k, k < w.heap.size → w'.heap[k]? = w.heap[k]?
instance (w : World) : WUp w w := ⟨Nat.le_refl _, fun _ _ => rfl⟩
instance (w w' : World) [h : WUp w w'] : WUp w w'.drew := ⟨h.up.1, fun k hk => h.up.2 k hk⟩
instance (w w' : World) (n : Nat) [h : WUp w w'] : WUp w (w'.drewN n) := ⟨h.up.1, fun k hk => h.up.2 k hk⟩
instance (w w' : World) (o : Obj) [h : WUp w w'] : WUp w (w'.alloc o) := ⟨Nat.le_trans h.up.1 (below_size (below_alloc (Below.refl _ w') o)), fun k hk => (Below.heap_alloc w' o k (Nat.lt_of_lt_of_le hk h.up.1)).trans (h.up.2 k hk)⟩
theorem bU {w w' : World} {g : Nat} {o : Obj} (h : w.heap[g]? = some o) [u : WUp w w'] : w'.heap[g]? = some o := (u.up.2 g (blk_lt h)).trans h
theorem rU {α : Type} {d : Kd α} {e base : Nat} {ok : Nat → Prop} {v : Value} {xs : List α} {w w' : World} (h : d.R e w base ok v xs) [u : WUp w w'] : d.R e w' base ok v xs := Kd.R_step h (fun k _ hk => u.up.2 k hk)
/-- Bools by a number's digits. -/
def bv (n m : Nat) : Array Bool := ((List.range n).map fun i => m.testBit i).toArray
theorem C_none_nil {α : Type} {d : Kd α} {w : World} {l : List α} (h : Kd.C d w none l.length l) : l = [] := by
  cases l with
  | nil => rfl
  | cons x xs =>
    obtain ⟨_, e, _⟩ := h.2.2 (by simp)
    cases e
end Go.Proofs.YtacdchogjpeffaaDoorW.PrintWords
