-- Words for printed walks: what this claim's texts use of them.
import Derived.Test.YtaflekobfbgedaaWMore
import Derived.Test.YtaflekobfbgedaaWShare
namespace Go.Proofs.YtaflekobfbgedaaW.PrintWords
open Go.RowKit
namespace Kd
theorem V_of_C {α : Type} {d : Kd α} {e base : Nat} {w : World} {A : Option Addr} {c : Nat} {l : List α} (hh : ∀ W1 W2 : World, W1.heap = W2.heap → d.C W1 A l.length l → d.C W2 A l.length l)
    (hr : d.C w A l.length l) (hc : l.length ≤ c) : d.V e w base (fun _ => True) (.slice A l.length c) l := by
  refine V_mk hc (fun W' hW => ?_)
  refine hh { w with heap := W'.heap } W' rfl (C_below hr ⟨rfl, rfl, rfl, ?_, fun k hk => hW k trivial hk⟩)
  rcases Nat.eq_zero_or_pos w.heap.size with h0 | h0
  · rw [h0]; exact Nat.zero_le _
  · have h1 := heap_lt (hW (w.heap.size - 1) trivial (by omega)) (by omega)
    show w.heap.size ≤ W'.heap.size
    omega
end Kd
end Go.Proofs.YtaflekobfbgedaaW.PrintWords
