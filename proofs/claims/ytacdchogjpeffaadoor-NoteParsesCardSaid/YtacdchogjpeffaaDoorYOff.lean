/- Words for printed walks: a row of numbers that is read still reads so behind stores into a variable in memory that holds no such number. No conditions. -/
import Derived.Test.YtacdchogjpeffaaDoorYUp
namespace Go.Proofs.YtacdchogjpeffaaDoorW.PrintWords
open Go.RowKit
class WOff (g : Nat) (w w' : World) : Prop where
  off : w.heap.size ≤ w'.heap.size ∧ ∀ k, k < w.heap.size → k ≠ g → w'.heap[k]? = w.heap[k]?
instance (g : Nat) (w : World) : WOff g w w := ⟨Nat.le_refl _, fun _ _ _ => rfl⟩
instance (g : Nat) (w w' : World) [h : WOff g w w'] : WOff g w w'.drew := ⟨h.off.1, fun k hk hn => h.off.2 k hk hn⟩
instance (g : Nat) (w w' : World) (n : Nat) [h : WOff g w w'] : WOff g w (w'.drewN n) := ⟨h.off.1, fun k hk hn => h.off.2 k hk hn⟩
instance (g : Nat) (w w' : World) (o : Obj) [h : WOff g w w'] : WOff g w (w'.alloc o) := ⟨Nat.le_trans h.off.1 (below_size (below_alloc (Below.refl _ w') o)), fun k hk hn => (Below.heap_alloc w' o k (Nat.lt_of_lt_of_le hk h.off.1)).trans (h.off.2 k hk hn)⟩
instance (g j : Nat) (w w' : World) (v : Value) [h : WOff g w w'] : WOff g w (w'.setCell ⟨g, j, none⟩ v) := ⟨by simpa [World.setCell] using h.off.1, fun k hk hn => (Below.heap_setCell w' ⟨g, j, none⟩ v k hn).trans (h.off.2 k hk hn)⟩
def noInt (k : IntKind) (cs : Array Value) : Bool := cs.toList.all fun v => match v with
  | .int j _ => j != k
  | _ => true
theorem cO {k : IntKind} {w w' : World} {g : Nat} {t : TypeId} {cs : Array Value} {A : Option Addr} {n : Nat} {xs : List Int} (hb : w.heap[g]? = some (.cells cs t (0, 0))) (hn : noInt k cs = true) (h : (Kd.int k).C w A n xs) [u : WOff g w w'] : (Kd.int k).C w' A n xs := by
  have hr := Kd.reads_of_C (enc := Value.int k) (d := (0 : Int)) (h1 := fun _ => rfl) h
  refine Kd.C_of_reads (h1 := fun _ => rfl) (d := (0 : Int)) ⟨hr.1, hr.2.1, fun hp => ?_⟩
  obtain ⟨ad, e, hc⟩ := hr.2.2 hp
  refine ⟨ad, e, fun j hj => ?_⟩
  have h1 := hc j hj
  have hlt := World.block_lt_of_cell? w _ h1
  have hne : (ad.add j).block ≠ g := by
    intro he
    have h2 := h1
    simp only [World.cell?, he, hb] at h2
    split at h2
    · cases h2
    obtain ⟨hi, h3⟩ := Array.getElem?_eq_some_iff.1 h2
    have h4 := List.all_eq_true.1 hn (Value.int k (xs.getD j 0)) (by rw [← h3, ← Array.getElem_toList hi]; exact List.getElem_mem _)
    simp at h4
  have h5 := u.off.2 _ hlt hne
  rw [← h1]
  simp only [World.cell?, h5]
end Go.Proofs.YtacdchogjpeffaaDoorW.PrintWords
