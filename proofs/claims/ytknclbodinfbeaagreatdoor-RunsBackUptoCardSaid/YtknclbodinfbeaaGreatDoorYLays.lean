-- Words for printed walks: what this claim's texts use of them.
import Derived.Test.YtknclbodinfbeaaGreatDoorProg
import Derived.Test.YtknclbodinfbeaaGreatDoorYShort
import Derived.Shelf.Strconv.Itoa3
import Derived.Lib.AppendIntMem
import Derived.KernelRfl
namespace Go.Proofs.YtknclbodinfbeaaGreatDoor
open Go.Shelf Go.RowKit Go.Sort Go.Lib Go.Proofs.YtknclbodinfbeaaGreatDoorW.PrintWords
set_option maxRecDepth 1000000
def renItoa : Go.Shelf.Ren := ⟨fun n => match n with | 129 => 101 | 171 => 33 | 243 => 54 | 246 => 78 | 283 => 92 | 284 => 93 | 285 => 94 | 286 => 95 | 317 => 100 | 318 => 102 | 319 => 103 | 320 => 104 | 337 => 105 | 338 => 106 | n => n, fun n => match n with | 0 => 0 | 2 => 2 | 3 => 3 | 4 => 4 | 5 => 5 | 9 => 9 | 20 => 20 | 37 => 22 | 46 => 112 | 51 => 132 | 53 => 135 | 171 => 143 | 173 => 146 | 212 => 151 | 213 => 152 | 232 => 156 | 233 => 157 | n => n, fun n => match n with | 17 => 0 | 18 => 1 | 19 => 2 | n => n⟩
set_option maxHeartbeats 4000000 in
theorem lays171 : Lays.n171 Tryz.prog renItoa := by
  constructor
  all_goals first | kernel_rfl | (intro w; kernel_rfl) | (intro w; rfl)
set_option maxHeartbeats 4000000 in
theorem laysM171 : LaysM.n171 Tryz.prog renItoa := by
  apply LaysM.n171.mk lays171 <;> kernel_rfl
def TIs (w : World) : Prop := TabIs Tryz.prog w "internal/strconv.uint64pow10" .u64 pow10Tab
theorem TIs.on {w W : World} (h : Aside0 (TIs w)) (hB : Below w.heap.size w W := by exact bl) : TIs W := ((tabBelow_of_tabIs h.out).on hB).here
theorem itoa_calls (n : Int) (h0 : -9223372036854775808 ≤ n) (h1 : n ≤ 9223372036854775807) (w : World) (ht : TIs w) :
    Calls Tryz.prog 33 #[.int .i64 n] w fun e w' => e = .returned (.string ⟨(itoa n).toArray⟩) ∧ Below w.heap.size w w' := by
  refine (Any.strconv_Itoa laysM171 n h0 h1 w ht).mono ?_
  rintro e w' ⟨rfl, k, os, rfl⟩
  exact ⟨rfl, below_grow _ w (Nat.le_refl _) k os⟩
def itz (n : Int) : List UInt8 := if -9 ≤ n then (if n ≤ 9 then (if n < 0 then [45, UInt8.ofNat (48 + n.natAbs)] else [UInt8.ofNat (48 + n.toNat)]) else itoa n) else itoa n
theorem itz_eq (n : Int) : itz n = itoa n := by
  unfold itz
  split
  · split
    · unfold itoa
      split
      · rw [decDigits_one (by omega)]
      · rw [decDigits_one (by omega)]
    · rfl
  · rfl
end Go.Proofs.YtknclbodinfbeaaGreatDoor
