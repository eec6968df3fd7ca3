-- Words for printed walks: what this claim's texts use of them.
import Derived.Test.YtidgpjcgoocpeaaDoorProg
import Derived.Test.YtidgpjcgoocpeaaDoorYShort
import Derived.Shelf.Strconv.Itoa3
import Derived.Lib.AppendIntMem
import Derived.KernelRfl
namespace Go.Proofs.YtidgpjcgoocpeaaDoor
open Go.Shelf Go.RowKit Go.Sort Go.Lib Go.Proofs.YtidgpjcgoocpeaaDoorW.PrintWords
set_option maxRecDepth 1000000
def renItoa : Go.Shelf.Ren := ⟨fun n => match n with | 129 => 86 | 171 => 33 | 243 => 50 | 246 => 64 | 283 => 77 | 284 => 78 | 285 => 79 | 286 => 80 | 317 => 85 | 318 => 87 | 319 => 88 | 320 => 89 | 337 => 90 | 338 => 91 | n => n, fun n => match n with | 0 => 0 | 2 => 2 | 3 => 3 | 4 => 4 | 5 => 5 | 9 => 9 | 20 => 20 | 37 => 22 | 46 => 109 | 51 => 124 | 53 => 127 | 171 => 134 | 173 => 137 | 212 => 144 | 213 => 145 | 232 => 149 | 233 => 150 | n => n, fun n => match n with | 17 => 0 | 18 => 1 | 19 => 2 | n => n⟩
set_option maxHeartbeats 4000000 in
theorem lays171 : Lays.n171 Tryd.prog renItoa := by
  constructor
  all_goals first | kernel_rfl | (intro w; kernel_rfl) | (intro w; rfl)
set_option maxHeartbeats 4000000 in
theorem laysM171 : LaysM.n171 Tryd.prog renItoa := by
  apply LaysM.n171.mk lays171 <;> kernel_rfl
def TIs (w : World) : Prop := TabIs Tryd.prog w "internal/strconv.uint64pow10" .u64 pow10Tab
theorem TIs.on {w W : World} (h : Aside0 (TIs w)) (hB : Below w.heap.size w W := by exact bl) : TIs W := ((tabBelow_of_tabIs h.out).on hB).here
theorem itoa_calls (n : Int) (h0 : -9223372036854775808 ≤ n) (h1 : n ≤ 9223372036854775807) (w : World) (ht : TIs w) :
    Calls Tryd.prog 33 #[.int .i64 n] w fun e w' => e = .returned (.string ⟨(itoa n).toArray⟩) ∧ Below w.heap.size w w' := by
  refine (Any.strconv_Itoa laysM171 n h0 h1 w ht).mono ?_
  rintro e w' ⟨rfl, k, os, rfl⟩
  exact ⟨rfl, below_grow _ w (Nat.le_refl _) k os⟩
def itz (n : Int) : List UInt8 := if -9 ≤ n then (if n ≤ 9 then (if n < 0 then [45, UInt8.ofNat (48 + n.natAbs)] else [UInt8.ofNat (48 + n.toNat)]) else itoa n) else itoa n
theorem itz_eq (n : Int) : itz n = itoa n := by
  unfold itz
  split
  · split
    · unfold itoa
      split
      · rw [decDigits_one (by omega)]
      · rw [decDigits_one (by omega)]
    · rfl
  · rfl
end Go.Proofs.YtidgpjcgoocpeaaDoor
