-- printed (wip/tools/myprint.py)
import Derived.Test.YtidgpjcgoocpeaaDoorPTopRunsx0
import Derived.Test.YtidgpjcgoocpeaaDoorPTopRunsx1
import Derived.Test.YtidgpjcgoocpeaaDoorPTopRunsx4
import Derived.Test.YtidgpjcgoocpeaaDoorPTopRunsx6
import Derived.Test.YtidgpjcgoocpeaaDoorPTopRunsx7
import Derived.Test.YtidgpjcgoocpeaaDoorPTopRunsx8
import Derived.Test.YtidgpjcgoocpeaaDoorPTopRunsx9
import Derived.Test.YtidgpjcgoocpeaaDoorPTopRunsx10
import Derived.Test.YtidgpjcgoocpeaaDoorPTopRunsx14
import Derived.Test.YtidgpjcgoocpeaaDoorPTopRunsx15
import Derived.Test.YtidgpjcgoocpeaaDoorPTopRunsx16
namespace Go.Proofs.YtidgpjcgoocpeaaDoor.PTopRuns
open Go.RowKit Go.Proofs.YtidgpjcgoocpeaaDoorW.PrintWords Go.Proofs.YtidgpjcgoocpeaaDoorW.PrintLast Go.Proofs.YtidgpjcgoocpeaaDoorW.PrintMore
attribute [local go_sem] max2_int min2_int max_two min_two max_three min_three max_four min_four
set_option linter.unusedVariables false
set_option linter.unusedSimpArgs false
mutual
def incunabletop_TopRuns.j0 : Nat → Int → Bool → Int → Int → List Int → Option (Bool)
 | 0, _, _, _, _, _ => none
 | k + 1, x1, x38, x540000, x540001, x540002 => if x38 = true then ((incunablelaw06_Awake.f k).bind fun t541 => (some t541)) else (incunabletop_TopRuns.l0 k x1 ([] : List Int) x540001 0 x540000 x540001 x540002)
def incunabletop_TopRuns.l0 : Nat → Int → List Int → Int → Int → Int → Int → List Int → Option (Bool)
 | 0, _, _, _, _, _, _, _ => none
 | k + 1, x1, x5, x41, x42, x540000, x540001, x540002 => if x42 < x41 then (if 0 ≤ (wrap64 (x42 * x540000)) then (if (wrap64 (x42 * x540000)) ≤ (wrap64 ((wrap64 (x42 + 1)) * x540000)) then (if (wrap64 ((wrap64 (x42 + 1)) * x540000)) ≤ (x540002.length : Int) then ((runs_Row.f k ((x540002.take ((wrap64 ((wrap64 (x42 + 1)) * x540000)) : Int).toNat).drop ((wrap64 (x42 * x540000)) : Int).toNat)).bind fun bt543 => (if bt543.2 = 0 then (incunabletop_TopRuns.l1 k x1 x5 x41 x42 bt543.1 (bt543.1.length : Int) 0 x540000 x540001 x540002) else (some false))) else (none)) else (none)) else (none)) else ((runs_One.f k x540000 x540001 x540002).bind fun bt555 => ((bits_Pack.f k x5).bind fun bt559 => (if bt555.2 = 0 then (if bt559.2 = 0 then ((incunableref02_SameBytes.f k bt555.1 bt559.1).bind fun t563 => (incunabletop_TopRuns.j3 k x1 x5 bt555.1 (!t563) x540000 x540001 x540002)) else (incunabletop_TopRuns.j3 k x1 x5 bt555.1 true x540000 x540001 x540002)) else (incunabletop_TopRuns.j3 k x1 x5 bt555.1 true x540000 x540001 x540002))))
def incunabletop_TopRuns.l1 : Nat → Int → List Int → Int → Int → List Int → Int → Int → Int → Int → List Int → Option (Bool)
 | 0, _, _, _, _, _, _, _, _, _, _ => none
 | k + 1, x1, x5, x41, x42, x63, x64, x65, x540000, x540001, x540002 => if x65 < x64 then (if 0 ≤ x65 then (if x65 < (x63.length : Int) then ((runs_RunBits.f k (rd x63 x65) (Int.tmod x65 2)).bind fun bt548 => (if bt548.2 = 0 then (if x5.length + bt548.1.length < 140737488355328 then (incunabletop_TopRuns.l1 k x1 (x5 ++ bt548.1) x41 x42 x63 x64 (wrap64 (x65 + 1)) x540000 x540001 x540002) else (none)) else (some false))) else (none)) else (none)) else (incunabletop_TopRuns.l0 k x1 x5 x41 (wrap64 (x42 + 1)) x540000 x540001 x540002)
def incunabletop_TopRuns.j3 : Nat → Int → List Int → List Int → Bool → Int → Int → List Int → Option (Bool)
 | 0, _, _, _, _, _, _, _ => none
 | k + 1, x1, x5, x13, x105, x540000, x540001, x540002 => if x105 = true then (some false) else ((runs_Two.f k x540000 x540001 x540002).bind fun bt564 => ((bitmap_Cut.f k x540000 x540001 x540002 0 0 x540000 x1).bind fun bt568 => (if bt564.2 = 0 then (incunabletop_TopRuns.j4 k x1 x5 x13 bt564.1 (bt568.2.2.2 != 0) x540000 x540001 x540002 bt568.1 bt568.2.1 bt568.2.2.1) else (incunabletop_TopRuns.j4 k x1 x5 x13 bt564.1 true x540000 x540001 x540002 bt568.1 bt568.2.1 bt568.2.2.1))))
def incunabletop_TopRuns.j4 : Nat → Int → List Int → List Int → List Int → Bool → Int → Int → List Int → Int → Int → List Int → Option (Bool)
 | 0, _, _, _, _, _, _, _, _, _, _, _ => none
 | k + 1, x1, x5, x13, x17, x124, x540000, x540001, x540002, x575000, x575001, x575002 => if x124 = true then (some false) else ((runs_GetOne.f k x13 x540000 x1).bind fun bt575 => ((runs_GetTwo.f k x17 x540000 x1).bind fun bt583 => (if bt575.2.2.2.2 = 0 then (if bt583.2.2.2.2 = 0 then ((incunableref06_SameBitmap.f k bt575.1 bt575.2.1 bt575.2.2.1 x575000 x575001 x575002).bind fun t591 => (if t591 = true then ((incunableref06_SameBitmap.f k bt583.1 bt583.2.1 bt583.2.2.1 x575000 x575001 x575002).bind fun t592 => (incunabletop_TopRuns.j5 k x5 x17 bt575.2.2.2.1 bt583.2.2.2.1 (!t592) x575000 x575001 x575002)) else (incunabletop_TopRuns.j5 k x5 x17 bt575.2.2.2.1 bt583.2.2.2.1 true x575000 x575001 x575002))) else (incunabletop_TopRuns.j5 k x5 x17 bt575.2.2.2.1 bt583.2.2.2.1 true x575000 x575001 x575002)) else (incunabletop_TopRuns.j5 k x5 x17 bt575.2.2.2.1 bt583.2.2.2.1 true x575000 x575001 x575002))))
def incunabletop_TopRuns.j5 : Nat → List Int → List Int → Int → Int → Bool → Int → Int → List Int → Option (Bool)
 | 0, _, _, _, _, _, _, _, _ => none
 | k + 1, x5, x17, x20, x22, x160, x575000, x575001, x575002 => if x160 = true then (some false) else ((runs_Two.f k x575000 x575001 x575002).bind fun bt593 => (if bt593.2 = 0 then (if (bt593.1.length : Int) = (wrap64 (Int.tdiv (wrap64 (x22 + 7)) 8)) then (incunabletop_TopRuns.j6 k x17 x22 bt593.1 (decide (x20 > (x5.length : Int)))) else (incunabletop_TopRuns.j6 k x17 x22 bt593.1 true)) else (incunabletop_TopRuns.j6 k x17 x22 bt593.1 true)))
def incunabletop_TopRuns.j6 : Nat → List Int → Int → List Int → Bool → Option (Bool)
 | 0, _, _, _, _ => none
 | k + 1, x17, x22, x23, x181 => if x181 = true then (some false) else ((bits_Unpack.f k x17 x22).bind fun bt597 => ((bits_Unpack.f k x23 x22).bind fun bt601 => (if bt597.2 = 0 then (if bt601.2 = 0 then ((incunableref02_SameBytes.f k bt597.1 bt601.1).bind fun t605 => (if t605 = true then ((incunablelaw06_Awake.f k).bind fun t606 => (some t606)) else (some false))) else (some false)) else (some false))))
end
def incunabletop_TopRuns.f (k : Nat) (a0_0 : Int) (a0_1 : Int) (l0_2 : List Int) (a1 : Int) : Option (Bool) := (incunableref06_IsBitmap.f k a0_0 a0_1 l0_2).bind fun t540 => (if t540 = true then (if a1 < 0 then (incunabletop_TopRuns.j0 k a1 true a0_0 a0_1 l0_2) else (incunabletop_TopRuns.j0 k a1 (decide (a1 > a0_1)) a0_0 a0_1 l0_2)) else (incunabletop_TopRuns.j0 k a1 true a0_0 a0_1 l0_2))
theorem incunabletop_TopRuns.mono_l : ∀ k, (∀ y0 y1 y2 y3 y4, LeO (incunabletop_TopRuns.j0 k y0 y1 y2 y3 y4) (incunabletop_TopRuns.j0 (k + 1) y0 y1 y2 y3 y4)) ∧ (∀ y0 y1 y2 y3 y4 y5 y6, LeO (incunabletop_TopRuns.l0 k y0 y1 y2 y3 y4 y5 y6) (incunabletop_TopRuns.l0 (k + 1) y0 y1 y2 y3 y4 y5 y6)) ∧ (∀ y0 y1 y2 y3 y4 y5 y6 y7 y8 y9, LeO (incunabletop_TopRuns.l1 k y0 y1 y2 y3 y4 y5 y6 y7 y8 y9) (incunabletop_TopRuns.l1 (k + 1) y0 y1 y2 y3 y4 y5 y6 y7 y8 y9)) ∧ (∀ y0 y1 y2 y3 y4 y5 y6, LeO (incunabletop_TopRuns.j3 k y0 y1 y2 y3 y4 y5 y6) (incunabletop_TopRuns.j3 (k + 1) y0 y1 y2 y3 y4 y5 y6)) ∧ (∀ y0 y1 y2 y3 y4 y5 y6 y7 y8 y9 y10, LeO (incunabletop_TopRuns.j4 k y0 y1 y2 y3 y4 y5 y6 y7 y8 y9 y10) (incunabletop_TopRuns.j4 (k + 1) y0 y1 y2 y3 y4 y5 y6 y7 y8 y9 y10)) ∧ (∀ y0 y1 y2 y3 y4 y5 y6 y7, LeO (incunabletop_TopRuns.j5 k y0 y1 y2 y3 y4 y5 y6 y7) (incunabletop_TopRuns.j5 (k + 1) y0 y1 y2 y3 y4 y5 y6 y7)) ∧ (∀ y0 y1 y2 y3, LeO (incunabletop_TopRuns.j6 k y0 y1 y2 y3) (incunabletop_TopRuns.j6 (k + 1) y0 y1 y2 y3))
 | 0 => ⟨fun _ _ _ _ _ r h => by simp [incunabletop_TopRuns.j0] at h, fun _ _ _ _ _ _ _ r h => by simp [incunabletop_TopRuns.l0] at h, fun _ _ _ _ _ _ _ _ _ _ r h => by simp [incunabletop_TopRuns.l1] at h, fun _ _ _ _ _ _ _ r h => by simp [incunabletop_TopRuns.j3] at h, fun _ _ _ _ _ _ _ _ _ _ _ r h => by simp [incunabletop_TopRuns.j4] at h, fun _ _ _ _ _ _ _ _ r h => by simp [incunabletop_TopRuns.j5] at h, fun _ _ _ _ r h => by simp [incunabletop_TopRuns.j6] at h⟩
 | k + 1 => by
  obtain ⟨ih0, ih1, ih2, ih3, ih4, ih5, ih6⟩ := incunabletop_TopRuns.mono_l k
  refine ⟨?_, ?_, ?_, ?_, ?_, ?_, ?_⟩
  ·intro y0 y1 y2 y3 y4
   unfold incunabletop_TopRuns.j0
   repeat' first
   | (with_reducible exact ih0 _ _ _ _ _)
   | (with_reducible exact ih1 _ _ _ _ _ _ _)
   | (with_reducible exact ih2 _ _ _ _ _ _ _ _ _ _)
   | (with_reducible exact ih3 _ _ _ _ _ _ _)
   | (with_reducible exact ih4 _ _ _ _ _ _ _ _ _ _ _)
   | (with_reducible exact ih5 _ _ _ _ _ _ _ _)
   | (with_reducible exact ih6 _ _ _ _)
   | (with_reducible exact bitmap_Cut.mono _ _ _ _ _ _ _ _)
   | (with_reducible exact bits_Pack.mono _ _)
   | (with_reducible exact bits_Unpack.mono _ _ _)
   | (with_reducible exact incunablelaw06_Awake.mono _)
   | (with_reducible exact incunableref02_SameBytes.mono _ _ _)
   | (with_reducible exact incunableref06_IsBitmap.mono _ _ _ _)
   | (with_reducible exact incunableref06_SameBitmap.mono _ _ _ _ _ _ _)
   | (with_reducible exact runs_GetOne.mono _ _ _ _)
   | (with_reducible exact runs_GetTwo.mono _ _ _ _)
   | (with_reducible exact runs_One.mono _ _ _ _)
   | (with_reducible exact runs_Row.mono _ _)
   | (with_reducible exact runs_RunBits.mono _ _ _)
   | (with_reducible exact runs_Two.mono _ _ _ _)
   | (with_reducible first | exact LeO.refl _ | exact LeO.none _ | refine LeO.ite ?_ ?_ | refine LeO.bind ?_ (fun _ => ?_))
   | exact ih0 _ _ _ _ _
   | exact ih1 _ _ _ _ _ _ _
   | exact ih2 _ _ _ _ _ _ _ _ _ _
   | exact ih3 _ _ _ _ _ _ _
   | exact ih4 _ _ _ _ _ _ _ _ _ _ _
   | exact ih5 _ _ _ _ _ _ _ _
   | exact ih6 _ _ _ _
   | exact bitmap_Cut.mono _ _ _ _ _ _ _ _
   | exact bits_Pack.mono _ _
   | exact bits_Unpack.mono _ _ _
   | exact incunablelaw06_Awake.mono _
   | exact incunableref02_SameBytes.mono _ _ _
   | exact incunableref06_IsBitmap.mono _ _ _ _
   | exact incunableref06_SameBitmap.mono _ _ _ _ _ _ _
   | exact runs_GetOne.mono _ _ _ _
   | exact runs_GetTwo.mono _ _ _ _
   | exact runs_One.mono _ _ _ _
   | exact runs_Row.mono _ _
   | exact runs_RunBits.mono _ _ _
   | exact runs_Two.mono _ _ _ _
  ·intro y0 y1 y2 y3 y4 y5 y6
   unfold incunabletop_TopRuns.l0
   repeat' first
   | (with_reducible exact ih0 _ _ _ _ _)
   | (with_reducible exact ih1 _ _ _ _ _ _ _)
   | (with_reducible exact ih2 _ _ _ _ _ _ _ _ _ _)
   | (with_reducible exact ih3 _ _ _ _ _ _ _)
   | (with_reducible exact ih4 _ _ _ _ _ _ _ _ _ _ _)
   | (with_reducible exact ih5 _ _ _ _ _ _ _ _)
   | (with_reducible exact ih6 _ _ _ _)
   | (with_reducible exact bitmap_Cut.mono _ _ _ _ _ _ _ _)
   | (with_reducible exact bits_Pack.mono _ _)
   | (with_reducible exact bits_Unpack.mono _ _ _)
   | (with_reducible exact incunablelaw06_Awake.mono _)
   | (with_reducible exact incunableref02_SameBytes.mono _ _ _)
   | (with_reducible exact incunableref06_IsBitmap.mono _ _ _ _)
   | (with_reducible exact incunableref06_SameBitmap.mono _ _ _ _ _ _ _)
   | (with_reducible exact runs_GetOne.mono _ _ _ _)
   | (with_reducible exact runs_GetTwo.mono _ _ _ _)
   | (with_reducible exact runs_One.mono _ _ _ _)
   | (with_reducible exact runs_Row.mono _ _)
   | (with_reducible exact runs_RunBits.mono _ _ _)
   | (with_reducible exact runs_Two.mono _ _ _ _)
   | (with_reducible first | exact LeO.refl _ | exact LeO.none _ | refine LeO.ite ?_ ?_ | refine LeO.bind ?_ (fun _ => ?_))
   | exact ih0 _ _ _ _ _
   | exact ih1 _ _ _ _ _ _ _
   | exact ih2 _ _ _ _ _ _ _ _ _ _
   | exact ih3 _ _ _ _ _ _ _
   | exact ih4 _ _ _ _ _ _ _ _ _ _ _
   | exact ih5 _ _ _ _ _ _ _ _
   | exact ih6 _ _ _ _
   | exact bitmap_Cut.mono _ _ _ _ _ _ _ _
   | exact bits_Pack.mono _ _
   | exact bits_Unpack.mono _ _ _
   | exact incunablelaw06_Awake.mono _
   | exact incunableref02_SameBytes.mono _ _ _
   | exact incunableref06_IsBitmap.mono _ _ _ _
   | exact incunableref06_SameBitmap.mono _ _ _ _ _ _ _
   | exact runs_GetOne.mono _ _ _ _
   | exact runs_GetTwo.mono _ _ _ _
   | exact runs_One.mono _ _ _ _
   | exact runs_Row.mono _ _
   | exact runs_RunBits.mono _ _ _
   | exact runs_Two.mono _ _ _ _
  ·intro y0 y1 y2 y3 y4 y5 y6 y7 y8 y9
   unfold incunabletop_TopRuns.l1
   repeat' first
   | (with_reducible exact ih0 _ _ _ _ _)
   | (with_reducible exact ih1 _ _ _ _ _ _ _)
   | (with_reducible exact ih2 _ _ _ _ _ _ _ _ _ _)
   | (with_reducible exact ih3 _ _ _ _ _ _ _)
   | (with_reducible exact ih4 _ _ _ _ _ _ _ _ _ _ _)
   | (with_reducible exact ih5 _ _ _ _ _ _ _ _)
   | (with_reducible exact ih6 _ _ _ _)
   | (with_reducible exact bitmap_Cut.mono _ _ _ _ _ _ _ _)
   | (with_reducible exact bits_Pack.mono _ _)
   | (with_reducible exact bits_Unpack.mono _ _ _)
   | (with_reducible exact incunablelaw06_Awake.mono _)
   | (with_reducible exact incunableref02_SameBytes.mono _ _ _)
   | (with_reducible exact incunableref06_IsBitmap.mono _ _ _ _)
   | (with_reducible exact incunableref06_SameBitmap.mono _ _ _ _ _ _ _)
   | (with_reducible exact runs_GetOne.mono _ _ _ _)
   | (with_reducible exact runs_GetTwo.mono _ _ _ _)
   | (with_reducible exact runs_One.mono _ _ _ _)
   | (with_reducible exact runs_Row.mono _ _)
   | (with_reducible exact runs_RunBits.mono _ _ _)
   | (with_reducible exact runs_Two.mono _ _ _ _)
   | (with_reducible first | exact LeO.refl _ | exact LeO.none _ | refine LeO.ite ?_ ?_ | refine LeO.bind ?_ (fun _ => ?_))
   | exact ih0 _ _ _ _ _
   | exact ih1 _ _ _ _ _ _ _
   | exact ih2 _ _ _ _ _ _ _ _ _ _
   | exact ih3 _ _ _ _ _ _ _
   | exact ih4 _ _ _ _ _ _ _ _ _ _ _
   | exact ih5 _ _ _ _ _ _ _ _
   | exact ih6 _ _ _ _
   | exact bitmap_Cut.mono _ _ _ _ _ _ _ _
   | exact bits_Pack.mono _ _
   | exact bits_Unpack.mono _ _ _
   | exact incunablelaw06_Awake.mono _
   | exact incunableref02_SameBytes.mono _ _ _
   | exact incunableref06_IsBitmap.mono _ _ _ _
   | exact incunableref06_SameBitmap.mono _ _ _ _ _ _ _
   | exact runs_GetOne.mono _ _ _ _
   | exact runs_GetTwo.mono _ _ _ _
   | exact runs_One.mono _ _ _ _
   | exact runs_Row.mono _ _
   | exact runs_RunBits.mono _ _ _
   | exact runs_Two.mono _ _ _ _
  ·intro y0 y1 y2 y3 y4 y5 y6
   unfold incunabletop_TopRuns.j3
   repeat' first
   | (with_reducible exact ih0 _ _ _ _ _)
   | (with_reducible exact ih1 _ _ _ _ _ _ _)
   | (with_reducible exact ih2 _ _ _ _ _ _ _ _ _ _)
   | (with_reducible exact ih3 _ _ _ _ _ _ _)
   | (with_reducible exact ih4 _ _ _ _ _ _ _ _ _ _ _)
   | (with_reducible exact ih5 _ _ _ _ _ _ _ _)
   | (with_reducible exact ih6 _ _ _ _)
   | (with_reducible exact bitmap_Cut.mono _ _ _ _ _ _ _ _)
   | (with_reducible exact bits_Pack.mono _ _)
   | (with_reducible exact bits_Unpack.mono _ _ _)
   | (with_reducible exact incunablelaw06_Awake.mono _)
   | (with_reducible exact incunableref02_SameBytes.mono _ _ _)
   | (with_reducible exact incunableref06_IsBitmap.mono _ _ _ _)
   | (with_reducible exact incunableref06_SameBitmap.mono _ _ _ _ _ _ _)
   | (with_reducible exact runs_GetOne.mono _ _ _ _)
   | (with_reducible exact runs_GetTwo.mono _ _ _ _)
   | (with_reducible exact runs_One.mono _ _ _ _)
   | (with_reducible exact runs_Row.mono _ _)
   | (with_reducible exact runs_RunBits.mono _ _ _)
   | (with_reducible exact runs_Two.mono _ _ _ _)
   | (with_reducible first | exact LeO.refl _ | exact LeO.none _ | refine LeO.ite ?_ ?_ | refine LeO.bind ?_ (fun _ => ?_))
   | exact ih0 _ _ _ _ _
   | exact ih1 _ _ _ _ _ _ _
   | exact ih2 _ _ _ _ _ _ _ _ _ _
   | exact ih3 _ _ _ _ _ _ _
   | exact ih4 _ _ _ _ _ _ _ _ _ _ _
   | exact ih5 _ _ _ _ _ _ _ _
   | exact ih6 _ _ _ _
   | exact bitmap_Cut.mono _ _ _ _ _ _ _ _
   | exact bits_Pack.mono _ _
   | exact bits_Unpack.mono _ _ _
   | exact incunablelaw06_Awake.mono _
   | exact incunableref02_SameBytes.mono _ _ _
   | exact incunableref06_IsBitmap.mono _ _ _ _
   | exact incunableref06_SameBitmap.mono _ _ _ _ _ _ _
   | exact runs_GetOne.mono _ _ _ _
   | exact runs_GetTwo.mono _ _ _ _
   | exact runs_One.mono _ _ _ _
   | exact runs_Row.mono _ _
   | exact runs_RunBits.mono _ _ _
   | exact runs_Two.mono _ _ _ _
  ·intro y0 y1 y2 y3 y4 y5 y6 y7 y8 y9 y10
   unfold incunabletop_TopRuns.j4
   repeat' first
   | (with_reducible exact ih0 _ _ _ _ _)
   | (with_reducible exact ih1 _ _ _ _ _ _ _)
   | (with_reducible exact ih2 _ _ _ _ _ _ _ _ _ _)
   | (with_reducible exact ih3 _ _ _ _ _ _ _)
   | (with_reducible exact ih4 _ _ _ _ _ _ _ _ _ _ _)
   | (with_reducible exact ih5 _ _ _ _ _ _ _ _)
   | (with_reducible exact ih6 _ _ _ _)
   | (with_reducible exact bitmap_Cut.mono _ _ _ _ _ _ _ _)
   | (with_reducible exact bits_Pack.mono _ _)
   | (with_reducible exact bits_Unpack.mono _ _ _)
   | (with_reducible exact incunablelaw06_Awake.mono _)
   | (with_reducible exact incunableref02_SameBytes.mono _ _ _)
   | (with_reducible exact incunableref06_IsBitmap.mono _ _ _ _)
   | (with_reducible exact incunableref06_SameBitmap.mono _ _ _ _ _ _ _)
   | (with_reducible exact runs_GetOne.mono _ _ _ _)
   | (with_reducible exact runs_GetTwo.mono _ _ _ _)
   | (with_reducible exact runs_One.mono _ _ _ _)
   | (with_reducible exact runs_Row.mono _ _)
   | (with_reducible exact runs_RunBits.mono _ _ _)
   | (with_reducible exact runs_Two.mono _ _ _ _)
   | (with_reducible first | exact LeO.refl _ | exact LeO.none _ | refine LeO.ite ?_ ?_ | refine LeO.bind ?_ (fun _ => ?_))
   | exact ih0 _ _ _ _ _
   | exact ih1 _ _ _ _ _ _ _
   | exact ih2 _ _ _ _ _ _ _ _ _ _
   | exact ih3 _ _ _ _ _ _ _
   | exact ih4 _ _ _ _ _ _ _ _ _ _ _
   | exact ih5 _ _ _ _ _ _ _ _
   | exact ih6 _ _ _ _
   | exact bitmap_Cut.mono _ _ _ _ _ _ _ _
   | exact bits_Pack.mono _ _
   | exact bits_Unpack.mono _ _ _
   | exact incunablelaw06_Awake.mono _
   | exact incunableref02_SameBytes.mono _ _ _
   | exact incunableref06_IsBitmap.mono _ _ _ _
   | exact incunableref06_SameBitmap.mono _ _ _ _ _ _ _
   | exact runs_GetOne.mono _ _ _ _
   | exact runs_GetTwo.mono _ _ _ _
   | exact runs_One.mono _ _ _ _
   | exact runs_Row.mono _ _
   | exact runs_RunBits.mono _ _ _
   | exact runs_Two.mono _ _ _ _
  ·intro y0 y1 y2 y3 y4 y5 y6 y7
   unfold incunabletop_TopRuns.j5
   repeat' first
   | (with_reducible exact ih0 _ _ _ _ _)
   | (with_reducible exact ih1 _ _ _ _ _ _ _)
   | (with_reducible exact ih2 _ _ _ _ _ _ _ _ _ _)
   | (with_reducible exact ih3 _ _ _ _ _ _ _)
   | (with_reducible exact ih4 _ _ _ _ _ _ _ _ _ _ _)
   | (with_reducible exact ih5 _ _ _ _ _ _ _ _)
   | (with_reducible exact ih6 _ _ _ _)
   | (with_reducible exact bitmap_Cut.mono _ _ _ _ _ _ _ _)
   | (with_reducible exact bits_Pack.mono _ _)
   | (with_reducible exact bits_Unpack.mono _ _ _)
   | (with_reducible exact incunablelaw06_Awake.mono _)
   | (with_reducible exact incunableref02_SameBytes.mono _ _ _)
   | (with_reducible exact incunableref06_IsBitmap.mono _ _ _ _)
   | (with_reducible exact incunableref06_SameBitmap.mono _ _ _ _ _ _ _)
   | (with_reducible exact runs_GetOne.mono _ _ _ _)
   | (with_reducible exact runs_GetTwo.mono _ _ _ _)
   | (with_reducible exact runs_One.mono _ _ _ _)
   | (with_reducible exact runs_Row.mono _ _)
   | (with_reducible exact runs_RunBits.mono _ _ _)
   | (with_reducible exact runs_Two.mono _ _ _ _)
   | (with_reducible first | exact LeO.refl _ | exact LeO.none _ | refine LeO.ite ?_ ?_ | refine LeO.bind ?_ (fun _ => ?_))
   | exact ih0 _ _ _ _ _
   | exact ih1 _ _ _ _ _ _ _
   | exact ih2 _ _ _ _ _ _ _ _ _ _
   | exact ih3 _ _ _ _ _ _ _
   | exact ih4 _ _ _ _ _ _ _ _ _ _ _
   | exact ih5 _ _ _ _ _ _ _ _
   | exact ih6 _ _ _ _
   | exact bitmap_Cut.mono _ _ _ _ _ _ _ _
   | exact bits_Pack.mono _ _
   | exact bits_Unpack.mono _ _ _
   | exact incunablelaw06_Awake.mono _
   | exact incunableref02_SameBytes.mono _ _ _
   | exact incunableref06_IsBitmap.mono _ _ _ _
   | exact incunableref06_SameBitmap.mono _ _ _ _ _ _ _
   | exact runs_GetOne.mono _ _ _ _
   | exact runs_GetTwo.mono _ _ _ _
   | exact runs_One.mono _ _ _ _
   | exact runs_Row.mono _ _
   | exact runs_RunBits.mono _ _ _
   | exact runs_Two.mono _ _ _ _
  ·intro y0 y1 y2 y3
   unfold incunabletop_TopRuns.j6
   repeat' first
   | (with_reducible exact ih0 _ _ _ _ _)
   | (with_reducible exact ih1 _ _ _ _ _ _ _)
   | (with_reducible exact ih2 _ _ _ _ _ _ _ _ _ _)
   | (with_reducible exact ih3 _ _ _ _ _ _ _)
   | (with_reducible exact ih4 _ _ _ _ _ _ _ _ _ _ _)
   | (with_reducible exact ih5 _ _ _ _ _ _ _ _)
   | (with_reducible exact ih6 _ _ _ _)
   | (with_reducible exact bitmap_Cut.mono _ _ _ _ _ _ _ _)
   | (with_reducible exact bits_Pack.mono _ _)
   | (with_reducible exact bits_Unpack.mono _ _ _)
   | (with_reducible exact incunablelaw06_Awake.mono _)
   | (with_reducible exact incunableref02_SameBytes.mono _ _ _)
   | (with_reducible exact incunableref06_IsBitmap.mono _ _ _ _)
   | (with_reducible exact incunableref06_SameBitmap.mono _ _ _ _ _ _ _)
   | (with_reducible exact runs_GetOne.mono _ _ _ _)
   | (with_reducible exact runs_GetTwo.mono _ _ _ _)
   | (with_reducible exact runs_One.mono _ _ _ _)
   | (with_reducible exact runs_Row.mono _ _)
   | (with_reducible exact runs_RunBits.mono _ _ _)
   | (with_reducible exact runs_Two.mono _ _ _ _)
   | (with_reducible first | exact LeO.refl _ | exact LeO.none _ | refine LeO.ite ?_ ?_ | refine LeO.bind ?_ (fun _ => ?_))
   | exact ih0 _ _ _ _ _
   | exact ih1 _ _ _ _ _ _ _
   | exact ih2 _ _ _ _ _ _ _ _ _ _
   | exact ih3 _ _ _ _ _ _ _
   | exact ih4 _ _ _ _ _ _ _ _ _ _ _
   | exact ih5 _ _ _ _ _ _ _ _
   | exact ih6 _ _ _ _
   | exact bitmap_Cut.mono _ _ _ _ _ _ _ _
   | exact bits_Pack.mono _ _
   | exact bits_Unpack.mono _ _ _
   | exact incunablelaw06_Awake.mono _
   | exact incunableref02_SameBytes.mono _ _ _
   | exact incunableref06_IsBitmap.mono _ _ _ _
   | exact incunableref06_SameBitmap.mono _ _ _ _ _ _ _
   | exact runs_GetOne.mono _ _ _ _
   | exact runs_GetTwo.mono _ _ _ _
   | exact runs_One.mono _ _ _ _
   | exact runs_Row.mono _ _
   | exact runs_RunBits.mono _ _ _
   | exact runs_Two.mono _ _ _ _
theorem incunabletop_TopRuns.mono : ∀ a0 a1 a2 a3 k, LeO (incunabletop_TopRuns.f k a0 a1 a2 a3) (incunabletop_TopRuns.f (k + 1) a0 a1 a2 a3) := by
 intro a0 a1 a2 a3 k
 obtain ⟨ih0, ih1, ih2, ih3, ih4, ih5, ih6⟩ := incunabletop_TopRuns.mono_l k
 unfold incunabletop_TopRuns.f
 repeat' first
   | (with_reducible exact ih0 _ _ _ _ _)
   | (with_reducible exact ih1 _ _ _ _ _ _ _)
   | (with_reducible exact ih2 _ _ _ _ _ _ _ _ _ _)
   | (with_reducible exact ih3 _ _ _ _ _ _ _)
   | (with_reducible exact ih4 _ _ _ _ _ _ _ _ _ _ _)
   | (with_reducible exact ih5 _ _ _ _ _ _ _ _)
   | (with_reducible exact ih6 _ _ _ _)
   | (with_reducible exact bitmap_Cut.mono _ _ _ _ _ _ _ _)
   | (with_reducible exact bits_Pack.mono _ _)
   | (with_reducible exact bits_Unpack.mono _ _ _)
   | (with_reducible exact incunablelaw06_Awake.mono _)
   | (with_reducible exact incunableref02_SameBytes.mono _ _ _)
   | (with_reducible exact incunableref06_IsBitmap.mono _ _ _ _)
   | (with_reducible exact incunableref06_SameBitmap.mono _ _ _ _ _ _ _)
   | (with_reducible exact runs_GetOne.mono _ _ _ _)
   | (with_reducible exact runs_GetTwo.mono _ _ _ _)
   | (with_reducible exact runs_One.mono _ _ _ _)
   | (with_reducible exact runs_Row.mono _ _)
   | (with_reducible exact runs_RunBits.mono _ _ _)
   | (with_reducible exact runs_Two.mono _ _ _ _)
   | (with_reducible first | exact LeO.refl _ | exact LeO.none _ | refine LeO.ite ?_ ?_ | refine LeO.bind ?_ (fun _ => ?_))
   | exact ih0 _ _ _ _ _
   | exact ih1 _ _ _ _ _ _ _
   | exact ih2 _ _ _ _ _ _ _ _ _ _
   | exact ih3 _ _ _ _ _ _ _
   | exact ih4 _ _ _ _ _ _ _ _ _ _ _
   | exact ih5 _ _ _ _ _ _ _ _
   | exact ih6 _ _ _ _
   | exact bitmap_Cut.mono _ _ _ _ _ _ _ _
   | exact bits_Pack.mono _ _
   | exact bits_Unpack.mono _ _ _
   | exact incunablelaw06_Awake.mono _
   | exact incunableref02_SameBytes.mono _ _ _
   | exact incunableref06_IsBitmap.mono _ _ _ _
   | exact incunableref06_SameBitmap.mono _ _ _ _ _ _ _
   | exact runs_GetOne.mono _ _ _ _
   | exact runs_GetTwo.mono _ _ _ _
   | exact runs_One.mono _ _ _ _
   | exact runs_Row.mono _ _
   | exact runs_RunBits.mono _ _ _
   | exact runs_Two.mono _ _ _ _
set_option maxHeartbeats 8000000 in
set_option maxRecDepth 100000 in
theorem incunabletop_TopRuns.calls (k : Nat) (a0_0 : Int) (a0_1 : Int) (A0_2 : Option Addr) (c0_2 : Nat) (l0_2 : List Int) (a1 : Int) (r : Bool) (w : World) (hT0 : TIs w) (hr0_2 : Kd.C (Kd.int .u8) w A0_2 l0_2.length l0_2) (hc0_2 : l0_2.length ≤ c0_2) (h : incunabletop_TopRuns.f k a0_0 a0_1 l0_2 a1 = some r) (hr_ : r = true) :
  Calls Tryd.prog 3 #[.agg #[.int .i64 a0_0, .int .i64 a0_1, .slice A0_2 l0_2.length c0_2], .int .i64 a1] w fun e w' => e = .returned (.bool r) ∧ Below w.heap.size w w' := by
 have HTI := Aside0.mk hT0
 clear hT0
 have HR_ := Aside0.mk hr_
 clear hr_
 have hu24 := Tryd.underlying24
 have HR0_2 := Aside0.mk hr0_2
 have HC0_2 := Aside0.mk hc0_2
 clear hr0_2 hc0_2
 have HB := Aside0.mk (Below.refl w.heap.size w)
 have H := h
 unfold incunabletop_TopRuns.f at H
 clear h
 have HC3 := Aside0.mk H
 clear H
 go_enter Tryd.func3, Tryd.ntmps3
 go_upto_region 1 with (first | ((with_reducible refine gd 2 rfl ?_); (try (refine gate_guard (by rfl) ?_; dsimp only)); refine bx 2 #[.int .i64 a0_0, .int .i64 a0_1, .slice A0_2 l0_2.length c0_2] 24 rfl rfl ?_; intro gb539 hg w4 hbox hb; have n_ := aC (bs hb) (aC hbox (aC (gz hg) (aE (gz hg)))); clear HB; obtain ⟨HB, BK539, GW539, GE539⟩ := n_; clear hb hbox hg))
 (try simp only [Act.put, List.setIfInBounds_toArray, List.set_cons_zero, List.set_cons_succ])
 go_cut [38] (fun v38 wc => ∃ (kq : Nat) (x38_2 : Bool), v38 = .bool x38_2 ∧ Aside0 (incunabletop_TopRuns.j0 kq a1 x38_2 a0_0 a0_1 l0_2 = some r) ∧ Aside0 (kq ≤ k) ∧ Aside0 (wc.heap[gb539]? = some (.cells #[.int .i64 a0_0, .int .i64 a0_1, (.slice A0_2 l0_2.length c0_2)] 24 (0, 0))) ∧ Aside0 (Below w.heap.size w wc))
 case first => as_aux_lemma =>
  have H := HC3.out
  clear HC3
  obtain ⟨t540, A5, H⟩ := oB H
  try dsimp only at H
  by_cases c6 : t540 = true
  ·subst c6
   rw [if_pos rfl] at H
   rcases iL H with H1 | H1 <;> clear H <;> obtain ⟨H, c7b0⟩ := H1
   ·(first | rw [c7b0] | (simp only [i64_w, i32_w]; rw [c7b0]) | skip)
    have H' := Aside0.mk H
    clear H
    obtain ⟨hcz8_0, hcz8_1, hcz8_2, hfz8_0, hfz8_1, hfz8_2⟩ := cz3f BK539.out
    go_wp2_with (first | (refine gF 4 27 Tryd.func4 #[.agg #[.int .i64 a0_0, .int .i64 a0_1, .slice A0_2 l0_2.length c0_2]] rfl rfl ?_; (with_reducible refine (incunableref06_IsBitmap.calls k a0_0 a0_1 _ _ l0_2 true _ ?side1 ?side2 A5.out).mono ?_); (case side1 => exact cU (Kd.C_below HR0_2.out HB.out)); (case side2 => exact HC0_2.out); rintro e w9 ⟨rfl, hb⟩; refine ⟨_, rfl, ?_⟩; have n_ := aC (blk_below (bU BK539.out) hb) (aE (bs hb)); clear BK539 HB; obtain ⟨BK539, HB⟩ := n_))
    go_meet
    case rel => exact ⟨_, (true), rq, H', ⟨by first | omega | exact Nat.le_refl _⟩, ⟨bU BK539.out⟩, ⟨bl⟩⟩
   ·(first | rw [c7b0] | (simp only [i64_w, i32_w]; rw [c7b0]) | skip)
    have H' := Aside0.mk H
    clear H
    obtain ⟨hcz10_0, hcz10_1, hcz10_2, hfz10_0, hfz10_1, hfz10_2⟩ := cz3f BK539.out
    go_wp2_with (first | (refine gF 4 27 Tryd.func4 #[.agg #[.int .i64 a0_0, .int .i64 a0_1, .slice A0_2 l0_2.length c0_2]] rfl rfl ?_; (with_reducible refine (incunableref06_IsBitmap.calls k a0_0 a0_1 _ _ l0_2 true _ ?side1 ?side2 A5.out).mono ?_); (case side1 => exact cU (Kd.C_below HR0_2.out HB.out)); (case side2 => exact HC0_2.out); rintro e w11 ⟨rfl, hb⟩; refine ⟨_, rfl, ?_⟩; have n_ := aC (blk_below (bU BK539.out) hb) (aE (bs hb)); clear BK539 HB; obtain ⟨BK539, HB⟩ := n_; obtain ⟨hcz12_0, hcz12_1, hcz12_2, hfz12_0, hfz12_1, hfz12_2⟩ := cz3f BK539.out))
    go_meet
    case rel => exact ⟨_, (decide (a1 > a0_1)), rq, H', ⟨by first | omega | exact Nat.le_refl _⟩, ⟨bU BK539.out⟩, ⟨bl⟩⟩
  ·replace c6 := Bool.eq_false_iff.mpr c6
   subst c6
   rw [if_neg Bool.false_ne_true] at H
   have H' := Aside0.mk H
   clear H
   obtain ⟨hcz13_0, hcz13_1, hcz13_2, hfz13_0, hfz13_1, hfz13_2⟩ := cz3f BK539.out
   go_wp2_with (first | (refine gF 4 27 Tryd.func4 #[.agg #[.int .i64 a0_0, .int .i64 a0_1, .slice A0_2 l0_2.length c0_2]] rfl rfl ?_; (with_reducible refine (incunableref06_IsBitmap.calls k a0_0 a0_1 _ _ l0_2 false _ ?side1 ?side2 A5.out).mono ?_); (case side1 => exact cU (Kd.C_below HR0_2.out HB.out)); (case side2 => exact HC0_2.out); rintro e w14 ⟨rfl, hb⟩; refine ⟨_, rfl, ?_⟩; have n_ := aC (blk_below (bU BK539.out) hb) (aE (bs hb)); clear BK539 HB; obtain ⟨BK539, HB⟩ := n_))
   go_meet
   case rel => exact ⟨_, (true), rq, H', ⟨by first | omega | exact Nat.le_refl _⟩, ⟨bU BK539.out⟩, ⟨bl⟩⟩
 case rest => as_aux_lemma =>
  clear HC3
  obtain ⟨kq, x38_2, rfl, HA, HJ2, BK539, HB⟩ := hcut
  cases kq with
  | zero => exact absurd HA.out (by simp [incunabletop_TopRuns.j0])
  | succ kj2 =>
   have H := HA.out
   clear HA
   simp only [incunabletop_TopRuns.j0] at H
   by_cases c15 : x38_2 = true
   ·subst c15
    rw [if_pos rfl] at H
    obtain ⟨t541, A16, H⟩ := oB H
    try dsimp only at H
    obtain rfl := Option.some.inj H
    go_wp2_with (first | (refine gF 5 39 Tryd.func5 #[] rfl rfl ?_; (with_reducible refine (incunablelaw06_Awake.calls kj2  t541 _ (TIs.on HTI) A16.out).mono ?_); rintro e w17 ⟨rfl, hb⟩; refine ⟨_, rfl, ?_⟩; have n_ := aC (blk_below (bU BK539.out) hb) (aE (bs hb)); clear BK539 HB; obtain ⟨BK539, HB⟩ := n_))
    go_ret
    exact ⟨re, bl⟩
   ·replace c15 := Bool.eq_false_iff.mpr c15
    subst c15
    rw [if_neg Bool.false_ne_true] at H
    have H' := Aside0.mk H
    clear H
    obtain ⟨hcz18_0, hcz18_1, hcz18_2, hfz18_0, hfz18_1, hfz18_2⟩ := cz3f BK539.out
    go_wp2
    go_loopg [5, 42] kj2 (fun kq v5 v42 w' => ∃ (x5_2 : List Int) (x42_2 : Int), v42 = .int .i64 x42_2 ∧ Aside0 (incunabletop_TopRuns.l0 kq a1 x5_2 a0_1 x42_2 a0_0 a0_1 l0_2 = some r) ∧ Aside0 (kq ≤ kj2) ∧ Aside0 (Kd.R (Kd.int .u8) 5 w' w.heap.size (fun _ => True) v5 x5_2) ∧ Aside0 (w'.heap[gb539]? = some (.cells #[.int .i64 a0_0, .int .i64 a0_1, (.slice A0_2 l0_2.length c0_2)] 24 (0, 0))) ∧ Aside0 (Below w.heap.size w w'))
    case atStart => exact ⟨(([] : List Int)), (0), rq, H', ⟨Nat.le_refl _⟩, ⟨by first | exact Kd.R_nil _ _ _ _ _ | exact Kd.N_nil _ _ _ _ _ | exact Kd.V_nil _ _ _ _ _ | exact Kd.Q_nil _ _ _ _ _ | exact Kd.S_nil _ _ _ _ _⟩, ⟨bU BK539.out⟩, ⟨bl⟩⟩
    case round => as_aux_lemma =>
     clear H'
     obtain ⟨x5_2, x42_2, rfl, HA, HK2, HO_5, BK539, HB⟩ := hrel
     cases gk with
     | zero => exact absurd HA.out (by simp [incunabletop_TopRuns.l0])
     | succ k2 =>
      have H := HA.out
      clear HA
      simp only [incunabletop_TopRuns.l0] at H
      rcases iL H with H1 | H1 <;> clear H <;> obtain ⟨H, c19b0⟩ := H1
      ·obtain ⟨ji20, hji20⟩ : ∃ j_ : Int, (wrap64 (x42_2 * a0_0)) = j_ := ⟨_, rfl⟩
       replace H : (if 0 ≤ (ji20) then (if (ji20) ≤ (wrap64 ((wrap64 (x42_2 + 1)) * a0_0)) then (if (wrap64 ((wrap64 (x42_2 + 1)) * a0_0)) ≤ (l0_2.length : Int) then ((runs_Row.f k2 ((l0_2.take ((wrap64 ((wrap64 (x42_2 + 1)) * a0_0)) : Int).toNat).drop ((ji20) : Int).toNat)).bind fun bt543 => (if bt543.2 = 0 then (incunabletop_TopRuns.l1 k2 a1 x5_2 a0_1 x42_2 bt543.1 (bt543.1.length : Int) 0 a0_0 a0_1 l0_2) else (some false))) else (none)) else (none)) else (none)) = some r := by first | (rw [hji20] at H; exact H) | (simp only [hji20] at H ⊢; exact H)
       have hji20w : (IntKind.i64.wrap (x42_2 * a0_0)) = ji20 := (i64_w _).trans hji20
       by_cases c21 : 0 ≤ (ji20)
       ·rw [if_pos c21] at H
        have c21b0 := eq_true c21
        have c21b1 := decide_eq_true c21
        clear c21
        by_cases c22 : (ji20) ≤ (wrap64 ((wrap64 (x42_2 + 1)) * a0_0))
        ·rw [if_pos c22] at H
         have c22b0 := eq_true c22
         have c22b1 := decide_eq_true c22
         by_cases c23 : (wrap64 ((wrap64 (x42_2 + 1)) * a0_0)) ≤ (l0_2.length : Int)
         ·rw [if_pos c23] at H
          have c23b0 := eq_true c23
          have c23b1 := decide_eq_true c23
          obtain ⟨⟨t543, t544⟩, A24, H⟩ := oB H
          try dsimp only at H
          rcases iE H with H1 | H1 <;> clear H <;> obtain ⟨H, c25b0, c25b1, c25⟩ := H1
          ·have H' := Aside0.mk H
           clear H
           obtain ⟨hcz26_0, hcz26_1, hcz26_2, hfz26_0, hfz26_1, hfz26_2⟩ := cz3f BK539.out
           obtain ⟨i027, hi027, _, hsz27, _⟩ := info_parts info5
           obtain ⟨A27, hcut27, hA27, hC27⟩ := print_mid_of (P := Tryd.prog) (Value.int .u8) 0 22 5 .i64 .i64 Tryd.underlying22 hi027 hsz27 A0_2 c0_2 l0_2 (ji20) (wrap64 ((wrap64 (x42_2 + 1)) * a0_0)) (dt) (by first | omega | exact dt) (dt) HC0_2.out
           have hcl27 : ((l0_2.take ((wrap64 ((wrap64 (x42_2 + 1)) * a0_0)) : Int).toNat).drop ((ji20) : Int).toNat).length = ((wrap64 ((wrap64 (x42_2 + 1)) * a0_0)) : Int).toNat - ((ji20) : Int).toNat := by rw [List.length_drop, List.length_take]; have h_ : (wrap64 ((wrap64 (x42_2 + 1)) * a0_0)) ≤ (l0_2.length : Int) := dt; omega
           have HR542 := Aside0.mk (Kd.C_of_reads (h1 := fun _ => rfl) (hA27 _ (Kd.reads_of_C HR0_2.out)))
           have HC542 := Aside0.mk hC27
           clear hA27 hC27 hi027 hsz27
           go_wp2_with (first | ((with_reducible refine gf 6 rfl ?_); refine goesL_ (some 58) rfl rfl Tryd.func6 (by kernel_rfl) rfl #[.slice A27 ((l0_2.take ((wrap64 ((wrap64 (x42_2 + 1)) * a0_0)) : Int).toNat).drop ((ji20) : Int).toNat).length (c0_2 - (ji20).toNat)] rfl (by (try simp only [List.map_toArray, List.map_cons, List.map_nil]); first | done | (rw [show ((l0_2.take ((wrap64 ((wrap64 (x42_2 + 1)) * a0_0)) : Int).toNat).drop ((ji20) : Int).toNat).length = ((wrap64 ((wrap64 (x42_2 + 1)) * a0_0)).toNat - (ji20).toNat) from (by rw [List.length_drop, List.length_take]; have h_ : ((wrap64 ((wrap64 (x42_2 + 1)) * a0_0)) : Int) ≤ (l0_2.length : Int) := dt; omega)] <;> rfl) | (simp only [hji20]; rfl) | rfl | (simp only [List.length_drop, List.length_take]; rfl)) ?_; (with_reducible refine (runs_Row.calls k2 _ _ ((l0_2.take ((wrap64 ((wrap64 (x42_2 + 1)) * a0_0)) : Int).toNat).drop ((ji20) : Int).toNat) t543 t544 _ ?side1 ?side2 A24.out).mono ?_); (case side1 => exact cU (Kd.C_below HR542.out HB.out)); (case side2 => exact HC542.out); rintro e w28 ⟨v545, rfl, ho0, hb⟩; refine ⟨_, rfl, ?_⟩; have n_ := aC (Kd.R_below (rU HO_5.out) hb) (aC (Kd.R_lower ho0 bz) (aC (blk_below (bU BK539.out) hb) (aE (bs hb)))); clear HO_5 BK539 HB; obtain ⟨HO_5, HO546, BK539, HB⟩ := n_; obtain ⟨Ao29, co29, eo29⟩ := Kd.R_slice HO546.out; subst eo29))
           go_loopg [5, 65] k2 (fun kq v5 v65 w' => ∃ (x5_3 : List Int) (x65_3 : Int), v65 = .int .i64 x65_3 ∧ Aside0 (incunabletop_TopRuns.l1 kq a1 x5_3 a0_1 x42_2 t543 (t543.length : Int) x65_3 a0_0 a0_1 l0_2 = some r) ∧ Aside0 (kq ≤ k2) ∧ Aside0 (Kd.R (Kd.int .u8) 5 w' w.heap.size (fun _ => True) v5 x5_3) ∧ Aside0 (Kd.R (Kd.int .i64) 3 w' w.heap.size (fun _ => True) (.slice Ao29 t543.length co29) t543) ∧ Aside0 (w'.heap[gb539]? = some (.cells #[.int .i64 a0_0, .int .i64 a0_1, (.slice A0_2 l0_2.length c0_2)] 24 (0, 0))) ∧ Aside0 (Below w.heap.size w w'))
           case atStart => exact ⟨(x5_2), (0), rq, H', ⟨Nat.le_refl _⟩, ⟨rU HO_5.out⟩, ⟨rU HO546.out⟩, ⟨bU BK539.out⟩, ⟨bl⟩⟩
           case round => as_aux_lemma =>
            clear H'
            obtain ⟨x5_3, x65_3, rfl, HA, HK3, HO_5, HO_63, BK539, HB⟩ := hrel
            cases gk with
            | zero => exact absurd HA.out (by simp [incunabletop_TopRuns.l1])
            | succ k3 =>
             have H := HA.out
             clear HA
             simp only [incunabletop_TopRuns.l1] at H
             by_cases c30 : x65_3 < (t543.length : Int)
             ·rw [if_pos c30] at H
              have c30b0 := decide_eq_true c30
              (try (have c30b0_hcl27 := c30b0; simp only [hcl27] at c30b0_hcl27))
              clear c30
              by_cases c31 : 0 ≤ x65_3
              ·rw [if_pos c31] at H
               have c31b0 := decide_eq_true c31
               clear c31
               by_cases c32 : x65_3 < (t543.length : Int)
               ·rw [if_pos c32] at H
                have c32b0 := decide_eq_true c32
                (try (have c32b0_hcl27 := c32b0; simp only [hcl27] at c32b0_hcl27))
                clear c32
                obtain ⟨⟨t548, t549⟩, A33, H⟩ := oB H
                try dsimp only at H
                rcases iE H with H1 | H1 <;> clear H <;> obtain ⟨H, c34b0, c34b1, c34⟩ := H1
                ·by_cases c35 : x5_3.length + t548.length < 140737488355328
                 ·rw [if_pos c35] at H
                  have LMc35 := Aside0.mk c35
                  clear c35
                  obtain ⟨y552, hy_⟩ : ∃ y_ : List Int, y_ = (x5_3 ++ t548) := ⟨_, rfl⟩
                  replace H : (incunabletop_TopRuns.l1 k3 a1 y552 a0_1 x42_2 t543 (t543.length : Int) (wrap64 (x65_3 + 1)) a0_0 a0_1 l0_2) = some r := rh
                  have Ny552 := aE hy_
                  clear hy_
                  have H' := Aside0.mk H
                  clear H
                  have p547 : 0 ≤ (x65_3 : Int) := dt
                  have q547 : x65_3 < (t543.length : Int) := dt
                  (try (have q547_hcl27 := eq_true q547; simp only [hcl27] at q547_hcl27))
                  obtain ⟨ad547, e547, hx547_0⟩ := Kd.at_int (Kd.R_reads' HO_63.out).2.2 x65_3 p547 q547
                  cases e547
                  replace p547 := eq_true p547
                  replace q547 := eq_true q547
                  go_wp2_with (first | (refine gF 7 74 Tryd.func7 #[.int .i64 (rd t543 x65_3), .int .i64 (Int.tmod x65_3 2)] rfl rfl ?_; (with_reducible refine (runs_RunBits.calls k3 (rd t543 x65_3) (Int.tmod x65_3 2) t548 t549 _ A33.out).mono ?_); rintro e w36 ⟨v550, rfl, ho0, hb⟩; refine ⟨_, rfl, ?_⟩; have n_ := aC (Kd.R_elder' (rU HO_5.out) (Kd.R_base ho0) hb) (aC (Kd.R_below (rU HO_63.out) hb) (aC (Kd.R_lower (Kd.R_new' ho0 (Kd.R_lt (rU HO_5.out))) bz) (aC (blk_below (bU BK539.out) hb) (aE (bs hb))))); clear HO_5 HO_63 BK539 HB; obtain ⟨HO_5, HO_63, HO551, BK539, HB⟩ := n_; obtain ⟨Ao38, co38, eo38⟩ := Kd.R_slice HO551.out; subst eo38) | ((with_reducible refine gate_builtin (b := .append) (xs := #[.tmp 79, .tmp 80]) rfl ?_); (try (refine gate_guard (by rfl) ?_; dsimp only)); at_builtin; refine Kd.R_append_rows (Kd.int .u8) (w0 := w) w.heap.size rfl (.tmp 79) (.tmp 80) 22 5 (.int .u8 0) 1 rfl Tryd.underlying22 info5 rfl (by decide) (by omega) u5 x5_3 t548 _ _ _ (fun k_ => some k_ ≠ (.slice Ao38 t548.length co38 : Value).ownBlock) (fun _ => False) rfl rfl ?aO ?aR (fun _ _ h => h) (fun _ h => h.elim) ?aF ?aB ?aS ?aL ?_; (case aR => repeat (first | exact (Kd.R_reads' HO551.out).2.2 | (with_reducible refine Kd.C_alloc ?_ _) | (with_reducible refine Kd.C_drewN ?_ _) | (with_reducible refine Kd.C_drew ?_))); (case aB => exact bl); (case aF => exact (fun k_ hk => Kd.fresh' (Kd.R_lt (rU HO551.out)) k_ hk)); (case aO => exact (rU (Kd.R_mono HO_5.out (fun _ hk => hk.2)))); (case aS => exact bz); (case aL => have := LMc35.out; omega); intro v553 w37 ho hb hg hat; rw [← Ny552.out] at ho; have n_ := aC (Kd.R_over' (rU HO_63.out) (Kd.R_typed (rU HO_5.out)) (by decide) hg) (aC (blk_grown (bU BK539.out) hg (Kd.R_ne HO_5.out BK539.out (by decide))) (aC (Kd.R_after (ok := (fun _ => True)) (rU HO551.out) hg hat) (aC hb (aE ho)))); clear HO_63 BK539 HO551 HB HO_5; obtain ⟨HO_63, BK539, HO551, HB, HO554⟩ := n_; clear ho hb hg hat))
                  go_roundg k3
                  case measure => have := HJ2.out; have := HK2.out; have := HK3.out; omega
                  case rel => exact ⟨(y552), (wrap64 (x65_3 + 1)), rq, H', ⟨by have := HJ2.out; have := HK2.out; have := HK3.out; omega⟩, ⟨rU (Kd.R_mono HO554.out (fun _ hk => trivial))⟩, ⟨rU HO_63.out⟩, ⟨bU BK539.out⟩, ⟨bl⟩⟩
                 ·rw [if_neg c35] at H
                  exact absurd H (by simp)
                ·exact absurd ((Option.some.inj H).trans HR_.out) (by decide)
               ·rw [if_neg c32] at H
                exact absurd H (by simp)
              ·rw [if_neg c31] at H
               exact absurd H (by simp)
             ·rw [if_neg c30] at H
              have c30b0 := decide_eq_false c30
              (try (have c30b0_hcl27 := c30b0; simp only [hcl27] at c30b0_hcl27))
              clear c30
              have H' := Aside0.mk H
              clear H
              go_wp2
              go_roundg k3
              case measure => have := HJ2.out; have := HK2.out; have := HK3.out; omega
              case rel => exact ⟨(x5_3), (wrap64 (x42_2 + 1)), rq, H', ⟨by have := HJ2.out; have := HK2.out; have := HK3.out; omega⟩, ⟨rU HO_5.out⟩, ⟨bU BK539.out⟩, ⟨bl⟩⟩
          ·exact absurd ((Option.some.inj H).trans HR_.out) (by decide)
         ·rw [if_neg c23] at H
          exact absurd H (by simp)
        ·rw [if_neg c22] at H
         exact absurd H (by simp)
       ·rw [if_neg c21] at H
        exact absurd H (by simp)
      ·obtain ⟨⟨t555, t558⟩, A39, H⟩ := oB H
       try dsimp only at H
       obtain ⟨⟨t559, t560⟩, A40, H⟩ := oB H
       try dsimp only at H
       have HC41 := Aside0.mk H
       clear H
       obtain ⟨hcz42_0, hcz42_1, hcz42_2, hfz42_0, hfz42_1, hfz42_2⟩ := cz3f BK539.out
       go_upto_region 21 with (first | (refine gF 8 86 Tryd.func8 #[.agg #[.int .i64 a0_0, .int .i64 a0_1, .slice A0_2 l0_2.length c0_2]] rfl rfl ?_; (with_reducible refine (runs_One.calls k2 a0_0 a0_1 _ _ l0_2 t555 t558 _ ?side1 ?side2 A39.out).mono ?_); (case side1 => exact cU (Kd.C_below HR0_2.out HB.out)); (case side2 => exact HC0_2.out); rintro e w43 ⟨v556, rfl, ho0, hb⟩; refine ⟨_, rfl, ?_⟩; have n_ := aC (Kd.R_elder' (rU HO_5.out) (Kd.R_base ho0) hb) (aC (Kd.R_lower (Kd.R_new' ho0 (Kd.R_lt (rU HO_5.out))) bz) (aC (blk_below (bU BK539.out) hb) (aE (bs hb)))); clear HO_5 BK539 HB; obtain ⟨HO_5, HO557, BK539, HB⟩ := n_; obtain ⟨Ao44, co44, eo44⟩ := Kd.R_slice HO_5.out; subst eo44) | (refine gF 9 91 Tryd.func9 #[.slice Ao44 x5_2.length co44] rfl rfl ?_; (with_reducible refine (bits_Pack.calls k2 _ _ x5_2 t559 t560 _ ?side1 ?side2 A40.out).mono ?_); (case side1 => exact cU (Kd.R_reads' HO_5.out).2.2); (case side2 => exact (Kd.R_reads' HO_5.out).2.1); rintro e w45 ⟨v561, rfl, ho0, hb⟩; refine ⟨_, rfl, ?_⟩; have n_ := aC (Kd.R_elder' (rU HO_5.out) (Kd.R_base ho0) hb) (aC (Kd.R_elder' (rU HO557.out) (Kd.R_base ho0) hb) (aC (Kd.R_lower (Kd.R_new' (Kd.R_new' ho0 (Kd.R_lt (rU HO_5.out))) (Kd.R_lt (rU HO557.out))) bz) (aC (blk_below (bU BK539.out) hb) (aE (bs hb))))); clear HO_5 HO557 BK539 HB; obtain ⟨HO_5, HO557, HO562, BK539, HB⟩ := n_))
       (try simp only [Act.put, List.setIfInBounds_toArray, List.set_cons_zero, List.set_cons_succ])
       go_cut [105] (fun v105 wc => ∃ (kq : Nat) (x105_40 : Bool), v105 = .bool x105_40 ∧ Aside0 (incunabletop_TopRuns.j3 kq a1 x5_2 t555 x105_40 a0_0 a0_1 l0_2 = some r) ∧ Aside0 (kq ≤ k2) ∧ Aside0 (Kd.R (Kd.int .u8) 5 wc w.heap.size (fun k_ => some k_ ≠ (v556 : Value).ownBlock) (.slice Ao44 x5_2.length co44) x5_2) ∧ Aside0 (Kd.R (Kd.int .u8) 5 wc w.heap.size (fun k_ => some k_ ≠ ((.slice Ao44 x5_2.length co44) : Value).ownBlock) v556 t555) ∧ Aside0 (wc.heap[gb539]? = some (.cells #[.int .i64 a0_0, .int .i64 a0_1, (.slice A0_2 l0_2.length c0_2)] 24 (0, 0))) ∧ Aside0 (Below w.heap.size w wc))
       case first => as_aux_lemma =>
        have H := HC41.out
        clear HC41
        rcases iE H with H1 | H1 <;> clear H <;> obtain ⟨H, c46b0, c46b1, c46⟩ := H1
        ·(first | rw [c46b0] | (simp only [i64_w, i32_w]; rw [c46b0]) | skip)
         rcases iE H with H1 | H1 <;> clear H <;> obtain ⟨H, c47b0, c47b1, c47⟩ := H1
         ·obtain ⟨t563, A48, H⟩ := oB H
          try dsimp only at H
          have H' := Aside0.mk H
          clear H
          obtain ⟨Ao49, co49, eo49⟩ := Kd.R_slice HO557.out
          subst eo49
          obtain ⟨Ao50, co50, eo50⟩ := Kd.R_slice HO562.out
          subst eo50
          go_wp2_with (first | (go_at_call 10; (with_reducible refine (incunableref02_SameBytes.calls k2 _ _ t555 _ _ t559 t563 _ ?side1 ?side2 ?side3 ?side4 A48.out).mono ?_); (case side1 => exact cU (Kd.R_reads' HO557.out).2.2); (case side2 => exact (Kd.R_reads' HO557.out).2.1); (case side3 => exact cU (Kd.R_reads' HO562.out).2.2); (case side4 => exact (Kd.R_reads' HO562.out).2.1); rintro e w' ⟨rfl, ⟨nd, rfl⟩⟩))
          go_meet
          case rel => exact ⟨_, (!t563), rq, H', ⟨by have := HJ2.out; have := HK2.out; first | omega | exact Nat.le_refl _⟩, ⟨rU (Kd.R_mono HO_5.out (fun _ hk => hk.1.2))⟩, ⟨rU (Kd.R_mono HO557.out (fun _ hk => hk.1.2))⟩, ⟨bU BK539.out⟩, ⟨bl⟩⟩
         ·have H' := Aside0.mk H
          clear H
          go_wp2
          go_meet
          case rel => exact ⟨_, (true), rq, H', ⟨by have := HJ2.out; have := HK2.out; first | omega | exact Nat.le_refl _⟩, ⟨rU (Kd.R_mono HO_5.out (fun _ hk => hk.1.2))⟩, ⟨rU (Kd.R_mono HO557.out (fun _ hk => hk.1.2))⟩, ⟨bU BK539.out⟩, ⟨bl⟩⟩
        ·(first | rw [c46b0] | (simp only [i64_w, i32_w]; rw [c46b0]) | skip)
         have H' := Aside0.mk H
         clear H
         go_wp2
         go_meet
         case rel => exact ⟨_, (true), rq, H', ⟨by have := HJ2.out; have := HK2.out; first | omega | exact Nat.le_refl _⟩, ⟨rU (Kd.R_mono HO_5.out (fun _ hk => hk.1.2))⟩, ⟨rU (Kd.R_mono HO557.out (fun _ hk => hk.1.2))⟩, ⟨bU BK539.out⟩, ⟨bl⟩⟩
       case rest => as_aux_lemma =>
        clear HC41
        obtain ⟨kq, x105_40, rfl, HA, HJ40, HO_5, HO_13, BK539, HB⟩ := hcut
        cases kq with
        | zero => exact absurd HA.out (by simp [incunabletop_TopRuns.j3])
        | succ kj40 =>
         have H := HA.out
         clear HA
         simp only [incunabletop_TopRuns.j3] at H
         by_cases c51 : x105_40 = true
         ·subst c51
          rw [if_pos rfl] at H
          exact absurd ((Option.some.inj H).trans HR_.out) (by decide)
         ·replace c51 := Bool.eq_false_iff.mpr c51
          subst c51
          rw [if_neg Bool.false_ne_true] at H
          obtain ⟨⟨t564, t567⟩, A52, H⟩ := oB H
          try dsimp only at H
          obtain ⟨⟨t568, t569, t570, t573⟩, A53, H⟩ := oB H
          try dsimp only at H
          have HC54 := Aside0.mk H
          clear H
          obtain ⟨hcz55_0, hcz55_1, hcz55_2, hfz55_0, hfz55_1, hfz55_2⟩ := cz3f BK539.out
          go_upto_region 25 with (first | (refine gF 11 108 Tryd.func11 #[.agg #[.int .i64 a0_0, .int .i64 a0_1, .slice A0_2 l0_2.length c0_2]] rfl rfl ?_; (with_reducible refine (runs_Two.calls kj40 a0_0 a0_1 _ _ l0_2 t564 t567 _ ?side1 ?side2 A52.out).mono ?_); (case side1 => exact cU (Kd.C_below HR0_2.out HB.out)); (case side2 => exact HC0_2.out); rintro e w56 ⟨v565, rfl, ho0, hb⟩; refine ⟨_, rfl, ?_⟩; have n_ := aC (Kd.R_elder' (rU HO_5.out) (Kd.R_base ho0) hb) (aC (Kd.R_elder' (rU HO_13.out) (Kd.R_base ho0) hb) (aC (Kd.R_lower (Kd.R_new' (Kd.R_new' ho0 (Kd.R_lt (rU HO_5.out))) (Kd.R_lt (rU HO_13.out))) bz) (aC (blk_below (bU BK539.out) hb) (aE (bs hb))))); clear HO_5 HO_13 BK539 HB; obtain ⟨HO_5, HO_13, HO566, BK539, HB⟩ := n_; obtain ⟨hcz57_0, hcz57_1, hcz57_2, hfz57_0, hfz57_1, hfz57_2⟩ := cz3f BK539.out) | (refine gF 12 116 Tryd.func12 #[.agg #[.int .i64 a0_0, .int .i64 a0_1, .slice A0_2 l0_2.length c0_2], .int .i64 0, .int .i64 0, .int .i64 a0_0, .int .i64 a1] rfl rfl ?_; (with_reducible refine (bitmap_Cut.calls kj40 a0_0 a0_1 _ _ l0_2 0 0 a0_0 a1 t568 t569 t570 t573 _ ?side1 ?side2 A53.out).mono ?_); (case side1 => exact cU (Kd.C_below HR0_2.out HB.out)); (case side2 => exact HC0_2.out); rintro e w58 ⟨v571, rfl, ho0, hb⟩; refine ⟨_, rfl, ?_⟩; have n_ := aC (Kd.R_elder' (rU HO_5.out) (Kd.R_base ho0) hb) (aC (Kd.R_elder' (rU HO_13.out) (Kd.R_base ho0) hb) (aC (Kd.R_elder' (rU HO566.out) (Kd.R_base ho0) hb) (aC (Kd.R_lower (Kd.R_new' (Kd.R_new' (Kd.R_new' ho0 (Kd.R_lt (rU HO_5.out))) (Kd.R_lt (rU HO_13.out))) (Kd.R_lt (rU HO566.out))) bz) (aC (blk_below (bU BK539.out) hb) (aE (bs hb)))))); clear HO_5 HO_13 HO566 BK539 HB; obtain ⟨HO_5, HO_13, HO566, HO572, BK539, HB⟩ := n_) | ((with_reducible refine gd 18 rfl ?_); (try (refine gate_guard (by rfl) ?_; dsimp only)); refine bx 18 #[.int .i64 0, .int .i64 0, .slice none 0 0] 24 rfl rfl ?_; intro gb574 hg w59 hbox hb; have n_ := aC (Kd.R_below (rU HO_5.out) hb) (aC (Kd.R_below (rU HO_13.out) hb) (aC (Kd.R_below (rU HO566.out) hb) (aC (Kd.R_below (rU HO572.out) hb) (aC (blk_below (bU BK539.out) hb) (aC (bs hb) (aC hbox (aC (gz hg) (aC (gz hg) (aC (gn hg (bU BK539.out)) (aE (gm hg (bU BK539.out)))))))))))); clear HO_5 HO_13 HO566 HO572 BK539 HB; obtain ⟨HO_5, HO_13, HO566, HO572, BK539, HB, BK574, GW574, GE574, NB539_574, NB574_539⟩ := n_; clear hb hbox hg; have hnb60 := NB574_539.out; have hnc60 := NB539_574.out; obtain ⟨hcz61_0, hcz61_1, hcz61_2, hfz61_0, hfz61_1, hfz61_2⟩ := cz3f BK574.out; obtain ⟨Ao62, co62, eo62⟩ := Kd.R_slice HO572.out; subst eo62))
          (try simp only [Act.put, List.setIfInBounds_toArray, List.set_cons_zero, List.set_cons_succ])
          go_cut [124] (fun v124 wc => ∃ (kq : Nat) (x124_53 : Bool), v124 = .bool x124_53 ∧ Aside0 (incunabletop_TopRuns.j4 kq a1 x5_2 t555 t564 x124_53 a0_0 a0_1 l0_2 t568 t569 t570 = some r) ∧ Aside0 (kq ≤ kj40) ∧ Aside0 (Kd.R (Kd.int .u8) 5 wc w.heap.size (fun k_ => some k_ ≠ (v556 : Value).ownBlock ∧ some k_ ≠ (v565 : Value).ownBlock ∧ some k_ ≠ ((.slice Ao62 t570.length co62) : Value).ownBlock) (.slice Ao44 x5_2.length co44) x5_2) ∧ Aside0 (Kd.R (Kd.int .u8) 5 wc w.heap.size (fun k_ => some k_ ≠ ((.slice Ao44 x5_2.length co44) : Value).ownBlock ∧ some k_ ≠ (v565 : Value).ownBlock ∧ some k_ ≠ ((.slice Ao62 t570.length co62) : Value).ownBlock) v556 t555) ∧ Aside0 (Kd.R (Kd.int .u8) 5 wc w.heap.size (fun k_ => some k_ ≠ ((.slice Ao44 x5_2.length co44) : Value).ownBlock ∧ some k_ ≠ (v556 : Value).ownBlock ∧ some k_ ≠ ((.slice Ao62 t570.length co62) : Value).ownBlock) v565 t564) ∧ Aside0 (Kd.R (Kd.int .u8) 5 wc w.heap.size (fun k_ => some k_ ≠ ((.slice Ao44 x5_2.length co44) : Value).ownBlock ∧ some k_ ≠ (v556 : Value).ownBlock ∧ some k_ ≠ (v565 : Value).ownBlock) (.slice Ao62 t570.length co62) t570) ∧ Aside0 (wc.heap[gb539]? = some (.cells #[.int .i64 a0_0, .int .i64 a0_1, (.slice A0_2 l0_2.length c0_2)] 24 (0, 0))) ∧ Aside0 (wc.heap[gb574]? = some (.cells #[.int .i64 t568, .int .i64 t569, (.slice Ao62 t570.length co62)] 24 (0, 0))) ∧ Aside0 (Below w.heap.size w wc))
          case first => as_aux_lemma =>
           have H := HC54.out
           clear HC54
           rcases iE H with H1 | H1 <;> clear H <;> obtain ⟨H, c63b0, c63b1, c63⟩ := H1
           ·(first | rw [c63b0] | (simp only [i64_w, i32_w]; rw [c63b0]) | skip)
            have H' := Aside0.mk H
            clear H
            go_wp2
            go_meet
            case rel => exact ⟨_, ((t573 != 0)), rq, H', ⟨by have := HJ2.out; have := HK2.out; have := HJ40.out; first | omega | exact Nat.le_refl _⟩, ⟨rU (Kd.R_mono (Kd.R_far (p := ⟨gb574, 2, none⟩) (Kd.R_far (p := ⟨gb574, 1, none⟩) (Kd.R_far (p := ⟨gb574, 0, none⟩) (Kd.R_types HO_5.out BK574.out (by decide)) (fun _ hk => hk.2) (.int .i64 t568)) (fun _ hk => hk.2) (.int .i64 t569)) (fun _ hk => hk.2) (.slice Ao62 t570.length co62)) (fun _ hk => ⟨hk.1.1.1, ⟨hk.1.1.2, hk.1.2⟩⟩))⟩, ⟨rU (Kd.R_mono (Kd.R_far (p := ⟨gb574, 2, none⟩) (Kd.R_far (p := ⟨gb574, 1, none⟩) (Kd.R_far (p := ⟨gb574, 0, none⟩) (Kd.R_types HO_13.out BK574.out (by decide)) (fun _ hk => hk.2) (.int .i64 t568)) (fun _ hk => hk.2) (.int .i64 t569)) (fun _ hk => hk.2) (.slice Ao62 t570.length co62)) (fun _ hk => ⟨hk.1.1.1, ⟨hk.1.1.2, hk.1.2⟩⟩))⟩, ⟨rU (Kd.R_mono (Kd.R_far (p := ⟨gb574, 2, none⟩) (Kd.R_far (p := ⟨gb574, 1, none⟩) (Kd.R_far (p := ⟨gb574, 0, none⟩) (Kd.R_types HO566.out BK574.out (by decide)) (fun _ hk => hk.2) (.int .i64 t568)) (fun _ hk => hk.2) (.int .i64 t569)) (fun _ hk => hk.2) (.slice Ao62 t570.length co62)) (fun _ hk => ⟨hk.1.1.1.2, ⟨hk.1.1.2, hk.1.2⟩⟩))⟩, ⟨rU (Kd.R_mono (Kd.R_far (p := ⟨gb574, 2, none⟩) (Kd.R_far (p := ⟨gb574, 1, none⟩) (Kd.R_far (p := ⟨gb574, 0, none⟩) (Kd.R_types HO572.out BK574.out (by decide)) (fun _ hk => hk.2) (.int .i64 t568)) (fun _ hk => hk.2) (.int .i64 t569)) (fun _ hk => hk.2) (.slice Ao62 t570.length co62)) (fun _ hk => ⟨hk.1.1.1.2, ⟨hk.1.1.2, hk.1.2⟩⟩))⟩, ⟨by (with_reducible repeat (first | refine blk_drewN ?_ _ | refine blk_drew ?_ | refine blk_alloc ?_ _)); refine blk_far ?_ NB539_574.out _; (with_reducible repeat (first | refine blk_drewN ?_ _ | refine blk_drew ?_ | refine blk_alloc ?_ _)); refine blk_far ?_ NB539_574.out _; (with_reducible repeat (first | refine blk_drewN ?_ _ | refine blk_drew ?_ | refine blk_alloc ?_ _)); refine blk_far ?_ NB539_574.out _; (with_reducible repeat (first | refine blk_drewN ?_ _ | refine blk_drew ?_ | refine blk_alloc ?_ _)); exact BK539.out⟩, ⟨by (with_reducible repeat (first | refine blk_drewN ?_ _ | refine blk_drew ?_ | refine blk_alloc ?_ _)); refine blk_put (cs := #[.int .i64 t568, .int .i64 t569, .slice none 0 0]) ?_ 2 _ rfl; (with_reducible repeat (first | refine blk_drewN ?_ _ | refine blk_drew ?_ | refine blk_alloc ?_ _)); refine blk_put (cs := #[.int .i64 t568, .int .i64 0, .slice none 0 0]) ?_ 1 _ rfl; (with_reducible repeat (first | refine blk_drewN ?_ _ | refine blk_drew ?_ | refine blk_alloc ?_ _)); refine blk_put (cs := #[.int .i64 0, .int .i64 0, .slice none 0 0]) ?_ 0 _ rfl; (with_reducible repeat (first | refine blk_drewN ?_ _ | refine blk_drew ?_ | refine blk_alloc ?_ _)); exact BK574.out⟩, ⟨bl⟩⟩
           ·(first | rw [c63b0] | (simp only [i64_w, i32_w]; rw [c63b0]) | skip)
            have H' := Aside0.mk H
            clear H
            go_wp2
            go_meet
            case rel => exact ⟨_, (true), rq, H', ⟨by have := HJ2.out; have := HK2.out; have := HJ40.out; first | omega | exact Nat.le_refl _⟩, ⟨rU (Kd.R_mono (Kd.R_far (p := ⟨gb574, 2, none⟩) (Kd.R_far (p := ⟨gb574, 1, none⟩) (Kd.R_far (p := ⟨gb574, 0, none⟩) (Kd.R_types HO_5.out BK574.out (by decide)) (fun _ hk => hk.2) (.int .i64 t568)) (fun _ hk => hk.2) (.int .i64 t569)) (fun _ hk => hk.2) (.slice Ao62 t570.length co62)) (fun _ hk => ⟨hk.1.1.1, ⟨hk.1.1.2, hk.1.2⟩⟩))⟩, ⟨rU (Kd.R_mono (Kd.R_far (p := ⟨gb574, 2, none⟩) (Kd.R_far (p := ⟨gb574, 1, none⟩) (Kd.R_far (p := ⟨gb574, 0, none⟩) (Kd.R_types HO_13.out BK574.out (by decide)) (fun _ hk => hk.2) (.int .i64 t568)) (fun _ hk => hk.2) (.int .i64 t569)) (fun _ hk => hk.2) (.slice Ao62 t570.length co62)) (fun _ hk => ⟨hk.1.1.1, ⟨hk.1.1.2, hk.1.2⟩⟩))⟩, ⟨rU (Kd.R_mono (Kd.R_far (p := ⟨gb574, 2, none⟩) (Kd.R_far (p := ⟨gb574, 1, none⟩) (Kd.R_far (p := ⟨gb574, 0, none⟩) (Kd.R_types HO566.out BK574.out (by decide)) (fun _ hk => hk.2) (.int .i64 t568)) (fun _ hk => hk.2) (.int .i64 t569)) (fun _ hk => hk.2) (.slice Ao62 t570.length co62)) (fun _ hk => ⟨hk.1.1.1.2, ⟨hk.1.1.2, hk.1.2⟩⟩))⟩, ⟨rU (Kd.R_mono (Kd.R_far (p := ⟨gb574, 2, none⟩) (Kd.R_far (p := ⟨gb574, 1, none⟩) (Kd.R_far (p := ⟨gb574, 0, none⟩) (Kd.R_types HO572.out BK574.out (by decide)) (fun _ hk => hk.2) (.int .i64 t568)) (fun _ hk => hk.2) (.int .i64 t569)) (fun _ hk => hk.2) (.slice Ao62 t570.length co62)) (fun _ hk => ⟨hk.1.1.1.2, ⟨hk.1.1.2, hk.1.2⟩⟩))⟩, ⟨by (with_reducible repeat (first | refine blk_drewN ?_ _ | refine blk_drew ?_ | refine blk_alloc ?_ _)); refine blk_far ?_ NB539_574.out _; (with_reducible repeat (first | refine blk_drewN ?_ _ | refine blk_drew ?_ | refine blk_alloc ?_ _)); refine blk_far ?_ NB539_574.out _; (with_reducible repeat (first | refine blk_drewN ?_ _ | refine blk_drew ?_ | refine blk_alloc ?_ _)); refine blk_far ?_ NB539_574.out _; (with_reducible repeat (first | refine blk_drewN ?_ _ | refine blk_drew ?_ | refine blk_alloc ?_ _)); exact BK539.out⟩, ⟨by (with_reducible repeat (first | refine blk_drewN ?_ _ | refine blk_drew ?_ | refine blk_alloc ?_ _)); refine blk_put (cs := #[.int .i64 t568, .int .i64 t569, .slice none 0 0]) ?_ 2 _ rfl; (with_reducible repeat (first | refine blk_drewN ?_ _ | refine blk_drew ?_ | refine blk_alloc ?_ _)); refine blk_put (cs := #[.int .i64 t568, .int .i64 0, .slice none 0 0]) ?_ 1 _ rfl; (with_reducible repeat (first | refine blk_drewN ?_ _ | refine blk_drew ?_ | refine blk_alloc ?_ _)); refine blk_put (cs := #[.int .i64 0, .int .i64 0, .slice none 0 0]) ?_ 0 _ rfl; (with_reducible repeat (first | refine blk_drewN ?_ _ | refine blk_drew ?_ | refine blk_alloc ?_ _)); exact BK574.out⟩, ⟨bl⟩⟩
          case rest => as_aux_lemma =>
           clear HC54
           obtain ⟨kq, x124_53, rfl, HA, HJ53, HO_5, HO_13, HO_17, HO_575002, BK539, BK574, HB⟩ := hcut
           cases kq with
           | zero => exact absurd HA.out (by simp [incunabletop_TopRuns.j4])
           | succ kj53 =>
            have H := HA.out
            clear HA
            simp only [incunabletop_TopRuns.j4] at H
            by_cases c64 : x124_53 = true
            ·subst c64
             rw [if_pos rfl] at H
             exact absurd ((Option.some.inj H).trans HR_.out) (by decide)
            ·replace c64 := Bool.eq_false_iff.mpr c64
             subst c64
             rw [if_neg Bool.false_ne_true] at H
             obtain ⟨⟨t575, t576, t577, t580, t581⟩, A65, H⟩ := oB H
             try dsimp only at H
             obtain ⟨⟨t583, t584, t585, t588, t589⟩, A66, H⟩ := oB H
             try dsimp only at H
             have HC67 := Aside0.mk H
             clear H
             have hnb68 := NB539_574.out
             have hnc68 := NB574_539.out
             obtain ⟨hcz69_0, hcz69_1, hcz69_2, hfz69_0, hfz69_1, hfz69_2⟩ := cz3f BK539.out
             obtain ⟨Ao70, co70, eo70⟩ := Kd.R_slice HO_13.out
             subst eo70
             go_upto_region 29 with (first | (refine gF 13 130 Tryd.func13 #[.slice Ao70 t555.length co70, .int .i64 a0_0, .int .i64 a1] rfl rfl ?_; (with_reducible refine (runs_GetOne.calls kj53 _ _ t555 a0_0 a1 t575 t576 t577 t580 t581 _ ?side1 ?side2 A65.out).mono ?_); (case side1 => exact cU (Kd.R_reads' HO_13.out).2.2); (case side2 => exact (Kd.R_reads' HO_13.out).2.1); rintro e w71 ⟨v578, rfl, ho0, hb⟩; refine ⟨_, rfl, ?_⟩; have n_ := aC (Kd.R_elder' (rU HO_5.out) (Kd.R_base ho0) hb) (aC (Kd.R_elder' (rU HO_13.out) (Kd.R_base ho0) hb) (aC (Kd.R_elder' (rU HO_17.out) (Kd.R_base ho0) hb) (aC (Kd.R_elder' (rU HO_575002.out) (Kd.R_base ho0) hb) (aC (Kd.R_lower (Kd.R_new' (Kd.R_new' (Kd.R_new' (Kd.R_new' ho0 (Kd.R_lt (rU HO_5.out))) (Kd.R_lt (rU HO_13.out))) (Kd.R_lt (rU HO_17.out))) (Kd.R_lt (rU HO_575002.out))) bz) (aC (blk_below (bU BK539.out) hb) (aC (blk_below (bU BK574.out) hb) (aE (bs hb)))))))); clear HO_5 HO_13 HO_17 HO_575002 BK539 BK574 HB; obtain ⟨HO_5, HO_13, HO_17, HO_575002, HO579, BK539, BK574, HB⟩ := n_) | ((with_reducible refine gd 19 rfl ?_); (try (refine gate_guard (by rfl) ?_; dsimp only)); refine bx 19 #[.int .i64 0, .int .i64 0, .slice none 0 0] 24 rfl rfl ?_; intro gb582 hg w72 hbox hb; have n_ := aC (Kd.R_below (rU HO_5.out) hb) (aC (Kd.R_below (rU HO_13.out) hb) (aC (Kd.R_below (rU HO_17.out) hb) (aC (Kd.R_below (rU HO_575002.out) hb) (aC (Kd.R_below (rU HO579.out) hb) (aC (blk_below (bU BK539.out) hb) (aC (blk_below (bU BK574.out) hb) (aC (bs hb) (aC hbox (aC (gz hg) (aC (gz hg) (aC (gn hg (bU BK539.out)) (aC (gm hg (bU BK539.out)) (aC (gn hg (bU BK574.out)) (aE (gm hg (bU BK574.out)))))))))))))))); clear HO_5 HO_13 HO_17 HO_575002 HO579 BK539 BK574 HB; obtain ⟨HO_5, HO_13, HO_17, HO_575002, HO579, BK539, BK574, HB, BK582, GW582, GE582, NB539_582, NB582_539, NB574_582, NB582_574⟩ := n_; clear hb hbox hg; have hnb73 := NB582_539.out; have hnc73 := NB539_582.out; have hnb74 := NB582_574.out; have hnc74 := NB574_582.out; obtain ⟨hcz75_0, hcz75_1, hcz75_2, hfz75_0, hfz75_1, hfz75_2⟩ := cz3f BK582.out; obtain ⟨Ao76, co76, eo76⟩ := Kd.R_slice HO579.out; subst eo76; obtain ⟨hcz77_0, hcz77_1, hcz77_2, hfz77_0, hfz77_1, hfz77_2⟩ := cz3f BK539.out; obtain ⟨Ao78, co78, eo78⟩ := Kd.R_slice HO_17.out; subst eo78) | (refine gF 14 139 Tryd.func14 #[.slice Ao78 t564.length co78, .int .i64 a0_0, .int .i64 a1] rfl rfl ?_; (with_reducible refine (runs_GetTwo.calls kj53 _ _ t564 a0_0 a1 t583 t584 t585 t588 t589 _ ?side1 ?side2 A66.out).mono ?_); (case side1 => refine (Kd.R_reads' (e := 5) (base := w.heap.size) (ok := fun k_ => ((some k_ ≠ (.slice Ao44 x5_2.length co44 : Value).ownBlock ∧ (some k_ ≠ (.slice Ao70 t555.length co70 : Value).ownBlock ∧ some k_ ≠ (.slice Ao62 t570.length co62 : Value).ownBlock)) ∧ some k_ ≠ (.slice Ao76 t577.length co76 : Value).ownBlock)) (n := t564.length) (c := co78) ?_).2.2; exact (rU (Kd.R_mono (Kd.R_far (p := ⟨gb582, 2, none⟩) (Kd.R_far (p := ⟨gb582, 1, none⟩) (Kd.R_far (p := ⟨gb582, 0, none⟩) (Kd.R_types HO_17.out BK582.out (by decide)) (fun _ hk => hk.2) (.int .i64 t575)) (fun _ hk => hk.2) (.int .i64 t576)) (fun _ hk => hk.2) (.slice Ao76 t577.length co76)) (fun _ h_ => h_.1)))); (case side2 => exact (Kd.R_reads' HO_17.out).2.1); rintro e w79 ⟨v586, rfl, ho0, hb⟩; refine ⟨_, rfl, ?_⟩; have n_ := aC (Kd.R_elder' (rU (Kd.R_mono (Kd.R_far (p := ⟨gb582, 2, none⟩) (Kd.R_far (p := ⟨gb582, 1, none⟩) (Kd.R_far (p := ⟨gb582, 0, none⟩) (Kd.R_types HO_5.out BK582.out (by decide)) (fun _ hk => hk.2) (.int .i64 t575)) (fun _ hk => hk.2) (.int .i64 t576)) (fun _ hk => hk.2) (.slice Ao76 t577.length co76)) (fun _ h_ => h_.1))) (Kd.R_base ho0) hb) (aC (Kd.R_elder' (rU (Kd.R_mono (Kd.R_far (p := ⟨gb582, 2, none⟩) (Kd.R_far (p := ⟨gb582, 1, none⟩) (Kd.R_far (p := ⟨gb582, 0, none⟩) (Kd.R_types HO_13.out BK582.out (by decide)) (fun _ hk => hk.2) (.int .i64 t575)) (fun _ hk => hk.2) (.int .i64 t576)) (fun _ hk => hk.2) (.slice Ao76 t577.length co76)) (fun _ h_ => h_.1))) (Kd.R_base ho0) hb) (aC (Kd.R_elder' (rU (Kd.R_mono (Kd.R_far (p := ⟨gb582, 2, none⟩) (Kd.R_far (p := ⟨gb582, 1, none⟩) (Kd.R_far (p := ⟨gb582, 0, none⟩) (Kd.R_types HO_17.out BK582.out (by decide)) (fun _ hk => hk.2) (.int .i64 t575)) (fun _ hk => hk.2) (.int .i64 t576)) (fun _ hk => hk.2) (.slice Ao76 t577.length co76)) (fun _ h_ => h_.1))) (Kd.R_base ho0) hb) (aC (Kd.R_elder' (rU (Kd.R_mono (Kd.R_far (p := ⟨gb582, 2, none⟩) (Kd.R_far (p := ⟨gb582, 1, none⟩) (Kd.R_far (p := ⟨gb582, 0, none⟩) (Kd.R_types HO_575002.out BK582.out (by decide)) (fun _ hk => hk.2) (.int .i64 t575)) (fun _ hk => hk.2) (.int .i64 t576)) (fun _ hk => hk.2) (.slice Ao76 t577.length co76)) (fun _ h_ => h_.1))) (Kd.R_base ho0) hb) (aC (Kd.R_elder' (rU (Kd.R_mono (Kd.R_far (p := ⟨gb582, 2, none⟩) (Kd.R_far (p := ⟨gb582, 1, none⟩) (Kd.R_far (p := ⟨gb582, 0, none⟩) (Kd.R_types HO579.out BK582.out (by decide)) (fun _ hk => hk.2) (.int .i64 t575)) (fun _ hk => hk.2) (.int .i64 t576)) (fun _ hk => hk.2) (.slice Ao76 t577.length co76)) (fun _ h_ => h_.1))) (Kd.R_base ho0) hb) (aC (Kd.R_lower (Kd.R_new' (Kd.R_new' (Kd.R_new' (Kd.R_new' (Kd.R_new' ho0 (Kd.R_lt (rU (Kd.R_mono (Kd.R_far (p := ⟨gb582, 2, none⟩) (Kd.R_far (p := ⟨gb582, 1, none⟩) (Kd.R_far (p := ⟨gb582, 0, none⟩) (Kd.R_types HO_5.out BK582.out (by decide)) (fun _ hk => hk.2) (.int .i64 t575)) (fun _ hk => hk.2) (.int .i64 t576)) (fun _ hk => hk.2) (.slice Ao76 t577.length co76)) (fun _ h_ => h_.1))))) (Kd.R_lt (rU (Kd.R_mono (Kd.R_far (p := ⟨gb582, 2, none⟩) (Kd.R_far (p := ⟨gb582, 1, none⟩) (Kd.R_far (p := ⟨gb582, 0, none⟩) (Kd.R_types HO_13.out BK582.out (by decide)) (fun _ hk => hk.2) (.int .i64 t575)) (fun _ hk => hk.2) (.int .i64 t576)) (fun _ hk => hk.2) (.slice Ao76 t577.length co76)) (fun _ h_ => h_.1))))) (Kd.R_lt (rU (Kd.R_mono (Kd.R_far (p := ⟨gb582, 2, none⟩) (Kd.R_far (p := ⟨gb582, 1, none⟩) (Kd.R_far (p := ⟨gb582, 0, none⟩) (Kd.R_types HO_17.out BK582.out (by decide)) (fun _ hk => hk.2) (.int .i64 t575)) (fun _ hk => hk.2) (.int .i64 t576)) (fun _ hk => hk.2) (.slice Ao76 t577.length co76)) (fun _ h_ => h_.1))))) (Kd.R_lt (rU (Kd.R_mono (Kd.R_far (p := ⟨gb582, 2, none⟩) (Kd.R_far (p := ⟨gb582, 1, none⟩) (Kd.R_far (p := ⟨gb582, 0, none⟩) (Kd.R_types HO_575002.out BK582.out (by decide)) (fun _ hk => hk.2) (.int .i64 t575)) (fun _ hk => hk.2) (.int .i64 t576)) (fun _ hk => hk.2) (.slice Ao76 t577.length co76)) (fun _ h_ => h_.1))))) (Kd.R_lt (rU (Kd.R_mono (Kd.R_far (p := ⟨gb582, 2, none⟩) (Kd.R_far (p := ⟨gb582, 1, none⟩) (Kd.R_far (p := ⟨gb582, 0, none⟩) (Kd.R_types HO579.out BK582.out (by decide)) (fun _ hk => hk.2) (.int .i64 t575)) (fun _ hk => hk.2) (.int .i64 t576)) (fun _ hk => hk.2) (.slice Ao76 t577.length co76)) (fun _ h_ => h_.1))))) bz) (aC (blk_below (g := gb539) (o := .cells #[.int .i64 a0_0, .int .i64 a0_1, .slice A0_2 l0_2.length c0_2] 24 (0, 0)) (by (with_reducible repeat (first | refine blk_drewN ?_ _ | refine blk_drew ?_ | refine blk_alloc ?_ _)); refine blk_far ?_ NB539_582.out _; (with_reducible repeat (first | refine blk_drewN ?_ _ | refine blk_drew ?_ | refine blk_alloc ?_ _)); refine blk_far ?_ NB539_582.out _; (with_reducible repeat (first | refine blk_drewN ?_ _ | refine blk_drew ?_ | refine blk_alloc ?_ _)); refine blk_far ?_ NB539_582.out _; (with_reducible repeat (first | refine blk_drewN ?_ _ | refine blk_drew ?_ | refine blk_alloc ?_ _)); exact BK539.out) hb) (aC (blk_below (g := gb574) (o := .cells #[.int .i64 t568, .int .i64 t569, .slice Ao62 t570.length co62] 24 (0, 0)) (by (with_reducible repeat (first | refine blk_drewN ?_ _ | refine blk_drew ?_ | refine blk_alloc ?_ _)); refine blk_far ?_ NB574_582.out _; (with_reducible repeat (first | refine blk_drewN ?_ _ | refine blk_drew ?_ | refine blk_alloc ?_ _)); refine blk_far ?_ NB574_582.out _; (with_reducible repeat (first | refine blk_drewN ?_ _ | refine blk_drew ?_ | refine blk_alloc ?_ _)); refine blk_far ?_ NB574_582.out _; (with_reducible repeat (first | refine blk_drewN ?_ _ | refine blk_drew ?_ | refine blk_alloc ?_ _)); exact BK574.out) hb) (aC (blk_below (g := gb582) (o := .cells #[.int .i64 t575, .int .i64 t576, .slice Ao76 t577.length co76] 24 (0, 0)) (by (with_reducible repeat (first | refine blk_drewN ?_ _ | refine blk_drew ?_ | refine blk_alloc ?_ _)); refine blk_put (cs := #[.int .i64 t575, .int .i64 t576, .slice none 0 0]) ?_ 2 _ rfl; (with_reducible repeat (first | refine blk_drewN ?_ _ | refine blk_drew ?_ | refine blk_alloc ?_ _)); refine blk_put (cs := #[.int .i64 t575, .int .i64 0, .slice none 0 0]) ?_ 1 _ rfl; (with_reducible repeat (first | refine blk_drewN ?_ _ | refine blk_drew ?_ | refine blk_alloc ?_ _)); refine blk_put (cs := #[.int .i64 0, .int .i64 0, .slice none 0 0]) ?_ 0 _ rfl; (with_reducible repeat (first | refine blk_drewN ?_ _ | refine blk_drew ?_ | refine blk_alloc ?_ _)); exact BK582.out) hb) (aE (bs hb)))))))))); clear HO_5 HO_13 HO_17 HO_575002 HO579 BK539 BK574 BK582 HB; obtain ⟨HO_5, HO_13, HO_17, HO_575002, HO579, HO587, BK539, BK574, BK582, HB⟩ := n_) | ((with_reducible refine gd 21 rfl ?_); (try (refine gate_guard (by rfl) ?_; dsimp only)); refine bx 21 #[.int .i64 0, .int .i64 0, .slice none 0 0] 24 rfl rfl ?_; intro gb590 hg w80 hbox hb; have n_ := aC (Kd.R_below (rU HO_5.out) hb) (aC (Kd.R_below (rU HO_13.out) hb) (aC (Kd.R_below (rU HO_17.out) hb) (aC (Kd.R_below (rU HO_575002.out) hb) (aC (Kd.R_below (rU HO579.out) hb) (aC (Kd.R_below (rU HO587.out) hb) (aC (blk_below (bU BK539.out) hb) (aC (blk_below (bU BK574.out) hb) (aC (blk_below (bU BK582.out) hb) (aC (bs hb) (aC hbox (aC (gz hg) (aC (gz hg) (aC (gn hg (bU BK539.out)) (aC (gm hg (bU BK539.out)) (aC (gn hg (bU BK574.out)) (aC (gm hg (bU BK574.out)) (aC (gn hg (bU BK582.out)) (aE (gm hg (bU BK582.out)))))))))))))))))))); clear HO_5 HO_13 HO_17 HO_575002 HO579 HO587 BK539 BK574 BK582 HB; obtain ⟨HO_5, HO_13, HO_17, HO_575002, HO579, HO587, BK539, BK574, BK582, HB, BK590, GW590, GE590, NB539_590, NB590_539, NB574_590, NB590_574, NB582_590, NB590_582⟩ := n_; clear hb hbox hg; have hnb81 := NB590_539.out; have hnc81 := NB539_590.out; have hnb82 := NB590_574.out; have hnc82 := NB574_590.out; have hnb83 := NB590_582.out; have hnc83 := NB582_590.out; obtain ⟨hcz84_0, hcz84_1, hcz84_2, hfz84_0, hfz84_1, hfz84_2⟩ := cz3f BK590.out; obtain ⟨Ao85, co85, eo85⟩ := Kd.R_slice HO587.out; subst eo85))
             (try simp only [Act.put, List.setIfInBounds_toArray, List.set_cons_zero, List.set_cons_succ])
             go_cut [160] (fun v160 wc => ∃ (kq : Nat) (x160_66 : Bool), v160 = .bool x160_66 ∧ Aside0 (incunabletop_TopRuns.j5 kq x5_2 t564 t580 t588 x160_66 t568 t569 t570 = some r) ∧ Aside0 (kq ≤ kj53) ∧ Aside0 (Kd.R (Kd.int .u8) 5 wc w.heap.size (fun k_ => some k_ ≠ ((.slice Ao78 t564.length co78) : Value).ownBlock ∧ some k_ ≠ ((.slice Ao62 t570.length co62) : Value).ownBlock ∧ some k_ ≠ ((.slice Ao76 t577.length co76) : Value).ownBlock ∧ some k_ ≠ ((.slice Ao85 t585.length co85) : Value).ownBlock) (.slice Ao44 x5_2.length co44) x5_2) ∧ Aside0 (Kd.R (Kd.int .u8) 5 wc w.heap.size (fun k_ => some k_ ≠ ((.slice Ao44 x5_2.length co44) : Value).ownBlock ∧ some k_ ≠ ((.slice Ao62 t570.length co62) : Value).ownBlock ∧ some k_ ≠ ((.slice Ao76 t577.length co76) : Value).ownBlock ∧ some k_ ≠ ((.slice Ao85 t585.length co85) : Value).ownBlock) (.slice Ao78 t564.length co78) t564) ∧ Aside0 (Kd.R (Kd.int .u8) 5 wc w.heap.size (fun k_ => some k_ ≠ ((.slice Ao44 x5_2.length co44) : Value).ownBlock ∧ some k_ ≠ ((.slice Ao78 t564.length co78) : Value).ownBlock ∧ some k_ ≠ ((.slice Ao76 t577.length co76) : Value).ownBlock ∧ some k_ ≠ ((.slice Ao85 t585.length co85) : Value).ownBlock) (.slice Ao62 t570.length co62) t570) ∧ Aside0 (Kd.R (Kd.int .u8) 5 wc w.heap.size (fun k_ => some k_ ≠ ((.slice Ao44 x5_2.length co44) : Value).ownBlock ∧ some k_ ≠ ((.slice Ao78 t564.length co78) : Value).ownBlock ∧ some k_ ≠ ((.slice Ao62 t570.length co62) : Value).ownBlock ∧ some k_ ≠ ((.slice Ao85 t585.length co85) : Value).ownBlock) (.slice Ao76 t577.length co76) t577) ∧ Aside0 (Kd.R (Kd.int .u8) 5 wc w.heap.size (fun k_ => some k_ ≠ ((.slice Ao44 x5_2.length co44) : Value).ownBlock ∧ some k_ ≠ ((.slice Ao78 t564.length co78) : Value).ownBlock ∧ some k_ ≠ ((.slice Ao62 t570.length co62) : Value).ownBlock ∧ some k_ ≠ ((.slice Ao76 t577.length co76) : Value).ownBlock) (.slice Ao85 t585.length co85) t585) ∧ Aside0 (wc.heap[gb539]? = some (.cells #[.int .i64 a0_0, .int .i64 a0_1, (.slice A0_2 l0_2.length c0_2)] 24 (0, 0))) ∧ Aside0 (wc.heap[gb574]? = some (.cells #[.int .i64 t568, .int .i64 t569, (.slice Ao62 t570.length co62)] 24 (0, 0))) ∧ Aside0 (wc.heap[gb582]? = some (.cells #[.int .i64 t575, .int .i64 t576, (.slice Ao76 t577.length co76)] 24 (0, 0))) ∧ Aside0 (wc.heap[gb590]? = some (.cells #[.int .i64 t583, .int .i64 t584, (.slice Ao85 t585.length co85)] 24 (0, 0))) ∧ Aside0 (Below w.heap.size w wc))
             case first => as_aux_lemma =>
              have H := HC67.out
              clear HC67
              rcases iE H with H1 | H1 <;> clear H <;> obtain ⟨H, c86b0, c86b1, c86⟩ := H1
              ·(first | rw [c86b0] | (simp only [i64_w, i32_w]; rw [c86b0]) | skip)
               rcases iE H with H1 | H1 <;> clear H <;> obtain ⟨H, c87b0, c87b1, c87⟩ := H1
               ·obtain ⟨t591, A88, H⟩ := oB H
                try dsimp only at H
                by_cases c89 : t591 = true
                ·subst c89
                 rw [if_pos rfl] at H
                 obtain ⟨t592, A90, H⟩ := oB H
                 try dsimp only at H
                 have H' := Aside0.mk H
                 clear H
                 have hnb91 := NB582_539.out
                 have hnc91 := NB539_582.out
                 have hnb92 := NB582_574.out
                 have hnc92 := NB574_582.out
                 have hnb93 := NB582_590.out
                 have hnc93 := NB590_582.out
                 obtain ⟨hcz94_0, hcz94_1, hcz94_2, hfz94_0, hfz94_1, hfz94_2⟩ := cz3f BK582.out
                 have hnb95 := NB574_539.out
                 have hnc95 := NB539_574.out
                 have hnb96 := NB574_590.out
                 have hnc96 := NB590_574.out
                 obtain ⟨hcz97_0, hcz97_1, hcz97_2, hfz97_0, hfz97_1, hfz97_2⟩ := cz3f BK574.out
                 go_wp2_with (first | (go_at_call 15; (with_reducible refine (incunableref06_SameBitmap.calls kj53 t575 t576 _ _ t577 t568 t569 _ _ t570 true _ ?side1 ?side2 ?side3 ?side4 A88.out).mono ?_); (case side1 => refine (Kd.R_reads' (e := 5) (base := w.heap.size) (ok := fun k_ => (((((True ∧ some k_ ≠ (.slice Ao44 x5_2.length co44 : Value).ownBlock) ∧ some k_ ≠ (.slice Ao70 t555.length co70 : Value).ownBlock) ∧ some k_ ≠ (.slice Ao78 t564.length co78 : Value).ownBlock) ∧ some k_ ≠ (.slice Ao62 t570.length co62 : Value).ownBlock) ∧ some k_ ≠ (.slice Ao85 t585.length co85 : Value).ownBlock)) (n := t577.length) (c := co76) ?_).2.2; exact (rU (Kd.R_mono (Kd.R_far (p := ⟨gb590, 2, none⟩) (Kd.R_far (p := ⟨gb590, 1, none⟩) (Kd.R_far (p := ⟨gb590, 0, none⟩) (Kd.R_types HO579.out BK590.out (by decide)) (fun _ hk => hk.2) (.int .i64 t583)) (fun _ hk => hk.2) (.int .i64 t584)) (fun _ hk => hk.2) (.slice Ao85 t585.length co85)) (fun _ h_ => h_.1)))); (case side2 => exact (Kd.R_reads' HO579.out).2.1); (case side3 => refine (Kd.R_reads' (e := 5) (base := w.heap.size) (ok := fun k_ => (((some k_ ≠ (.slice Ao44 x5_2.length co44 : Value).ownBlock ∧ (some k_ ≠ (.slice Ao70 t555.length co70 : Value).ownBlock ∧ some k_ ≠ (.slice Ao78 t564.length co78 : Value).ownBlock)) ∧ some k_ ≠ (.slice Ao76 t577.length co76 : Value).ownBlock) ∧ some k_ ≠ (.slice Ao85 t585.length co85 : Value).ownBlock)) (n := t570.length) (c := co62) ?_).2.2; exact (rU (Kd.R_mono (Kd.R_far (p := ⟨gb590, 2, none⟩) (Kd.R_far (p := ⟨gb590, 1, none⟩) (Kd.R_far (p := ⟨gb590, 0, none⟩) (Kd.R_types HO_575002.out BK590.out (by decide)) (fun _ hk => hk.2) (.int .i64 t583)) (fun _ hk => hk.2) (.int .i64 t584)) (fun _ hk => hk.2) (.slice Ao85 t585.length co85)) (fun _ h_ => h_.1)))); (case side4 => exact (Kd.R_reads' HO_575002.out).2.1); rintro e w98 ⟨rfl, hb⟩; have n_ := aC (Kd.R_below (rU (Kd.R_mono (Kd.R_far (p := ⟨gb590, 2, none⟩) (Kd.R_far (p := ⟨gb590, 1, none⟩) (Kd.R_far (p := ⟨gb590, 0, none⟩) (Kd.R_types HO_5.out BK590.out (by decide)) (fun _ hk => hk.2) (.int .i64 t583)) (fun _ hk => hk.2) (.int .i64 t584)) (fun _ hk => hk.2) (.slice Ao85 t585.length co85)) (fun _ h_ => h_.1))) hb) (aC (Kd.R_below (rU (Kd.R_mono (Kd.R_far (p := ⟨gb590, 2, none⟩) (Kd.R_far (p := ⟨gb590, 1, none⟩) (Kd.R_far (p := ⟨gb590, 0, none⟩) (Kd.R_types HO_13.out BK590.out (by decide)) (fun _ hk => hk.2) (.int .i64 t583)) (fun _ hk => hk.2) (.int .i64 t584)) (fun _ hk => hk.2) (.slice Ao85 t585.length co85)) (fun _ h_ => h_.1))) hb) (aC (Kd.R_below (rU (Kd.R_mono (Kd.R_far (p := ⟨gb590, 2, none⟩) (Kd.R_far (p := ⟨gb590, 1, none⟩) (Kd.R_far (p := ⟨gb590, 0, none⟩) (Kd.R_types HO_17.out BK590.out (by decide)) (fun _ hk => hk.2) (.int .i64 t583)) (fun _ hk => hk.2) (.int .i64 t584)) (fun _ hk => hk.2) (.slice Ao85 t585.length co85)) (fun _ h_ => h_.1))) hb) (aC (Kd.R_below (rU (Kd.R_mono (Kd.R_far (p := ⟨gb590, 2, none⟩) (Kd.R_far (p := ⟨gb590, 1, none⟩) (Kd.R_far (p := ⟨gb590, 0, none⟩) (Kd.R_types HO_575002.out BK590.out (by decide)) (fun _ hk => hk.2) (.int .i64 t583)) (fun _ hk => hk.2) (.int .i64 t584)) (fun _ hk => hk.2) (.slice Ao85 t585.length co85)) (fun _ h_ => h_.1))) hb) (aC (Kd.R_below (rU (Kd.R_mono (Kd.R_far (p := ⟨gb590, 2, none⟩) (Kd.R_far (p := ⟨gb590, 1, none⟩) (Kd.R_far (p := ⟨gb590, 0, none⟩) (Kd.R_types HO579.out BK590.out (by decide)) (fun _ hk => hk.2) (.int .i64 t583)) (fun _ hk => hk.2) (.int .i64 t584)) (fun _ hk => hk.2) (.slice Ao85 t585.length co85)) (fun _ h_ => h_.1))) hb) (aC (Kd.R_below (rU (Kd.R_mono (Kd.R_far (p := ⟨gb590, 2, none⟩) (Kd.R_far (p := ⟨gb590, 1, none⟩) (Kd.R_far (p := ⟨gb590, 0, none⟩) (Kd.R_types HO587.out BK590.out (by decide)) (fun _ hk => hk.2) (.int .i64 t583)) (fun _ hk => hk.2) (.int .i64 t584)) (fun _ hk => hk.2) (.slice Ao85 t585.length co85)) (fun _ h_ => h_.1))) hb) (aC (blk_below (g := gb539) (o := .cells #[.int .i64 a0_0, .int .i64 a0_1, .slice A0_2 l0_2.length c0_2] 24 (0, 0)) (by (with_reducible repeat (first | refine blk_drewN ?_ _ | refine blk_drew ?_ | refine blk_alloc ?_ _)); refine blk_far ?_ NB539_590.out _; (with_reducible repeat (first | refine blk_drewN ?_ _ | refine blk_drew ?_ | refine blk_alloc ?_ _)); refine blk_far ?_ NB539_590.out _; (with_reducible repeat (first | refine blk_drewN ?_ _ | refine blk_drew ?_ | refine blk_alloc ?_ _)); refine blk_far ?_ NB539_590.out _; (with_reducible repeat (first | refine blk_drewN ?_ _ | refine blk_drew ?_ | refine blk_alloc ?_ _)); exact BK539.out) hb) (aC (blk_below (g := gb574) (o := .cells #[.int .i64 t568, .int .i64 t569, .slice Ao62 t570.length co62] 24 (0, 0)) (by (with_reducible repeat (first | refine blk_drewN ?_ _ | refine blk_drew ?_ | refine blk_alloc ?_ _)); refine blk_far ?_ NB574_590.out _; (with_reducible repeat (first | refine blk_drewN ?_ _ | refine blk_drew ?_ | refine blk_alloc ?_ _)); refine blk_far ?_ NB574_590.out _; (with_reducible repeat (first | refine blk_drewN ?_ _ | refine blk_drew ?_ | refine blk_alloc ?_ _)); refine blk_far ?_ NB574_590.out _; (with_reducible repeat (first | refine blk_drewN ?_ _ | refine blk_drew ?_ | refine blk_alloc ?_ _)); exact BK574.out) hb) (aC (blk_below (g := gb582) (o := .cells #[.int .i64 t575, .int .i64 t576, .slice Ao76 t577.length co76] 24 (0, 0)) (by (with_reducible repeat (first | refine blk_drewN ?_ _ | refine blk_drew ?_ | refine blk_alloc ?_ _)); refine blk_far ?_ NB582_590.out _; (with_reducible repeat (first | refine blk_drewN ?_ _ | refine blk_drew ?_ | refine blk_alloc ?_ _)); refine blk_far ?_ NB582_590.out _; (with_reducible repeat (first | refine blk_drewN ?_ _ | refine blk_drew ?_ | refine blk_alloc ?_ _)); refine blk_far ?_ NB582_590.out _; (with_reducible repeat (first | refine blk_drewN ?_ _ | refine blk_drew ?_ | refine blk_alloc ?_ _)); exact BK582.out) hb) (aC (blk_below (g := gb590) (o := .cells #[.int .i64 t583, .int .i64 t584, .slice Ao85 t585.length co85] 24 (0, 0)) (by (with_reducible repeat (first | refine blk_drewN ?_ _ | refine blk_drew ?_ | refine blk_alloc ?_ _)); refine blk_put (cs := #[.int .i64 t583, .int .i64 t584, .slice none 0 0]) ?_ 2 _ rfl; (with_reducible repeat (first | refine blk_drewN ?_ _ | refine blk_drew ?_ | refine blk_alloc ?_ _)); refine blk_put (cs := #[.int .i64 t583, .int .i64 0, .slice none 0 0]) ?_ 1 _ rfl; (with_reducible repeat (first | refine blk_drewN ?_ _ | refine blk_drew ?_ | refine blk_alloc ?_ _)); refine blk_put (cs := #[.int .i64 0, .int .i64 0, .slice none 0 0]) ?_ 0 _ rfl; (with_reducible repeat (first | refine blk_drewN ?_ _ | refine blk_drew ?_ | refine blk_alloc ?_ _)); exact BK590.out) hb) (aE (bs hb))))))))))); clear HO_5 HO_13 HO_17 HO_575002 HO579 HO587 BK539 BK574 BK582 BK590 HB; obtain ⟨HO_5, HO_13, HO_17, HO_575002, HO579, HO587, BK539, BK574, BK582, BK590, HB⟩ := n_; have hnb99 := NB590_539.out; have hnc99 := NB539_590.out; obtain ⟨hcz100_0, hcz100_1, hcz100_2, hfz100_0, hfz100_1, hfz100_2⟩ := cz3f BK590.out; obtain ⟨hcz101_0, hcz101_1, hcz101_2, hfz101_0, hfz101_1, hfz101_2⟩ := cz3f BK574.out) | (go_at_call 15; (with_reducible refine (incunableref06_SameBitmap.calls kj53 t583 t584 _ _ t585 t568 t569 _ _ t570 t592 _ ?side1 ?side2 ?side3 ?side4 A90.out).mono ?_); (case side1 => exact cU (Kd.R_reads' HO587.out).2.2); (case side2 => exact (Kd.R_reads' HO587.out).2.1); (case side3 => exact cU (Kd.R_reads' HO_575002.out).2.2); (case side4 => exact (Kd.R_reads' HO_575002.out).2.1); rintro e w102 ⟨rfl, hb⟩; have n_ := aC (Kd.R_below (rU HO_5.out) hb) (aC (Kd.R_below (rU HO_13.out) hb) (aC (Kd.R_below (rU HO_17.out) hb) (aC (Kd.R_below (rU HO_575002.out) hb) (aC (Kd.R_below (rU HO579.out) hb) (aC (Kd.R_below (rU HO587.out) hb) (aC (blk_below (bU BK539.out) hb) (aC (blk_below (bU BK574.out) hb) (aC (blk_below (bU BK582.out) hb) (aC (blk_below (bU BK590.out) hb) (aE (bs hb))))))))))); clear HO_5 HO_13 HO_17 HO_575002 HO579 HO587 BK539 BK574 BK582 BK590 HB; obtain ⟨HO_5, HO_13, HO_17, HO_575002, HO579, HO587, BK539, BK574, BK582, BK590, HB⟩ := n_))
                 go_meet
                 case rel => exact ⟨_, (!t592), rq, H', ⟨by have := HJ2.out; have := HK2.out; have := HJ40.out; have := HJ53.out; first | omega | exact Nat.le_refl _⟩, ⟨rU (Kd.R_mono HO_5.out (fun _ hk => ⟨hk.1.1.2.1, ⟨hk.1.1.2.2, ⟨hk.1.2, hk.2⟩⟩⟩))⟩, ⟨rU (Kd.R_mono HO_17.out (fun _ hk => ⟨hk.1.1.1, ⟨hk.1.1.2.2, ⟨hk.1.2, hk.2⟩⟩⟩))⟩, ⟨rU (Kd.R_mono HO_575002.out (fun _ hk => ⟨hk.1.1.1, ⟨hk.1.1.2.2, ⟨hk.1.2, hk.2⟩⟩⟩))⟩, ⟨rU (Kd.R_mono HO579.out (fun _ hk => ⟨hk.1.1.1.1.2, ⟨hk.1.1.2, ⟨hk.1.2, hk.2⟩⟩⟩))⟩, ⟨rU (Kd.R_mono HO587.out (fun _ hk => ⟨hk.1.1.1.1.2, ⟨hk.1.1.2, ⟨hk.1.2, hk.2⟩⟩⟩))⟩, ⟨bU BK539.out⟩, ⟨bU BK574.out⟩, ⟨bU BK582.out⟩, ⟨bU BK590.out⟩, ⟨bl⟩⟩
                ·replace c89 := Bool.eq_false_iff.mpr c89
                 subst c89
                 rw [if_neg Bool.false_ne_true] at H
                 have H' := Aside0.mk H
                 clear H
                 have hnb103 := NB582_539.out
                 have hnc103 := NB539_582.out
                 have hnb104 := NB582_574.out
                 have hnc104 := NB574_582.out
                 have hnb105 := NB582_590.out
                 have hnc105 := NB590_582.out
                 obtain ⟨hcz106_0, hcz106_1, hcz106_2, hfz106_0, hfz106_1, hfz106_2⟩ := cz3f BK582.out
                 have hnb107 := NB574_539.out
                 have hnc107 := NB539_574.out
                 have hnb108 := NB574_590.out
                 have hnc108 := NB590_574.out
                 obtain ⟨hcz109_0, hcz109_1, hcz109_2, hfz109_0, hfz109_1, hfz109_2⟩ := cz3f BK574.out
                 go_wp2_with (first | (go_at_call 15; (with_reducible refine (incunableref06_SameBitmap.calls kj53 t575 t576 _ _ t577 t568 t569 _ _ t570 false _ ?side1 ?side2 ?side3 ?side4 A88.out).mono ?_); (case side1 => refine (Kd.R_reads' (e := 5) (base := w.heap.size) (ok := fun k_ => (((((True ∧ some k_ ≠ (.slice Ao44 x5_2.length co44 : Value).ownBlock) ∧ some k_ ≠ (.slice Ao70 t555.length co70 : Value).ownBlock) ∧ some k_ ≠ (.slice Ao78 t564.length co78 : Value).ownBlock) ∧ some k_ ≠ (.slice Ao62 t570.length co62 : Value).ownBlock) ∧ some k_ ≠ (.slice Ao85 t585.length co85 : Value).ownBlock)) (n := t577.length) (c := co76) ?_).2.2; exact (rU (Kd.R_mono (Kd.R_far (p := ⟨gb590, 2, none⟩) (Kd.R_far (p := ⟨gb590, 1, none⟩) (Kd.R_far (p := ⟨gb590, 0, none⟩) (Kd.R_types HO579.out BK590.out (by decide)) (fun _ hk => hk.2) (.int .i64 t583)) (fun _ hk => hk.2) (.int .i64 t584)) (fun _ hk => hk.2) (.slice Ao85 t585.length co85)) (fun _ h_ => h_.1)))); (case side2 => exact (Kd.R_reads' HO579.out).2.1); (case side3 => refine (Kd.R_reads' (e := 5) (base := w.heap.size) (ok := fun k_ => (((some k_ ≠ (.slice Ao44 x5_2.length co44 : Value).ownBlock ∧ (some k_ ≠ (.slice Ao70 t555.length co70 : Value).ownBlock ∧ some k_ ≠ (.slice Ao78 t564.length co78 : Value).ownBlock)) ∧ some k_ ≠ (.slice Ao76 t577.length co76 : Value).ownBlock) ∧ some k_ ≠ (.slice Ao85 t585.length co85 : Value).ownBlock)) (n := t570.length) (c := co62) ?_).2.2; exact (rU (Kd.R_mono (Kd.R_far (p := ⟨gb590, 2, none⟩) (Kd.R_far (p := ⟨gb590, 1, none⟩) (Kd.R_far (p := ⟨gb590, 0, none⟩) (Kd.R_types HO_575002.out BK590.out (by decide)) (fun _ hk => hk.2) (.int .i64 t583)) (fun _ hk => hk.2) (.int .i64 t584)) (fun _ hk => hk.2) (.slice Ao85 t585.length co85)) (fun _ h_ => h_.1)))); (case side4 => exact (Kd.R_reads' HO_575002.out).2.1); rintro e w110 ⟨rfl, hb⟩; have n_ := aC (Kd.R_below (rU (Kd.R_mono (Kd.R_far (p := ⟨gb590, 2, none⟩) (Kd.R_far (p := ⟨gb590, 1, none⟩) (Kd.R_far (p := ⟨gb590, 0, none⟩) (Kd.R_types HO_5.out BK590.out (by decide)) (fun _ hk => hk.2) (.int .i64 t583)) (fun _ hk => hk.2) (.int .i64 t584)) (fun _ hk => hk.2) (.slice Ao85 t585.length co85)) (fun _ h_ => h_.1))) hb) (aC (Kd.R_below (rU (Kd.R_mono (Kd.R_far (p := ⟨gb590, 2, none⟩) (Kd.R_far (p := ⟨gb590, 1, none⟩) (Kd.R_far (p := ⟨gb590, 0, none⟩) (Kd.R_types HO_13.out BK590.out (by decide)) (fun _ hk => hk.2) (.int .i64 t583)) (fun _ hk => hk.2) (.int .i64 t584)) (fun _ hk => hk.2) (.slice Ao85 t585.length co85)) (fun _ h_ => h_.1))) hb) (aC (Kd.R_below (rU (Kd.R_mono (Kd.R_far (p := ⟨gb590, 2, none⟩) (Kd.R_far (p := ⟨gb590, 1, none⟩) (Kd.R_far (p := ⟨gb590, 0, none⟩) (Kd.R_types HO_17.out BK590.out (by decide)) (fun _ hk => hk.2) (.int .i64 t583)) (fun _ hk => hk.2) (.int .i64 t584)) (fun _ hk => hk.2) (.slice Ao85 t585.length co85)) (fun _ h_ => h_.1))) hb) (aC (Kd.R_below (rU (Kd.R_mono (Kd.R_far (p := ⟨gb590, 2, none⟩) (Kd.R_far (p := ⟨gb590, 1, none⟩) (Kd.R_far (p := ⟨gb590, 0, none⟩) (Kd.R_types HO_575002.out BK590.out (by decide)) (fun _ hk => hk.2) (.int .i64 t583)) (fun _ hk => hk.2) (.int .i64 t584)) (fun _ hk => hk.2) (.slice Ao85 t585.length co85)) (fun _ h_ => h_.1))) hb) (aC (Kd.R_below (rU (Kd.R_mono (Kd.R_far (p := ⟨gb590, 2, none⟩) (Kd.R_far (p := ⟨gb590, 1, none⟩) (Kd.R_far (p := ⟨gb590, 0, none⟩) (Kd.R_types HO579.out BK590.out (by decide)) (fun _ hk => hk.2) (.int .i64 t583)) (fun _ hk => hk.2) (.int .i64 t584)) (fun _ hk => hk.2) (.slice Ao85 t585.length co85)) (fun _ h_ => h_.1))) hb) (aC (Kd.R_below (rU (Kd.R_mono (Kd.R_far (p := ⟨gb590, 2, none⟩) (Kd.R_far (p := ⟨gb590, 1, none⟩) (Kd.R_far (p := ⟨gb590, 0, none⟩) (Kd.R_types HO587.out BK590.out (by decide)) (fun _ hk => hk.2) (.int .i64 t583)) (fun _ hk => hk.2) (.int .i64 t584)) (fun _ hk => hk.2) (.slice Ao85 t585.length co85)) (fun _ h_ => h_.1))) hb) (aC (blk_below (g := gb539) (o := .cells #[.int .i64 a0_0, .int .i64 a0_1, .slice A0_2 l0_2.length c0_2] 24 (0, 0)) (by (with_reducible repeat (first | refine blk_drewN ?_ _ | refine blk_drew ?_ | refine blk_alloc ?_ _)); refine blk_far ?_ NB539_590.out _; (with_reducible repeat (first | refine blk_drewN ?_ _ | refine blk_drew ?_ | refine blk_alloc ?_ _)); refine blk_far ?_ NB539_590.out _; (with_reducible repeat (first | refine blk_drewN ?_ _ | refine blk_drew ?_ | refine blk_alloc ?_ _)); refine blk_far ?_ NB539_590.out _; (with_reducible repeat (first | refine blk_drewN ?_ _ | refine blk_drew ?_ | refine blk_alloc ?_ _)); exact BK539.out) hb) (aC (blk_below (g := gb574) (o := .cells #[.int .i64 t568, .int .i64 t569, .slice Ao62 t570.length co62] 24 (0, 0)) (by (with_reducible repeat (first | refine blk_drewN ?_ _ | refine blk_drew ?_ | refine blk_alloc ?_ _)); refine blk_far ?_ NB574_590.out _; (with_reducible repeat (first | refine blk_drewN ?_ _ | refine blk_drew ?_ | refine blk_alloc ?_ _)); refine blk_far ?_ NB574_590.out _; (with_reducible repeat (first | refine blk_drewN ?_ _ | refine blk_drew ?_ | refine blk_alloc ?_ _)); refine blk_far ?_ NB574_590.out _; (with_reducible repeat (first | refine blk_drewN ?_ _ | refine blk_drew ?_ | refine blk_alloc ?_ _)); exact BK574.out) hb) (aC (blk_below (g := gb582) (o := .cells #[.int .i64 t575, .int .i64 t576, .slice Ao76 t577.length co76] 24 (0, 0)) (by (with_reducible repeat (first | refine blk_drewN ?_ _ | refine blk_drew ?_ | refine blk_alloc ?_ _)); refine blk_far ?_ NB582_590.out _; (with_reducible repeat (first | refine blk_drewN ?_ _ | refine blk_drew ?_ | refine blk_alloc ?_ _)); refine blk_far ?_ NB582_590.out _; (with_reducible repeat (first | refine blk_drewN ?_ _ | refine blk_drew ?_ | refine blk_alloc ?_ _)); refine blk_far ?_ NB582_590.out _; (with_reducible repeat (first | refine blk_drewN ?_ _ | refine blk_drew ?_ | refine blk_alloc ?_ _)); exact BK582.out) hb) (aC (blk_below (g := gb590) (o := .cells #[.int .i64 t583, .int .i64 t584, .slice Ao85 t585.length co85] 24 (0, 0)) (by (with_reducible repeat (first | refine blk_drewN ?_ _ | refine blk_drew ?_ | refine blk_alloc ?_ _)); refine blk_put (cs := #[.int .i64 t583, .int .i64 t584, .slice none 0 0]) ?_ 2 _ rfl; (with_reducible repeat (first | refine blk_drewN ?_ _ | refine blk_drew ?_ | refine blk_alloc ?_ _)); refine blk_put (cs := #[.int .i64 t583, .int .i64 0, .slice none 0 0]) ?_ 1 _ rfl; (with_reducible repeat (first | refine blk_drewN ?_ _ | refine blk_drew ?_ | refine blk_alloc ?_ _)); refine blk_put (cs := #[.int .i64 0, .int .i64 0, .slice none 0 0]) ?_ 0 _ rfl; (with_reducible repeat (first | refine blk_drewN ?_ _ | refine blk_drew ?_ | refine blk_alloc ?_ _)); exact BK590.out) hb) (aE (bs hb))))))))))); clear HO_5 HO_13 HO_17 HO_575002 HO579 HO587 BK539 BK574 BK582 BK590 HB; obtain ⟨HO_5, HO_13, HO_17, HO_575002, HO579, HO587, BK539, BK574, BK582, BK590, HB⟩ := n_))
                 go_meet
                 case rel => exact ⟨_, (true), rq, H', ⟨by have := HJ2.out; have := HK2.out; have := HJ40.out; have := HJ53.out; first | omega | exact Nat.le_refl _⟩, ⟨rU (Kd.R_mono HO_5.out (fun _ hk => ⟨hk.1.1.2.1, ⟨hk.1.1.2.2, ⟨hk.1.2, hk.2⟩⟩⟩))⟩, ⟨rU (Kd.R_mono HO_17.out (fun _ hk => ⟨hk.1.1.1, ⟨hk.1.1.2.2, ⟨hk.1.2, hk.2⟩⟩⟩))⟩, ⟨rU (Kd.R_mono HO_575002.out (fun _ hk => ⟨hk.1.1.1, ⟨hk.1.1.2.2, ⟨hk.1.2, hk.2⟩⟩⟩))⟩, ⟨rU (Kd.R_mono HO579.out (fun _ hk => ⟨hk.1.1.1.1.2, ⟨hk.1.1.2, ⟨hk.1.2, hk.2⟩⟩⟩))⟩, ⟨rU (Kd.R_mono HO587.out (fun _ hk => ⟨hk.1.1.1.1.2, ⟨hk.1.1.2, ⟨hk.1.2, hk.2⟩⟩⟩))⟩, ⟨bU BK539.out⟩, ⟨bU BK574.out⟩, ⟨bU BK582.out⟩, ⟨bU BK590.out⟩, ⟨bl⟩⟩
               ·have H' := Aside0.mk H
                clear H
                go_wp2
                go_meet
                case rel => exact ⟨_, (true), rq, H', ⟨by have := HJ2.out; have := HK2.out; have := HJ40.out; have := HJ53.out; first | omega | exact Nat.le_refl _⟩, ⟨rU (Kd.R_mono (Kd.R_far (p := ⟨gb590, 2, none⟩) (Kd.R_far (p := ⟨gb590, 1, none⟩) (Kd.R_far (p := ⟨gb590, 0, none⟩) (Kd.R_types HO_5.out BK590.out (by decide)) (fun _ hk => hk.2) (.int .i64 t583)) (fun _ hk => hk.2) (.int .i64 t584)) (fun _ hk => hk.2) (.slice Ao85 t585.length co85)) (fun _ hk => ⟨hk.1.1.1.2.1, ⟨hk.1.1.1.2.2, ⟨hk.1.1.2, hk.1.2⟩⟩⟩))⟩, ⟨rU (Kd.R_mono (Kd.R_far (p := ⟨gb590, 2, none⟩) (Kd.R_far (p := ⟨gb590, 1, none⟩) (Kd.R_far (p := ⟨gb590, 0, none⟩) (Kd.R_types HO_17.out BK590.out (by decide)) (fun _ hk => hk.2) (.int .i64 t583)) (fun _ hk => hk.2) (.int .i64 t584)) (fun _ hk => hk.2) (.slice Ao85 t585.length co85)) (fun _ hk => ⟨hk.1.1.1.1, ⟨hk.1.1.1.2.2, ⟨hk.1.1.2, hk.1.2⟩⟩⟩))⟩, ⟨rU (Kd.R_mono (Kd.R_far (p := ⟨gb590, 2, none⟩) (Kd.R_far (p := ⟨gb590, 1, none⟩) (Kd.R_far (p := ⟨gb590, 0, none⟩) (Kd.R_types HO_575002.out BK590.out (by decide)) (fun _ hk => hk.2) (.int .i64 t583)) (fun _ hk => hk.2) (.int .i64 t584)) (fun _ hk => hk.2) (.slice Ao85 t585.length co85)) (fun _ hk => ⟨hk.1.1.1.1, ⟨hk.1.1.1.2.2, ⟨hk.1.1.2, hk.1.2⟩⟩⟩))⟩, ⟨rU (Kd.R_mono (Kd.R_far (p := ⟨gb590, 2, none⟩) (Kd.R_far (p := ⟨gb590, 1, none⟩) (Kd.R_far (p := ⟨gb590, 0, none⟩) (Kd.R_types HO579.out BK590.out (by decide)) (fun _ hk => hk.2) (.int .i64 t583)) (fun _ hk => hk.2) (.int .i64 t584)) (fun _ hk => hk.2) (.slice Ao85 t585.length co85)) (fun _ hk => ⟨hk.1.1.1.1.1.2, ⟨hk.1.1.1.2, ⟨hk.1.1.2, hk.1.2⟩⟩⟩))⟩, ⟨rU (Kd.R_mono (Kd.R_far (p := ⟨gb590, 2, none⟩) (Kd.R_far (p := ⟨gb590, 1, none⟩) (Kd.R_far (p := ⟨gb590, 0, none⟩) (Kd.R_types HO587.out BK590.out (by decide)) (fun _ hk => hk.2) (.int .i64 t583)) (fun _ hk => hk.2) (.int .i64 t584)) (fun _ hk => hk.2) (.slice Ao85 t585.length co85)) (fun _ hk => ⟨hk.1.1.1.1.1.2, ⟨hk.1.1.1.2, ⟨hk.1.1.2, hk.1.2⟩⟩⟩))⟩, ⟨by (with_reducible repeat (first | refine blk_drewN ?_ _ | refine blk_drew ?_ | refine blk_alloc ?_ _)); refine blk_far ?_ NB539_590.out _; (with_reducible repeat (first | refine blk_drewN ?_ _ | refine blk_drew ?_ | refine blk_alloc ?_ _)); refine blk_far ?_ NB539_590.out _; (with_reducible repeat (first | refine blk_drewN ?_ _ | refine blk_drew ?_ | refine blk_alloc ?_ _)); refine blk_far ?_ NB539_590.out _; (with_reducible repeat (first | refine blk_drewN ?_ _ | refine blk_drew ?_ | refine blk_alloc ?_ _)); exact BK539.out⟩, ⟨by (with_reducible repeat (first | refine blk_drewN ?_ _ | refine blk_drew ?_ | refine blk_alloc ?_ _)); refine blk_far ?_ NB574_590.out _; (with_reducible repeat (first | refine blk_drewN ?_ _ | refine blk_drew ?_ | refine blk_alloc ?_ _)); refine blk_far ?_ NB574_590.out _; (with_reducible repeat (first | refine blk_drewN ?_ _ | refine blk_drew ?_ | refine blk_alloc ?_ _)); refine blk_far ?_ NB574_590.out _; (with_reducible repeat (first | refine blk_drewN ?_ _ | refine blk_drew ?_ | refine blk_alloc ?_ _)); exact BK574.out⟩, ⟨by (with_reducible repeat (first | refine blk_drewN ?_ _ | refine blk_drew ?_ | refine blk_alloc ?_ _)); refine blk_far ?_ NB582_590.out _; (with_reducible repeat (first | refine blk_drewN ?_ _ | refine blk_drew ?_ | refine blk_alloc ?_ _)); refine blk_far ?_ NB582_590.out _; (with_reducible repeat (first | refine blk_drewN ?_ _ | refine blk_drew ?_ | refine blk_alloc ?_ _)); refine blk_far ?_ NB582_590.out _; (with_reducible repeat (first | refine blk_drewN ?_ _ | refine blk_drew ?_ | refine blk_alloc ?_ _)); exact BK582.out⟩, ⟨by (with_reducible repeat (first | refine blk_drewN ?_ _ | refine blk_drew ?_ | refine blk_alloc ?_ _)); refine blk_put (cs := #[.int .i64 t583, .int .i64 t584, .slice none 0 0]) ?_ 2 _ rfl; (with_reducible repeat (first | refine blk_drewN ?_ _ | refine blk_drew ?_ | refine blk_alloc ?_ _)); refine blk_put (cs := #[.int .i64 t583, .int .i64 0, .slice none 0 0]) ?_ 1 _ rfl; (with_reducible repeat (first | refine blk_drewN ?_ _ | refine blk_drew ?_ | refine blk_alloc ?_ _)); refine blk_put (cs := #[.int .i64 0, .int .i64 0, .slice none 0 0]) ?_ 0 _ rfl; (with_reducible repeat (first | refine blk_drewN ?_ _ | refine blk_drew ?_ | refine blk_alloc ?_ _)); exact BK590.out⟩, ⟨bl⟩⟩
              ·(first | rw [c86b0] | (simp only [i64_w, i32_w]; rw [c86b0]) | skip)
               have H' := Aside0.mk H
               clear H
               go_wp2
               go_meet
               case rel => exact ⟨_, (true), rq, H', ⟨by have := HJ2.out; have := HK2.out; have := HJ40.out; have := HJ53.out; first | omega | exact Nat.le_refl _⟩, ⟨rU (Kd.R_mono (Kd.R_far (p := ⟨gb590, 2, none⟩) (Kd.R_far (p := ⟨gb590, 1, none⟩) (Kd.R_far (p := ⟨gb590, 0, none⟩) (Kd.R_types HO_5.out BK590.out (by decide)) (fun _ hk => hk.2) (.int .i64 t583)) (fun _ hk => hk.2) (.int .i64 t584)) (fun _ hk => hk.2) (.slice Ao85 t585.length co85)) (fun _ hk => ⟨hk.1.1.1.2.1, ⟨hk.1.1.1.2.2, ⟨hk.1.1.2, hk.1.2⟩⟩⟩))⟩, ⟨rU (Kd.R_mono (Kd.R_far (p := ⟨gb590, 2, none⟩) (Kd.R_far (p := ⟨gb590, 1, none⟩) (Kd.R_far (p := ⟨gb590, 0, none⟩) (Kd.R_types HO_17.out BK590.out (by decide)) (fun _ hk => hk.2) (.int .i64 t583)) (fun _ hk => hk.2) (.int .i64 t584)) (fun _ hk => hk.2) (.slice Ao85 t585.length co85)) (fun _ hk => ⟨hk.1.1.1.1, ⟨hk.1.1.1.2.2, ⟨hk.1.1.2, hk.1.2⟩⟩⟩))⟩, ⟨rU (Kd.R_mono (Kd.R_far (p := ⟨gb590, 2, none⟩) (Kd.R_far (p := ⟨gb590, 1, none⟩) (Kd.R_far (p := ⟨gb590, 0, none⟩) (Kd.R_types HO_575002.out BK590.out (by decide)) (fun _ hk => hk.2) (.int .i64 t583)) (fun _ hk => hk.2) (.int .i64 t584)) (fun _ hk => hk.2) (.slice Ao85 t585.length co85)) (fun _ hk => ⟨hk.1.1.1.1, ⟨hk.1.1.1.2.2, ⟨hk.1.1.2, hk.1.2⟩⟩⟩))⟩, ⟨rU (Kd.R_mono (Kd.R_far (p := ⟨gb590, 2, none⟩) (Kd.R_far (p := ⟨gb590, 1, none⟩) (Kd.R_far (p := ⟨gb590, 0, none⟩) (Kd.R_types HO579.out BK590.out (by decide)) (fun _ hk => hk.2) (.int .i64 t583)) (fun _ hk => hk.2) (.int .i64 t584)) (fun _ hk => hk.2) (.slice Ao85 t585.length co85)) (fun _ hk => ⟨hk.1.1.1.1.1.2, ⟨hk.1.1.1.2, ⟨hk.1.1.2, hk.1.2⟩⟩⟩))⟩, ⟨rU (Kd.R_mono (Kd.R_far (p := ⟨gb590, 2, none⟩) (Kd.R_far (p := ⟨gb590, 1, none⟩) (Kd.R_far (p := ⟨gb590, 0, none⟩) (Kd.R_types HO587.out BK590.out (by decide)) (fun _ hk => hk.2) (.int .i64 t583)) (fun _ hk => hk.2) (.int .i64 t584)) (fun _ hk => hk.2) (.slice Ao85 t585.length co85)) (fun _ hk => ⟨hk.1.1.1.1.1.2, ⟨hk.1.1.1.2, ⟨hk.1.1.2, hk.1.2⟩⟩⟩))⟩, ⟨by (with_reducible repeat (first | refine blk_drewN ?_ _ | refine blk_drew ?_ | refine blk_alloc ?_ _)); refine blk_far ?_ NB539_590.out _; (with_reducible repeat (first | refine blk_drewN ?_ _ | refine blk_drew ?_ | refine blk_alloc ?_ _)); refine blk_far ?_ NB539_590.out _; (with_reducible repeat (first | refine blk_drewN ?_ _ | refine blk_drew ?_ | refine blk_alloc ?_ _)); refine blk_far ?_ NB539_590.out _; (with_reducible repeat (first | refine blk_drewN ?_ _ | refine blk_drew ?_ | refine blk_alloc ?_ _)); exact BK539.out⟩, ⟨by (with_reducible repeat (first | refine blk_drewN ?_ _ | refine blk_drew ?_ | refine blk_alloc ?_ _)); refine blk_far ?_ NB574_590.out _; (with_reducible repeat (first | refine blk_drewN ?_ _ | refine blk_drew ?_ | refine blk_alloc ?_ _)); refine blk_far ?_ NB574_590.out _; (with_reducible repeat (first | refine blk_drewN ?_ _ | refine blk_drew ?_ | refine blk_alloc ?_ _)); refine blk_far ?_ NB574_590.out _; (with_reducible repeat (first | refine blk_drewN ?_ _ | refine blk_drew ?_ | refine blk_alloc ?_ _)); exact BK574.out⟩, ⟨by (with_reducible repeat (first | refine blk_drewN ?_ _ | refine blk_drew ?_ | refine blk_alloc ?_ _)); refine blk_far ?_ NB582_590.out _; (with_reducible repeat (first | refine blk_drewN ?_ _ | refine blk_drew ?_ | refine blk_alloc ?_ _)); refine blk_far ?_ NB582_590.out _; (with_reducible repeat (first | refine blk_drewN ?_ _ | refine blk_drew ?_ | refine blk_alloc ?_ _)); refine blk_far ?_ NB582_590.out _; (with_reducible repeat (first | refine blk_drewN ?_ _ | refine blk_drew ?_ | refine blk_alloc ?_ _)); exact BK582.out⟩, ⟨by (with_reducible repeat (first | refine blk_drewN ?_ _ | refine blk_drew ?_ | refine blk_alloc ?_ _)); refine blk_put (cs := #[.int .i64 t583, .int .i64 t584, .slice none 0 0]) ?_ 2 _ rfl; (with_reducible repeat (first | refine blk_drewN ?_ _ | refine blk_drew ?_ | refine blk_alloc ?_ _)); refine blk_put (cs := #[.int .i64 t583, .int .i64 0, .slice none 0 0]) ?_ 1 _ rfl; (with_reducible repeat (first | refine blk_drewN ?_ _ | refine blk_drew ?_ | refine blk_alloc ?_ _)); refine blk_put (cs := #[.int .i64 0, .int .i64 0, .slice none 0 0]) ?_ 0 _ rfl; (with_reducible repeat (first | refine blk_drewN ?_ _ | refine blk_drew ?_ | refine blk_alloc ?_ _)); exact BK590.out⟩, ⟨bl⟩⟩
             case rest => as_aux_lemma =>
              clear HC67
              obtain ⟨kq, x160_66, rfl, HA, HJ66, HO_5, HO_17, HO_575002, HO_583002, HO_591002, BK539, BK574, BK582, BK590, HB⟩ := hcut
              cases kq with
              | zero => exact absurd HA.out (by simp [incunabletop_TopRuns.j5])
              | succ kj66 =>
               have H := HA.out
               clear HA
               simp only [incunabletop_TopRuns.j5] at H
               by_cases c111 : x160_66 = true
               ·subst c111
                rw [if_pos rfl] at H
                exact absurd ((Option.some.inj H).trans HR_.out) (by decide)
               ·replace c111 := Bool.eq_false_iff.mpr c111
                subst c111
                rw [if_neg Bool.false_ne_true] at H
                obtain ⟨⟨t593, t596⟩, A112, H⟩ := oB H
                try dsimp only at H
                have HC113 := Aside0.mk H
                clear H
                have hnb114 := NB574_539.out
                have hnc114 := NB539_574.out
                have hnb115 := NB574_582.out
                have hnc115 := NB582_574.out
                have hnb116 := NB574_590.out
                have hnc116 := NB590_574.out
                obtain ⟨hcz117_0, hcz117_1, hcz117_2, hfz117_0, hfz117_1, hfz117_2⟩ := cz3f BK574.out
                go_upto_region 32 with (first | (refine gF 11 163 Tryd.func11 #[.agg #[.int .i64 t568, .int .i64 t569, .slice Ao62 t570.length co62]] rfl rfl ?_; (with_reducible refine (runs_Two.calls kj66 t568 t569 _ _ t570 t593 t596 _ ?side1 ?side2 A112.out).mono ?_); (case side1 => exact cU (Kd.R_reads' HO_575002.out).2.2); (case side2 => exact (Kd.R_reads' HO_575002.out).2.1); rintro e w118 ⟨v594, rfl, ho0, hb⟩; refine ⟨_, rfl, ?_⟩; have n_ := aC (Kd.R_elder' (rU HO_5.out) (Kd.R_base ho0) hb) (aC (Kd.R_elder' (rU HO_17.out) (Kd.R_base ho0) hb) (aC (Kd.R_elder' (rU HO_575002.out) (Kd.R_base ho0) hb) (aC (Kd.R_elder' (rU HO_583002.out) (Kd.R_base ho0) hb) (aC (Kd.R_elder' (rU HO_591002.out) (Kd.R_base ho0) hb) (aC (Kd.R_lower (Kd.R_new' (Kd.R_new' (Kd.R_new' (Kd.R_new' (Kd.R_new' ho0 (Kd.R_lt (rU HO_5.out))) (Kd.R_lt (rU HO_17.out))) (Kd.R_lt (rU HO_575002.out))) (Kd.R_lt (rU HO_583002.out))) (Kd.R_lt (rU HO_591002.out))) bz) (aC (blk_below (bU BK539.out) hb) (aC (blk_below (bU BK574.out) hb) (aC (blk_below (bU BK582.out) hb) (aC (blk_below (bU BK590.out) hb) (aE (bs hb))))))))))); clear HO_5 HO_17 HO_575002 HO_583002 HO_591002 BK539 BK574 BK582 BK590 HB; obtain ⟨HO_5, HO_17, HO_575002, HO_583002, HO_591002, HO595, BK539, BK574, BK582, BK590, HB⟩ := n_))
                (try simp only [Act.put, List.setIfInBounds_toArray, List.set_cons_zero, List.set_cons_succ])
                go_cut [181] (fun v181 wc => ∃ (kq : Nat) (x181_112 : Bool), v181 = .bool x181_112 ∧ Aside0 (incunabletop_TopRuns.j6 kq t564 t588 t593 x181_112 = some r) ∧ Aside0 (kq ≤ kj66) ∧ Aside0 (Kd.R (Kd.int .u8) 5 wc w.heap.size (fun k_ => some k_ ≠ (v594 : Value).ownBlock ∧ some k_ ≠ ((.slice Ao62 t570.length co62) : Value).ownBlock ∧ some k_ ≠ ((.slice Ao76 t577.length co76) : Value).ownBlock ∧ some k_ ≠ ((.slice Ao85 t585.length co85) : Value).ownBlock) (.slice Ao78 t564.length co78) t564) ∧ Aside0 (Kd.R (Kd.int .u8) 5 wc w.heap.size (fun k_ => some k_ ≠ ((.slice Ao78 t564.length co78) : Value).ownBlock ∧ some k_ ≠ ((.slice Ao62 t570.length co62) : Value).ownBlock ∧ some k_ ≠ ((.slice Ao76 t577.length co76) : Value).ownBlock ∧ some k_ ≠ ((.slice Ao85 t585.length co85) : Value).ownBlock) v594 t593) ∧ Aside0 (Kd.R (Kd.int .u8) 5 wc w.heap.size (fun k_ => some k_ ≠ ((.slice Ao78 t564.length co78) : Value).ownBlock ∧ some k_ ≠ (v594 : Value).ownBlock ∧ some k_ ≠ ((.slice Ao76 t577.length co76) : Value).ownBlock ∧ some k_ ≠ ((.slice Ao85 t585.length co85) : Value).ownBlock) (.slice Ao62 t570.length co62) t570) ∧ Aside0 (Kd.R (Kd.int .u8) 5 wc w.heap.size (fun k_ => some k_ ≠ ((.slice Ao78 t564.length co78) : Value).ownBlock ∧ some k_ ≠ (v594 : Value).ownBlock ∧ some k_ ≠ ((.slice Ao62 t570.length co62) : Value).ownBlock ∧ some k_ ≠ ((.slice Ao85 t585.length co85) : Value).ownBlock) (.slice Ao76 t577.length co76) t577) ∧ Aside0 (Kd.R (Kd.int .u8) 5 wc w.heap.size (fun k_ => some k_ ≠ ((.slice Ao78 t564.length co78) : Value).ownBlock ∧ some k_ ≠ (v594 : Value).ownBlock ∧ some k_ ≠ ((.slice Ao62 t570.length co62) : Value).ownBlock ∧ some k_ ≠ ((.slice Ao76 t577.length co76) : Value).ownBlock) (.slice Ao85 t585.length co85) t585) ∧ Aside0 (wc.heap[gb539]? = some (.cells #[.int .i64 a0_0, .int .i64 a0_1, (.slice A0_2 l0_2.length c0_2)] 24 (0, 0))) ∧ Aside0 (wc.heap[gb574]? = some (.cells #[.int .i64 t568, .int .i64 t569, (.slice Ao62 t570.length co62)] 24 (0, 0))) ∧ Aside0 (wc.heap[gb582]? = some (.cells #[.int .i64 t575, .int .i64 t576, (.slice Ao76 t577.length co76)] 24 (0, 0))) ∧ Aside0 (wc.heap[gb590]? = some (.cells #[.int .i64 t583, .int .i64 t584, (.slice Ao85 t585.length co85)] 24 (0, 0))) ∧ Aside0 (Below w.heap.size w wc))
                case first => as_aux_lemma =>
                 have H := HC113.out
                 clear HC113
                 rcases iE H with H1 | H1 <;> clear H <;> obtain ⟨H, c119b0, c119b1, c119⟩ := H1
                 ·(first | rw [c119b0] | (simp only [i64_w, i32_w]; rw [c119b0]) | skip)
                  rcases iE H with H1 | H1 <;> clear H <;> obtain ⟨H, c120b0, c120b1, c120⟩ := H1
                  ·have H' := Aside0.mk H
                   clear H
                   obtain ⟨Ao121, co121, eo121⟩ := Kd.R_slice HO595.out
                   subst eo121
                   go_wp2
                   go_meet
                   case rel => exact ⟨_, (decide (t580 > (x5_2.length : Int))), rq, H', ⟨by have := HJ2.out; have := HK2.out; have := HJ40.out; have := HJ53.out; have := HJ66.out; first | omega | exact Nat.le_refl _⟩, ⟨rU (Kd.R_mono HO_17.out (fun _ hk => ⟨hk.2, ⟨hk.1.2.1, ⟨hk.1.2.2.1, hk.1.2.2.2⟩⟩⟩))⟩, ⟨rU (Kd.R_mono HO595.out (fun _ hk => ⟨hk.1.1.1.2, ⟨hk.1.1.2, ⟨hk.1.2, hk.2⟩⟩⟩))⟩, ⟨rU (Kd.R_mono HO_575002.out (fun _ hk => ⟨hk.1.2.1, ⟨hk.2, ⟨hk.1.2.2.1, hk.1.2.2.2⟩⟩⟩))⟩, ⟨rU (Kd.R_mono HO_583002.out (fun _ hk => ⟨hk.1.2.1, ⟨hk.2, ⟨hk.1.2.2.1, hk.1.2.2.2⟩⟩⟩))⟩, ⟨rU (Kd.R_mono HO_591002.out (fun _ hk => ⟨hk.1.2.1, ⟨hk.2, ⟨hk.1.2.2.1, hk.1.2.2.2⟩⟩⟩))⟩, ⟨bU BK539.out⟩, ⟨bU BK574.out⟩, ⟨bU BK582.out⟩, ⟨bU BK590.out⟩, ⟨bl⟩⟩
                  ·have H' := Aside0.mk H
                   clear H
                   obtain ⟨Ao122, co122, eo122⟩ := Kd.R_slice HO595.out
                   subst eo122
                   go_wp2
                   go_meet
                   case rel => exact ⟨_, (true), rq, H', ⟨by have := HJ2.out; have := HK2.out; have := HJ40.out; have := HJ53.out; have := HJ66.out; first | omega | exact Nat.le_refl _⟩, ⟨rU (Kd.R_mono HO_17.out (fun _ hk => ⟨hk.2, ⟨hk.1.2.1, ⟨hk.1.2.2.1, hk.1.2.2.2⟩⟩⟩))⟩, ⟨rU (Kd.R_mono HO595.out (fun _ hk => ⟨hk.1.1.1.2, ⟨hk.1.1.2, ⟨hk.1.2, hk.2⟩⟩⟩))⟩, ⟨rU (Kd.R_mono HO_575002.out (fun _ hk => ⟨hk.1.2.1, ⟨hk.2, ⟨hk.1.2.2.1, hk.1.2.2.2⟩⟩⟩))⟩, ⟨rU (Kd.R_mono HO_583002.out (fun _ hk => ⟨hk.1.2.1, ⟨hk.2, ⟨hk.1.2.2.1, hk.1.2.2.2⟩⟩⟩))⟩, ⟨rU (Kd.R_mono HO_591002.out (fun _ hk => ⟨hk.1.2.1, ⟨hk.2, ⟨hk.1.2.2.1, hk.1.2.2.2⟩⟩⟩))⟩, ⟨bU BK539.out⟩, ⟨bU BK574.out⟩, ⟨bU BK582.out⟩, ⟨bU BK590.out⟩, ⟨bl⟩⟩
                 ·(first | rw [c119b0] | (simp only [i64_w, i32_w]; rw [c119b0]) | skip)
                  have H' := Aside0.mk H
                  clear H
                  go_wp2
                  go_meet
                  case rel => exact ⟨_, (true), rq, H', ⟨by have := HJ2.out; have := HK2.out; have := HJ40.out; have := HJ53.out; have := HJ66.out; first | omega | exact Nat.le_refl _⟩, ⟨rU (Kd.R_mono HO_17.out (fun _ hk => ⟨hk.2, ⟨hk.1.2.1, ⟨hk.1.2.2.1, hk.1.2.2.2⟩⟩⟩))⟩, ⟨rU (Kd.R_mono HO595.out (fun _ hk => ⟨hk.1.1.1.2, ⟨hk.1.1.2, ⟨hk.1.2, hk.2⟩⟩⟩))⟩, ⟨rU (Kd.R_mono HO_575002.out (fun _ hk => ⟨hk.1.2.1, ⟨hk.2, ⟨hk.1.2.2.1, hk.1.2.2.2⟩⟩⟩))⟩, ⟨rU (Kd.R_mono HO_583002.out (fun _ hk => ⟨hk.1.2.1, ⟨hk.2, ⟨hk.1.2.2.1, hk.1.2.2.2⟩⟩⟩))⟩, ⟨rU (Kd.R_mono HO_591002.out (fun _ hk => ⟨hk.1.2.1, ⟨hk.2, ⟨hk.1.2.2.1, hk.1.2.2.2⟩⟩⟩))⟩, ⟨bU BK539.out⟩, ⟨bU BK574.out⟩, ⟨bU BK582.out⟩, ⟨bU BK590.out⟩, ⟨bl⟩⟩
                case rest => as_aux_lemma =>
                 clear HC113
                 obtain ⟨kq, x181_112, rfl, HA, HJ112, HO_17, HO_23, HO_575002, HO_583002, HO_591002, BK539, BK574, BK582, BK590, HB⟩ := hcut
                 cases kq with
                 | zero => exact absurd HA.out (by simp [incunabletop_TopRuns.j6])
                 | succ kj112 =>
                  have H := HA.out
                  clear HA
                  simp only [incunabletop_TopRuns.j6] at H
                  by_cases c123 : x181_112 = true
                  ·subst c123
                   rw [if_pos rfl] at H
                   exact absurd ((Option.some.inj H).trans HR_.out) (by decide)
                  ·replace c123 := Bool.eq_false_iff.mpr c123
                   subst c123
                   rw [if_neg Bool.false_ne_true] at H
                   obtain ⟨⟨t597, t598⟩, A124, H⟩ := oB H
                   try dsimp only at H
                   obtain ⟨⟨t601, t602⟩, A125, H⟩ := oB H
                   try dsimp only at H
                   rcases iE H with H1 | H1 <;> clear H <;> obtain ⟨H, c126b0, c126b1, c126⟩ := H1
                   ·rcases iE H with H1 | H1 <;> clear H <;> obtain ⟨H, c127b0, c127b1, c127⟩ := H1
                    ·obtain ⟨t605, A128, H⟩ := oB H
                     try dsimp only at H
                     by_cases c129 : t605 = true
                     ·subst c129
                      rw [if_pos rfl] at H
                      obtain ⟨t606, A130, H⟩ := oB H
                      try dsimp only at H
                      obtain rfl := Option.some.inj H
                      go_wp2_with (first | (refine gF 16 185 Tryd.func16 #[.slice Ao78 t564.length co78, .int .i64 t588] rfl rfl ?_; (with_reducible refine (bits_Unpack.calls kj112 _ _ t564 t588 t597 t598 _ ?side1 ?side2 A124.out).mono ?_); (case side1 => exact cU (Kd.R_reads' HO_17.out).2.2); (case side2 => exact (Kd.R_reads' HO_17.out).2.1); rintro e w131 ⟨v599, rfl, ho0, hb⟩; refine ⟨_, rfl, ?_⟩; have n_ := aC (Kd.R_elder' (rU HO_17.out) (Kd.R_base ho0) hb) (aC (Kd.R_elder' (rU HO_23.out) (Kd.R_base ho0) hb) (aC (Kd.R_elder' (rU HO_575002.out) (Kd.R_base ho0) hb) (aC (Kd.R_elder' (rU HO_583002.out) (Kd.R_base ho0) hb) (aC (Kd.R_elder' (rU HO_591002.out) (Kd.R_base ho0) hb) (aC (Kd.R_lower (Kd.R_new' (Kd.R_new' (Kd.R_new' (Kd.R_new' (Kd.R_new' ho0 (Kd.R_lt (rU HO_17.out))) (Kd.R_lt (rU HO_23.out))) (Kd.R_lt (rU HO_575002.out))) (Kd.R_lt (rU HO_583002.out))) (Kd.R_lt (rU HO_591002.out))) bz) (aC (blk_below (bU BK539.out) hb) (aC (blk_below (bU BK574.out) hb) (aC (blk_below (bU BK582.out) hb) (aC (blk_below (bU BK590.out) hb) (aE (bs hb))))))))))); clear HO_17 HO_23 HO_575002 HO_583002 HO_591002 BK539 BK574 BK582 BK590 HB; obtain ⟨HO_17, HO_23, HO_575002, HO_583002, HO_591002, HO600, BK539, BK574, BK582, BK590, HB⟩ := n_; obtain ⟨Ao132, co132, eo132⟩ := Kd.R_slice HO_23.out; subst eo132) | (refine gF 16 191 Tryd.func16 #[.slice Ao132 t593.length co132, .int .i64 t588] rfl rfl ?_; (with_reducible refine (bits_Unpack.calls kj112 _ _ t593 t588 t601 t602 _ ?side1 ?side2 A125.out).mono ?_); (case side1 => exact cU (Kd.R_reads' HO_23.out).2.2); (case side2 => exact (Kd.R_reads' HO_23.out).2.1); rintro e w133 ⟨v603, rfl, ho0, hb⟩; refine ⟨_, rfl, ?_⟩; have n_ := aC (Kd.R_elder' (rU HO_17.out) (Kd.R_base ho0) hb) (aC (Kd.R_elder' (rU HO_23.out) (Kd.R_base ho0) hb) (aC (Kd.R_elder' (rU HO_575002.out) (Kd.R_base ho0) hb) (aC (Kd.R_elder' (rU HO_583002.out) (Kd.R_base ho0) hb) (aC (Kd.R_elder' (rU HO_591002.out) (Kd.R_base ho0) hb) (aC (Kd.R_elder' (rU HO600.out) (Kd.R_base ho0) hb) (aC (Kd.R_lower (Kd.R_new' (Kd.R_new' (Kd.R_new' (Kd.R_new' (Kd.R_new' (Kd.R_new' ho0 (Kd.R_lt (rU HO_17.out))) (Kd.R_lt (rU HO_23.out))) (Kd.R_lt (rU HO_575002.out))) (Kd.R_lt (rU HO_583002.out))) (Kd.R_lt (rU HO_591002.out))) (Kd.R_lt (rU HO600.out))) bz) (aC (blk_below (bU BK539.out) hb) (aC (blk_below (bU BK574.out) hb) (aC (blk_below (bU BK582.out) hb) (aC (blk_below (bU BK590.out) hb) (aE (bs hb)))))))))))); clear HO_17 HO_23 HO_575002 HO_583002 HO_591002 HO600 BK539 BK574 BK582 BK590 HB; obtain ⟨HO_17, HO_23, HO_575002, HO_583002, HO_591002, HO600, HO604, BK539, BK574, BK582, BK590, HB⟩ := n_; obtain ⟨Ao134, co134, eo134⟩ := Kd.R_slice HO600.out; subst eo134; obtain ⟨Ao135, co135, eo135⟩ := Kd.R_slice HO604.out; subst eo135) | (go_at_call 10; (with_reducible refine (incunableref02_SameBytes.calls kj112 _ _ t597 _ _ t601 true _ ?side1 ?side2 ?side3 ?side4 A128.out).mono ?_); (case side1 => exact cU (Kd.R_reads' HO600.out).2.2); (case side2 => exact (Kd.R_reads' HO600.out).2.1); (case side3 => exact cU (Kd.R_reads' HO604.out).2.2); (case side4 => exact (Kd.R_reads' HO604.out).2.1); rintro e w' ⟨rfl, ⟨nd, rfl⟩⟩) | (go_at_call 5; (with_reducible refine (incunablelaw06_Awake.calls kj112  t606 _ (TIs.on HTI) A130.out).mono ?_); rintro e w136 ⟨rfl, hb⟩; have n_ := aC (Kd.R_below (rU HO_17.out) hb) (aC (Kd.R_below (rU HO_23.out) hb) (aC (Kd.R_below (rU HO_575002.out) hb) (aC (Kd.R_below (rU HO_583002.out) hb) (aC (Kd.R_below (rU HO_591002.out) hb) (aC (Kd.R_below (rU HO600.out) hb) (aC (Kd.R_below (rU HO604.out) hb) (aC (blk_below (bU BK539.out) hb) (aC (blk_below (bU BK574.out) hb) (aC (blk_below (bU BK582.out) hb) (aC (blk_below (bU BK590.out) hb) (aE (bs hb)))))))))))); clear HO_17 HO_23 HO_575002 HO_583002 HO_591002 HO600 HO604 BK539 BK574 BK582 BK590 HB; obtain ⟨HO_17, HO_23, HO_575002, HO_583002, HO_591002, HO600, HO604, BK539, BK574, BK582, BK590, HB⟩ := n_))
                      go_ret
                      exact ⟨re, bl⟩
                     ·replace c129 := Bool.eq_false_iff.mpr c129
                      subst c129
                      rw [if_neg Bool.false_ne_true] at H
                      exact absurd ((Option.some.inj H).trans HR_.out) (by decide)
                    ·exact absurd ((Option.some.inj H).trans HR_.out) (by decide)
                   ·exact absurd ((Option.some.inj H).trans HR_.out) (by decide)
def incunabletop_TopRuns.Pure : Prop := ∀ (a0_0 : Int) (a0_1 : Int) (l0_2 : List Int) (a1 : Int), ((Lit.int .i64 a0_0).wf = true) → ((Lit.int .i64 a0_1).wf = true) → (l0_2.length ≤ 9223372036854775807 ∧ l0_2.length * 1 ≤ 140737488351232 ∧ ∀ y0_ ∈ l0_2, (Lit.int .u8 y0_).wf = true) → ((Lit.int .i64 a1).wf = true) → ∃ k, incunabletop_TopRuns.f k a0_0 a0_1 l0_2 a1 = some true
theorem incunabletop_TopRuns.walk (P : incunabletop_TopRuns.Pure) (a0_0 : Int) (a0_1 : Int) (A0_2 : Option Addr) (c0_2 : Nat) (l0_2 : List Int) (a1 : Int) (w : World) (hT0 : TIs w) (hr0_2 : Kd.C (Kd.int .u8) w A0_2 l0_2.length l0_2) (hc0_2 : l0_2.length ≤ c0_2) (g0_0 : (Lit.int .i64 a0_0).wf = true) (g0_1 : (Lit.int .i64 a0_1).wf = true) (g0_2 : l0_2.length ≤ 9223372036854775807 ∧ l0_2.length * 1 ≤ 140737488351232 ∧ ∀ y0_ ∈ l0_2, (Lit.int .u8 y0_).wf = true) (g1 : (Lit.int .i64 a1).wf = true) :
  Calls Tryd.prog 3 #[.agg #[.int .i64 a0_0, .int .i64 a0_1, .slice A0_2 l0_2.length c0_2], .int .i64 a1] w fun e w' => e = .returned (.bool true) ∧ Below w.heap.size w w' := by
 obtain ⟨k, h⟩ := P a0_0 a0_1 l0_2 a1 g0_0 g0_1 g0_2 g1
 refine (incunabletop_TopRuns.calls k a0_0 a0_1 A0_2 c0_2 l0_2 a1 true w hT0 hr0_2 hc0_2 h rfl).mono ?_
 rintro e w' ⟨rfl, hd⟩
 exact ⟨rfl, hd⟩
end Go.Proofs.YtidgpjcgoocpeaaDoor.PTopRuns
