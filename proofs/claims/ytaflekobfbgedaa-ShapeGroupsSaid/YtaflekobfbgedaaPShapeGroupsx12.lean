-- Written by a program of this session (wip/tools/myprint.py) over the kit's print. Not trusted: Lean checks it.
import Derived.Test.YtaflekobfbgedaaPShapeGroupsx0
import Derived.Test.YtaflekobfbgedaaPShapeGroupsx4
import Derived.Test.YtaflekobfbgedaaPShapeGroupsx5
import Derived.Test.YtaflekobfbgedaaPShapeGroupsx7
import Derived.Test.YtaflekobfbgedaaPShapeGroupsx8
import Derived.Test.YtaflekobfbgedaaPShapeGroupsx9
import Derived.Test.YtaflekobfbgedaaPShapeGroupsx10
import Derived.Test.YtaflekobfbgedaaPShapeGroupsx11
namespace Go.Proofs.Ytaflekobfbgedaa.PShapeGroups
open Go.RowKit Go.Proofs.YtaflekobfbgedaaW.PrintWords Go.Proofs.YtaflekobfbgedaaW.PrintLast Go.Proofs.YtaflekobfbgedaaW.PrintMore
attribute [local go_sem] max2_int min2_int max_two min_two max_three min_three max_four min_four   -- for this text's walks alone
set_option linter.unusedVariables false
set_option linter.unusedSimpArgs false

/-! ### incunablelaw15_ShapeGroups: function 7 -/
mutual
def incunablelaw15_ShapeGroups.l0 : Nat → List (S24) → Int → Int → Int → Option (Bool)
  | 0, _, _, _, _ => none
  | k + 1, x0, x1, x5, x6 => if x6 < (x0.length : Int) then (if 0 ≤ x6 then (incunablelaw15_ShapeGroups.l0 k x0 x1 (wrap64 ((wrap64 (x5 + 1)) + (((rd_T24 x0 x6).f2).length : Int))) (wrap64 (x6 + 1))) else (none)) else (if x5 > 3000 then (incunablelaw15_ShapeGroups.j1 k x0 x1 true) else (incunablelaw15_ShapeGroups.j1 k x0 x1 (decide ((x0.length : Int) > 60))))
def incunablelaw15_ShapeGroups.j1 : Nat → List (S24) → Int → Bool → Option (Bool)
  | 0, _, _, _ => none
  | k + 1, x0, x1, x41 => if x41 = true then ((incunablelaw15_Sane.f k).bind fun t303 => (some t303)) else ((shape_Group.f k x0 x1).bind fun bt304 => ((incunableref15_Group.f k x0 x1).bind fun bt308 => (if bt304.2 = bt308.2 then ((incunableref01_SameInts.f k bt304.1 bt308.1).bind fun t312 => (incunablelaw15_ShapeGroups.j2 k x0 x1 bt304.1 bt304.2 bt308.1 (!t312))) else (incunablelaw15_ShapeGroups.j2 k x0 x1 bt304.1 bt304.2 bt308.1 true))))
def incunablelaw15_ShapeGroups.j2 : Nat → List (S24) → Int → List Int → Int → List Int → Bool → Option (Bool)
  | 0, _, _, _, _, _, _ => none
  | k + 1, x0, x1, x7, x8, x9, x63 => if x63 = true then (some false) else (if x8 = 0 then ((shape_Heads.f k x7).bind fun bt314 => ((incunableref15_Heads.f k x9).bind fun bt318 => ((shape_Loss.f k x0 x7).bind fun bt322 => ((incunableref15_Loss.f k x0 x9).bind fun bt324 => (if bt314.2 = bt318.2 then (if bt322.2 = bt324.2 then (if bt322.1 = bt324.1 then ((incunableref01_SameInts.f k bt314.1 bt318.1).bind fun t326 => (incunablelaw15_ShapeGroups.j3 k x0 x1 x7 bt314.1 bt322.1 (!t326))) else (incunablelaw15_ShapeGroups.j3 k x0 x1 x7 bt314.1 bt322.1 true)) else (incunablelaw15_ShapeGroups.j3 k x0 x1 x7 bt314.1 bt322.1 true)) else (incunablelaw15_ShapeGroups.j3 k x0 x1 x7 bt314.1 bt322.1 true)))))) else ((incunablelaw15_Sane.f k).bind fun t313 => (some t313)))
def incunablelaw15_ShapeGroups.j3 : Nat → List (S24) → Int → List Int → List Int → Int → Bool → Option (Bool)
  | 0, _, _, _, _, _, _ => none
  | k + 1, x0, x1, x7, x11, x13, x107 => if x107 = true then (some false) else (incunablelaw15_ShapeGroups.l1 k x0 x1 x7 x11 x13 0)
def incunablelaw15_ShapeGroups.l1 : Nat → List (S24) → Int → List Int → List Int → Int → Int → Option (Bool)
  | 0, _, _, _, _, _, _ => none
  | k + 1, x0, x1, x7, x11, x13, x17 => if x17 < (x0.length : Int) then (if 0 ≤ x17 then (if x17 < (x7.length : Int) then (if 0 ≤ (rd x7 x17) then (if (rd x7 x17) < (x11.length : Int) then (if 0 ≤ (rd x11 (rd x7 x17)) then (if (rd x11 (rd x7 x17)) < (x0.length : Int) then ((incunableref05_Differ.f k ((rd_T24 x0 (rd x11 (rd x7 x17))).f0) ((rd_T24 x0 (rd x11 (rd x7 x17))).f1) ((rd_T24 x0 (rd x11 (rd x7 x17))).f2) ((rd_T24 x0 x17).f0) ((rd_T24 x0 x17).f1) ((rd_T24 x0 x17).f2)).bind fun bt331 => (if bt331.1 > x1 then (some false) else (incunablelaw15_ShapeGroups.l1 k x0 x1 x7 x11 x13 (wrap64 (x17 + 1))))) else (none)) else (none)) else (none)) else (none)) else (none)) else (none)) else (if x1 > 0 then ((incunablelaw15_Sane.f k).bind fun t333 => (some t333)) else (if x13 = 0 then ((incunablelaw15_Sane.f k).bind fun t334 => (some t334)) else (some false)))
end
def incunablelaw15_ShapeGroups.f (k : Nat) (l0 : List (S24)) (a1 : Int) : Option (Bool) := incunablelaw15_ShapeGroups.l0 k l0 a1 0 0
theorem incunablelaw15_ShapeGroups.mono_l : ∀ k, (∀ y0 y1 y2 y3, LeO (incunablelaw15_ShapeGroups.l0 k y0 y1 y2 y3) (incunablelaw15_ShapeGroups.l0 (k + 1) y0 y1 y2 y3)) ∧ (∀ y0 y1 y2, LeO (incunablelaw15_ShapeGroups.j1 k y0 y1 y2) (incunablelaw15_ShapeGroups.j1 (k + 1) y0 y1 y2)) ∧ (∀ y0 y1 y2 y3 y4 y5, LeO (incunablelaw15_ShapeGroups.j2 k y0 y1 y2 y3 y4 y5) (incunablelaw15_ShapeGroups.j2 (k + 1) y0 y1 y2 y3 y4 y5)) ∧ (∀ y0 y1 y2 y3 y4 y5, LeO (incunablelaw15_ShapeGroups.j3 k y0 y1 y2 y3 y4 y5) (incunablelaw15_ShapeGroups.j3 (k + 1) y0 y1 y2 y3 y4 y5)) ∧ (∀ y0 y1 y2 y3 y4 y5, LeO (incunablelaw15_ShapeGroups.l1 k y0 y1 y2 y3 y4 y5) (incunablelaw15_ShapeGroups.l1 (k + 1) y0 y1 y2 y3 y4 y5))
  | 0 => ⟨fun _ _ _ _ r h => by simp [incunablelaw15_ShapeGroups.l0] at h, fun _ _ _ r h => by simp [incunablelaw15_ShapeGroups.j1] at h, fun _ _ _ _ _ _ r h => by simp [incunablelaw15_ShapeGroups.j2] at h, fun _ _ _ _ _ _ r h => by simp [incunablelaw15_ShapeGroups.j3] at h, fun _ _ _ _ _ _ r h => by simp [incunablelaw15_ShapeGroups.l1] at h⟩
  | k + 1 => by
    obtain ⟨ih0, ih1, ih2, ih3, ih4⟩ := incunablelaw15_ShapeGroups.mono_l k
    refine ⟨?_, ?_, ?_, ?_, ?_⟩
    · intro y0 y1 y2 y3
      unfold incunablelaw15_ShapeGroups.l0
      repeat' first
      | (with_reducible exact ih0 _ _ _ _)
      | (with_reducible exact ih1 _ _ _)
      | (with_reducible exact ih2 _ _ _ _ _ _)
      | (with_reducible exact ih3 _ _ _ _ _ _)
      | (with_reducible exact ih4 _ _ _ _ _ _)
      | (with_reducible exact incunablelaw15_Sane.mono _)
      | (with_reducible exact incunableref01_SameInts.mono _ _ _)
      | (with_reducible exact incunableref05_Differ.mono _ _ _ _ _ _ _)
      | (with_reducible exact incunableref15_Group.mono _ _ _)
      | (with_reducible exact incunableref15_Heads.mono _ _)
      | (with_reducible exact incunableref15_Loss.mono _ _ _)
      | (with_reducible exact shape_Group.mono _ _ _)
      | (with_reducible exact shape_Heads.mono _ _)
      | (with_reducible exact shape_Loss.mono _ _ _)
      | (with_reducible exact LeO.refl _)
      | (with_reducible exact LeO.none _)
      | (with_reducible refine LeO.ite ?_ ?_)
      | (with_reducible refine LeO.bind ?_ (fun _ => ?_))
      | exact ih0 _ _ _ _
      | exact ih1 _ _ _
      | exact ih2 _ _ _ _ _ _
      | exact ih3 _ _ _ _ _ _
      | exact ih4 _ _ _ _ _ _
      | exact incunablelaw15_Sane.mono _
      | exact incunableref01_SameInts.mono _ _ _
      | exact incunableref05_Differ.mono _ _ _ _ _ _ _
      | exact incunableref15_Group.mono _ _ _
      | exact incunableref15_Heads.mono _ _
      | exact incunableref15_Loss.mono _ _ _
      | exact shape_Group.mono _ _ _
      | exact shape_Heads.mono _ _
      | exact shape_Loss.mono _ _ _
      | exact LeO.none _
      | refine LeO.ite ?_ ?_
      | refine LeO.bind ?_ (fun _ => ?_)
    · intro y0 y1 y2
      unfold incunablelaw15_ShapeGroups.j1
      repeat' first
      | (with_reducible exact ih0 _ _ _ _)
      | (with_reducible exact ih1 _ _ _)
      | (with_reducible exact ih2 _ _ _ _ _ _)
      | (with_reducible exact ih3 _ _ _ _ _ _)
      | (with_reducible exact ih4 _ _ _ _ _ _)
      | (with_reducible exact incunablelaw15_Sane.mono _)
      | (with_reducible exact incunableref01_SameInts.mono _ _ _)
      | (with_reducible exact incunableref05_Differ.mono _ _ _ _ _ _ _)
      | (with_reducible exact incunableref15_Group.mono _ _ _)
      | (with_reducible exact incunableref15_Heads.mono _ _)
      | (with_reducible exact incunableref15_Loss.mono _ _ _)
      | (with_reducible exact shape_Group.mono _ _ _)
      | (with_reducible exact shape_Heads.mono _ _)
      | (with_reducible exact shape_Loss.mono _ _ _)
      | (with_reducible exact LeO.refl _)
      | (with_reducible exact LeO.none _)
      | (with_reducible refine LeO.ite ?_ ?_)
      | (with_reducible refine LeO.bind ?_ (fun _ => ?_))
      | exact ih0 _ _ _ _
      | exact ih1 _ _ _
      | exact ih2 _ _ _ _ _ _
      | exact ih3 _ _ _ _ _ _
      | exact ih4 _ _ _ _ _ _
      | exact incunablelaw15_Sane.mono _
      | exact incunableref01_SameInts.mono _ _ _
      | exact incunableref05_Differ.mono _ _ _ _ _ _ _
      | exact incunableref15_Group.mono _ _ _
      | exact incunableref15_Heads.mono _ _
      | exact incunableref15_Loss.mono _ _ _
      | exact shape_Group.mono _ _ _
      | exact shape_Heads.mono _ _
      | exact shape_Loss.mono _ _ _
      | exact LeO.none _
      | refine LeO.ite ?_ ?_
      | refine LeO.bind ?_ (fun _ => ?_)
    · intro y0 y1 y2 y3 y4 y5
      unfold incunablelaw15_ShapeGroups.j2
      repeat' first
      | (with_reducible exact ih0 _ _ _ _)
      | (with_reducible exact ih1 _ _ _)
      | (with_reducible exact ih2 _ _ _ _ _ _)
      | (with_reducible exact ih3 _ _ _ _ _ _)
      | (with_reducible exact ih4 _ _ _ _ _ _)
      | (with_reducible exact incunablelaw15_Sane.mono _)
      | (with_reducible exact incunableref01_SameInts.mono _ _ _)
      | (with_reducible exact incunableref05_Differ.mono _ _ _ _ _ _ _)
      | (with_reducible exact incunableref15_Group.mono _ _ _)
      | (with_reducible exact incunableref15_Heads.mono _ _)
      | (with_reducible exact incunableref15_Loss.mono _ _ _)
      | (with_reducible exact shape_Group.mono _ _ _)
      | (with_reducible exact shape_Heads.mono _ _)
      | (with_reducible exact shape_Loss.mono _ _ _)
      | (with_reducible exact LeO.refl _)
      | (with_reducible exact LeO.none _)
      | (with_reducible refine LeO.ite ?_ ?_)
      | (with_reducible refine LeO.bind ?_ (fun _ => ?_))
      | exact ih0 _ _ _ _
      | exact ih1 _ _ _
      | exact ih2 _ _ _ _ _ _
      | exact ih3 _ _ _ _ _ _
      | exact ih4 _ _ _ _ _ _
      | exact incunablelaw15_Sane.mono _
      | exact incunableref01_SameInts.mono _ _ _
      | exact incunableref05_Differ.mono _ _ _ _ _ _ _
      | exact incunableref15_Group.mono _ _ _
      | exact incunableref15_Heads.mono _ _
      | exact incunableref15_Loss.mono _ _ _
      | exact shape_Group.mono _ _ _
      | exact shape_Heads.mono _ _
      | exact shape_Loss.mono _ _ _
      | exact LeO.none _
      | refine LeO.ite ?_ ?_
      | refine LeO.bind ?_ (fun _ => ?_)
    · intro y0 y1 y2 y3 y4 y5
      unfold incunablelaw15_ShapeGroups.j3
      repeat' first
      | (with_reducible exact ih0 _ _ _ _)
      | (with_reducible exact ih1 _ _ _)
      | (with_reducible exact ih2 _ _ _ _ _ _)
      | (with_reducible exact ih3 _ _ _ _ _ _)
      | (with_reducible exact ih4 _ _ _ _ _ _)
      | (with_reducible exact incunablelaw15_Sane.mono _)
      | (with_reducible exact incunableref01_SameInts.mono _ _ _)
      | (with_reducible exact incunableref05_Differ.mono _ _ _ _ _ _ _)
      | (with_reducible exact incunableref15_Group.mono _ _ _)
      | (with_reducible exact incunableref15_Heads.mono _ _)
      | (with_reducible exact incunableref15_Loss.mono _ _ _)
      | (with_reducible exact shape_Group.mono _ _ _)
      | (with_reducible exact shape_Heads.mono _ _)
      | (with_reducible exact shape_Loss.mono _ _ _)
      | (with_reducible exact LeO.refl _)
      | (with_reducible exact LeO.none _)
      | (with_reducible refine LeO.ite ?_ ?_)
      | (with_reducible refine LeO.bind ?_ (fun _ => ?_))
      | exact ih0 _ _ _ _
      | exact ih1 _ _ _
      | exact ih2 _ _ _ _ _ _
      | exact ih3 _ _ _ _ _ _
      | exact ih4 _ _ _ _ _ _
      | exact incunablelaw15_Sane.mono _
      | exact incunableref01_SameInts.mono _ _ _
      | exact incunableref05_Differ.mono _ _ _ _ _ _ _
      | exact incunableref15_Group.mono _ _ _
      | exact incunableref15_Heads.mono _ _
      | exact incunableref15_Loss.mono _ _ _
      | exact shape_Group.mono _ _ _
      | exact shape_Heads.mono _ _
      | exact shape_Loss.mono _ _ _
      | exact LeO.none _
      | refine LeO.ite ?_ ?_
      | refine LeO.bind ?_ (fun _ => ?_)
    · intro y0 y1 y2 y3 y4 y5
      unfold incunablelaw15_ShapeGroups.l1
      repeat' first
      | (with_reducible exact ih0 _ _ _ _)
      | (with_reducible exact ih1 _ _ _)
      | (with_reducible exact ih2 _ _ _ _ _ _)
      | (with_reducible exact ih3 _ _ _ _ _ _)
      | (with_reducible exact ih4 _ _ _ _ _ _)
      | (with_reducible exact incunablelaw15_Sane.mono _)
      | (with_reducible exact incunableref01_SameInts.mono _ _ _)
      | (with_reducible exact incunableref05_Differ.mono _ _ _ _ _ _ _)
      | (with_reducible exact incunableref15_Group.mono _ _ _)
      | (with_reducible exact incunableref15_Heads.mono _ _)
      | (with_reducible exact incunableref15_Loss.mono _ _ _)
      | (with_reducible exact shape_Group.mono _ _ _)
      | (with_reducible exact shape_Heads.mono _ _)
      | (with_reducible exact shape_Loss.mono _ _ _)
      | (with_reducible exact LeO.refl _)
      | (with_reducible exact LeO.none _)
      | (with_reducible refine LeO.ite ?_ ?_)
      | (with_reducible refine LeO.bind ?_ (fun _ => ?_))
      | exact ih0 _ _ _ _
      | exact ih1 _ _ _
      | exact ih2 _ _ _ _ _ _
      | exact ih3 _ _ _ _ _ _
      | exact ih4 _ _ _ _ _ _
      | exact incunablelaw15_Sane.mono _
      | exact incunableref01_SameInts.mono _ _ _
      | exact incunableref05_Differ.mono _ _ _ _ _ _ _
      | exact incunableref15_Group.mono _ _ _
      | exact incunableref15_Heads.mono _ _
      | exact incunableref15_Loss.mono _ _ _
      | exact shape_Group.mono _ _ _
      | exact shape_Heads.mono _ _
      | exact shape_Loss.mono _ _ _
      | exact LeO.none _
      | refine LeO.ite ?_ ?_
      | refine LeO.bind ?_ (fun _ => ?_)
theorem incunablelaw15_ShapeGroups.mono : ∀ a0 a1 k, LeO (incunablelaw15_ShapeGroups.f k a0 a1) (incunablelaw15_ShapeGroups.f (k + 1) a0 a1) := by
  intro a0 a1 k
  obtain ⟨ih0, ih1, ih2, ih3, ih4⟩ := incunablelaw15_ShapeGroups.mono_l k
  unfold incunablelaw15_ShapeGroups.f
  repeat' first
      | (with_reducible exact ih0 _ _ _ _)
      | (with_reducible exact ih1 _ _ _)
      | (with_reducible exact ih2 _ _ _ _ _ _)
      | (with_reducible exact ih3 _ _ _ _ _ _)
      | (with_reducible exact ih4 _ _ _ _ _ _)
      | (with_reducible exact incunablelaw15_Sane.mono _)
      | (with_reducible exact incunableref01_SameInts.mono _ _ _)
      | (with_reducible exact incunableref05_Differ.mono _ _ _ _ _ _ _)
      | (with_reducible exact incunableref15_Group.mono _ _ _)
      | (with_reducible exact incunableref15_Heads.mono _ _)
      | (with_reducible exact incunableref15_Loss.mono _ _ _)
      | (with_reducible exact shape_Group.mono _ _ _)
      | (with_reducible exact shape_Heads.mono _ _)
      | (with_reducible exact shape_Loss.mono _ _ _)
      | (with_reducible exact LeO.refl _)
      | (with_reducible exact LeO.none _)
      | (with_reducible refine LeO.ite ?_ ?_)
      | (with_reducible refine LeO.bind ?_ (fun _ => ?_))
      | exact ih0 _ _ _ _
      | exact ih1 _ _ _
      | exact ih2 _ _ _ _ _ _
      | exact ih3 _ _ _ _ _ _
      | exact ih4 _ _ _ _ _ _
      | exact incunablelaw15_Sane.mono _
      | exact incunableref01_SameInts.mono _ _ _
      | exact incunableref05_Differ.mono _ _ _ _ _ _ _
      | exact incunableref15_Group.mono _ _ _
      | exact incunableref15_Heads.mono _ _
      | exact incunableref15_Loss.mono _ _ _
      | exact shape_Group.mono _ _ _
      | exact shape_Heads.mono _ _
      | exact shape_Loss.mono _ _ _
      | exact LeO.none _
      | refine LeO.ite ?_ ?_
      | refine LeO.bind ?_ (fun _ => ?_)
def incunablelaw15_ShapeGroups.T23 : Bool × List (List Nat × List Nat) := (true, [([], []), ([], []), ([], []), ([], []), ([2, 3], [2, 3]), ([4], [4]), ([1, 5], [1, 5]), ([6], [6]), ([0, 7], [0, 7]), ([8], [8]), ([], []), ([], []), ([10, 11], [10, 11]), ([12], [12]), ([9, 13], [9, 13]), ([14], [14]), ([15], [15]), ([15], [15]), ([16, 14, 0, 1, 2, 3, 4, 5, 6, 7, 8, 9, 10, 11, 12, 13, 14, 15, 16], [16]), ([17, 18, 0, 1, 2, 3, 4, 5, 6, 7, 8, 9, 10, 11, 12, 13, 14, 15, 16, 17, 18], [17])])
def incunablelaw15_ShapeGroups.B23 : List Nat := [0, 0, 0, 0, 12, 28, 62, 126, 255, 511, 0, 0, 3072, 7168, 16383, 32767, 65535, 65535, 131071, 524287]
theorem incunablelaw15_ShapeGroups.tab23 : rtab .any (opsOf Try.f7 23) = incunablelaw15_ShapeGroups.T23 := by kernel_rfl
theorem incunablelaw15_ShapeGroups.bits23 : waitsOk incunablelaw15_ShapeGroups.T23.2 incunablelaw15_ShapeGroups.B23 = true := by kernel_rfl
set_option maxHeartbeats 8000000 in
set_option maxRecDepth 100000 in
theorem incunablelaw15_ShapeGroups.calls (k : Nat) (A0 : Option Addr) (c0 : Nat) (l0 : List (S24)) (a1 : Int) (r : Bool) (w : World) (hr0 : Kd.C k24 w A0 l0.length l0) (hc0 : l0.length ≤ c0) (h : incunablelaw15_ShapeGroups.f k l0 a1 = some r) (hr_ : r = true) :
    Calls Try.prog 7 #[.slice A0 l0.length c0, .int .i64 a1] w fun e w' => e = .returned (.bool r) ∧ Below w.heap.size w w' := by
  have HR_ := Aside0.mk hr_
  clear hr_
  have hu24 := Try.underlying24
  have HR0 := Aside0.mk hr0
  have HC0 := Aside0.mk hc0
  clear hr0 hc0
  have HB := Aside0.mk (Below.refl w.heap.size w)
  have H : (incunablelaw15_ShapeGroups.l0 k l0 a1 0 0) = some r := h
  clear h
  have H' := Aside0.mk H
  clear H
  go_enter Try.func7, Try.ntmps7
  go_wp2
  go_loopg [5, 6] k (fun kq v5 v6 w' => ∃ (x5_1 : Int) (x6_1 : Int), v5 = .int .i64 x5_1 ∧ v6 = .int .i64 x6_1 ∧ Aside0 (incunablelaw15_ShapeGroups.l0 kq l0 a1 x5_1 x6_1 = some r) ∧ Aside0 (kq ≤ k) ∧ Aside0 (Below w.heap.size w w'))
  case atStart => exact ⟨(0), (0), (by first | rfl | (simp; done) | (simp [*]; done)), (by first | rfl | (simp; done) | (simp [*]; done)), H', ⟨Nat.le_refl _⟩, ⟨by repeat (first | (with_reducible first | exact HB.out | apply below_alloc | apply pw_below_drewN | apply below_drew1) | exact HB.out)⟩⟩
  case round =>
    clear H'
    try clear p2
    obtain ⟨x5_1, x6_1, rfl, rfl, HA, HK1, HB⟩ := hrel
    cases gk with
    | zero => exact absurd HA.out (by simp [incunablelaw15_ShapeGroups.l0])
    | succ k1 =>
      have H := HA.out
      clear HA
      simp only [incunablelaw15_ShapeGroups.l0] at H
      by_cases c3 : x6_1 < (l0.length : Int)
      · rw [if_pos c3] at H
        have c3b0 : decide (x6_1 < (l0.length : Int)) = true := decide_eq_true c3
        clear c3
        by_cases c4 : 0 ≤ x6_1
        · rw [if_pos c4] at H
          have c4b0 : decide (0 ≤ x6_1) = true := decide_eq_true c4
          clear c4
          have H' := Aside0.mk H
          clear H
          have p302 : 0 ≤ (x6_1 : Int) := of_decide_eq_true (by first | (with_reducible assumption) | assumption)
          have q302 : x6_1 < (l0.length : Int) := of_decide_eq_true (by first | (with_reducible assumption) | assumption)
          obtain ⟨ad302, A302_2, c302_2, e302, hx302_0, hx302_1, hx302_2, hl302_2, hi302_2⟩ := at_T24 HR0.out x6_1 p302 q302
          cases e302
          replace hx302_0 := (HB.out.cell (World.block_lt_of_cell? w _ hx302_0)).trans hx302_0
          replace hx302_1 := (HB.out.cell (World.block_lt_of_cell? w _ hx302_1)).trans hx302_1
          replace hx302_2 := (HB.out.cell (World.block_lt_of_cell? w _ hx302_2)).trans hx302_2
          have HR302_2 := Aside0.mk hi302_2
          have HC302_2 := Aside0.mk hl302_2
          clear hi302_2 hl302_2
          replace p302 := eq_true p302
          replace q302 := eq_true q302
          go_wp2
          go_roundg k1
          case measure => have := HK1.out; omega
          case rel => exact ⟨(wrap64 ((wrap64 (x5_1 + 1)) + (((rd_T24 l0 x6_1).f2).length : Int))), (wrap64 (x6_1 + 1)), (by first | rfl | (simp; done) | (simp [*]; done)), (by first | rfl | (simp; done) | (simp [*]; done)), H', ⟨by have := HK1.out; omega⟩, ⟨by repeat (first | (with_reducible first | exact HB.out | apply below_alloc | apply pw_below_drewN | apply below_drew1) | exact HB.out)⟩⟩
        · rw [if_neg c4] at H
          exact absurd H (by simp)
      · rw [if_neg c3] at H
        have c3b0 : decide (x6_1 < (l0.length : Int)) = false := decide_eq_false c3
        clear c3
        have HC5 := Aside0.mk H
        clear H
        go_upto_region 6 with (fail)
        go_cut [41] (fun v41 wc => ∃ (kq : Nat) (x41_4 : Bool), v41 = .bool x41_4 ∧ Aside0 (incunablelaw15_ShapeGroups.j1 kq l0 a1 x41_4 = some r) ∧ Aside0 (kq ≤ k1) ∧ Aside0 (Below w.heap.size w wc))
        case first =>
          have H := HC5.out
          clear HC5
          by_cases c6 : x5_1 > 3000
          · rw [if_pos c6] at H
            have c6b0 : decide (3000 < x5_1) = true := decide_eq_true c6
            clear c6
            (first | rw [c6b0] | (simp only [i64_w, i32_w]; rw [c6b0]) | skip)
            have H' := Aside0.mk H
            clear H
            go_wp2
            go_meet
            case rel => exact ⟨_, (true), (by first | rfl | (simp; done) | (simp [*]; done)), H', ⟨by have := HK1.out; first | omega | exact Nat.le_refl _⟩, ⟨by repeat (first | (with_reducible first | exact HB.out | apply below_alloc | apply pw_below_drewN | apply below_drew1) | exact HB.out)⟩⟩
          · rw [if_neg c6] at H
            have c6b0 : decide (3000 < x5_1) = false := decide_eq_false c6
            clear c6
            (first | rw [c6b0] | (simp only [i64_w, i32_w]; rw [c6b0]) | skip)
            have H' := Aside0.mk H
            clear H
            go_wp2
            go_meet
            case rel => exact ⟨_, (decide ((l0.length : Int) > 60)), (by first | rfl | (simp; done) | (simp [*]; done)), H', ⟨by have := HK1.out; first | omega | exact Nat.le_refl _⟩, ⟨by repeat (first | (with_reducible first | exact HB.out | apply below_alloc | apply pw_below_drewN | apply below_drew1) | exact HB.out)⟩⟩
        case rest =>
          clear HC5
          try clear p2
          try clear c3
          try clear c3b0
          try clear p3
          try clear q3
          try clear hx3
          try clear c4
          try clear c4b0
          try clear c6
          try clear c6b0
          try clear p6
          try clear hx302_0
          try clear hx302_1
          try clear hx302_2
          try clear p2
          try clear p302
          try clear q302
          obtain ⟨kq, x41_4, rfl, HA, HJ4, HB⟩ := hcut
          cases kq with
          | zero => exact absurd HA.out (by simp [incunablelaw15_ShapeGroups.j1])
          | succ kj4 =>
            have H := HA.out
            clear HA
            simp only [incunablelaw15_ShapeGroups.j1] at H
            by_cases c7 : x41_4 = true
            · subst c7
              have H1 : ((incunablelaw15_Sane.f kj4).bind fun t303 => (some t303)) = some r := by rw [if_pos rfl] at H; exact H
              clear H
              have H := H1
              clear H1
              replace H := Option.bind_eq_some_iff.mp H
              obtain ⟨t303, A80, H⟩ := H
              replace H : (some t303) = some r := H
              have A8 := Aside0.mk A80
              clear A80
              obtain rfl := Option.some.inj H
              go_wp2_with (first | ((with_reducible refine gate_callee (f := 11) rfl ?_); refine goesL_ (some 42) rfl rfl Try.func11 (by kernel_rfl) rfl #[] rfl (by (try simp only [List.map_toArray, List.map_cons, List.map_nil]); first | done | rfl | (simp only [List.length_drop, List.length_take]; rfl)) ?_; (with_reducible refine (incunablelaw15_Sane.calls kj4  t303 _ A8.out).mono ?_); rintro e w9 ⟨rfl, hb⟩; refine ⟨_, rfl, ?_⟩; have n0_ := Aside0.mk (below_step (by repeat (first | (with_reducible first | exact HB.out | apply below_alloc | apply pw_below_drewN | apply below_drew1) | exact HB.out)) hb); clear HB; have HB := n0_; clear n0_; (try clear hb); (try clear hb2); (try clear hk); (try clear hi)))
              go_ret
              exact ⟨by first | rfl | (simp [errW_none, errW_some] <;> rfl) | (simp [*, errW_none, errW_some] <;> rfl), by repeat (first | (with_reducible first | exact HB.out | apply below_alloc | apply pw_below_drewN | apply below_drew1) | exact HB.out)⟩
            · replace c7 := Bool.eq_false_iff.mpr c7
              subst c7
              have H1 : ((shape_Group.f kj4 l0 a1).bind fun bt304 => ((incunableref15_Group.f kj4 l0 a1).bind fun bt308 => (if bt304.2 = bt308.2 then ((incunableref01_SameInts.f kj4 bt304.1 bt308.1).bind fun t312 => (incunablelaw15_ShapeGroups.j2 kj4 l0 a1 bt304.1 bt304.2 bt308.1 (!t312))) else (incunablelaw15_ShapeGroups.j2 kj4 l0 a1 bt304.1 bt304.2 bt308.1 true)))) = some r := by rw [if_neg (show ¬ (false = true) by decide)] at H; exact H
              clear H
              have H := H1
              clear H1
              replace H := Option.bind_eq_some_iff.mp H
              obtain ⟨⟨t304, t307⟩, A100, H⟩ := H
              replace H : ((incunableref15_Group.f kj4 l0 a1).bind fun bt308 => (if t307 = bt308.2 then ((incunableref01_SameInts.f kj4 t304 bt308.1).bind fun t312 => (incunablelaw15_ShapeGroups.j2 kj4 l0 a1 t304 t307 bt308.1 (!t312))) else (incunablelaw15_ShapeGroups.j2 kj4 l0 a1 t304 t307 bt308.1 true))) = some r := H
              have A10 := Aside0.mk A100
              clear A100
              replace H := Option.bind_eq_some_iff.mp H
              obtain ⟨⟨t308, t309⟩, A110, H⟩ := H
              replace H : (if t307 = t309 then ((incunableref01_SameInts.f kj4 t304 t308).bind fun t312 => (incunablelaw15_ShapeGroups.j2 kj4 l0 a1 t304 t307 t308 (!t312))) else (incunablelaw15_ShapeGroups.j2 kj4 l0 a1 t304 t307 t308 true)) = some r := H
              have A11 := Aside0.mk A110
              clear A110
              have HC12 := Aside0.mk H
              clear H
              go_upto_region 10 with (first | ((with_reducible refine gate_callee (f := 29) rfl ?_); refine goesL_ (some 46) rfl rfl Try.func29 (by kernel_rfl) rfl #[.slice A0 l0.length c0, .int .i64 a1] rfl (by (try simp only [List.map_toArray, List.map_cons, List.map_nil]); first | done | rfl | (simp only [List.length_drop, List.length_take]; rfl)) ?_; (with_reducible refine (shape_Group.calls kj4 (fun k_ => k_ < w.heap.size) _ _ l0 a1 t304 t307 _ ?side1 A10.out).mono ?_); (case side1 => exact Kd.V_mk HC0.out (Kd.F_below (Kd.C_F k24_heap HR0.out) (by repeat (first | (with_reducible first | exact HB.out | apply below_alloc | apply pw_below_drewN | apply below_drew1) | exact HB.out)))); rintro e w13 ⟨v305, rfl, ho0, hb⟩; refine ⟨_, rfl, ?_⟩; have n0_ := Aside0.mk (Kd.R_lower (Kd.R_mono (ok' := fun k_ => True) ho0 (fun _ hk_ => trivial)) (below_size (by repeat (first | (with_reducible first | exact HB.out | apply below_alloc | apply pw_below_drewN | apply below_drew1) | exact HB.out)))); have n1_ := Aside0.mk (below_step (by repeat (first | (with_reducible first | exact HB.out | apply below_alloc | apply pw_below_drewN | apply below_drew1) | exact HB.out)) hb); clear HB; have HO306 := n0_; have HB := n1_; clear n0_ n1_; (try clear hb); (try clear hb2); (try clear hk); (try clear hi); (try clear ho0)) | ((with_reducible refine gate_callee (f := 30) rfl ?_); refine goesL_ (some 52) rfl rfl Try.func30 (by kernel_rfl) rfl #[.slice A0 l0.length c0, .int .i64 a1] rfl (by (try simp only [List.map_toArray, List.map_cons, List.map_nil]); first | done | rfl | (simp only [List.length_drop, List.length_take]; rfl)) ?_; (with_reducible refine (incunableref15_Group.calls kj4 _ _ l0 a1 t308 t309 _ ?side1 ?side2 A11.out).mono ?_); (case side1 => repeat (first | exact (Kd.C_below HR0.out HB.out) | (with_reducible refine Kd.C_alloc ?_ _) | (with_reducible refine Kd.C_drewN ?_ _) | (with_reducible refine Kd.C_drew ?_))); (case side2 => exact HC0.out); rintro e w14 ⟨v310, rfl, ho0, hb⟩; refine ⟨_, rfl, ?_⟩; have n0_ := Aside0.mk (Kd.R_elder' (rU HO306.out) (Kd.R_base ho0) hb); have n1_ := Aside0.mk (Kd.R_lower (Kd.R_new' ho0 (Kd.R_lt (rU HO306.out))) (below_size (by repeat (first | (with_reducible first | exact HB.out | apply below_alloc | apply pw_below_drewN | apply below_drew1) | exact HB.out)))); have n2_ := Aside0.mk (below_step (by repeat (first | (with_reducible first | exact HB.out | apply below_alloc | apply pw_below_drewN | apply below_drew1) | exact HB.out)) hb); clear HO306; clear HB; have HO306 := n0_; have HO311 := n1_; have HB := n2_; clear n0_ n1_ n2_; (try clear hb); (try clear hb2); (try clear hk); (try clear hi); (try clear ho0)))
              (try simp only [Act.put, List.setIfInBounds_toArray, List.set_cons_zero, List.set_cons_succ])
              go_cut [63] (fun v63 wc => ∃ (kq : Nat) (x63_11 : Bool), v63 = .bool x63_11 ∧ Aside0 (incunablelaw15_ShapeGroups.j2 kq l0 a1 t304 t307 t308 x63_11 = some r) ∧ Aside0 (kq ≤ kj4) ∧ Aside0 (Kd.R (Kd.int .i64) 3 wc w.heap.size (fun k_ => some k_ ≠ (v310 : Value).ownBlock) v305 t304) ∧ Aside0 (Kd.R (Kd.int .i64) 3 wc w.heap.size (fun k_ => some k_ ≠ (v305 : Value).ownBlock) v310 t308) ∧ Aside0 (Below w.heap.size w wc))
              case first =>
                have H := HC12.out
                clear HC12
                by_cases c15 : t307 = t309
                · rw [if_pos c15] at H
                  have c15b0 : (t307 == t309) = true := beq_iff_eq.mpr c15
                  have c15b1 : (t307 != t309) = false := bne_eq_false_iff_eq.mpr c15
                  clear c15
                  (first | rw [c15b0] | (simp only [i64_w, i32_w]; rw [c15b0]) | skip)
                  replace H := Option.bind_eq_some_iff.mp H
                  obtain ⟨t312, A160, H⟩ := H
                  replace H : (incunablelaw15_ShapeGroups.j2 kj4 l0 a1 t304 t307 t308 (!t312)) = some r := H
                  have A16 := Aside0.mk A160
                  clear A160
                  have H' := Aside0.mk H
                  clear H
                  obtain ⟨Ao17, co17, eo17⟩ := Kd.R_slice HO306.out
                  subst eo17
                  obtain ⟨Ao18, co18, eo18⟩ := Kd.R_slice HO311.out
                  subst eo18
                  go_wp2_with (first | (go_at_call 19; (with_reducible refine (incunableref01_SameInts.calls kj4 _ _ t304 _ _ t308 t312 _ ?side1 ?side2 ?side3 ?side4 A16.out).mono ?_); (case side1 => repeat (first | exact (Kd.R_reads' HO306.out).2.2 | (with_reducible refine Kd.C_alloc ?_ _) | (with_reducible refine Kd.C_drewN ?_ _) | (with_reducible refine Kd.C_drew ?_))); (case side2 => exact (Kd.R_reads' HO306.out).2.1); (case side3 => repeat (first | exact (Kd.R_reads' HO311.out).2.2 | (with_reducible refine Kd.C_alloc ?_ _) | (with_reducible refine Kd.C_drewN ?_ _) | (with_reducible refine Kd.C_drew ?_))); (case side4 => exact (Kd.R_reads' HO311.out).2.1); rintro e w' ⟨rfl, ⟨nd, rfl⟩⟩))
                  go_meet
                  case rel => exact ⟨_, (!t312), (by first | rfl | (simp; done) | (simp [*]; done)), H', ⟨by have := HK1.out; have := HJ4.out; first | omega | exact Nat.le_refl _⟩, ⟨by (with_reducible repeat (first | apply Kd.R_alloc | apply Kd.R_drewN | apply Kd.R_drew)); exact Kd.R_mono HO306.out (fun _ hk => hk.2)⟩, ⟨by (with_reducible repeat (first | apply Kd.R_alloc | apply Kd.R_drewN | apply Kd.R_drew)); exact Kd.R_mono HO311.out (fun _ hk => hk.2)⟩, ⟨by repeat (first | (with_reducible first | exact HB.out | apply below_alloc | apply pw_below_drewN | apply below_drew1) | exact HB.out)⟩⟩
                · rw [if_neg c15] at H
                  have c15b0 : (t307 == t309) = false := beq_eq_false_iff_ne.mpr c15
                  have c15b1 : (t307 != t309) = true := bne_iff_ne.mpr c15
                  (first | rw [c15b0] | (simp only [i64_w, i32_w]; rw [c15b0]) | skip)
                  have H' := Aside0.mk H
                  clear H
                  go_wp2
                  go_meet
                  case rel => exact ⟨_, (true), (by first | rfl | (simp; done) | (simp [*]; done)), H', ⟨by have := HK1.out; have := HJ4.out; first | omega | exact Nat.le_refl _⟩, ⟨by (with_reducible repeat (first | apply Kd.R_alloc | apply Kd.R_drewN | apply Kd.R_drew)); exact Kd.R_mono HO306.out (fun _ hk => hk.2)⟩, ⟨by (with_reducible repeat (first | apply Kd.R_alloc | apply Kd.R_drewN | apply Kd.R_drew)); exact Kd.R_mono HO311.out (fun _ hk => hk.2)⟩, ⟨by repeat (first | (with_reducible first | exact HB.out | apply below_alloc | apply pw_below_drewN | apply below_drew1) | exact HB.out)⟩⟩
              case rest =>
                clear HC12
                try clear c1
                try clear c2
                try clear p2
                try clear c3
                try clear c3b0
                try clear p3
                try clear q3
                try clear hx3
                try clear c4
                try clear c4b0
                try clear c6
                try clear c6b0
                try clear p6
                try clear c7
                try clear c11
                try clear c15
                try clear c15b0
                try clear c15b1
                try clear hx302_0
                try clear hx302_1
                try clear hx302_2
                try clear p2
                try clear p3
                try clear p302
                try clear p6
                try clear q3
                try clear q302
                obtain ⟨kq, x63_11, rfl, HA, HJ11, HO_7, HO_9, HB⟩ := hcut
                cases kq with
                | zero => exact absurd HA.out (by simp [incunablelaw15_ShapeGroups.j2])
                | succ kj11 =>
                  have H := HA.out
                  clear HA
                  simp only [incunablelaw15_ShapeGroups.j2] at H
                  by_cases c19 : x63_11 = true
                  · subst c19
                    have H1 : (some false) = some r := by rw [if_pos rfl] at H; exact H
                    clear H
                    have H := H1
                    clear H1
                    exact absurd ((Option.some.inj H).trans HR_.out) (by decide)
                  · replace c19 := Bool.eq_false_iff.mpr c19
                    subst c19
                    have H1 : (if t307 = 0 then ((shape_Heads.f kj11 t304).bind fun bt314 => ((incunableref15_Heads.f kj11 t308).bind fun bt318 => ((shape_Loss.f kj11 l0 t304).bind fun bt322 => ((incunableref15_Loss.f kj11 l0 t308).bind fun bt324 => (if bt314.2 = bt318.2 then (if bt322.2 = bt324.2 then (if bt322.1 = bt324.1 then ((incunableref01_SameInts.f kj11 bt314.1 bt318.1).bind fun t326 => (incunablelaw15_ShapeGroups.j3 kj11 l0 a1 t304 bt314.1 bt322.1 (!t326))) else (incunablelaw15_ShapeGroups.j3 kj11 l0 a1 t304 bt314.1 bt322.1 true)) else (incunablelaw15_ShapeGroups.j3 kj11 l0 a1 t304 bt314.1 bt322.1 true)) else (incunablelaw15_ShapeGroups.j3 kj11 l0 a1 t304 bt314.1 bt322.1 true)))))) else ((incunablelaw15_Sane.f kj11).bind fun t313 => (some t313))) = some r := by rw [if_neg (show ¬ (false = true) by decide)] at H; exact H
                    clear H
                    have H := H1
                    clear H1
                    by_cases c20 : t307 = 0
                    · rw [if_pos c20] at H
                      have c20b0 : (t307 == 0) = true := beq_iff_eq.mpr c20
                      have c20b1 : (t307 != 0) = false := bne_eq_false_iff_eq.mpr c20
                      clear c20
                      replace H := Option.bind_eq_some_iff.mp H
                      obtain ⟨⟨t314, t315⟩, A210, H⟩ := H
                      replace H : ((incunableref15_Heads.f kj11 t308).bind fun bt318 => ((shape_Loss.f kj11 l0 t304).bind fun bt322 => ((incunableref15_Loss.f kj11 l0 t308).bind fun bt324 => (if t315 = bt318.2 then (if bt322.2 = bt324.2 then (if bt322.1 = bt324.1 then ((incunableref01_SameInts.f kj11 t314 bt318.1).bind fun t326 => (incunablelaw15_ShapeGroups.j3 kj11 l0 a1 t304 t314 bt322.1 (!t326))) else (incunablelaw15_ShapeGroups.j3 kj11 l0 a1 t304 t314 bt322.1 true)) else (incunablelaw15_ShapeGroups.j3 kj11 l0 a1 t304 t314 bt322.1 true)) else (incunablelaw15_ShapeGroups.j3 kj11 l0 a1 t304 t314 bt322.1 true))))) = some r := H
                      have A21 := Aside0.mk A210
                      clear A210
                      replace H := Option.bind_eq_some_iff.mp H
                      obtain ⟨⟨t318, t319⟩, A220, H⟩ := H
                      replace H : ((shape_Loss.f kj11 l0 t304).bind fun bt322 => ((incunableref15_Loss.f kj11 l0 t308).bind fun bt324 => (if t315 = t319 then (if bt322.2 = bt324.2 then (if bt322.1 = bt324.1 then ((incunableref01_SameInts.f kj11 t314 t318).bind fun t326 => (incunablelaw15_ShapeGroups.j3 kj11 l0 a1 t304 t314 bt322.1 (!t326))) else (incunablelaw15_ShapeGroups.j3 kj11 l0 a1 t304 t314 bt322.1 true)) else (incunablelaw15_ShapeGroups.j3 kj11 l0 a1 t304 t314 bt322.1 true)) else (incunablelaw15_ShapeGroups.j3 kj11 l0 a1 t304 t314 bt322.1 true)))) = some r := H
                      have A22 := Aside0.mk A220
                      clear A220
                      replace H := Option.bind_eq_some_iff.mp H
                      obtain ⟨⟨t322, t323⟩, A230, H⟩ := H
                      replace H : ((incunableref15_Loss.f kj11 l0 t308).bind fun bt324 => (if t315 = t319 then (if t323 = bt324.2 then (if t322 = bt324.1 then ((incunableref01_SameInts.f kj11 t314 t318).bind fun t326 => (incunablelaw15_ShapeGroups.j3 kj11 l0 a1 t304 t314 t322 (!t326))) else (incunablelaw15_ShapeGroups.j3 kj11 l0 a1 t304 t314 t322 true)) else (incunablelaw15_ShapeGroups.j3 kj11 l0 a1 t304 t314 t322 true)) else (incunablelaw15_ShapeGroups.j3 kj11 l0 a1 t304 t314 t322 true))) = some r := H
                      have A23 := Aside0.mk A230
                      clear A230
                      replace H := Option.bind_eq_some_iff.mp H
                      obtain ⟨⟨t324, t325⟩, A240, H⟩ := H
                      replace H : (if t315 = t319 then (if t323 = t325 then (if t322 = t324 then ((incunableref01_SameInts.f kj11 t314 t318).bind fun t326 => (incunablelaw15_ShapeGroups.j3 kj11 l0 a1 t304 t314 t322 (!t326))) else (incunablelaw15_ShapeGroups.j3 kj11 l0 a1 t304 t314 t322 true)) else (incunablelaw15_ShapeGroups.j3 kj11 l0 a1 t304 t314 t322 true)) else (incunablelaw15_ShapeGroups.j3 kj11 l0 a1 t304 t314 t322 true)) = some r := H
                      have A24 := Aside0.mk A240
                      clear A240
                      have HC25 := Aside0.mk H
                      clear H
                      obtain ⟨Ao26, co26, eo26⟩ := Kd.R_slice HO_7.out
                      subst eo26
                      go_upto_region 18 with (first | ((with_reducible refine gate_callee (f := 15) rfl ?_); refine goesL_ (some 69) rfl rfl Try.func15 (by kernel_rfl) rfl #[.slice Ao26 t304.length co26] rfl (by (try simp only [List.map_toArray, List.map_cons, List.map_nil]); first | done | rfl | (simp only [List.length_drop, List.length_take]; rfl)) ?_; (with_reducible refine (shape_Heads.calls kj11 _ _ t304 t314 t315 _ ?side1 ?side2 A21.out).mono ?_); (case side1 => repeat (first | exact (Kd.R_reads' HO_7.out).2.2 | (with_reducible refine Kd.C_alloc ?_ _) | (with_reducible refine Kd.C_drewN ?_ _) | (with_reducible refine Kd.C_drew ?_))); (case side2 => exact (Kd.R_reads' HO_7.out).2.1); rintro e w27 ⟨v316, rfl, ho0, hb⟩; refine ⟨_, rfl, ?_⟩; have n0_ := Aside0.mk (Kd.R_elder' (rU HO_7.out) (Kd.R_base ho0) hb); have n1_ := Aside0.mk (Kd.R_elder' (rU HO_9.out) (Kd.R_base ho0) hb); have n2_ := Aside0.mk (Kd.R_lower (Kd.R_new' (Kd.R_new' ho0 (Kd.R_lt (rU HO_7.out))) (Kd.R_lt (rU HO_9.out))) (below_size (by repeat (first | (with_reducible first | exact HB.out | apply below_alloc | apply pw_below_drewN | apply below_drew1) | exact HB.out)))); have n3_ := Aside0.mk (below_step (by repeat (first | (with_reducible first | exact HB.out | apply below_alloc | apply pw_below_drewN | apply below_drew1) | exact HB.out)) hb); clear HO_7; clear HO_9; clear HB; have HO_7 := n0_; have HO_9 := n1_; have HO317 := n2_; have HB := n3_; clear n0_ n1_ n2_ n3_; (try clear hb); (try clear hb2); (try clear hk); (try clear hi); (try clear ho0); obtain ⟨Ao28, co28, eo28⟩ := Kd.R_slice HO_9.out; subst eo28) | ((with_reducible refine gate_callee (f := 16) rfl ?_); refine goesL_ (some 74) rfl rfl Try.func16 (by kernel_rfl) rfl #[.slice Ao28 t308.length co28] rfl (by (try simp only [List.map_toArray, List.map_cons, List.map_nil]); first | done | rfl | (simp only [List.length_drop, List.length_take]; rfl)) ?_; (with_reducible refine (incunableref15_Heads.calls kj11 _ _ t308 t318 t319 _ ?side1 ?side2 A22.out).mono ?_); (case side1 => repeat (first | exact (Kd.R_reads' HO_9.out).2.2 | (with_reducible refine Kd.C_alloc ?_ _) | (with_reducible refine Kd.C_drewN ?_ _) | (with_reducible refine Kd.C_drew ?_))); (case side2 => exact (Kd.R_reads' HO_9.out).2.1); rintro e w29 ⟨v320, rfl, ho0, hb⟩; refine ⟨_, rfl, ?_⟩; have n0_ := Aside0.mk (Kd.R_elder' (rU HO_7.out) (Kd.R_base ho0) hb); have n1_ := Aside0.mk (Kd.R_elder' (rU HO_9.out) (Kd.R_base ho0) hb); have n2_ := Aside0.mk (Kd.R_elder' (rU HO317.out) (Kd.R_base ho0) hb); have n3_ := Aside0.mk (Kd.R_lower (Kd.R_new' (Kd.R_new' (Kd.R_new' ho0 (Kd.R_lt (rU HO_7.out))) (Kd.R_lt (rU HO_9.out))) (Kd.R_lt (rU HO317.out))) (below_size (by repeat (first | (with_reducible first | exact HB.out | apply below_alloc | apply pw_below_drewN | apply below_drew1) | exact HB.out)))); have n4_ := Aside0.mk (below_step (by repeat (first | (with_reducible first | exact HB.out | apply below_alloc | apply pw_below_drewN | apply below_drew1) | exact HB.out)) hb); clear HO_7; clear HO_9; clear HO317; clear HB; have HO_7 := n0_; have HO_9 := n1_; have HO317 := n2_; have HO321 := n3_; have HB := n4_; clear n0_ n1_ n2_ n3_ n4_; (try clear hb); (try clear hb2); (try clear hk); (try clear hi); (try clear ho0)) | ((with_reducible refine gate_callee (f := 17) rfl ?_); refine goesL_ (some 80) rfl rfl Try.func17 (by kernel_rfl) rfl #[.slice A0 l0.length c0, .slice Ao26 t304.length co26] rfl (by (try simp only [List.map_toArray, List.map_cons, List.map_nil]); first | done | rfl | (simp only [List.length_drop, List.length_take]; rfl)) ?_; (with_reducible refine (shape_Loss.calls kj11 _ _ l0 _ _ t304 t322 t323 _ ?side1 ?side2 ?side3 ?side4 A23.out).mono ?_); (case side1 => repeat (first | exact (Kd.C_below HR0.out HB.out) | (with_reducible refine Kd.C_alloc ?_ _) | (with_reducible refine Kd.C_drewN ?_ _) | (with_reducible refine Kd.C_drew ?_))); (case side2 => exact HC0.out); (case side3 => repeat (first | exact (Kd.R_reads' HO_7.out).2.2 | (with_reducible refine Kd.C_alloc ?_ _) | (with_reducible refine Kd.C_drewN ?_ _) | (with_reducible refine Kd.C_drew ?_))); (case side4 => exact (Kd.R_reads' HO_7.out).2.1); rintro e w30 ⟨rfl, hb⟩; refine ⟨_, rfl, ?_⟩; have n0_ := Aside0.mk (Kd.R_below (rU HO_7.out) hb); have n1_ := Aside0.mk (Kd.R_below (rU HO_9.out) hb); have n2_ := Aside0.mk (Kd.R_below (rU HO317.out) hb); have n3_ := Aside0.mk (Kd.R_below (rU HO321.out) hb); have n4_ := Aside0.mk (below_step (by repeat (first | (with_reducible first | exact HB.out | apply below_alloc | apply pw_below_drewN | apply below_drew1) | exact HB.out)) hb); clear HO_7; clear HO_9; clear HO317; clear HO321; clear HB; have HO_7 := n0_; have HO_9 := n1_; have HO317 := n2_; have HO321 := n3_; have HB := n4_; clear n0_ n1_ n2_ n3_ n4_; (try clear hb); (try clear hb2); (try clear hk); (try clear hi)) | ((with_reducible refine gate_callee (f := 18) rfl ?_); refine goesL_ (some 86) rfl rfl Try.func18 (by kernel_rfl) rfl #[.slice A0 l0.length c0, .slice Ao28 t308.length co28] rfl (by (try simp only [List.map_toArray, List.map_cons, List.map_nil]); first | done | rfl | (simp only [List.length_drop, List.length_take]; rfl)) ?_; (with_reducible refine (incunableref15_Loss.calls kj11 _ _ l0 _ _ t308 t324 t325 _ ?side1 ?side2 ?side3 ?side4 A24.out).mono ?_); (case side1 => repeat (first | exact (Kd.C_below HR0.out HB.out) | (with_reducible refine Kd.C_alloc ?_ _) | (with_reducible refine Kd.C_drewN ?_ _) | (with_reducible refine Kd.C_drew ?_))); (case side2 => exact HC0.out); (case side3 => repeat (first | exact (Kd.R_reads' HO_9.out).2.2 | (with_reducible refine Kd.C_alloc ?_ _) | (with_reducible refine Kd.C_drewN ?_ _) | (with_reducible refine Kd.C_drew ?_))); (case side4 => exact (Kd.R_reads' HO_9.out).2.1); rintro e w31 ⟨rfl, hb⟩; refine ⟨_, rfl, ?_⟩; have n0_ := Aside0.mk (Kd.R_below (rU HO_7.out) hb); have n1_ := Aside0.mk (Kd.R_below (rU HO_9.out) hb); have n2_ := Aside0.mk (Kd.R_below (rU HO317.out) hb); have n3_ := Aside0.mk (Kd.R_below (rU HO321.out) hb); have n4_ := Aside0.mk (below_step (by repeat (first | (with_reducible first | exact HB.out | apply below_alloc | apply pw_below_drewN | apply below_drew1) | exact HB.out)) hb); clear HO_7; clear HO_9; clear HO317; clear HO321; clear HB; have HO_7 := n0_; have HO_9 := n1_; have HO317 := n2_; have HO321 := n3_; have HB := n4_; clear n0_ n1_ n2_ n3_ n4_; (try clear hb); (try clear hb2); (try clear hk); (try clear hi)))
                      (try simp only [Act.put, List.setIfInBounds_toArray, List.set_cons_zero, List.set_cons_succ])
                      go_cut [107] (fun v107 wc => ∃ (kq : Nat) (x107_24 : Bool), v107 = .bool x107_24 ∧ Aside0 (incunablelaw15_ShapeGroups.j3 kq l0 a1 t304 t314 t322 x107_24 = some r) ∧ Aside0 (kq ≤ kj11) ∧ Aside0 (Kd.R (Kd.int .i64) 3 wc w.heap.size (fun k_ => some k_ ≠ (v316 : Value).ownBlock) (.slice Ao26 t304.length co26) t304) ∧ Aside0 (Kd.R (Kd.int .i64) 3 wc w.heap.size (fun k_ => some k_ ≠ ((.slice Ao26 t304.length co26) : Value).ownBlock) v316 t314) ∧ Aside0 (Below w.heap.size w wc))
                      case first =>
                        have H := HC25.out
                        clear HC25
                        by_cases c32 : t315 = t319
                        · rw [if_pos c32] at H
                          have c32b0 : (t315 == t319) = true := beq_iff_eq.mpr c32
                          have c32b1 : (t315 != t319) = false := bne_eq_false_iff_eq.mpr c32
                          clear c32
                          (first | rw [c32b0] | (simp only [i64_w, i32_w]; rw [c32b0]) | skip)
                          by_cases c33 : t323 = t325
                          · rw [if_pos c33] at H
                            have c33b0 : (t323 == t325) = true := beq_iff_eq.mpr c33
                            have c33b1 : (t323 != t325) = false := bne_eq_false_iff_eq.mpr c33
                            clear c33
                            by_cases c34 : t322 = t324
                            · rw [if_pos c34] at H
                              have c34b0 : (t322 == t324) = true := beq_iff_eq.mpr c34
                              have c34b1 : (t322 != t324) = false := bne_eq_false_iff_eq.mpr c34
                              clear c34
                              replace H := Option.bind_eq_some_iff.mp H
                              obtain ⟨t326, A350, H⟩ := H
                              replace H : (incunablelaw15_ShapeGroups.j3 kj11 l0 a1 t304 t314 t322 (!t326)) = some r := H
                              have A35 := Aside0.mk A350
                              clear A350
                              have H' := Aside0.mk H
                              clear H
                              obtain ⟨Ao36, co36, eo36⟩ := Kd.R_slice HO317.out
                              subst eo36
                              obtain ⟨Ao37, co37, eo37⟩ := Kd.R_slice HO321.out
                              subst eo37
                              go_wp2_with (first | (go_at_call 19; (with_reducible refine (incunableref01_SameInts.calls kj11 _ _ t314 _ _ t318 t326 _ ?side1 ?side2 ?side3 ?side4 A35.out).mono ?_); (case side1 => repeat (first | exact (Kd.R_reads' HO317.out).2.2 | (with_reducible refine Kd.C_alloc ?_ _) | (with_reducible refine Kd.C_drewN ?_ _) | (with_reducible refine Kd.C_drew ?_))); (case side2 => exact (Kd.R_reads' HO317.out).2.1); (case side3 => repeat (first | exact (Kd.R_reads' HO321.out).2.2 | (with_reducible refine Kd.C_alloc ?_ _) | (with_reducible refine Kd.C_drewN ?_ _) | (with_reducible refine Kd.C_drew ?_))); (case side4 => exact (Kd.R_reads' HO321.out).2.1); rintro e w' ⟨rfl, ⟨nd, rfl⟩⟩))
                              go_meet
                              case rel => exact ⟨_, (!t326), (by first | rfl | (simp; done) | (simp [*]; done)), H', ⟨by have := HK1.out; have := HJ4.out; have := HJ11.out; first | omega | exact Nat.le_refl _⟩, ⟨by (with_reducible repeat (first | apply Kd.R_alloc | apply Kd.R_drewN | apply Kd.R_drew)); exact Kd.R_mono HO_7.out (fun _ hk => hk.1.2)⟩, ⟨by (with_reducible repeat (first | apply Kd.R_alloc | apply Kd.R_drewN | apply Kd.R_drew)); exact Kd.R_mono HO317.out (fun _ hk => hk.1.1.2)⟩, ⟨by repeat (first | (with_reducible first | exact HB.out | apply below_alloc | apply pw_below_drewN | apply below_drew1) | exact HB.out)⟩⟩
                            · rw [if_neg c34] at H
                              have c34b0 : (t322 == t324) = false := beq_eq_false_iff_ne.mpr c34
                              have c34b1 : (t322 != t324) = true := bne_iff_ne.mpr c34
                              have H' := Aside0.mk H
                              clear H
                              go_wp2
                              go_meet
                              case rel => exact ⟨_, (true), (by first | rfl | (simp; done) | (simp [*]; done)), H', ⟨by have := HK1.out; have := HJ4.out; have := HJ11.out; first | omega | exact Nat.le_refl _⟩, ⟨by (with_reducible repeat (first | apply Kd.R_alloc | apply Kd.R_drewN | apply Kd.R_drew)); exact Kd.R_mono HO_7.out (fun _ hk => hk.1.2)⟩, ⟨by (with_reducible repeat (first | apply Kd.R_alloc | apply Kd.R_drewN | apply Kd.R_drew)); exact Kd.R_mono HO317.out (fun _ hk => hk.1.1.2)⟩, ⟨by repeat (first | (with_reducible first | exact HB.out | apply below_alloc | apply pw_below_drewN | apply below_drew1) | exact HB.out)⟩⟩
                          · rw [if_neg c33] at H
                            have c33b0 : (t323 == t325) = false := beq_eq_false_iff_ne.mpr c33
                            have c33b1 : (t323 != t325) = true := bne_iff_ne.mpr c33
                            have H' := Aside0.mk H
                            clear H
                            go_wp2
                            go_meet
                            case rel => exact ⟨_, (true), (by first | rfl | (simp; done) | (simp [*]; done)), H', ⟨by have := HK1.out; have := HJ4.out; have := HJ11.out; first | omega | exact Nat.le_refl _⟩, ⟨by (with_reducible repeat (first | apply Kd.R_alloc | apply Kd.R_drewN | apply Kd.R_drew)); exact Kd.R_mono HO_7.out (fun _ hk => hk.1.2)⟩, ⟨by (with_reducible repeat (first | apply Kd.R_alloc | apply Kd.R_drewN | apply Kd.R_drew)); exact Kd.R_mono HO317.out (fun _ hk => hk.1.1.2)⟩, ⟨by repeat (first | (with_reducible first | exact HB.out | apply below_alloc | apply pw_below_drewN | apply below_drew1) | exact HB.out)⟩⟩
                        · rw [if_neg c32] at H
                          have c32b0 : (t315 == t319) = false := beq_eq_false_iff_ne.mpr c32
                          have c32b1 : (t315 != t319) = true := bne_iff_ne.mpr c32
                          (first | rw [c32b0] | (simp only [i64_w, i32_w]; rw [c32b0]) | skip)
                          have H' := Aside0.mk H
                          clear H
                          go_wp2
                          go_meet
                          case rel => exact ⟨_, (true), (by first | rfl | (simp; done) | (simp [*]; done)), H', ⟨by have := HK1.out; have := HJ4.out; have := HJ11.out; first | omega | exact Nat.le_refl _⟩, ⟨by (with_reducible repeat (first | apply Kd.R_alloc | apply Kd.R_drewN | apply Kd.R_drew)); exact Kd.R_mono HO_7.out (fun _ hk => hk.1.2)⟩, ⟨by (with_reducible repeat (first | apply Kd.R_alloc | apply Kd.R_drewN | apply Kd.R_drew)); exact Kd.R_mono HO317.out (fun _ hk => hk.1.1.2)⟩, ⟨by repeat (first | (with_reducible first | exact HB.out | apply below_alloc | apply pw_below_drewN | apply below_drew1) | exact HB.out)⟩⟩
                      case rest =>
                        clear HC25
                        try clear c1
                        try clear c2
                        try clear p2
                        try clear c3
                        try clear c3b0
                        try clear p3
                        try clear q3
                        try clear hx3
                        try clear c4
                        try clear c4b0
                        try clear c6
                        try clear c6b0
                        try clear p6
                        try clear c7
                        try clear c11
                        try clear c15
                        try clear c15b0
                        try clear c15b1
                        try clear c16
                        try clear c17
                        try clear c18
                        try clear c19
                        try clear c20
                        try clear c20b0
                        try clear c20b1
                        try clear c29
                        try clear c30
                        try clear p30
                        try clear q30
                        try clear hx30
                        try clear c32
                        try clear c32b0
                        try clear c32b1
                        try clear c33
                        try clear c33b0
                        try clear c33b1
                        try clear c34
                        try clear c34b0
                        try clear c34b1
                        try clear hx302_0
                        try clear hx302_1
                        try clear hx302_2
                        try clear p2
                        try clear p3
                        try clear p302
                        try clear p6
                        try clear q3
                        try clear q302
                        obtain ⟨kq, x107_24, rfl, HA, HJ24, HO_7, HO_11, HB⟩ := hcut
                        cases kq with
                        | zero => exact absurd HA.out (by simp [incunablelaw15_ShapeGroups.j3])
                        | succ kj24 =>
                          have H := HA.out
                          clear HA
                          simp only [incunablelaw15_ShapeGroups.j3] at H
                          by_cases c38 : x107_24 = true
                          · subst c38
                            have H1 : (some false) = some r := by rw [if_pos rfl] at H; exact H
                            clear H
                            have H := H1
                            clear H1
                            exact absurd ((Option.some.inj H).trans HR_.out) (by decide)
                          · replace c38 := Bool.eq_false_iff.mpr c38
                            subst c38
                            have H1 : (incunablelaw15_ShapeGroups.l1 kj24 l0 a1 t304 t314 t322 0) = some r := by rw [if_neg (show ¬ (false = true) by decide)] at H; exact H
                            clear H
                            have H := H1
                            clear H1
                            have H' := Aside0.mk H
                            clear H
                            go_wp2
                            go_loopg [17] kj24 (fun kq v17 w' => ∃ (x17_5 : Int), v17 = .int .i64 x17_5 ∧ Aside0 (incunablelaw15_ShapeGroups.l1 kq l0 a1 t304 t314 t322 x17_5 = some r) ∧ Aside0 (kq ≤ kj24) ∧ Aside0 (Kd.R (Kd.int .i64) 3 w' w.heap.size (fun k_ => some k_ ≠ (v316 : Value).ownBlock) (.slice Ao26 t304.length co26) t304) ∧ Aside0 (Kd.R (Kd.int .i64) 3 w' w.heap.size (fun k_ => some k_ ≠ ((.slice Ao26 t304.length co26) : Value).ownBlock) v316 t314) ∧ Aside0 (Below w.heap.size w w'))
                            case atStart => exact ⟨(0), (by first | rfl | (simp; done) | (simp [*]; done)), H', ⟨Nat.le_refl _⟩, ⟨by (with_reducible repeat (first | apply Kd.R_alloc | apply Kd.R_drewN | apply Kd.R_drew)); exact HO_7.out⟩, ⟨by (with_reducible repeat (first | apply Kd.R_alloc | apply Kd.R_drewN | apply Kd.R_drew)); exact HO_11.out⟩, ⟨by repeat (first | (with_reducible first | exact HB.out | apply below_alloc | apply pw_below_drewN | apply below_drew1) | exact HB.out)⟩⟩
                            case round =>
                              clear H'
                              try clear c1
                              try clear c2
                              try clear p2
                              try clear c3
                              try clear c3b0
                              try clear p3
                              try clear q3
                              try clear hx3
                              try clear c4
                              try clear c4b0
                              try clear c6
                              try clear c6b0
                              try clear p6
                              try clear c7
                              try clear c11
                              try clear c15
                              try clear c15b0
                              try clear c15b1
                              try clear c16
                              try clear c17
                              try clear c18
                              try clear c19
                              try clear c20
                              try clear c20b0
                              try clear c20b1
                              try clear c29
                              try clear c30
                              try clear p30
                              try clear q30
                              try clear hx30
                              try clear c32
                              try clear c32b0
                              try clear c32b1
                              try clear c33
                              try clear c33b0
                              try clear c33b1
                              try clear c34
                              try clear c34b0
                              try clear c34b1
                              try clear c38
                              try clear hx302_0
                              try clear hx302_1
                              try clear hx302_2
                              try clear p2
                              try clear p3
                              try clear p30
                              try clear p302
                              try clear p6
                              try clear q3
                              try clear q30
                              try clear q302
                              obtain ⟨x17_5, rfl, HA, HK5, HO_7, HO_11, HB⟩ := hrel
                              cases gk with
                              | zero => exact absurd HA.out (by simp [incunablelaw15_ShapeGroups.l1])
                              | succ k5 =>
                                have H := HA.out
                                clear HA
                                simp only [incunablelaw15_ShapeGroups.l1] at H
                                by_cases c39 : x17_5 < (l0.length : Int)
                                · rw [if_pos c39] at H
                                  have c39b0 : decide (x17_5 < (l0.length : Int)) = true := decide_eq_true c39
                                  clear c39
                                  by_cases c40 : 0 ≤ x17_5
                                  · rw [if_pos c40] at H
                                    have c40b0 : decide (0 ≤ x17_5) = true := decide_eq_true c40
                                    clear c40
                                    by_cases c41 : x17_5 < (t304.length : Int)
                                    · rw [if_pos c41] at H
                                      have c41b0 : decide (x17_5 < (t304.length : Int)) = true := decide_eq_true c41
                                      clear c41
                                      by_cases c42 : 0 ≤ (rd t304 x17_5)
                                      · rw [if_pos c42] at H
                                        have c42b0 : decide (0 ≤ (rd t304 x17_5)) = true := decide_eq_true c42
                                        clear c42
                                        by_cases c43 : (rd t304 x17_5) < (t314.length : Int)
                                        · rw [if_pos c43] at H
                                          have c43b0 : decide ((rd t304 x17_5) < (t314.length : Int)) = true := decide_eq_true c43
                                          clear c43
                                          by_cases c44 : 0 ≤ (rd t314 (rd t304 x17_5))
                                          · rw [if_pos c44] at H
                                            have c44b0 : decide (0 ≤ (rd t314 (rd t304 x17_5))) = true := decide_eq_true c44
                                            clear c44
                                            by_cases c45 : (rd t314 (rd t304 x17_5)) < (l0.length : Int)
                                            · rw [if_pos c45] at H
                                              have c45b0 : decide ((rd t314 (rd t304 x17_5)) < (l0.length : Int)) = true := decide_eq_true c45
                                              clear c45
                                              replace H := Option.bind_eq_some_iff.mp H
                                              obtain ⟨⟨t331, t332⟩, A460, H⟩ := H
                                              replace H : (if t331 > a1 then (some false) else (incunablelaw15_ShapeGroups.l1 k5 l0 a1 t304 t314 t322 (wrap64 (x17_5 + 1)))) = some r := H
                                              have A46 := Aside0.mk A460
                                              clear A460
                                              by_cases c47 : t331 > a1
                                              · rw [if_pos c47] at H
                                                have c47b0 : decide (a1 < t331) = true := decide_eq_true c47
                                                clear c47
                                                exact absurd ((Option.some.inj H).trans HR_.out) (by decide)
                                              · rw [if_neg c47] at H
                                                have c47b0 : decide (a1 < t331) = false := decide_eq_false c47
                                                clear c47
                                                have H' := Aside0.mk H
                                                clear H
                                                try go_wp2
                                                have n0_ := Aside0.mk (Kd.R_drew HO_7.out)
                                                have n1_ := Aside0.mk (Kd.R_drew HO_11.out)
                                                have n2_ := Aside0.mk (below_drew1 HB.out)
                                                clear HO_7
                                                clear HO_11
                                                clear HB
                                                have HO_7 := n0_
                                                have HO_11 := n1_
                                                have HB := n2_
                                                clear n0_ n1_ n2_
                                                have p327 : 0 ≤ (x17_5 : Int) := of_decide_eq_true (by first | (with_reducible assumption) | assumption)
                                                have q327 : x17_5 < (t304.length : Int) := of_decide_eq_true (by first | (with_reducible assumption) | assumption)
                                                obtain ⟨ad327, e327, hx327_0⟩ := Kd.at_int (Kd.R_reads' HO_7.out).2.2 x17_5 p327 q327
                                                cases e327
                                                replace p327 := eq_true p327
                                                replace q327 := eq_true q327
                                                obtain ⟨Ao49, co49, eo49⟩ := Kd.R_slice HO_11.out
                                                (first | subst eo49 | (injection eo49 with f1_ f2_ f3_; have f4_ := f1_.symm; have f5_ := f3_.symm; clear f1_ f2_ f3_; subst f4_; subst f5_))
                                                have p328 : 0 ≤ ((rd t304 x17_5) : Int) := of_decide_eq_true (by first | (with_reducible assumption) | assumption)
                                                have q328 : (rd t304 x17_5) < (t314.length : Int) := of_decide_eq_true (by first | (with_reducible assumption) | assumption)
                                                obtain ⟨ad328, e328, hx328_0⟩ := Kd.at_int (Kd.R_reads' HO_11.out).2.2 (rd t304 x17_5) p328 q328
                                                cases e328
                                                replace p328 := eq_true p328
                                                replace q328 := eq_true q328
                                                have p329 : 0 ≤ ((rd t314 (rd t304 x17_5)) : Int) := of_decide_eq_true (by first | (with_reducible assumption) | assumption)
                                                have q329 : (rd t314 (rd t304 x17_5)) < (l0.length : Int) := of_decide_eq_true (by first | (with_reducible assumption) | assumption)
                                                obtain ⟨ad329, A329_2, c329_2, e329, hx329_0, hx329_1, hx329_2, hl329_2, hi329_2⟩ := at_T24 HR0.out (rd t314 (rd t304 x17_5)) p329 q329
                                                have hw329_2 := hx329_2
                                                have hw329_1 := hx329_1
                                                have hw329_0 := hx329_0
                                                cases e329
                                                replace hx329_0 := (HB.out.cell (World.block_lt_of_cell? w _ hx329_0)).trans hx329_0
                                                replace hx329_1 := (HB.out.cell (World.block_lt_of_cell? w _ hx329_1)).trans hx329_1
                                                replace hx329_2 := (HB.out.cell (World.block_lt_of_cell? w _ hx329_2)).trans hx329_2
                                                have HR329_2 := Aside0.mk hi329_2
                                                have HC329_2 := Aside0.mk hl329_2
                                                clear hi329_2 hl329_2
                                                replace p329 := eq_true p329
                                                replace q329 := eq_true q329
                                                have p330 : 0 ≤ (x17_5 : Int) := of_decide_eq_true (by first | (with_reducible assumption) | assumption)
                                                have q330 : x17_5 < (l0.length : Int) := of_decide_eq_true (by first | (with_reducible assumption) | assumption)
                                                obtain ⟨ad330, A330_2, c330_2, e330, hx330_0, hx330_1, hx330_2, hl330_2, hi330_2⟩ := at_T24 HR0.out x17_5 p330 q330
                                                have hw330_2 := hx330_2
                                                have hw330_1 := hx330_1
                                                have hw330_0 := hx330_0
                                                obtain rfl : ad329 = ad330 := (by injection e330)
                                                replace hx330_0 := (HB.out.cell (World.block_lt_of_cell? w _ hx330_0)).trans hx330_0
                                                replace hx330_1 := (HB.out.cell (World.block_lt_of_cell? w _ hx330_1)).trans hx330_1
                                                replace hx330_2 := (HB.out.cell (World.block_lt_of_cell? w _ hx330_2)).trans hx330_2
                                                have HR330_2 := Aside0.mk hi330_2
                                                have HC330_2 := Aside0.mk hl330_2
                                                clear hi330_2 hl330_2
                                                replace p330 := eq_true p330
                                                replace q330 := eq_true q330
                                                refine start_ (n := 20) (S := fun w' => w'.cell? (ad327.add (x17_5).toNat) = some (.int .i64 (rd t304 x17_5)) ∧ w'.cell? (ad328.add ((rd t304 x17_5)).toNat) = some (.int .i64 (rd t314 (rd t304 x17_5))) ∧ w'.cell? (ad329.add (((rd t314 (rd t304 x17_5))).toNat * 3)) = some (.int .i64 ((rd_T24 l0 (rd t314 (rd t304 x17_5))).f0)) ∧ w'.cell? ⟨(ad329.add (((rd t314 (rd t304 x17_5))).toNat * 3)).block, (ad329.add (((rd t314 (rd t304 x17_5))).toNat * 3)).off + 1, none⟩ = some (.int .i64 ((rd_T24 l0 (rd t314 (rd t304 x17_5))).f1)) ∧ w'.cell? ⟨(ad329.add (((rd t314 (rd t304 x17_5))).toNat * 3)).block, (ad329.add (((rd t314 (rd t304 x17_5))).toNat * 3)).off + 2, none⟩ = some (.slice A329_2 ((rd_T24 l0 (rd t314 (rd t304 x17_5))).f2).length c329_2) ∧ w'.cell? (ad329.add ((x17_5).toNat * 3)) = some (.int .i64 ((rd_T24 l0 x17_5).f0)) ∧ w'.cell? ⟨(ad329.add ((x17_5).toNat * 3)).block, (ad329.add ((x17_5).toNat * 3)).off + 1, none⟩ = some (.int .i64 ((rd_T24 l0 x17_5).f1)) ∧ w'.cell? ⟨(ad329.add ((x17_5).toNat * 3)).block, (ad329.add ((x17_5).toNat * 3)).off + 2, none⟩ = some (.slice A330_2 ((rd_T24 l0 x17_5).f2).length c330_2)) (ds := []) #[false, false, false, false, false, false, false, false, false, false, false, false, false, false, false, false, false, false, false, false] (by kernel_rfl) rfl rfl ⟨hx327_0, hx328_0, ((HB.out.cell (World.block_lt_of_cell? w _ hw329_0)).trans hw329_0), ((HB.out.cell (World.block_lt_of_cell? w _ hw329_1)).trans hw329_1), ((HB.out.cell (World.block_lt_of_cell? w _ hw329_2)).trans hw329_2), ((HB.out.cell (World.block_lt_of_cell? w _ hw330_0)).trans hw330_0), ((HB.out.cell (World.block_lt_of_cell? w _ hw330_1)).trans hw330_1), ((HB.out.cell (World.block_lt_of_cell? w _ hw330_2)).trans hw330_2)⟩ (fun hHeld => ?_); refine with_tabW incunablelaw15_ShapeGroups.tab23 incunablelaw15_ShapeGroups.bits23 (fun HT_ HW_ => ?_)
                                                generalize wr.drew = w48 at HO_7 HO_11 HB HR329_2 HR330_2 hx327_0 hx328_0 hx329_0 hx329_1 hx329_2 hx330_0 hx330_1 hx330_2 hHeld ⊢
                                                refine pure_ (i := 0) (N := some 115) (v := ?_) (a' := ?_) #[true, false, false, false, false, false, false, false, false, false, false, false, false, false, false, false, false, false, false, false] rfl rfl (any_of HT_.out (by kernel_rfl)) (fun _ _ _ h => h) (Or.inl ⟨by rfl, ?_⟩) ?_ ?_
                                                rotate_left
                                                · intro w'
                                                  go_simp
                                                  with_reducible rfl
                                                rotate_left
                                                · simp only [Act.put, List.setIfInBounds_toArray, List.set_cons_zero, List.set_cons_succ, i64_w, i32_w]
                                                  rfl
                                                refine pure_ (i := 1) (N := some 116) (v := ?_) (a' := ?_) #[true, true, false, false, false, false, false, false, false, false, false, false, false, false, false, false, false, false, false, false] rfl rfl (any_of HT_.out (by kernel_rfl)) (fun _ _ _ h => h) (Or.inl ⟨by rfl, ?_⟩) ?_ ?_
                                                rotate_left
                                                · intro w'
                                                  go_simp
                                                  with_reducible rfl
                                                rotate_left
                                                · simp only [Act.put, List.setIfInBounds_toArray, List.set_cons_zero, List.set_cons_succ, i64_w, i32_w]
                                                  rfl
                                                refine pure_ (i := 2) (N := some 117) (v := ?_) (a' := ?_) #[true, true, true, false, false, false, false, false, false, false, false, false, false, false, false, false, false, false, false, false] rfl rfl (any_of HT_.out (by kernel_rfl)) (fun _ _ _ h => h) (Or.inl ⟨by rfl, ?_⟩) ?_ ?_
                                                rotate_left
                                                · intro w'
                                                  go_simp
                                                  with_reducible rfl
                                                rotate_left
                                                · simp only [Act.put, List.setIfInBounds_toArray, List.set_cons_zero, List.set_cons_succ, i64_w, i32_w]
                                                  rfl
                                                refine pure_ (i := 3) (N := some 118) (v := ?_) (a' := ?_) #[true, true, true, true, false, false, false, false, false, false, false, false, false, false, false, false, false, false, false, false] rfl rfl (any_of HT_.out (by kernel_rfl)) (fun _ _ _ h => h) (Or.inl ⟨by rfl, ?_⟩) ?_ ?_
                                                rotate_left
                                                · intro w'
                                                  go_simp
                                                  with_reducible rfl
                                                rotate_left
                                                · simp only [Act.put, List.setIfInBounds_toArray, List.set_cons_zero, List.set_cons_succ, i64_w, i32_w]
                                                  rfl
                                                refine pure_ (i := 4) (N := some 119) (v := ?_) (a' := ?_) #[true, true, true, true, true, false, false, false, false, false, false, false, false, false, false, false, false, false, false, false] rfl rfl (any_of HT_.out (by kernel_rfl)) (fun _ _ _ h => h) (Or.inl ⟨by rfl, ?_⟩) ?_ ?_
                                                rotate_left
                                                · intro w'
                                                  go_simp
                                                  with_reducible rfl
                                                rotate_left
                                                · simp only [Act.put, List.setIfInBounds_toArray, List.set_cons_zero, List.set_cons_succ, i64_w, i32_w]
                                                  rfl
                                                refine pure_ (i := 10) (N := some 125) (v := ?_) (a' := ?_) #[true, true, true, true, true, false, false, false, false, false, true, false, false, false, false, false, false, false, false, false] rfl rfl (any_of HT_.out (by kernel_rfl)) (fun _ _ _ h => h) (Or.inl ⟨by rfl, ?_⟩) ?_ ?_
                                                rotate_left
                                                · intro w'
                                                  go_simp
                                                  with_reducible rfl
                                                rotate_left
                                                · simp only [Act.put, List.setIfInBounds_toArray, List.set_cons_zero, List.set_cons_succ, i64_w, i32_w]
                                                  rfl
                                                refine pure_ (i := 11) (N := some 126) (v := ?_) (a' := ?_) #[true, true, true, true, true, false, false, false, false, false, true, true, false, false, false, false, false, false, false, false] rfl rfl (any_of HT_.out (by kernel_rfl)) (fun _ _ _ h => h) (Or.inl ⟨by rfl, ?_⟩) ?_ ?_
                                                rotate_left
                                                · intro w'
                                                  go_simp
                                                  with_reducible rfl
                                                rotate_left
                                                · simp only [Act.put, List.setIfInBounds_toArray, List.set_cons_zero, List.set_cons_succ, i64_w, i32_w]
                                                  rfl
                                                refine pure_ (i := 12) (N := some 127) (v := ?_) (a' := ?_) #[true, true, true, true, true, false, false, false, false, false, true, true, true, false, false, false, false, false, false, false] rfl rfl (any_of HT_.out (by kernel_rfl)) (fun _ _ _ h => h) (Or.inl ⟨by rfl, ?_⟩) ?_ ?_
                                                rotate_left
                                                · intro w'
                                                  go_simp
                                                  with_reducible rfl
                                                rotate_left
                                                · simp only [Act.put, List.setIfInBounds_toArray, List.set_cons_zero, List.set_cons_succ, i64_w, i32_w]
                                                  rfl
                                                refine take_ (i := 5) (N := some 120) (v := ?_) (a' := ?_) #[true, true, true, true, true, true, false, false, false, false, true, true, true, false, false, false, false, false, false, false] rfl rfl (take_ofW HT_.out HW_.out (by kernel_rfl)) (fun _ _ _ h => h) (Or.inl ⟨by rfl, ?_⟩) hHeld ?_ ?_
                                                rotate_left
                                                · rintro w' ⟨s0, s1, s2, s3, s4, s5, s6, s7⟩
                                                  go_simp
                                                  with_reducible rfl
                                                rotate_left
                                                · simp only [Act.put, List.setIfInBounds_toArray, List.set_cons_zero, List.set_cons_succ, i64_w, i32_w]
                                                  rfl
                                                refine pure_ (i := 6) (N := some 121) (v := ?_) (a' := ?_) #[true, true, true, true, true, true, true, false, false, false, true, true, true, false, false, false, false, false, false, false] rfl rfl (any_of HT_.out (by kernel_rfl)) (fun _ _ _ h => h) (Or.inl ⟨by rfl, ?_⟩) ?_ ?_
                                                rotate_left
                                                · intro w'
                                                  go_simp
                                                  with_reducible rfl
                                                rotate_left
                                                · simp only [Act.put, List.setIfInBounds_toArray, List.set_cons_zero, List.set_cons_succ, i64_w, i32_w]
                                                  rfl
                                                refine take_ (i := 7) (N := some 122) (v := ?_) (a' := ?_) #[true, true, true, true, true, true, true, true, false, false, true, true, true, false, false, false, false, false, false, false] rfl rfl (take_ofW HT_.out HW_.out (by kernel_rfl)) (fun _ _ _ h => h) (Or.inl ⟨by rfl, ?_⟩) hHeld ?_ ?_
                                                rotate_left
                                                · rintro w' ⟨s0, s1, s2, s3, s4, s5, s6, s7⟩
                                                  go_simp
                                                  with_reducible rfl
                                                rotate_left
                                                · simp only [Act.put, List.setIfInBounds_toArray, List.set_cons_zero, List.set_cons_succ, i64_w, i32_w]
                                                  rfl
                                                refine pure_ (i := 8) (N := some 123) (v := ?_) (a' := ?_) #[true, true, true, true, true, true, true, true, true, false, true, true, true, false, false, false, false, false, false, false] rfl rfl (any_of HT_.out (by kernel_rfl)) (fun _ _ _ h => h) (Or.inl ⟨by rfl, ?_⟩) ?_ ?_
                                                rotate_left
                                                · intro w'
                                                  go_simp
                                                  with_reducible rfl
                                                rotate_left
                                                · simp only [Act.put, List.setIfInBounds_toArray, List.set_cons_zero, List.set_cons_succ, i64_w, i32_w]
                                                  rfl
                                                refine take_ (i := 9) (N := some 124) (v := ?_) (a' := ?_) #[true, true, true, true, true, true, true, true, true, true, true, true, true, false, false, false, false, false, false, false] rfl rfl (take_ofW HT_.out HW_.out (by kernel_rfl)) (fun _ _ _ h => h) (Or.inl ⟨by rfl, ?_⟩) hHeld ?_ ?_
                                                rotate_left
                                                · rintro w' ⟨s0, s1, s2, s3, s4, s5, s6, s7⟩
                                                  go_simp
                                                  with_reducible rfl
                                                rotate_left
                                                · simp only [Act.put, List.setIfInBounds_toArray, List.set_cons_zero, List.set_cons_succ, i64_w, i32_w]
                                                  rfl
                                                refine take_ (i := 13) (N := some 128) (v := ?_) (a' := ?_) #[true, true, true, true, true, true, true, true, true, true, true, true, true, true, false, false, false, false, false, false] rfl rfl (take_ofW HT_.out HW_.out (by kernel_rfl)) (fun _ _ _ h => h) (Or.inl ⟨by rfl, ?_⟩) hHeld ?_ ?_
                                                rotate_left
                                                · rintro w' ⟨s0, s1, s2, s3, s4, s5, s6, s7⟩
                                                  go_simp
                                                  with_reducible rfl
                                                rotate_left
                                                · simp only [Act.put, List.setIfInBounds_toArray, List.set_cons_zero, List.set_cons_succ, i64_w, i32_w]
                                                  rfl
                                                refine one_ (i := 14) (N := some 129) #[true, true, true, true, true, true, true, true, true, true, true, true, true, true, true, false, false, false, false, false] rfl rfl (one_of HT_.out (by kernel_rfl)) (by decide) (fun K hK => ?_)
                                                refine goes_ Try.func31 (by kernel_rfl) rfl #[.agg #[.int .i64 ((rd_T24 l0 (rd t314 (rd t304 x17_5))).f0), .int .i64 ((rd_T24 l0 (rd t314 (rd t304 x17_5))).f1), .slice A329_2 ((rd_T24 l0 (rd t314 (rd t304 x17_5))).f2).length c329_2], .agg #[.int .i64 ((rd_T24 l0 x17_5).f0), .int .i64 ((rd_T24 l0 x17_5).f1), .slice A330_2 ((rd_T24 l0 x17_5).f2).length c330_2]] (by rfl) rfl rfl (by (try simp only [List.map_toArray, List.map_cons, List.map_nil]); first | done | rfl | (simp only [List.length_drop, List.length_take]; rfl)) ?_
                                                with_reducible refine (incunableref05_Differ.calls k5 ((rd_T24 l0 (rd t314 (rd t304 x17_5))).f0) ((rd_T24 l0 (rd t314 (rd t304 x17_5))).f1) _ _ ((rd_T24 l0 (rd t314 (rd t304 x17_5))).f2) ((rd_T24 l0 x17_5).f0) ((rd_T24 l0 x17_5).f1) _ _ ((rd_T24 l0 x17_5).f2) t331 t332 _ ?side1 ?side2 ?side3 ?side4 A46.out).mono ?_
                                                (case side1 => repeat (first | exact (Kd.C_below HR329_2.out HB.out) | (with_reducible refine Kd.C_alloc ?_ _) | (with_reducible refine Kd.C_drewN ?_ _) | (with_reducible refine Kd.C_drew ?_)))
                                                (case side2 => exact HC329_2.out)
                                                (case side3 => repeat (first | exact (Kd.C_below HR330_2.out HB.out) | (with_reducible refine Kd.C_alloc ?_ _) | (with_reducible refine Kd.C_drewN ?_ _) | (with_reducible refine Kd.C_drew ?_)))
                                                (case side4 => exact HC330_2.out)
                                                rintro e w50 ⟨rfl, hb⟩
                                                have HS0_ := (hb.cell (World.block_lt_of_cell? _ _ (hHeld.1))).trans (hHeld.1)
                                                have HS1_ := (hb.cell (World.block_lt_of_cell? _ _ (hHeld.2.1))).trans (hHeld.2.1)
                                                refine ⟨_, rfl, ?_⟩
                                                have n0_ := Aside0.mk (Kd.R_below (rU HO_7.out) hb)
                                                have n1_ := Aside0.mk (Kd.R_below (rU HO_11.out) hb)
                                                have n2_ := Aside0.mk (below_step (by repeat (first | (with_reducible first | exact HB.out | apply below_alloc | apply pw_below_drewN | apply below_drew1) | exact HB.out)) hb)
                                                clear HO_7
                                                clear HO_11
                                                clear HB
                                                have HO_7 := n0_
                                                have HO_11 := n1_
                                                have HB := n2_
                                                clear n0_ n1_ n2_
                                                (try clear hb)
                                                (try clear hb2)
                                                (try clear hk)
                                                (try clear hi)
                                                refine hK.out _ _ ⟨HS0_, HS1_, ((HB.out.cell (World.block_lt_of_cell? w _ hw329_0)).trans hw329_0), ((HB.out.cell (World.block_lt_of_cell? w _ hw329_1)).trans hw329_1), ((HB.out.cell (World.block_lt_of_cell? w _ hw329_2)).trans hw329_2), ((HB.out.cell (World.block_lt_of_cell? w _ hw330_0)).trans hw330_0), ((HB.out.cell (World.block_lt_of_cell? w _ hw330_1)).trans hw330_1), ((HB.out.cell (World.block_lt_of_cell? w _ hw330_2)).trans hw330_2)⟩ (fun hHeld => ?_)
                                                clear hK K
                                                refine norm_ (a' := ?_) ?_ ?_
                                                rotate_left
                                                · show Act.put _ (some 129) _ = _
                                                  simp only [Act.put, List.setIfInBounds_toArray, List.set_cons_zero, List.set_cons_succ, i64_w, i32_w]
                                                  rfl
                                                refine pure_ (i := 15) (N := some 114) (v := ?_) (a' := ?_) #[true, true, true, true, true, true, true, true, true, true, true, true, true, true, true, true, false, false, false, false] rfl rfl (any_of HT_.out (by kernel_rfl)) (fun _ _ _ h => h) (Or.inl ⟨by rfl, ?_⟩) ?_ ?_
                                                rotate_left
                                                · intro w'
                                                  go_simp
                                                  with_reducible rfl
                                                rotate_left
                                                · simp only [Act.put, List.setIfInBounds_toArray, List.set_cons_zero, List.set_cons_succ, i64_w, i32_w]
                                                  rfl
                                                refine pure_ (i := 16) (N := some 130) (v := ?_) (a' := ?_) #[true, true, true, true, true, true, true, true, true, true, true, true, true, true, true, true, true, false, false, false] rfl rfl (any_of HT_.out (by kernel_rfl)) (fun _ _ _ h => h) (Or.inl ⟨by rfl, ?_⟩) ?_ ?_
                                                rotate_left
                                                · intro w'
                                                  go_simp
                                                  with_reducible rfl
                                                rotate_left
                                                · simp only [Act.put, List.setIfInBounds_toArray, List.set_cons_zero, List.set_cons_succ, i64_w, i32_w]
                                                  rfl
                                                refine pure_ (i := 17) (N := some 131) (v := ?_) (a' := ?_) #[true, true, true, true, true, true, true, true, true, true, true, true, true, true, true, true, true, true, false, false] rfl rfl (any_of HT_.out (by kernel_rfl)) (fun _ _ _ h => h) (Or.inl ⟨by rfl, ?_⟩) ?_ ?_
                                                rotate_left
                                                · intro w'
                                                  go_simp
                                                  with_reducible rfl
                                                rotate_left
                                                · simp only [Act.put, List.setIfInBounds_toArray, List.set_cons_zero, List.set_cons_succ, i64_w, i32_w]
                                                  rfl
                                                refine pure_ (i := 18) (N := some 18) (v := ?_) (a' := ?_) #[true, true, true, true, true, true, true, true, true, true, true, true, true, true, true, true, true, true, true, false] rfl rfl (any_of HT_.out (by kernel_rfl)) (fun _ _ _ h => h) (Or.inl ⟨by rfl, ?_⟩) ?_ ?_
                                                rotate_left
                                                · intro w'
                                                  go_simp
                                                  with_reducible rfl
                                                rotate_left
                                                · simp only [Act.put, List.setIfInBounds_toArray, List.set_cons_zero, List.set_cons_succ, i64_w, i32_w]
                                                  rfl
                                                refine pure_ (i := 19) (N := some 19) (v := ?_) (a' := ?_) #[true, true, true, true, true, true, true, true, true, true, true, true, true, true, true, true, true, true, true, true] rfl rfl (any_of HT_.out (by kernel_rfl)) (fun _ _ _ h => h) (Or.inl ⟨by rfl, ?_⟩) ?_ ?_
                                                rotate_left
                                                · intro w'
                                                  go_simp
                                                  with_reducible rfl
                                                rotate_left
                                                · simp only [Act.put, List.setIfInBounds_toArray, List.set_cons_zero, List.set_cons_succ, i64_w, i32_w]
                                                  rfl
                                                refine done_ (done_of HT_.out (by kernel_rfl)) ?_
                                                try go_wp2
                                                go_roundg k5
                                                case measure => have := HK1.out; have := HJ4.out; have := HJ11.out; have := HJ24.out; have := HK5.out; omega
                                                case rel => exact ⟨(wrap64 (x17_5 + 1)), (by first | rfl | (simp; done) | (simp [*]; done)), H', ⟨by have := HK1.out; have := HJ4.out; have := HJ11.out; have := HJ24.out; have := HK5.out; omega⟩, ⟨by (with_reducible repeat (first | apply Kd.R_alloc | apply Kd.R_drewN | apply Kd.R_drew)); exact HO_7.out⟩, ⟨by (with_reducible repeat (first | apply Kd.R_alloc | apply Kd.R_drewN | apply Kd.R_drew)); exact HO_11.out⟩, ⟨by repeat (first | (with_reducible first | exact HB.out | apply below_alloc | apply pw_below_drewN | apply below_drew1) | exact HB.out)⟩⟩
                                            · rw [if_neg c45] at H
                                              exact absurd H (by simp)
                                          · rw [if_neg c44] at H
                                            exact absurd H (by simp)
                                        · rw [if_neg c43] at H
                                          exact absurd H (by simp)
                                      · rw [if_neg c42] at H
                                        exact absurd H (by simp)
                                    · rw [if_neg c41] at H
                                      exact absurd H (by simp)
                                  · rw [if_neg c40] at H
                                    exact absurd H (by simp)
                                · rw [if_neg c39] at H
                                  have c39b0 : decide (x17_5 < (l0.length : Int)) = false := decide_eq_false c39
                                  clear c39
                                  by_cases c51 : a1 > 0
                                  · rw [if_pos c51] at H
                                    have c51b0 : decide (0 < a1) = true := decide_eq_true c51
                                    clear c51
                                    replace H := Option.bind_eq_some_iff.mp H
                                    obtain ⟨t333, A520, H⟩ := H
                                    replace H : (some t333) = some r := H
                                    have A52 := Aside0.mk A520
                                    clear A520
                                    obtain rfl := Option.some.inj H
                                    go_wp2_with (first | (go_at_call 11; (with_reducible refine (incunablelaw15_Sane.calls k5  t333 _ A52.out).mono ?_); rintro e w53 ⟨rfl, hb⟩; have n0_ := Aside0.mk (Kd.R_below (rU HO_7.out) hb); have n1_ := Aside0.mk (Kd.R_below (rU HO_11.out) hb); have n2_ := Aside0.mk (below_step (by repeat (first | (with_reducible first | exact HB.out | apply below_alloc | apply pw_below_drewN | apply below_drew1) | exact HB.out)) hb); clear HO_7; clear HO_11; clear HB; have HO_7 := n0_; have HO_11 := n1_; have HB := n2_; clear n0_ n1_ n2_; (try clear hb); (try clear hb2); (try clear hk); (try clear hi)))
                                    go_ret
                                    exact ⟨by first | rfl | (simp [errW_none, errW_some] <;> rfl) | (simp [*, errW_none, errW_some] <;> rfl), by repeat (first | (with_reducible first | exact HB.out | apply below_alloc | apply pw_below_drewN | apply below_drew1) | exact HB.out)⟩
                                  · rw [if_neg c51] at H
                                    have c51b0 : decide (0 < a1) = false := decide_eq_false c51
                                    clear c51
                                    by_cases c54 : t322 = 0
                                    · rw [if_pos c54] at H
                                      have c54b0 : (t322 == 0) = true := beq_iff_eq.mpr c54
                                      have c54b1 : (t322 != 0) = false := bne_eq_false_iff_eq.mpr c54
                                      clear c54
                                      replace H := Option.bind_eq_some_iff.mp H
                                      obtain ⟨t334, A550, H⟩ := H
                                      replace H : (some t334) = some r := H
                                      have A55 := Aside0.mk A550
                                      clear A550
                                      obtain rfl := Option.some.inj H
                                      go_wp2_with (first | (go_at_call 11; (with_reducible refine (incunablelaw15_Sane.calls k5  t334 _ A55.out).mono ?_); rintro e w56 ⟨rfl, hb⟩; have n0_ := Aside0.mk (Kd.R_below (rU HO_7.out) hb); have n1_ := Aside0.mk (Kd.R_below (rU HO_11.out) hb); have n2_ := Aside0.mk (below_step (by repeat (first | (with_reducible first | exact HB.out | apply below_alloc | apply pw_below_drewN | apply below_drew1) | exact HB.out)) hb); clear HO_7; clear HO_11; clear HB; have HO_7 := n0_; have HO_11 := n1_; have HB := n2_; clear n0_ n1_ n2_; (try clear hb); (try clear hb2); (try clear hk); (try clear hi)))
                                      go_ret
                                      exact ⟨by first | rfl | (simp [errW_none, errW_some] <;> rfl) | (simp [*, errW_none, errW_some] <;> rfl), by repeat (first | (with_reducible first | exact HB.out | apply below_alloc | apply pw_below_drewN | apply below_drew1) | exact HB.out)⟩
                                    · rw [if_neg c54] at H
                                      have c54b0 : (t322 == 0) = false := beq_eq_false_iff_ne.mpr c54
                                      have c54b1 : (t322 != 0) = true := bne_iff_ne.mpr c54
                                      exact absurd ((Option.some.inj H).trans HR_.out) (by decide)
                    · rw [if_neg c20] at H
                      have c20b0 : (t307 == 0) = false := beq_eq_false_iff_ne.mpr c20
                      have c20b1 : (t307 != 0) = true := bne_iff_ne.mpr c20
                      replace H := Option.bind_eq_some_iff.mp H
                      obtain ⟨t313, A570, H⟩ := H
                      replace H : (some t313) = some r := H
                      have A57 := Aside0.mk A570
                      clear A570
                      obtain rfl := Option.some.inj H
                      go_wp2_with (first | ((with_reducible refine gate_callee (f := 11) rfl ?_); refine goesL_ (some 66) rfl rfl Try.func11 (by kernel_rfl) rfl #[] rfl (by (try simp only [List.map_toArray, List.map_cons, List.map_nil]); first | done | rfl | (simp only [List.length_drop, List.length_take]; rfl)) ?_; (with_reducible refine (incunablelaw15_Sane.calls kj11  t313 _ A57.out).mono ?_); rintro e w58 ⟨rfl, hb⟩; refine ⟨_, rfl, ?_⟩; have n0_ := Aside0.mk (Kd.R_below (rU HO_7.out) hb); have n1_ := Aside0.mk (Kd.R_below (rU HO_9.out) hb); have n2_ := Aside0.mk (below_step (by repeat (first | (with_reducible first | exact HB.out | apply below_alloc | apply pw_below_drewN | apply below_drew1) | exact HB.out)) hb); clear HO_7; clear HO_9; clear HB; have HO_7 := n0_; have HO_9 := n1_; have HB := n2_; clear n0_ n1_ n2_; (try clear hb); (try clear hb2); (try clear hk); (try clear hi)))
                      go_ret
                      exact ⟨by first | rfl | (simp [errW_none, errW_some] <;> rfl) | (simp [*, errW_none, errW_some] <;> rfl), by repeat (first | (with_reducible first | exact HB.out | apply below_alloc | apply pw_below_drewN | apply below_drew1) | exact HB.out)⟩

/-- THE ONE PURE STATEMENT of incunablelaw15_ShapeGroups: yours. -/
def incunablelaw15_ShapeGroups.Pure : Prop := ∀ (l0 : List (S24)) (a1 : Int), (l0.length ≤ 9223372036854775807 ∧ l0.length * 40 ≤ 140737488351232 ∧ ∀ y0_ ∈ l0, ((Lit.int .i64 y0_.f0).wf = true) ∧ ((Lit.int .i64 y0_.f1).wf = true) ∧ (y0_.f2.length ≤ 9223372036854775807 ∧ y0_.f2.length * 1 ≤ 140737488351232 ∧ ∀ y1_ ∈ y0_.f2, (Lit.int .u8 y1_).wf = true)) → ((Lit.int .i64 a1).wf = true) → ∃ k, incunablelaw15_ShapeGroups.f k l0 a1 = some true
theorem incunablelaw15_ShapeGroups.walk (P : incunablelaw15_ShapeGroups.Pure) (A0 : Option Addr) (c0 : Nat) (l0 : List (S24)) (a1 : Int) (w : World) (hr0 : Kd.C k24 w A0 l0.length l0) (hc0 : l0.length ≤ c0) (g0 : l0.length ≤ 9223372036854775807 ∧ l0.length * 40 ≤ 140737488351232 ∧ ∀ y0_ ∈ l0, ((Lit.int .i64 y0_.f0).wf = true) ∧ ((Lit.int .i64 y0_.f1).wf = true) ∧ (y0_.f2.length ≤ 9223372036854775807 ∧ y0_.f2.length * 1 ≤ 140737488351232 ∧ ∀ y1_ ∈ y0_.f2, (Lit.int .u8 y1_).wf = true)) (g1 : (Lit.int .i64 a1).wf = true) :
    Calls Try.prog 7 #[.slice A0 l0.length c0, .int .i64 a1] w fun e w' => e = .returned (.bool true) ∧ Below w.heap.size w w' := by
  obtain ⟨k, h⟩ := P l0 a1 g0 g1
  refine (incunablelaw15_ShapeGroups.calls k A0 c0 l0 a1 true w hr0 hc0 h rfl).mono ?_
  rintro e w' ⟨rfl, hd⟩
  exact ⟨rfl, hd⟩

end Go.Proofs.Ytaflekobfbgedaa.PShapeGroups
