-- Written by a program of this session (wip/tools/myprint.py) over the kit's print. Not trusted: Lean checks it.
import Derived.Test.YtaflekobfbgedaaPShapeHolesx0
import Derived.Test.YtaflekobfbgedaaPShapeHolesx7
import Derived.Test.YtaflekobfbgedaaPShapeHolesx10
namespace Go.Proofs.Ytaflekobfbgedaa.PShapeHoles
open Go.RowKit Go.Proofs.YtaflekobfbgedaaW.PrintWords Go.Proofs.YtaflekobfbgedaaW.PrintLast Go.Proofs.YtaflekobfbgedaaW.PrintMore
attribute [local go_sem] max2_int min2_int max_two min_two max_three min_three max_four min_four   -- for this text's walks alone
set_option linter.unusedVariables false
set_option linter.unusedSimpArgs false

/-! ### incunableref05_Turn: function 14 -/
mutual
def incunableref05_Turn.j0 : Nat → Int → Int → Int → List Int → Int → Int → List Int → Option (Int × Int × List Int × Int)
  | 0, _, _, _, _, _, _, _ => none
  | k + 1, x6, x279000, x279001, x279002, x287000, x287001, x287002 => incunableref05_Turn.l0 k x6 0 x279000 x279001 x279002 x287000 x287001 x287002
def incunableref05_Turn.l0 : Nat → Int → Int → Int → Int → List Int → Int → Int → List Int → Option (Int × Int × List Int × Int)
  | 0, _, _, _, _, _, _, _, _ => none
  | k + 1, x6, x8, x279000, x279001, x279002, x287000, x287001, x287002 => if x8 < x279001 then (incunableref05_Turn.l1 k x6 x8 0 x279000 x279001 x279002 x287000 x287001 x287002) else (some (x287000, x287001, x287002, 0))
def incunableref05_Turn.l1 : Nat → Int → Int → Int → Int → Int → List Int → Int → Int → List Int → Option (Int × Int × List Int × Int)
  | 0, _, _, _, _, _, _, _, _, _ => none
  | k + 1, x6, x8, x9, x279000, x279001, x279002, x287000, x287001, x287002 => if x9 < x279000 then (if x6 = 0 then ((incunableref05_At.f x279000 x279001 x279002 x9 x8).bind fun t292 => ((incunableref05_Put.f x287000 x287001 x287002 x9 x8 t292).bind fun t293 => (incunableref05_Turn.l1 k x6 x8 (wrap64 (x9 + 1)) x279000 x279001 x279002 x287000 x287001 t293))) else (if x6 = 1 then ((incunableref05_At.f x279000 x279001 x279002 x9 x8).bind fun t294 => ((incunableref05_Put.f x287000 x287001 x287002 (wrap64 ((wrap64 (x279001 - 1)) - x8)) x9 t294).bind fun t295 => (incunableref05_Turn.l1 k x6 x8 (wrap64 (x9 + 1)) x279000 x279001 x279002 x287000 x287001 t295))) else (if x6 = 2 then ((incunableref05_At.f x279000 x279001 x279002 x9 x8).bind fun t296 => ((incunableref05_Put.f x287000 x287001 x287002 (wrap64 ((wrap64 (x279000 - 1)) - x9)) (wrap64 ((wrap64 (x279001 - 1)) - x8)) t296).bind fun t297 => (incunableref05_Turn.l1 k x6 x8 (wrap64 (x9 + 1)) x279000 x279001 x279002 x287000 x287001 t297))) else (if x6 = 3 then ((incunableref05_At.f x279000 x279001 x279002 x9 x8).bind fun t298 => ((incunableref05_Put.f x287000 x287001 x287002 x8 (wrap64 ((wrap64 (x279000 - 1)) - x9)) t298).bind fun t299 => (incunableref05_Turn.l1 k x6 x8 (wrap64 (x9 + 1)) x279000 x279001 x279002 x287000 x287001 t299))) else (incunableref05_Turn.l1 k x6 x8 (wrap64 (x9 + 1)) x279000 x279001 x279002 x287000 x287001 x287002))))) else (incunableref05_Turn.l0 k x6 (wrap64 (x8 + 1)) x279000 x279001 x279002 x287000 x287001 x287002)
end
def incunableref05_Turn.f (k : Nat) (a0_0 : Int) (a0_1 : Int) (l0_2 : List Int) (a1 : Int) : Option (Int × Int × List Int × Int) := (incunableref05_Valid.f k a0_0 a0_1 l0_2).bind fun t280 => (if t280 = true then ((incunableref05_make2.f k a0_0 a0_1 0).bind fun bt281 => (if (Int.tmod (Int.tmod (wrap64 ((Int.tmod a1 4) + 4)) 4) 2) = 1 then ((incunableref05_make2.f k a0_1 a0_0 0).bind fun bt287 => (incunableref05_Turn.j0 k (Int.tmod (wrap64 ((Int.tmod a1 4) + 4)) 4) a0_0 a0_1 l0_2 bt287.1 bt287.2.1 bt287.2.2)) else (incunableref05_Turn.j0 k (Int.tmod (wrap64 ((Int.tmod a1 4) + 4)) 4) a0_0 a0_1 l0_2 bt281.1 bt281.2.1 bt281.2.2))) else (some (0, 0, ([] : List Int), 30)))
theorem incunableref05_Turn.mono_l : ∀ k, (∀ y0 y1 y2 y3 y4 y5 y6, LeO (incunableref05_Turn.j0 k y0 y1 y2 y3 y4 y5 y6) (incunableref05_Turn.j0 (k + 1) y0 y1 y2 y3 y4 y5 y6)) ∧ (∀ y0 y1 y2 y3 y4 y5 y6 y7, LeO (incunableref05_Turn.l0 k y0 y1 y2 y3 y4 y5 y6 y7) (incunableref05_Turn.l0 (k + 1) y0 y1 y2 y3 y4 y5 y6 y7)) ∧ (∀ y0 y1 y2 y3 y4 y5 y6 y7 y8, LeO (incunableref05_Turn.l1 k y0 y1 y2 y3 y4 y5 y6 y7 y8) (incunableref05_Turn.l1 (k + 1) y0 y1 y2 y3 y4 y5 y6 y7 y8))
  | 0 => ⟨fun _ _ _ _ _ _ _ r h => by simp [incunableref05_Turn.j0] at h, fun _ _ _ _ _ _ _ _ r h => by simp [incunableref05_Turn.l0] at h, fun _ _ _ _ _ _ _ _ _ r h => by simp [incunableref05_Turn.l1] at h⟩
  | k + 1 => by
    obtain ⟨ih0, ih1, ih2⟩ := incunableref05_Turn.mono_l k
    refine ⟨?_, ?_, ?_⟩
    · intro y0 y1 y2 y3 y4 y5 y6
      unfold incunableref05_Turn.j0
      repeat' first
      | (with_reducible exact ih0 _ _ _ _ _ _ _)
      | (with_reducible exact ih1 _ _ _ _ _ _ _ _)
      | (with_reducible exact ih2 _ _ _ _ _ _ _ _ _)
      | (with_reducible exact incunableref05_Valid.mono _ _ _ _)
      | (with_reducible exact incunableref05_make2.mono _ _ _ _)
      | (with_reducible exact LeO.refl _)
      | (with_reducible exact LeO.none _)
      | (with_reducible refine LeO.ite ?_ ?_)
      | (with_reducible refine LeO.bind ?_ (fun _ => ?_))
      | exact ih0 _ _ _ _ _ _ _
      | exact ih1 _ _ _ _ _ _ _ _
      | exact ih2 _ _ _ _ _ _ _ _ _
      | exact incunableref05_Valid.mono _ _ _ _
      | exact incunableref05_make2.mono _ _ _ _
      | exact LeO.none _
      | refine LeO.ite ?_ ?_
      | refine LeO.bind ?_ (fun _ => ?_)
    · intro y0 y1 y2 y3 y4 y5 y6 y7
      unfold incunableref05_Turn.l0
      repeat' first
      | (with_reducible exact ih0 _ _ _ _ _ _ _)
      | (with_reducible exact ih1 _ _ _ _ _ _ _ _)
      | (with_reducible exact ih2 _ _ _ _ _ _ _ _ _)
      | (with_reducible exact incunableref05_Valid.mono _ _ _ _)
      | (with_reducible exact incunableref05_make2.mono _ _ _ _)
      | (with_reducible exact LeO.refl _)
      | (with_reducible exact LeO.none _)
      | (with_reducible refine LeO.ite ?_ ?_)
      | (with_reducible refine LeO.bind ?_ (fun _ => ?_))
      | exact ih0 _ _ _ _ _ _ _
      | exact ih1 _ _ _ _ _ _ _ _
      | exact ih2 _ _ _ _ _ _ _ _ _
      | exact incunableref05_Valid.mono _ _ _ _
      | exact incunableref05_make2.mono _ _ _ _
      | exact LeO.none _
      | refine LeO.ite ?_ ?_
      | refine LeO.bind ?_ (fun _ => ?_)
    · intro y0 y1 y2 y3 y4 y5 y6 y7 y8
      unfold incunableref05_Turn.l1
      repeat' first
      | (with_reducible exact ih0 _ _ _ _ _ _ _)
      | (with_reducible exact ih1 _ _ _ _ _ _ _ _)
      | (with_reducible exact ih2 _ _ _ _ _ _ _ _ _)
      | (with_reducible exact incunableref05_Valid.mono _ _ _ _)
      | (with_reducible exact incunableref05_make2.mono _ _ _ _)
      | (with_reducible exact LeO.refl _)
      | (with_reducible exact LeO.none _)
      | (with_reducible refine LeO.ite ?_ ?_)
      | (with_reducible refine LeO.bind ?_ (fun _ => ?_))
      | exact ih0 _ _ _ _ _ _ _
      | exact ih1 _ _ _ _ _ _ _ _
      | exact ih2 _ _ _ _ _ _ _ _ _
      | exact incunableref05_Valid.mono _ _ _ _
      | exact incunableref05_make2.mono _ _ _ _
      | exact LeO.none _
      | refine LeO.ite ?_ ?_
      | refine LeO.bind ?_ (fun _ => ?_)
theorem incunableref05_Turn.mono : ∀ a0 a1 a2 a3 k, LeO (incunableref05_Turn.f k a0 a1 a2 a3) (incunableref05_Turn.f (k + 1) a0 a1 a2 a3) := by
  intro a0 a1 a2 a3 k
  obtain ⟨ih0, ih1, ih2⟩ := incunableref05_Turn.mono_l k
  unfold incunableref05_Turn.f
  repeat' first
      | (with_reducible exact ih0 _ _ _ _ _ _ _)
      | (with_reducible exact ih1 _ _ _ _ _ _ _ _)
      | (with_reducible exact ih2 _ _ _ _ _ _ _ _ _)
      | (with_reducible exact incunableref05_Valid.mono _ _ _ _)
      | (with_reducible exact incunableref05_make2.mono _ _ _ _)
      | (with_reducible exact LeO.refl _)
      | (with_reducible exact LeO.none _)
      | (with_reducible refine LeO.ite ?_ ?_)
      | (with_reducible refine LeO.bind ?_ (fun _ => ?_))
      | exact ih0 _ _ _ _ _ _ _
      | exact ih1 _ _ _ _ _ _ _ _
      | exact ih2 _ _ _ _ _ _ _ _ _
      | exact incunableref05_Valid.mono _ _ _ _
      | exact incunableref05_make2.mono _ _ _ _
      | exact LeO.none _
      | refine LeO.ite ?_ ?_
      | refine LeO.bind ?_ (fun _ => ?_)
def incunableref05_Turn.T15 : Bool × List (List Nat × List Nat) := (true, [([], []), ([], []), ([], []), ([], []), ([], []), ([], []), ([3, 4, 5], [3, 4, 5]), ([0, 1, 2, 6, 6], [0, 1, 2, 6])])
def incunableref05_Turn.B15 : List Nat := [0, 0, 0, 0, 0, 0, 56, 127]
theorem incunableref05_Turn.tab15 : rtab .any (opsOf Try.f14 15) = incunableref05_Turn.T15 := by kernel_rfl
theorem incunableref05_Turn.bits15 : waitsOk incunableref05_Turn.T15.2 incunableref05_Turn.B15 = true := by kernel_rfl
def incunableref05_Turn.T17 : Bool × List (List Nat × List Nat) := (true, [([], []), ([], []), ([1], [1]), ([2], [2]), ([], []), ([3, 4], [3, 4]), ([], []), ([], []), ([], []), ([], []), ([7, 8, 9], [7, 8, 9]), ([0, 5, 6, 10, 10], [0, 5, 6, 10])])
def incunableref05_Turn.B17 : List Nat := [0, 0, 2, 6, 0, 30, 0, 0, 0, 0, 896, 2047]
theorem incunableref05_Turn.tab17 : rtab .any (opsOf Try.f14 17) = incunableref05_Turn.T17 := by kernel_rfl
theorem incunableref05_Turn.bits17 : waitsOk incunableref05_Turn.T17.2 incunableref05_Turn.B17 = true := by kernel_rfl
def incunableref05_Turn.T19 : Bool × List (List Nat × List Nat) := (true, [([], []), ([], []), ([1], [1]), ([2], [2]), ([], []), ([3, 4], [3, 4]), ([], []), ([6], [6]), ([7], [7]), ([], []), ([8, 9], [8, 9]), ([], []), ([], []), ([], []), ([11, 12, 13], [11, 12, 13]), ([0, 5, 10, 14, 14], [0, 5, 10, 14])])
def incunableref05_Turn.B19 : List Nat := [0, 0, 2, 6, 0, 30, 0, 64, 192, 0, 960, 0, 0, 0, 14336, 32767]
theorem incunableref05_Turn.tab19 : rtab .any (opsOf Try.f14 19) = incunableref05_Turn.T19 := by kernel_rfl
theorem incunableref05_Turn.bits19 : waitsOk incunableref05_Turn.T19.2 incunableref05_Turn.B19 = true := by kernel_rfl
def incunableref05_Turn.T21 : Bool × List (List Nat × List Nat) := (true, [([], []), ([], []), ([], []), ([2], [2]), ([3], [3]), ([], []), ([4, 5], [4, 5]), ([], []), ([], []), ([], []), ([7, 8, 9], [7, 8, 9]), ([0, 1, 6, 10, 10], [0, 1, 6, 10])])
def incunableref05_Turn.B21 : List Nat := [0, 0, 0, 4, 12, 0, 60, 0, 0, 0, 896, 2047]
theorem incunableref05_Turn.tab21 : rtab .any (opsOf Try.f14 21) = incunableref05_Turn.T21 := by kernel_rfl
theorem incunableref05_Turn.bits21 : waitsOk incunableref05_Turn.T21.2 incunableref05_Turn.B21 = true := by kernel_rfl
set_option maxHeartbeats 8000000 in
set_option maxRecDepth 100000 in
theorem incunableref05_Turn.calls (k : Nat) (a0_0 : Int) (a0_1 : Int) (A0_2 : Option Addr) (c0_2 : Nat) (l0_2 : List Int) (a1 : Int) (r1 : Int) (r2 : Int) (r3 : List Int) (r4 : Int) (w : World) (hr0_2 : Kd.C (Kd.int .u8) w A0_2 l0_2.length l0_2) (hc0_2 : l0_2.length ≤ c0_2) (h : incunableref05_Turn.f k a0_0 a0_1 l0_2 a1 = some (r1, r2, r3, r4)) :
    Calls Try.prog 14 #[.agg #[.int .i64 a0_0, .int .i64 a0_1, .slice A0_2 l0_2.length c0_2], .int .i64 a1] w fun e w' => ∃ v2_ : Value, e = .returned (.tuple #[.agg #[.int .i64 r1, .int .i64 r2, v2_], .int .i64 r4]) ∧ Kd.R (Kd.int .u8) 5 w' w.heap.size (fun _ => True) v2_ r3 ∧ Below w.heap.size w w' := by
  have hu24 := Try.underlying24
  have HR0_2 := Aside0.mk hr0_2
  have HC0_2 := Aside0.mk hc0_2
  clear hr0_2 hc0_2
  have HB := Aside0.mk (Below.refl w.heap.size w)
  have H : ((incunableref05_Valid.f k a0_0 a0_1 l0_2).bind fun t280 => (if t280 = true then ((incunableref05_make2.f k a0_0 a0_1 0).bind fun bt281 => (if (Int.tmod (Int.tmod (wrap64 ((Int.tmod a1 4) + 4)) 4) 2) = 1 then ((incunableref05_make2.f k a0_1 a0_0 0).bind fun bt287 => (incunableref05_Turn.j0 k (Int.tmod (wrap64 ((Int.tmod a1 4) + 4)) 4) a0_0 a0_1 l0_2 bt287.1 bt287.2.1 bt287.2.2)) else (incunableref05_Turn.j0 k (Int.tmod (wrap64 ((Int.tmod a1 4) + 4)) 4) a0_0 a0_1 l0_2 bt281.1 bt281.2.1 bt281.2.2))) else (some (0, 0, ([] : List Int), 30)))) = some (r1, r2, r3, r4) := h
  clear h
  replace H := Option.bind_eq_some_iff.mp H
  obtain ⟨t280, A30, H⟩ := H
  replace H : (if t280 = true then ((incunableref05_make2.f k a0_0 a0_1 0).bind fun bt281 => (if (Int.tmod (Int.tmod (wrap64 ((Int.tmod a1 4) + 4)) 4) 2) = 1 then ((incunableref05_make2.f k a0_1 a0_0 0).bind fun bt287 => (incunableref05_Turn.j0 k (Int.tmod (wrap64 ((Int.tmod a1 4) + 4)) 4) a0_0 a0_1 l0_2 bt287.1 bt287.2.1 bt287.2.2)) else (incunableref05_Turn.j0 k (Int.tmod (wrap64 ((Int.tmod a1 4) + 4)) 4) a0_0 a0_1 l0_2 bt281.1 bt281.2.1 bt281.2.2))) else (some (0, 0, ([] : List Int), 30))) = some (r1, r2, r3, r4) := H
  have A3 := Aside0.mk A30
  clear A30
  by_cases c4 : t280 = true
  · subst c4
    have H1 : ((incunableref05_make2.f k a0_0 a0_1 0).bind fun bt281 => (if (Int.tmod (Int.tmod (wrap64 ((Int.tmod a1 4) + 4)) 4) 2) = 1 then ((incunableref05_make2.f k a0_1 a0_0 0).bind fun bt287 => (incunableref05_Turn.j0 k (Int.tmod (wrap64 ((Int.tmod a1 4) + 4)) 4) a0_0 a0_1 l0_2 bt287.1 bt287.2.1 bt287.2.2)) else (incunableref05_Turn.j0 k (Int.tmod (wrap64 ((Int.tmod a1 4) + 4)) 4) a0_0 a0_1 l0_2 bt281.1 bt281.2.1 bt281.2.2))) = some (r1, r2, r3, r4) := by rw [if_pos rfl] at H; exact H
    clear H
    have H := H1
    clear H1
    replace H := Option.bind_eq_some_iff.mp H
    obtain ⟨⟨t281, t282, t283⟩, A50, H⟩ := H
    replace H : (if (Int.tmod (Int.tmod (wrap64 ((Int.tmod a1 4) + 4)) 4) 2) = 1 then ((incunableref05_make2.f k a0_1 a0_0 0).bind fun bt287 => (incunableref05_Turn.j0 k (Int.tmod (wrap64 ((Int.tmod a1 4) + 4)) 4) a0_0 a0_1 l0_2 bt287.1 bt287.2.1 bt287.2.2)) else (incunableref05_Turn.j0 k (Int.tmod (wrap64 ((Int.tmod a1 4) + 4)) 4) a0_0 a0_1 l0_2 t281 t282 t283)) = some (r1, r2, r3, r4) := H
    have A5 := Aside0.mk A50
    clear A50
    have HC6 := Aside0.mk H
    clear H
    go_enter Try.func14, Try.ntmps14
    go_upto_if 25 with (first | ((with_reducible refine gate_dst (N := 2) rfl ?_); refine box_event ?hg (N := 2) ?hd (cs := #[.int .i64 a0_0, .int .i64 a0_1, .slice A0_2 l0_2.length c0_2]) (t := 24) ?hr ?_; (case hd => rfl); (case hg => rfl); (case hr => first | (go_simp; done) | (go_simp; rfl)); intro gb278 hg w7 hbox hb; have n0_ := Aside0.mk (below_step (by repeat (first | (with_reducible first | exact HB.out | apply below_alloc | apply pw_below_drewN | apply below_drew1) | exact HB.out)) hb); have n1_ := Aside0.mk (hbox); have n2_ := Aside0.mk ((by rw [hg]; exact (below_size (by repeat (first | (with_reducible first | exact HB.out | apply below_alloc | apply pw_below_drewN | apply below_drew1) | exact HB.out))) : w.heap.size ≤ gb278)); have n3_ := Aside0.mk ((by rw [hg]; exact (below_size (by repeat (first | (with_reducible first | exact HB.out | apply below_alloc | apply pw_below_drewN | apply below_drew1) | exact HB.out))) : w.heap.size ≤ gb278)); clear HB; have HB := n0_; have BK278 := n1_; have GW278 := n2_; have GE278 := n3_; clear n0_ n1_ n2_ n3_; clear hb hbox hg) | ((with_reducible refine gate_dst (N := 4) rfl ?_); refine box_event ?hg (N := 4) ?hd (cs := #[.int .i64 0, .int .i64 0, .slice none 0 0]) (t := 24) ?hr ?_; (case hd => rfl); (case hg => rfl); (case hr => first | (go_simp; done) | (go_simp; rfl)); intro gb279 hg w8 hbox hb; have n0_ := Aside0.mk (blk_below (bU BK278.out) hb); have n1_ := Aside0.mk (below_step (by repeat (first | (with_reducible first | exact HB.out | apply below_alloc | apply pw_below_drewN | apply below_drew1 | refine below_set ?_ GE278.out) | exact HB.out)) hb); have n2_ := Aside0.mk (hbox); have n3_ := Aside0.mk ((by rw [hg]; exact (below_size (by repeat (first | (with_reducible first | exact HB.out | apply below_alloc | apply pw_below_drewN | apply below_drew1 | refine below_set ?_ GE278.out) | exact HB.out))) : w.heap.size ≤ gb279)); have n4_ := Aside0.mk ((by rw [hg]; exact (below_size (by repeat (first | (with_reducible first | exact HB.out | apply below_alloc | apply pw_below_drewN | apply below_drew1 | refine below_set ?_ GE278.out) | exact HB.out))) : w.heap.size ≤ gb279)); have n5_ := Aside0.mk ((by rw [hg]; exact Nat.ne_of_lt (blk_lt (bU BK278.out)) : gb278 ≠ gb279)); have n6_ := Aside0.mk ((by rw [hg]; exact Nat.ne_of_gt (blk_lt (bU BK278.out)) : gb279 ≠ gb278)); clear BK278; clear HB; have BK278 := n0_; have HB := n1_; have BK279 := n2_; have GW279 := n3_; have GE279 := n4_; have NB278_279 := n5_; have NB279_278 := n6_; clear n0_ n1_ n2_ n3_ n4_ n5_ n6_; clear hb hbox hg; have hnb9 := NB278_279.out; have hnc9 := NB279_278.out; have hcz10_0 : w8.cell? ⟨gb278, 0, none⟩ = some (.int .i64 a0_0) := (blk_cell BK278.out 0).trans rfl; have hcz10_1 : w8.cell? ⟨gb278, 1, none⟩ = some (.int .i64 a0_1) := (blk_cell BK278.out 1).trans rfl; have hcz10_2 : w8.cell? ⟨gb278, 2, none⟩ = some (.slice A0_2 l0_2.length c0_2) := (blk_cell BK278.out 2).trans rfl; have hfz10_0 := blk_frozen BK278.out 0; have hfz10_1 := blk_frozen BK278.out 1; have hfz10_2 := blk_frozen BK278.out 2) | ((with_reducible refine gate_callee (f := 33) rfl ?_); refine goesL_ (some 11) rfl rfl Try.func33 (by kernel_rfl) rfl #[.agg #[.int .i64 a0_0, .int .i64 a0_1, .slice A0_2 l0_2.length c0_2]] rfl (by (try simp only [List.map_toArray, List.map_cons, List.map_nil]); first | done | rfl | (simp only [List.length_drop, List.length_take]; rfl)) ?_; (with_reducible refine (incunableref05_Valid.calls k a0_0 a0_1 _ _ l0_2 true _ ?side1 ?side2 A3.out).mono ?_); (case side1 => repeat (first | exact (Kd.C_below HR0_2.out HB.out) | (with_reducible refine Kd.C_alloc ?_ _) | (with_reducible refine Kd.C_drewN ?_ _) | (with_reducible refine Kd.C_drew ?_))); (case side2 => exact HC0_2.out); rintro e w11 ⟨rfl, hb⟩; refine ⟨_, rfl, ?_⟩; have n0_ := Aside0.mk (blk_below (bU BK278.out) hb); have n1_ := Aside0.mk (blk_below (bU BK279.out) hb); have n2_ := Aside0.mk (below_step (by repeat (first | (with_reducible first | exact HB.out | apply below_alloc | apply pw_below_drewN | apply below_drew1 | refine below_set ?_ GE278.out | refine below_set ?_ GE279.out) | exact HB.out)) hb); clear BK278; clear BK279; clear HB; have BK278 := n0_; have BK279 := n1_; have HB := n2_; clear n0_ n1_ n2_; (try clear hb); (try clear hb2); (try clear hk); (try clear hi); have hcz12_0 : w11.cell? ⟨gb278, 0, none⟩ = some (.int .i64 a0_0) := (blk_cell BK278.out 0).trans rfl; have hcz12_1 : w11.cell? ⟨gb278, 1, none⟩ = some (.int .i64 a0_1) := (blk_cell BK278.out 1).trans rfl; have hcz12_2 : w11.cell? ⟨gb278, 2, none⟩ = some (.slice A0_2 l0_2.length c0_2) := (blk_cell BK278.out 2).trans rfl; have hfz12_0 := blk_frozen BK278.out 0; have hfz12_1 := blk_frozen BK278.out 1; have hfz12_2 := blk_frozen BK278.out 2) | ((with_reducible refine gate_callee (f := 45) rfl ?_); refine goesL_ (some 22) rfl rfl Try.func45 (by kernel_rfl) rfl #[.int .i64 a0_0, .int .i64 a0_1, .int .i64 0] rfl (by (try simp only [List.map_toArray, List.map_cons, List.map_nil]); first | done | rfl | (simp only [List.length_drop, List.length_take]; rfl)) ?_; (with_reducible refine (incunableref05_make2.calls k a0_0 a0_1 0 t281 t282 t283 _ A5.out).mono ?_); rintro e w13 ⟨v284, rfl, ho0, hb⟩; refine ⟨_, rfl, ?_⟩; have n0_ := Aside0.mk (Kd.R_lower ho0 (below_size (by repeat (first | (with_reducible first | exact HB.out | apply below_alloc | apply pw_below_drewN | apply below_drew1 | refine below_set ?_ GE278.out | refine below_set ?_ GE279.out) | exact HB.out)))); have n1_ := Aside0.mk (blk_below (bU BK278.out) hb); have n2_ := Aside0.mk (blk_below (bU BK279.out) hb); have n3_ := Aside0.mk (below_step (by repeat (first | (with_reducible first | exact HB.out | apply below_alloc | apply pw_below_drewN | apply below_drew1 | refine below_set ?_ GE278.out | refine below_set ?_ GE279.out) | exact HB.out)) hb); clear BK278; clear BK279; clear HB; have HO285 := n0_; have BK278 := n1_; have BK279 := n2_; have HB := n3_; clear n0_ n1_ n2_ n3_; (try clear hb); (try clear hb2); (try clear hk); (try clear hi); (try clear ho0)) | ((with_reducible refine gate_dst (N := 7) rfl ?_); refine box_event ?hg (N := 7) ?hd (cs := #[.int .i64 0, .int .i64 0, .slice none 0 0]) (t := 24) ?hr ?_; (case hd => rfl); (case hg => rfl); (case hr => first | (go_simp; done) | (go_simp; rfl)); intro gb286 hg w14 hbox hb; have n0_ := Aside0.mk (Kd.R_below (rU HO285.out) hb); have n1_ := Aside0.mk (blk_below (bU BK278.out) hb); have n2_ := Aside0.mk (blk_below (bU BK279.out) hb); have n3_ := Aside0.mk (below_step (by repeat (first | (with_reducible first | exact HB.out | apply below_alloc | apply pw_below_drewN | apply below_drew1 | refine below_set ?_ GE278.out | refine below_set ?_ GE279.out) | exact HB.out)) hb); have n4_ := Aside0.mk (hbox); have n5_ := Aside0.mk ((by rw [hg]; exact (below_size (by repeat (first | (with_reducible first | exact HB.out | apply below_alloc | apply pw_below_drewN | apply below_drew1 | refine below_set ?_ GE278.out | refine below_set ?_ GE279.out) | exact HB.out))) : w.heap.size ≤ gb286)); have n6_ := Aside0.mk ((by rw [hg]; exact (below_size (by repeat (first | (with_reducible first | exact HB.out | apply below_alloc | apply pw_below_drewN | apply below_drew1 | refine below_set ?_ GE278.out | refine below_set ?_ GE279.out) | exact HB.out))) : w.heap.size ≤ gb286)); have n7_ := Aside0.mk ((by rw [hg]; exact Nat.ne_of_lt (blk_lt (bU BK278.out)) : gb278 ≠ gb286)); have n8_ := Aside0.mk ((by rw [hg]; exact Nat.ne_of_gt (blk_lt (bU BK278.out)) : gb286 ≠ gb278)); have n9_ := Aside0.mk ((by rw [hg]; exact Nat.ne_of_lt (blk_lt (bU BK279.out)) : gb279 ≠ gb286)); have n10_ := Aside0.mk ((by rw [hg]; exact Nat.ne_of_gt (blk_lt (bU BK279.out)) : gb286 ≠ gb279)); clear HO285; clear BK278; clear BK279; clear HB; have HO285 := n0_; have BK278 := n1_; have BK279 := n2_; have HB := n3_; have BK286 := n4_; have GW286 := n5_; have GE286 := n6_; have NB278_286 := n7_; have NB286_278 := n8_; have NB279_286 := n9_; have NB286_279 := n10_; clear n0_ n1_ n2_ n3_ n4_ n5_ n6_ n7_ n8_ n9_ n10_; clear hb hbox hg; have hnb15 := NB286_278.out; have hnc15 := NB278_286.out; have hnb16 := NB286_279.out; have hnc16 := NB279_286.out; have hcz17_0 : w14.cell? ⟨gb286, 0, none⟩ = some (.int .i64 0) := (blk_cell BK286.out 0).trans rfl; have hcz17_1 : w14.cell? ⟨gb286, 1, none⟩ = some (.int .i64 0) := (blk_cell BK286.out 1).trans rfl; have hcz17_2 : w14.cell? ⟨gb286, 2, none⟩ = some (.slice none 0 0) := (blk_cell BK286.out 2).trans rfl; have hfz17_0 := blk_frozen BK286.out 0; have hfz17_1 := blk_frozen BK286.out 1; have hfz17_2 := blk_frozen BK286.out 2; obtain ⟨Ao18, co18, eo18⟩ := Kd.R_slice HO285.out; subst eo18))
    (try simp only [Act.put, List.setIfInBounds_toArray, List.set_cons_zero, List.set_cons_succ])
    go_cut [] (fun wc => ∃ (kq : Nat) (x287000_5 : Int) (x287001_5 : Int) (x287002_5 : List Int) (u287002 : Value), Aside0 (incunableref05_Turn.j0 kq (Int.tmod (wrap64 ((Int.tmod a1 4) + 4)) 4) a0_0 a0_1 l0_2 x287000_5 x287001_5 x287002_5 = some (r1, r2, r3, r4)) ∧ Aside0 (kq ≤ k) ∧ Aside0 (Kd.R (Kd.int .u8) 5 wc w.heap.size (fun _ => True) u287002 x287002_5) ∧ Aside0 (wc.heap[gb278]? = some (.cells #[.int .i64 a0_0, .int .i64 a0_1, (.slice A0_2 l0_2.length c0_2)] 24 (0, 0))) ∧ Aside0 (wc.heap[gb279]? = some (.cells #[.int .i64 0, .int .i64 0, (.slice none 0 0)] 24 (0, 0))) ∧ Aside0 (wc.heap[gb286]? = some (.cells #[.int .i64 x287000_5, .int .i64 x287001_5, u287002] 24 (0, 0))) ∧ Aside0 (Below w.heap.size w wc))
    case first =>
      have H := HC6.out
      clear HC6
      by_cases c19 : (Int.tmod (Int.tmod (wrap64 ((Int.tmod a1 4) + 4)) 4) 2) = 1
      · rw [if_pos c19] at H
        have c19b0 : ((Int.tmod (Int.tmod (wrap64 ((Int.tmod a1 4) + 4)) 4) 2) == 1) = true := beq_iff_eq.mpr c19
        have c19b0x : ((Int.tmod (wrap64 ((Int.tmod a1 4) + 4)) 2) == 1) = true := by simpa using c19b0
        have c19b1 : ((Int.tmod (Int.tmod (wrap64 ((Int.tmod a1 4) + 4)) 4) 2) != 1) = false := bne_eq_false_iff_eq.mpr c19
        have c19b1x : ((Int.tmod (wrap64 ((Int.tmod a1 4) + 4)) 2) != 1) = false := by simpa using c19b1
        clear c19
        (first | rw [c19b0] | (simp only [i64_w, i32_w]; rw [c19b0]) | skip)
        replace H := Option.bind_eq_some_iff.mp H
        obtain ⟨⟨t287, t288, t289⟩, A200, H⟩ := H
        replace H : (incunableref05_Turn.j0 k (Int.tmod (wrap64 ((Int.tmod a1 4) + 4)) 4) a0_0 a0_1 l0_2 t287 t288 t289) = some (r1, r2, r3, r4) := H
        have A20 := Aside0.mk A200
        clear A200
        have H' := Aside0.mk H
        clear H
        have hnb21 := NB278_279.out
        have hnc21 := NB279_278.out
        have hnb22 := NB278_286.out
        have hnc22 := NB286_278.out
        have hcz23_0 : w14.cell? ⟨gb278, 0, none⟩ = some (.int .i64 a0_0) := (blk_cell BK278.out 0).trans rfl
        have hcz23_1 : w14.cell? ⟨gb278, 1, none⟩ = some (.int .i64 a0_1) := (blk_cell BK278.out 1).trans rfl
        have hcz23_2 : w14.cell? ⟨gb278, 2, none⟩ = some (.slice A0_2 l0_2.length c0_2) := (blk_cell BK278.out 2).trans rfl
        have hfz23_0 := blk_frozen BK278.out 0
        have hfz23_1 := blk_frozen BK278.out 1
        have hfz23_2 := blk_frozen BK278.out 2
        go_wp2_with (first | ((with_reducible refine gate_callee (f := 45) rfl ?_); refine goesL_ (some 30) rfl rfl Try.func45 (by kernel_rfl) rfl #[.int .i64 a0_1, .int .i64 a0_0, .int .i64 0] rfl (by (try simp only [List.map_toArray, List.map_cons, List.map_nil]); first | done | rfl | (simp only [List.length_drop, List.length_take]; rfl)) ?_; (with_reducible refine (incunableref05_make2.calls k a0_1 a0_0 0 t287 t288 t289 _ A20.out).mono ?_); rintro e w24 ⟨v290, rfl, ho0, hb⟩; refine ⟨_, rfl, ?_⟩; have n0_ := Aside0.mk (Kd.R_elder' (by (with_reducible repeat (first | apply Kd.R_alloc | apply Kd.R_drewN | apply Kd.R_drew)); exact (Kd.R_mono (Kd.R_far (p := ⟨gb286, 2, none⟩) (Kd.R_far (p := ⟨gb286, 1, none⟩) (Kd.R_far (p := ⟨gb286, 0, none⟩) (Kd.R_types HO285.out BK286.out (by decide)) (fun _ hk => hk.2) (.int .i64 t281)) (fun _ hk => hk.2) (.int .i64 t282)) (fun _ hk => hk.2) (.slice Ao18 t283.length co18)) (fun _ h_ => h_.1))) (Kd.R_base ho0) hb); have n1_ := Aside0.mk (Kd.R_lower (Kd.R_new' ho0 (Kd.R_lt (by (with_reducible repeat (first | apply Kd.R_alloc | apply Kd.R_drewN | apply Kd.R_drew)); exact (Kd.R_mono (Kd.R_far (p := ⟨gb286, 2, none⟩) (Kd.R_far (p := ⟨gb286, 1, none⟩) (Kd.R_far (p := ⟨gb286, 0, none⟩) (Kd.R_types HO285.out BK286.out (by decide)) (fun _ hk => hk.2) (.int .i64 t281)) (fun _ hk => hk.2) (.int .i64 t282)) (fun _ hk => hk.2) (.slice Ao18 t283.length co18)) (fun _ h_ => h_.1))))) (below_size (by repeat (first | (with_reducible first | exact HB.out | apply below_alloc | apply pw_below_drewN | apply below_drew1 | refine below_set ?_ GE278.out | refine below_set ?_ GE279.out | refine below_set ?_ GE286.out) | exact HB.out)))); have n2_ := Aside0.mk (blk_below (g := gb278) (o := .cells #[.int .i64 a0_0, .int .i64 a0_1, .slice A0_2 l0_2.length c0_2] 24 (0, 0)) (by refine bF ?_ ?_; exact NB278_286.out; refine bF ?_ ?_; exact NB278_286.out; refine bF ?_ ?_; exact NB278_286.out; exact bU BK278.out) hb); have n3_ := Aside0.mk (blk_below (g := gb279) (o := .cells #[.int .i64 0, .int .i64 0, .slice none 0 0] 24 (0, 0)) (by refine bF ?_ ?_; exact NB279_286.out; refine bF ?_ ?_; exact NB279_286.out; refine bF ?_ ?_; exact NB279_286.out; exact bU BK279.out) hb); have n4_ := Aside0.mk (blk_below (g := gb286) (o := .cells #[.int .i64 t281, .int .i64 t282, .slice Ao18 t283.length co18] 24 (0, 0)) (by (with_reducible repeat (first | refine blk_drewN ?_ _ | refine blk_drew ?_ | refine blk_alloc ?_ _)); refine blk_put (cs := #[.int .i64 t281, .int .i64 t282, .slice none 0 0]) ?_ 2 _ rfl; (with_reducible repeat (first | refine blk_drewN ?_ _ | refine blk_drew ?_ | refine blk_alloc ?_ _)); refine blk_put (cs := #[.int .i64 t281, .int .i64 0, .slice none 0 0]) ?_ 1 _ rfl; (with_reducible repeat (first | refine blk_drewN ?_ _ | refine blk_drew ?_ | refine blk_alloc ?_ _)); refine blk_put (cs := #[.int .i64 0, .int .i64 0, .slice none 0 0]) ?_ 0 _ rfl; exact bU BK286.out) hb); have n5_ := Aside0.mk (below_step (by repeat (first | (with_reducible first | exact HB.out | apply below_alloc | apply pw_below_drewN | apply below_drew1 | refine below_set ?_ GE278.out | refine below_set ?_ GE279.out | refine below_set ?_ GE286.out) | exact HB.out)) hb); clear HO285; clear BK278; clear BK279; clear BK286; clear HB; have HO285 := n0_; have HO291 := n1_; have BK278 := n2_; have BK279 := n3_; have BK286 := n4_; have HB := n5_; clear n0_ n1_ n2_ n3_ n4_ n5_; (try clear hb); (try clear hb2); (try clear hk); (try clear hi); (try clear ho0); have hnb25 := NB286_279.out; have hnc25 := NB279_286.out; have hcz26_0 : w24.cell? ⟨gb286, 0, none⟩ = some (.int .i64 t281) := (blk_cell BK286.out 0).trans rfl; have hcz26_1 : w24.cell? ⟨gb286, 1, none⟩ = some (.int .i64 t282) := (blk_cell BK286.out 1).trans rfl; have hcz26_2 : w24.cell? ⟨gb286, 2, none⟩ = some (.slice Ao18 t283.length co18) := (blk_cell BK286.out 2).trans rfl; have hfz26_0 := blk_frozen BK286.out 0; have hfz26_1 := blk_frozen BK286.out 1; have hfz26_2 := blk_frozen BK286.out 2; obtain ⟨Ao27, co27, eo27⟩ := Kd.R_slice HO291.out; subst eo27))
        go_meet
        case rel => exact ⟨_, (t287), (t288), (t289), (.slice Ao27 t289.length co27), H', ⟨by first | omega | exact Nat.le_refl _⟩, ⟨by (with_reducible repeat (first | apply Kd.R_alloc | apply Kd.R_drewN | apply Kd.R_drew)); exact Kd.R_mono (Kd.R_far (p := ⟨gb286, 2, none⟩) (Kd.R_far (p := ⟨gb286, 1, none⟩) (Kd.R_far (p := ⟨gb286, 0, none⟩) (Kd.R_types HO291.out BK286.out (by decide)) (fun _ hk => hk.2) (.int .i64 t287)) (fun _ hk => hk.2) (.int .i64 t288)) (fun _ hk => hk.2) (.slice Ao27 t289.length co27)) (fun _ hk => trivial)⟩, ⟨by refine bF ?_ ?_; exact NB278_286.out; refine bF ?_ ?_; exact NB278_286.out; refine bF ?_ ?_; exact NB278_286.out; exact bU BK278.out⟩, ⟨by refine bF ?_ ?_; exact NB279_286.out; refine bF ?_ ?_; exact NB279_286.out; refine bF ?_ ?_; exact NB279_286.out; exact bU BK279.out⟩, ⟨by (with_reducible repeat (first | refine blk_drewN ?_ _ | refine blk_drew ?_ | refine blk_alloc ?_ _)); refine blk_put (cs := #[.int .i64 t287, .int .i64 t288, .slice Ao18 t283.length co18]) ?_ 2 _ rfl; (with_reducible repeat (first | refine blk_drewN ?_ _ | refine blk_drew ?_ | refine blk_alloc ?_ _)); refine blk_put (cs := #[.int .i64 t287, .int .i64 t282, .slice Ao18 t283.length co18]) ?_ 1 _ rfl; (with_reducible repeat (first | refine blk_drewN ?_ _ | refine blk_drew ?_ | refine blk_alloc ?_ _)); refine blk_put (cs := #[.int .i64 t281, .int .i64 t282, .slice Ao18 t283.length co18]) ?_ 0 _ rfl; exact bU BK286.out⟩, ⟨by repeat (first | (with_reducible first | exact HB.out | apply below_alloc | apply pw_below_drewN | apply below_drew1 | refine below_set ?_ GE278.out | refine below_set ?_ GE279.out | refine below_set ?_ GE286.out) | exact HB.out)⟩⟩
      · rw [if_neg c19] at H
        have c19b0 : ((Int.tmod (Int.tmod (wrap64 ((Int.tmod a1 4) + 4)) 4) 2) == 1) = false := beq_eq_false_iff_ne.mpr c19
        have c19b0x : ((Int.tmod (wrap64 ((Int.tmod a1 4) + 4)) 2) == 1) = false := by simpa using c19b0
        have c19b1 : ((Int.tmod (Int.tmod (wrap64 ((Int.tmod a1 4) + 4)) 4) 2) != 1) = true := bne_iff_ne.mpr c19
        have c19b1x : ((Int.tmod (wrap64 ((Int.tmod a1 4) + 4)) 2) != 1) = true := by simpa using c19b1
        (first | rw [c19b0] | (simp only [i64_w, i32_w]; rw [c19b0]) | skip)
        have H' := Aside0.mk H
        clear H
        go_wp2
        go_meet
        case rel => exact ⟨_, (t281), (t282), (t283), (.slice Ao18 t283.length co18), H', ⟨by first | omega | exact Nat.le_refl _⟩, ⟨by (with_reducible repeat (first | apply Kd.R_alloc | apply Kd.R_drewN | apply Kd.R_drew)); exact Kd.R_mono (Kd.R_far (p := ⟨gb286, 2, none⟩) (Kd.R_far (p := ⟨gb286, 1, none⟩) (Kd.R_far (p := ⟨gb286, 0, none⟩) (Kd.R_types HO285.out BK286.out (by decide)) (fun _ hk => hk.2) (.int .i64 t281)) (fun _ hk => hk.2) (.int .i64 t282)) (fun _ hk => hk.2) (.slice Ao18 t283.length co18)) (fun _ hk => trivial)⟩, ⟨by refine bF ?_ ?_; exact NB278_286.out; refine bF ?_ ?_; exact NB278_286.out; refine bF ?_ ?_; exact NB278_286.out; exact bU BK278.out⟩, ⟨by refine bF ?_ ?_; exact NB279_286.out; refine bF ?_ ?_; exact NB279_286.out; refine bF ?_ ?_; exact NB279_286.out; exact bU BK279.out⟩, ⟨by (with_reducible repeat (first | refine blk_drewN ?_ _ | refine blk_drew ?_ | refine blk_alloc ?_ _)); refine blk_put (cs := #[.int .i64 t281, .int .i64 t282, .slice none 0 0]) ?_ 2 _ rfl; (with_reducible repeat (first | refine blk_drewN ?_ _ | refine blk_drew ?_ | refine blk_alloc ?_ _)); refine blk_put (cs := #[.int .i64 t281, .int .i64 0, .slice none 0 0]) ?_ 1 _ rfl; (with_reducible repeat (first | refine blk_drewN ?_ _ | refine blk_drew ?_ | refine blk_alloc ?_ _)); refine blk_put (cs := #[.int .i64 0, .int .i64 0, .slice none 0 0]) ?_ 0 _ rfl; exact bU BK286.out⟩, ⟨by repeat (first | (with_reducible first | exact HB.out | apply below_alloc | apply pw_below_drewN | apply below_drew1 | refine below_set ?_ GE278.out | refine below_set ?_ GE279.out | refine below_set ?_ GE286.out) | exact HB.out)⟩⟩
    case rest =>
      clear HC6
      try clear c1
      try clear c2
      try clear p2
      try clear c3
      try clear c4
      try clear p6
      try clear c9
      try clear c14
      try clear c15
      try clear c16
      try clear c19
      try clear c19b0
      try clear c19b1
      try clear c21
      try clear c22
      try clear c25
      try clear hcz10_0
      try clear hcz10_1
      try clear hcz10_2
      try clear hcz12_0
      try clear hcz12_1
      try clear hcz12_2
      try clear hcz17_0
      try clear hcz17_1
      try clear hcz17_2
      try clear hcz23_0
      try clear hcz23_1
      try clear hcz23_2
      try clear hcz26_0
      try clear hcz26_1
      try clear hcz26_2
      try clear hfz10_0
      try clear hfz10_1
      try clear hfz10_2
      try clear hfz12_0
      try clear hfz12_1
      try clear hfz12_2
      try clear hfz17_0
      try clear hfz17_1
      try clear hfz17_2
      try clear hfz23_0
      try clear hfz23_1
      try clear hfz23_2
      try clear hfz26_0
      try clear hfz26_1
      try clear hfz26_2
      obtain ⟨kq, x287000_5, x287001_5, x287002_5, u287002, HA, HJ5, HO_287002, BK278, BK279, BK286, HB⟩ := hcut
      cases kq with
      | zero => exact absurd HA.out (by simp [incunableref05_Turn.j0])
      | succ kj5 =>
        have H := HA.out
        clear HA
        simp only [incunableref05_Turn.j0] at H
        have H' := Aside0.mk H
        clear H
        go_wp2
        go_loopg [8] kj5 (fun kq v8 w' => ∃ (x8_2 : Int) (x287002_2 : List Int) (u287002 : Value), v8 = .int .i64 x8_2 ∧ Aside0 (incunableref05_Turn.l0 kq (Int.tmod (wrap64 ((Int.tmod a1 4) + 4)) 4) x8_2 a0_0 a0_1 l0_2 x287000_5 x287001_5 x287002_2 = some (r1, r2, r3, r4)) ∧ Aside0 (kq ≤ kj5) ∧ Aside0 (Kd.R (Kd.int .u8) 5 w' w.heap.size (fun _ => True) u287002 x287002_2) ∧ Aside0 (w'.heap[gb278]? = some (.cells #[.int .i64 a0_0, .int .i64 a0_1, (.slice A0_2 l0_2.length c0_2)] 24 (0, 0))) ∧ Aside0 (w'.heap[gb279]? = some (.cells #[.int .i64 0, .int .i64 0, (.slice none 0 0)] 24 (0, 0))) ∧ Aside0 (w'.heap[gb286]? = some (.cells #[.int .i64 x287000_5, .int .i64 x287001_5, u287002] 24 (0, 0))) ∧ Aside0 (Below w.heap.size w w'))
        case atStart => exact ⟨(0), (x287002_5), (u287002), (by first | rfl | (simp; done) | (simp [*]; done)), H', ⟨Nat.le_refl _⟩, ⟨by (with_reducible repeat (first | apply Kd.R_alloc | apply Kd.R_drewN | apply Kd.R_drew)); exact HO_287002.out⟩, ⟨by exact bU BK278.out⟩, ⟨by exact bU BK279.out⟩, ⟨by exact bU BK286.out⟩, ⟨by repeat (first | (with_reducible first | exact HB.out | apply below_alloc | apply pw_below_drewN | apply below_drew1 | refine below_set ?_ GE278.out | refine below_set ?_ GE279.out | refine below_set ?_ GE286.out) | exact HB.out)⟩⟩
        case round =>
          clear H'
          try clear c1
          try clear c2
          try clear p2
          try clear c3
          try clear c4
          try clear p6
          try clear c9
          try clear c14
          try clear c15
          try clear c16
          try clear c19
          try clear c19b0
          try clear c19b1
          try clear c21
          try clear c22
          try clear c25
          try clear hcz10_0
          try clear hcz10_1
          try clear hcz10_2
          try clear hcz12_0
          try clear hcz12_1
          try clear hcz12_2
          try clear hcz17_0
          try clear hcz17_1
          try clear hcz17_2
          try clear hcz23_0
          try clear hcz23_1
          try clear hcz23_2
          try clear hcz26_0
          try clear hcz26_1
          try clear hcz26_2
          try clear hfz10_0
          try clear hfz10_1
          try clear hfz10_2
          try clear hfz12_0
          try clear hfz12_1
          try clear hfz12_2
          try clear hfz17_0
          try clear hfz17_1
          try clear hfz17_2
          try clear hfz23_0
          try clear hfz23_1
          try clear hfz23_2
          try clear hfz26_0
          try clear hfz26_1
          try clear hfz26_2
          try clear p2
          try clear p6
          obtain ⟨x8_2, x287002_2, u287002, rfl, HA, HK2, HO_287002, BK278, BK279, BK286, HB⟩ := hrel
          cases gk with
          | zero => exact absurd HA.out (by simp [incunableref05_Turn.l0])
          | succ k2 =>
            have H := HA.out
            clear HA
            simp only [incunableref05_Turn.l0] at H
            by_cases c28 : x8_2 < a0_1
            · rw [if_pos c28] at H
              have c28b0 : decide (x8_2 < a0_1) = true := decide_eq_true c28
              clear c28
              have H' := Aside0.mk H
              clear H
              have hnb29 := NB278_279.out
              have hnc29 := NB279_278.out
              have hnb30 := NB278_286.out
              have hnc30 := NB286_278.out
              have hcz31_0 : wr.cell? ⟨gb278, 0, none⟩ = some (.int .i64 a0_0) := (blk_cell BK278.out 0).trans rfl
              have hcz31_1 : wr.cell? ⟨gb278, 1, none⟩ = some (.int .i64 a0_1) := (blk_cell BK278.out 1).trans rfl
              have hcz31_2 : wr.cell? ⟨gb278, 2, none⟩ = some (.slice A0_2 l0_2.length c0_2) := (blk_cell BK278.out 2).trans rfl
              have hfz31_0 := blk_frozen BK278.out 0
              have hfz31_1 := blk_frozen BK278.out 1
              have hfz31_2 := blk_frozen BK278.out 2
              go_wp2
              go_loopg [9] k2 (fun kq v9 w' => ∃ (x9_3 : Int) (x287002_3 : List Int) (u287002 : Value), v9 = .int .i64 x9_3 ∧ Aside0 (incunableref05_Turn.l1 kq (Int.tmod (wrap64 ((Int.tmod a1 4) + 4)) 4) x8_2 x9_3 a0_0 a0_1 l0_2 x287000_5 x287001_5 x287002_3 = some (r1, r2, r3, r4)) ∧ Aside0 (kq ≤ k2) ∧ Aside0 (Kd.R (Kd.int .u8) 5 w' w.heap.size (fun _ => True) u287002 x287002_3) ∧ Aside0 (w'.heap[gb278]? = some (.cells #[.int .i64 a0_0, .int .i64 a0_1, (.slice A0_2 l0_2.length c0_2)] 24 (0, 0))) ∧ Aside0 (w'.heap[gb279]? = some (.cells #[.int .i64 0, .int .i64 0, (.slice none 0 0)] 24 (0, 0))) ∧ Aside0 (w'.heap[gb286]? = some (.cells #[.int .i64 x287000_5, .int .i64 x287001_5, u287002] 24 (0, 0))) ∧ Aside0 (Below w.heap.size w w'))
              case atStart => exact ⟨(0), (x287002_2), (u287002), (by first | rfl | (simp; done) | (simp [*]; done)), H', ⟨Nat.le_refl _⟩, ⟨by (with_reducible repeat (first | apply Kd.R_alloc | apply Kd.R_drewN | apply Kd.R_drew)); exact HO_287002.out⟩, ⟨by exact bU BK278.out⟩, ⟨by exact bU BK279.out⟩, ⟨by exact bU BK286.out⟩, ⟨by repeat (first | (with_reducible first | exact HB.out | apply below_alloc | apply pw_below_drewN | apply below_drew1 | refine below_set ?_ GE278.out | refine below_set ?_ GE279.out | refine below_set ?_ GE286.out) | exact HB.out)⟩⟩
              case round =>
                clear H'
                try clear c1
                try clear c2
                try clear p2
                try clear c3
                try clear c4
                try clear p6
                try clear c9
                try clear c14
                try clear c15
                try clear c16
                try clear c19
                try clear c19b0
                try clear c19b1
                try clear c21
                try clear c22
                try clear c25
                try clear c28
                try clear c28b0
                try clear c29
                try clear c30
                try clear hcz10_0
                try clear hcz10_1
                try clear hcz10_2
                try clear hcz12_0
                try clear hcz12_1
                try clear hcz12_2
                try clear hcz17_0
                try clear hcz17_1
                try clear hcz17_2
                try clear hcz23_0
                try clear hcz23_1
                try clear hcz23_2
                try clear hcz26_0
                try clear hcz26_1
                try clear hcz26_2
                try clear hcz31_0
                try clear hcz31_1
                try clear hcz31_2
                try clear hfz10_0
                try clear hfz10_1
                try clear hfz10_2
                try clear hfz12_0
                try clear hfz12_1
                try clear hfz12_2
                try clear hfz17_0
                try clear hfz17_1
                try clear hfz17_2
                try clear hfz23_0
                try clear hfz23_1
                try clear hfz23_2
                try clear hfz26_0
                try clear hfz26_1
                try clear hfz26_2
                try clear hfz31_0
                try clear hfz31_1
                try clear hfz31_2
                try clear p2
                try clear p6
                obtain ⟨x9_3, x287002_3, u287002, rfl, HA, HK3, HO_287002, BK278, BK279, BK286, HB⟩ := hrel
                cases gk with
                | zero => exact absurd HA.out (by simp [incunableref05_Turn.l1])
                | succ k3 =>
                  have H := HA.out
                  clear HA
                  simp only [incunableref05_Turn.l1] at H
                  by_cases c32 : x9_3 < a0_0
                  · rw [if_pos c32] at H
                    have c32b0 : decide (x9_3 < a0_0) = true := decide_eq_true c32
                    clear c32
                    by_cases c33 : (Int.tmod (wrap64 ((Int.tmod a1 4) + 4)) 4) = 0
                    · rw [if_pos c33] at H
                      have c33b0 : ((Int.tmod (wrap64 ((Int.tmod a1 4) + 4)) 4) == 0) = true := beq_iff_eq.mpr c33
                      have c33b1 : ((Int.tmod (wrap64 ((Int.tmod a1 4) + 4)) 4) != 0) = false := bne_eq_false_iff_eq.mpr c33
                      clear c33
                      replace H := Option.bind_eq_some_iff.mp H
                      obtain ⟨t292, A340, H⟩ := H
                      replace H : ((incunableref05_Put.f x287000_5 x287001_5 x287002_3 x9_3 x8_2 t292).bind fun t293 => (incunableref05_Turn.l1 k3 (Int.tmod (wrap64 ((Int.tmod a1 4) + 4)) 4) x8_2 (wrap64 (x9_3 + 1)) a0_0 a0_1 l0_2 x287000_5 x287001_5 t293)) = some (r1, r2, r3, r4) := H
                      have A34 := Aside0.mk A340
                      clear A340
                      replace H := Option.bind_eq_some_iff.mp H
                      obtain ⟨t293, A350, H⟩ := H
                      replace H : (incunableref05_Turn.l1 k3 (Int.tmod (wrap64 ((Int.tmod a1 4) + 4)) 4) x8_2 (wrap64 (x9_3 + 1)) a0_0 a0_1 l0_2 x287000_5 x287001_5 t293) = some (r1, r2, r3, r4) := H
                      have A35 := Aside0.mk A350
                      clear A350
                      have H' := Aside0.mk H
                      clear H
                      have hnb36 := NB278_279.out
                      have hnc36 := NB279_278.out
                      have hnb37 := NB278_286.out
                      have hnc37 := NB286_278.out
                      have hcz38_0 : wr.cell? ⟨gb278, 0, none⟩ = some (.int .i64 a0_0) := (blk_cell BK278.out 0).trans rfl
                      have hcz38_1 : wr.cell? ⟨gb278, 1, none⟩ = some (.int .i64 a0_1) := (blk_cell BK278.out 1).trans rfl
                      have hcz38_2 : wr.cell? ⟨gb278, 2, none⟩ = some (.slice A0_2 l0_2.length c0_2) := (blk_cell BK278.out 2).trans rfl
                      have hfz38_0 := blk_frozen BK278.out 0
                      have hfz38_1 := blk_frozen BK278.out 1
                      have hfz38_2 := blk_frozen BK278.out 2
                      try go_wp2
                      have n0_ := Aside0.mk (Kd.R_drew HO_287002.out)
                      have n1_ := Aside0.mk (blk_drew BK278.out)
                      have n2_ := Aside0.mk (blk_drew BK279.out)
                      have n3_ := Aside0.mk (blk_drew BK286.out)
                      have n4_ := Aside0.mk (below_drew1 HB.out)
                      clear HO_287002
                      clear BK278
                      clear BK279
                      clear BK286
                      clear HB
                      have HO_287002 := n0_
                      have BK278 := n1_
                      have BK279 := n2_
                      have BK286 := n3_
                      have HB := n4_
                      clear n0_ n1_ n2_ n3_ n4_
                      refine start_ (n := 8) (S := fun w' => w'.cell? ⟨gb286, 0, none⟩ = some (.int .i64 x287000_5) ∧ w'.cell? ⟨gb286, 1, none⟩ = some (.int .i64 x287001_5) ∧ w'.cell? ⟨gb286, 2, none⟩ = some (u287002) ∧ w'.cell? ⟨gb278, 0, none⟩ = some (.int .i64 a0_0) ∧ w'.cell? ⟨gb278, 1, none⟩ = some (.int .i64 a0_1) ∧ w'.cell? ⟨gb278, 2, none⟩ = some (.slice A0_2 l0_2.length c0_2)) (ds := []) #[false, false, false, false, false, false, false, false] (by kernel_rfl) rfl rfl ⟨(blk_cell BK286.out 0).trans rfl, (blk_cell BK286.out 1).trans rfl, (blk_cell BK286.out 2).trans rfl, (blk_cell BK278.out 0).trans rfl, (blk_cell BK278.out 1).trans rfl, (blk_cell BK278.out 2).trans rfl⟩ (fun hHeld => ?_); refine with_tabW incunableref05_Turn.tab15 incunableref05_Turn.bits15 (fun HT_ HW_ => ?_)
                      generalize wr.drew = w39 at HO_287002 BK278 BK279 BK286 HB hHeld ⊢
                      refine pure_ (i := 1) (N := some 47) (v := ?_) (a' := ?_) #[false, true, false, false, false, false, false, false] rfl rfl (any_of HT_.out (by kernel_rfl)) (fun _ _ _ h => h) (Or.inl ⟨by rfl, ?_⟩) ?_ ?_
                      rotate_left
                      · intro w'
                        go_simp
                        with_reducible rfl
                      rotate_left
                      · simp only [Act.put, List.setIfInBounds_toArray, List.set_cons_zero, List.set_cons_succ, i64_w, i32_w]
                        rfl
                      refine pure_ (i := 2) (N := some 48) (v := ?_) (a' := ?_) #[false, true, true, false, false, false, false, false] rfl rfl (any_of HT_.out (by kernel_rfl)) (fun _ _ _ h => h) (Or.inl ⟨by rfl, ?_⟩) ?_ ?_
                      rotate_left
                      · intro w'
                        go_simp
                        with_reducible rfl
                      rotate_left
                      · simp only [Act.put, List.setIfInBounds_toArray, List.set_cons_zero, List.set_cons_succ, i64_w, i32_w]
                        rfl
                      refine pure_ (i := 4) (N := some 50) (v := ?_) (a' := ?_) #[false, true, true, false, true, false, false, false] rfl rfl (any_of HT_.out (by kernel_rfl)) (fun _ _ _ h => h) (Or.inl ⟨by rfl, ?_⟩) ?_ ?_
                      rotate_left
                      · intro w'
                        go_simp
                        with_reducible rfl
                      rotate_left
                      · simp only [Act.put, List.setIfInBounds_toArray, List.set_cons_zero, List.set_cons_succ, i64_w, i32_w]
                        rfl
                      refine pure_ (i := 5) (N := some 51) (v := ?_) (a' := ?_) #[false, true, true, false, true, true, false, false] rfl rfl (any_of HT_.out (by kernel_rfl)) (fun _ _ _ h => h) (Or.inl ⟨by rfl, ?_⟩) ?_ ?_
                      rotate_left
                      · intro w'
                        go_simp
                        with_reducible rfl
                      rotate_left
                      · simp only [Act.put, List.setIfInBounds_toArray, List.set_cons_zero, List.set_cons_succ, i64_w, i32_w]
                        rfl
                      refine take_ (i := 0) (N := some 46) (v := ?_) (a' := ?_) #[true, true, true, false, true, true, false, false] rfl rfl (take_ofW HT_.out HW_.out (by kernel_rfl)) (fun _ _ _ h => h) (Or.inl ⟨by rfl, ?_⟩) hHeld ?_ ?_
                      rotate_left
                      · rintro w' ⟨s0, s1, s2, s3, s4, s5⟩
                        go_simp
                        with_reducible rfl
                      rotate_left
                      · simp only [Act.put, List.setIfInBounds_toArray, List.set_cons_zero, List.set_cons_succ, i64_w, i32_w]
                        rfl
                      refine take_ (i := 3) (N := some 49) (v := ?_) (a' := ?_) #[true, true, true, true, true, true, false, false] rfl rfl (take_ofW HT_.out HW_.out (by kernel_rfl)) (fun _ _ _ h => h) (Or.inl ⟨by rfl, ?_⟩) hHeld ?_ ?_
                      rotate_left
                      · rintro w' ⟨s0, s1, s2, s3, s4, s5⟩
                        go_simp
                        with_reducible rfl
                      rotate_left
                      · simp only [Act.put, List.setIfInBounds_toArray, List.set_cons_zero, List.set_cons_succ, i64_w, i32_w]
                        rfl
                      refine one_ (i := 6) (N := some 52) #[true, true, true, true, true, true, true, false] rfl rfl (one_of HT_.out (by kernel_rfl)) (by decide) (fun K hK => ?_)
                      refine goes_ Try.func47 (by kernel_rfl) rfl #[.agg #[.int .i64 a0_0, .int .i64 a0_1, .slice A0_2 l0_2.length c0_2], .int .i64 x9_3, .int .i64 x8_2] (by rfl) rfl rfl (by (try simp only [List.map_toArray, List.map_cons, List.map_nil]); first | done | rfl | (simp only [List.length_drop, List.length_take]; rfl)) ?_
                      with_reducible refine (incunableref05_At.calls a0_0 a0_1 _ _ l0_2 x9_3 x8_2 t292 _ ?side1 ?side2 A34.out).mono ?_
                      (case side1 => repeat (first | exact (Kd.C_below HR0_2.out HB.out) | (with_reducible refine Kd.C_alloc ?_ _) | (with_reducible refine Kd.C_drewN ?_ _) | (with_reducible refine Kd.C_drew ?_)))
                      (case side2 => exact HC0_2.out)
                      rintro e w40 ⟨rfl, hb⟩
                      refine ⟨_, rfl, ?_⟩
                      have n0_ := Aside0.mk (Kd.R_below (rU HO_287002.out) hb)
                      have n1_ := Aside0.mk (blk_below (bU BK278.out) hb)
                      have n2_ := Aside0.mk (blk_below (bU BK279.out) hb)
                      have n3_ := Aside0.mk (blk_below (bU BK286.out) hb)
                      have n4_ := Aside0.mk (below_step (by repeat (first | (with_reducible first | exact HB.out | apply below_alloc | apply pw_below_drewN | apply below_drew1 | refine below_set ?_ GE278.out | refine below_set ?_ GE279.out | refine below_set ?_ GE286.out) | exact HB.out)) hb)
                      clear HO_287002
                      clear BK278
                      clear BK279
                      clear BK286
                      clear HB
                      have HO_287002 := n0_
                      have BK278 := n1_
                      have BK279 := n2_
                      have BK286 := n3_
                      have HB := n4_
                      clear n0_ n1_ n2_ n3_ n4_
                      (try clear hb)
                      (try clear hb2)
                      (try clear hk)
                      (try clear hi)
                      obtain ⟨Ao41, co41, eo41⟩ := Kd.R_slice HO_287002.out
                      (first | subst eo41 | (injection eo41 with f1_ f2_ f3_; have f4_ := f1_.symm; have f5_ := f3_.symm; clear f1_ f2_ f3_; subst f4_; subst f5_))
                      refine hK.out _ _ ⟨(blk_cell BK286.out 0).trans rfl, (blk_cell BK286.out 1).trans rfl, (blk_cell BK286.out 2).trans rfl, (blk_cell BK278.out 0).trans rfl, (blk_cell BK278.out 1).trans rfl, (blk_cell BK278.out 2).trans rfl⟩ (fun hHeld => ?_)
                      clear hK K
                      refine norm_ (a' := ?_) ?_ ?_
                      rotate_left
                      · show Act.put _ (some 52) _ = _
                        simp only [Act.put, List.setIfInBounds_toArray, List.set_cons_zero, List.set_cons_succ, i64_w, i32_w]
                        rfl
                      refine one_ (i := 7) (N := some 53) #[true, true, true, true, true, true, true, true] rfl rfl (one_of HT_.out (by kernel_rfl)) (by decide) (fun K hK => ?_)
                      refine goes_ Try.func46 (by kernel_rfl) rfl #[.agg #[.int .i64 x287000_5, .int .i64 x287001_5, .slice Ao41 x287002_3.length co41], .int .i64 x9_3, .int .i64 x8_2, .int .i64 t292] (by rfl) rfl rfl (by (try simp only [List.map_toArray, List.map_cons, List.map_nil]); first | done | rfl | (simp only [List.length_drop, List.length_take]; rfl)) ?_
                      with_reducible refine (incunableref05_Put.calls x287000_5 x287001_5 (fun k_ => some k_ = (.slice Ao41 x287002_3.length co41 : Value).ownBlock) (.slice Ao41 x287002_3.length co41) x287002_3 x9_3 x8_2 t292 t293 w _ ?side1 ?side2 A35.out).mono ?_
                      (case side1 => repeat (first | (with_reducible first | exact HB.out | apply below_alloc | apply pw_below_drewN | apply below_drew1 | refine below_set ?_ GE278.out | refine below_set ?_ GE279.out | refine below_set ?_ GE286.out) | exact HB.out))
                      (case side2 => exact Kd.R_tight rfl HO_287002.out)
                      rintro e w42 ⟨rfl, hy0, hb, hkp⟩
                      refine ⟨_, rfl, ?_⟩
                      have n0_ := Aside0.mk (Kd.R_reok rfl hy0 (fun k_ e_ => HO_287002.out.1 k_ e_))
                      have n1_ := Aside0.mk (blk_kept (bU BK278.out) hkp (fun hs_ => (fun e_ => (Kd.R_ne HO_287002.out BK278.out (by decide)) e_) hs_))
                      have n2_ := Aside0.mk (blk_kept (bU BK279.out) hkp (fun hs_ => (fun e_ => (Kd.R_ne HO_287002.out BK279.out (by decide)) e_) hs_))
                      have n3_ := Aside0.mk (blk_kept (bU BK286.out) hkp (fun hs_ => (fun e_ => (Kd.R_ne HO_287002.out BK286.out (by decide)) e_) hs_))
                      have n4_ := Aside0.mk (hb)
                      clear HO_287002
                      clear BK278
                      clear BK279
                      clear BK286
                      clear HB
                      have HO_287002 := n0_
                      have BK278 := n1_
                      have BK279 := n2_
                      have BK286 := n3_
                      have HB := n4_
                      clear n0_ n1_ n2_ n3_ n4_
                      (try clear hb)
                      (try clear hkp)
                      (try clear hy0)
                      refine hK.out _ _ ⟨(blk_cell BK286.out 0).trans rfl, (blk_cell BK286.out 1).trans rfl, (blk_cell BK286.out 2).trans rfl, (blk_cell BK278.out 0).trans rfl, (blk_cell BK278.out 1).trans rfl, (blk_cell BK278.out 2).trans rfl⟩ (fun hHeld => ?_)
                      clear hK K
                      refine norm_ (a' := ?_) ?_ ?_
                      rotate_left
                      · show Act.put _ (some 53) _ = _
                        simp only [Act.put, List.setIfInBounds_toArray, List.set_cons_zero, List.set_cons_succ, i64_w, i32_w]
                        rfl
                      refine done_ (done_of HT_.out (by kernel_rfl)) ?_
                      try go_wp2
                      go_roundg k3
                      case measure => have := HJ5.out; have := HK2.out; have := HK3.out; omega
                      case rel => exact ⟨(wrap64 (x9_3 + 1)), (t293), (.slice Ao41 x287002_3.length co41), (by first | rfl | (simp; done) | (simp [*]; done)), H', ⟨by have := HJ5.out; have := HK2.out; have := HK3.out; omega⟩, ⟨by (with_reducible repeat (first | apply Kd.R_alloc | apply Kd.R_drewN | apply Kd.R_drew)); exact HO_287002.out⟩, ⟨by exact bU BK278.out⟩, ⟨by exact bU BK279.out⟩, ⟨by exact bU BK286.out⟩, ⟨by repeat (first | (with_reducible first | exact HB.out | apply below_alloc | apply pw_below_drewN | apply below_drew1 | refine below_set ?_ GE278.out | refine below_set ?_ GE279.out | refine below_set ?_ GE286.out) | exact HB.out)⟩⟩
                    · rw [if_neg c33] at H
                      have c33b0 : ((Int.tmod (wrap64 ((Int.tmod a1 4) + 4)) 4) == 0) = false := beq_eq_false_iff_ne.mpr c33
                      have c33b1 : ((Int.tmod (wrap64 ((Int.tmod a1 4) + 4)) 4) != 0) = true := bne_iff_ne.mpr c33
                      by_cases c43 : (Int.tmod (wrap64 ((Int.tmod a1 4) + 4)) 4) = 1
                      · rw [if_pos c43] at H
                        have c43b0 : ((Int.tmod (wrap64 ((Int.tmod a1 4) + 4)) 4) == 1) = true := beq_iff_eq.mpr c43
                        have c43b1 : ((Int.tmod (wrap64 ((Int.tmod a1 4) + 4)) 4) != 1) = false := bne_eq_false_iff_eq.mpr c43
                        clear c43
                        replace H := Option.bind_eq_some_iff.mp H
                        obtain ⟨t294, A440, H⟩ := H
                        replace H : ((incunableref05_Put.f x287000_5 x287001_5 x287002_3 (wrap64 ((wrap64 (a0_1 - 1)) - x8_2)) x9_3 t294).bind fun t295 => (incunableref05_Turn.l1 k3 (Int.tmod (wrap64 ((Int.tmod a1 4) + 4)) 4) x8_2 (wrap64 (x9_3 + 1)) a0_0 a0_1 l0_2 x287000_5 x287001_5 t295)) = some (r1, r2, r3, r4) := H
                        have A44 := Aside0.mk A440
                        clear A440
                        replace H := Option.bind_eq_some_iff.mp H
                        obtain ⟨t295, A450, H⟩ := H
                        replace H : (incunableref05_Turn.l1 k3 (Int.tmod (wrap64 ((Int.tmod a1 4) + 4)) 4) x8_2 (wrap64 (x9_3 + 1)) a0_0 a0_1 l0_2 x287000_5 x287001_5 t295) = some (r1, r2, r3, r4) := H
                        have A45 := Aside0.mk A450
                        clear A450
                        have H' := Aside0.mk H
                        clear H
                        have hnb46 := NB278_279.out
                        have hnc46 := NB279_278.out
                        have hnb47 := NB278_286.out
                        have hnc47 := NB286_278.out
                        have hcz48_0 : wr.cell? ⟨gb278, 0, none⟩ = some (.int .i64 a0_0) := (blk_cell BK278.out 0).trans rfl
                        have hcz48_1 : wr.cell? ⟨gb278, 1, none⟩ = some (.int .i64 a0_1) := (blk_cell BK278.out 1).trans rfl
                        have hcz48_2 : wr.cell? ⟨gb278, 2, none⟩ = some (.slice A0_2 l0_2.length c0_2) := (blk_cell BK278.out 2).trans rfl
                        have hfz48_0 := blk_frozen BK278.out 0
                        have hfz48_1 := blk_frozen BK278.out 1
                        have hfz48_2 := blk_frozen BK278.out 2
                        try go_wp2
                        have n0_ := Aside0.mk (Kd.R_drew HO_287002.out)
                        have n1_ := Aside0.mk (blk_drew BK278.out)
                        have n2_ := Aside0.mk (blk_drew BK279.out)
                        have n3_ := Aside0.mk (blk_drew BK286.out)
                        have n4_ := Aside0.mk (below_drew1 HB.out)
                        clear HO_287002
                        clear BK278
                        clear BK279
                        clear BK286
                        clear HB
                        have HO_287002 := n0_
                        have BK278 := n1_
                        have BK279 := n2_
                        have BK286 := n3_
                        have HB := n4_
                        clear n0_ n1_ n2_ n3_ n4_
                        refine start_ (n := 12) (S := fun w' => w'.cell? ⟨gb286, 0, none⟩ = some (.int .i64 x287000_5) ∧ w'.cell? ⟨gb286, 1, none⟩ = some (.int .i64 x287001_5) ∧ w'.cell? ⟨gb286, 2, none⟩ = some (u287002) ∧ w'.cell? ⟨gb278, 0, none⟩ = some (.int .i64 a0_0) ∧ w'.cell? ⟨gb278, 1, none⟩ = some (.int .i64 a0_1) ∧ w'.cell? ⟨gb278, 2, none⟩ = some (.slice A0_2 l0_2.length c0_2)) (ds := []) #[false, false, false, false, false, false, false, false, false, false, false, false] (by kernel_rfl) rfl rfl ⟨(blk_cell BK286.out 0).trans rfl, (blk_cell BK286.out 1).trans rfl, (blk_cell BK286.out 2).trans rfl, (blk_cell BK278.out 0).trans rfl, (blk_cell BK278.out 1).trans rfl, (blk_cell BK278.out 2).trans rfl⟩ (fun hHeld => ?_); refine with_tabW incunableref05_Turn.tab17 incunableref05_Turn.bits17 (fun HT_ HW_ => ?_)
                        generalize wr.drew = w49 at HO_287002 BK278 BK279 BK286 HB hHeld ⊢
                        refine pure_ (i := 1) (N := some 57) (v := ?_) (a' := ?_) #[false, true, false, false, false, false, false, false, false, false, false, false] rfl rfl (any_of HT_.out (by kernel_rfl)) (fun _ _ _ h => h) (Or.inl ⟨by rfl, ?_⟩) ?_ ?_
                        rotate_left
                        · intro w'
                          go_simp
                          with_reducible rfl
                        rotate_left
                        · simp only [Act.put, List.setIfInBounds_toArray, List.set_cons_zero, List.set_cons_succ, i64_w, i32_w]
                          rfl
                        refine pure_ (i := 4) (N := some 60) (v := ?_) (a' := ?_) #[false, true, false, false, true, false, false, false, false, false, false, false] rfl rfl (any_of HT_.out (by kernel_rfl)) (fun _ _ _ h => h) (Or.inl ⟨by rfl, ?_⟩) ?_ ?_
                        rotate_left
                        · intro w'
                          go_simp
                          with_reducible rfl
                        rotate_left
                        · simp only [Act.put, List.setIfInBounds_toArray, List.set_cons_zero, List.set_cons_succ, i64_w, i32_w]
                          rfl
                        refine pure_ (i := 6) (N := some 62) (v := ?_) (a' := ?_) #[false, true, false, false, true, false, true, false, false, false, false, false] rfl rfl (any_of HT_.out (by kernel_rfl)) (fun _ _ _ h => h) (Or.inl ⟨by rfl, ?_⟩) ?_ ?_
                        rotate_left
                        · intro w'
                          go_simp
                          with_reducible rfl
                        rotate_left
                        · simp only [Act.put, List.setIfInBounds_toArray, List.set_cons_zero, List.set_cons_succ, i64_w, i32_w]
                          rfl
                        refine pure_ (i := 8) (N := some 64) (v := ?_) (a' := ?_) #[false, true, false, false, true, false, true, false, true, false, false, false] rfl rfl (any_of HT_.out (by kernel_rfl)) (fun _ _ _ h => h) (Or.inl ⟨by rfl, ?_⟩) ?_ ?_
                        rotate_left
                        · intro w'
                          go_simp
                          with_reducible rfl
                        rotate_left
                        · simp only [Act.put, List.setIfInBounds_toArray, List.set_cons_zero, List.set_cons_succ, i64_w, i32_w]
                          rfl
                        refine pure_ (i := 9) (N := some 65) (v := ?_) (a' := ?_) #[false, true, false, false, true, false, true, false, true, true, false, false] rfl rfl (any_of HT_.out (by kernel_rfl)) (fun _ _ _ h => h) (Or.inl ⟨by rfl, ?_⟩) ?_ ?_
                        rotate_left
                        · intro w'
                          go_simp
                          with_reducible rfl
                        rotate_left
                        · simp only [Act.put, List.setIfInBounds_toArray, List.set_cons_zero, List.set_cons_succ, i64_w, i32_w]
                          rfl
                        refine take_ (i := 0) (N := some 56) (v := ?_) (a' := ?_) #[true, true, false, false, true, false, true, false, true, true, false, false] rfl rfl (take_ofW HT_.out HW_.out (by kernel_rfl)) (fun _ _ _ h => h) (Or.inl ⟨by rfl, ?_⟩) hHeld ?_ ?_
                        rotate_left
                        · rintro w' ⟨s0, s1, s2, s3, s4, s5⟩
                          go_simp
                          with_reducible rfl
                        rotate_left
                        · simp only [Act.put, List.setIfInBounds_toArray, List.set_cons_zero, List.set_cons_succ, i64_w, i32_w]
                          rfl
                        refine take_ (i := 2) (N := some 58) (v := ?_) (a' := ?_) #[true, true, true, false, true, false, true, false, true, true, false, false] rfl rfl (take_ofW HT_.out HW_.out (by kernel_rfl)) (fun _ _ _ h => h) (Or.inl ⟨by rfl, ?_⟩) hHeld ?_ ?_
                        rotate_left
                        · rintro w' ⟨s0, s1, s2, s3, s4, s5⟩
                          go_simp
                          with_reducible rfl
                        rotate_left
                        · simp only [Act.put, List.setIfInBounds_toArray, List.set_cons_zero, List.set_cons_succ, i64_w, i32_w]
                          rfl
                        refine pure_ (i := 3) (N := some 59) (v := ?_) (a' := ?_) #[true, true, true, true, true, false, true, false, true, true, false, false] rfl rfl (any_of HT_.out (by kernel_rfl)) (fun _ _ _ h => h) (Or.inl ⟨by rfl, ?_⟩) ?_ ?_
                        rotate_left
                        · intro w'
                          go_simp
                          with_reducible rfl
                        rotate_left
                        · simp only [Act.put, List.setIfInBounds_toArray, List.set_cons_zero, List.set_cons_succ, i64_w, i32_w]
                          rfl
                        refine pure_ (i := 5) (N := some 61) (v := ?_) (a' := ?_) #[true, true, true, true, true, true, true, false, true, true, false, false] rfl rfl (any_of HT_.out (by kernel_rfl)) (fun _ _ _ h => h) (Or.inl ⟨by rfl, ?_⟩) ?_ ?_
                        rotate_left
                        · intro w'
                          go_simp
                          with_reducible rfl
                        rotate_left
                        · simp only [Act.put, List.setIfInBounds_toArray, List.set_cons_zero, List.set_cons_succ, i64_w, i32_w]
                          rfl
                        refine take_ (i := 7) (N := some 63) (v := ?_) (a' := ?_) #[true, true, true, true, true, true, true, true, true, true, false, false] rfl rfl (take_ofW HT_.out HW_.out (by kernel_rfl)) (fun _ _ _ h => h) (Or.inl ⟨by rfl, ?_⟩) hHeld ?_ ?_
                        rotate_left
                        · rintro w' ⟨s0, s1, s2, s3, s4, s5⟩
                          go_simp
                          with_reducible rfl
                        rotate_left
                        · simp only [Act.put, List.setIfInBounds_toArray, List.set_cons_zero, List.set_cons_succ, i64_w, i32_w]
                          rfl
                        refine one_ (i := 10) (N := some 66) #[true, true, true, true, true, true, true, true, true, true, true, false] rfl rfl (one_of HT_.out (by kernel_rfl)) (by decide) (fun K hK => ?_)
                        refine goes_ Try.func47 (by kernel_rfl) rfl #[.agg #[.int .i64 a0_0, .int .i64 a0_1, .slice A0_2 l0_2.length c0_2], .int .i64 x9_3, .int .i64 x8_2] (by rfl) rfl rfl (by (try simp only [List.map_toArray, List.map_cons, List.map_nil]); first | done | rfl | (simp only [List.length_drop, List.length_take]; rfl)) ?_
                        with_reducible refine (incunableref05_At.calls a0_0 a0_1 _ _ l0_2 x9_3 x8_2 t294 _ ?side1 ?side2 A44.out).mono ?_
                        (case side1 => repeat (first | exact (Kd.C_below HR0_2.out HB.out) | (with_reducible refine Kd.C_alloc ?_ _) | (with_reducible refine Kd.C_drewN ?_ _) | (with_reducible refine Kd.C_drew ?_)))
                        (case side2 => exact HC0_2.out)
                        rintro e w50 ⟨rfl, hb⟩
                        refine ⟨_, rfl, ?_⟩
                        have n0_ := Aside0.mk (Kd.R_below (rU HO_287002.out) hb)
                        have n1_ := Aside0.mk (blk_below (bU BK278.out) hb)
                        have n2_ := Aside0.mk (blk_below (bU BK279.out) hb)
                        have n3_ := Aside0.mk (blk_below (bU BK286.out) hb)
                        have n4_ := Aside0.mk (below_step (by repeat (first | (with_reducible first | exact HB.out | apply below_alloc | apply pw_below_drewN | apply below_drew1 | refine below_set ?_ GE278.out | refine below_set ?_ GE279.out | refine below_set ?_ GE286.out) | exact HB.out)) hb)
                        clear HO_287002
                        clear BK278
                        clear BK279
                        clear BK286
                        clear HB
                        have HO_287002 := n0_
                        have BK278 := n1_
                        have BK279 := n2_
                        have BK286 := n3_
                        have HB := n4_
                        clear n0_ n1_ n2_ n3_ n4_
                        (try clear hb)
                        (try clear hb2)
                        (try clear hk)
                        (try clear hi)
                        obtain ⟨Ao51, co51, eo51⟩ := Kd.R_slice HO_287002.out
                        (first | subst eo51 | (injection eo51 with f1_ f2_ f3_; have f4_ := f1_.symm; have f5_ := f3_.symm; clear f1_ f2_ f3_; subst f4_; subst f5_))
                        refine hK.out _ _ ⟨(blk_cell BK286.out 0).trans rfl, (blk_cell BK286.out 1).trans rfl, (blk_cell BK286.out 2).trans rfl, (blk_cell BK278.out 0).trans rfl, (blk_cell BK278.out 1).trans rfl, (blk_cell BK278.out 2).trans rfl⟩ (fun hHeld => ?_)
                        clear hK K
                        refine norm_ (a' := ?_) ?_ ?_
                        rotate_left
                        · show Act.put _ (some 66) _ = _
                          simp only [Act.put, List.setIfInBounds_toArray, List.set_cons_zero, List.set_cons_succ, i64_w, i32_w]
                          rfl
                        refine one_ (i := 11) (N := some 67) #[true, true, true, true, true, true, true, true, true, true, true, true] rfl rfl (one_of HT_.out (by kernel_rfl)) (by decide) (fun K hK => ?_)
                        refine goes_ Try.func46 (by kernel_rfl) rfl #[.agg #[.int .i64 x287000_5, .int .i64 x287001_5, .slice Ao51 x287002_3.length co51], .int .i64 (wrap64 ((wrap64 (a0_1 - 1)) - x8_2)), .int .i64 x9_3, .int .i64 t294] (by rfl) rfl rfl (by (try simp only [List.map_toArray, List.map_cons, List.map_nil]); first | done | rfl | (simp only [List.length_drop, List.length_take]; rfl)) ?_
                        with_reducible refine (incunableref05_Put.calls x287000_5 x287001_5 (fun k_ => some k_ = (.slice Ao51 x287002_3.length co51 : Value).ownBlock) (.slice Ao51 x287002_3.length co51) x287002_3 (wrap64 ((wrap64 (a0_1 - 1)) - x8_2)) x9_3 t294 t295 w _ ?side1 ?side2 A45.out).mono ?_
                        (case side1 => repeat (first | (with_reducible first | exact HB.out | apply below_alloc | apply pw_below_drewN | apply below_drew1 | refine below_set ?_ GE278.out | refine below_set ?_ GE279.out | refine below_set ?_ GE286.out) | exact HB.out))
                        (case side2 => exact Kd.R_tight rfl HO_287002.out)
                        rintro e w52 ⟨rfl, hy0, hb, hkp⟩
                        refine ⟨_, rfl, ?_⟩
                        have n0_ := Aside0.mk (Kd.R_reok rfl hy0 (fun k_ e_ => HO_287002.out.1 k_ e_))
                        have n1_ := Aside0.mk (blk_kept (bU BK278.out) hkp (fun hs_ => (fun e_ => (Kd.R_ne HO_287002.out BK278.out (by decide)) e_) hs_))
                        have n2_ := Aside0.mk (blk_kept (bU BK279.out) hkp (fun hs_ => (fun e_ => (Kd.R_ne HO_287002.out BK279.out (by decide)) e_) hs_))
                        have n3_ := Aside0.mk (blk_kept (bU BK286.out) hkp (fun hs_ => (fun e_ => (Kd.R_ne HO_287002.out BK286.out (by decide)) e_) hs_))
                        have n4_ := Aside0.mk (hb)
                        clear HO_287002
                        clear BK278
                        clear BK279
                        clear BK286
                        clear HB
                        have HO_287002 := n0_
                        have BK278 := n1_
                        have BK279 := n2_
                        have BK286 := n3_
                        have HB := n4_
                        clear n0_ n1_ n2_ n3_ n4_
                        (try clear hb)
                        (try clear hkp)
                        (try clear hy0)
                        refine hK.out _ _ ⟨(blk_cell BK286.out 0).trans rfl, (blk_cell BK286.out 1).trans rfl, (blk_cell BK286.out 2).trans rfl, (blk_cell BK278.out 0).trans rfl, (blk_cell BK278.out 1).trans rfl, (blk_cell BK278.out 2).trans rfl⟩ (fun hHeld => ?_)
                        clear hK K
                        refine norm_ (a' := ?_) ?_ ?_
                        rotate_left
                        · show Act.put _ (some 67) _ = _
                          simp only [Act.put, List.setIfInBounds_toArray, List.set_cons_zero, List.set_cons_succ, i64_w, i32_w]
                          rfl
                        refine done_ (done_of HT_.out (by kernel_rfl)) ?_
                        try go_wp2
                        go_roundg k3
                        case measure => have := HJ5.out; have := HK2.out; have := HK3.out; omega
                        case rel => exact ⟨(wrap64 (x9_3 + 1)), (t295), (.slice Ao51 x287002_3.length co51), (by first | rfl | (simp; done) | (simp [*]; done)), H', ⟨by have := HJ5.out; have := HK2.out; have := HK3.out; omega⟩, ⟨by (with_reducible repeat (first | apply Kd.R_alloc | apply Kd.R_drewN | apply Kd.R_drew)); exact HO_287002.out⟩, ⟨by exact bU BK278.out⟩, ⟨by exact bU BK279.out⟩, ⟨by exact bU BK286.out⟩, ⟨by repeat (first | (with_reducible first | exact HB.out | apply below_alloc | apply pw_below_drewN | apply below_drew1 | refine below_set ?_ GE278.out | refine below_set ?_ GE279.out | refine below_set ?_ GE286.out) | exact HB.out)⟩⟩
                      · rw [if_neg c43] at H
                        have c43b0 : ((Int.tmod (wrap64 ((Int.tmod a1 4) + 4)) 4) == 1) = false := beq_eq_false_iff_ne.mpr c43
                        have c43b1 : ((Int.tmod (wrap64 ((Int.tmod a1 4) + 4)) 4) != 1) = true := bne_iff_ne.mpr c43
                        by_cases c53 : (Int.tmod (wrap64 ((Int.tmod a1 4) + 4)) 4) = 2
                        · rw [if_pos c53] at H
                          have c53b0 : ((Int.tmod (wrap64 ((Int.tmod a1 4) + 4)) 4) == 2) = true := beq_iff_eq.mpr c53
                          have c53b1 : ((Int.tmod (wrap64 ((Int.tmod a1 4) + 4)) 4) != 2) = false := bne_eq_false_iff_eq.mpr c53
                          clear c53
                          replace H := Option.bind_eq_some_iff.mp H
                          obtain ⟨t296, A540, H⟩ := H
                          replace H : ((incunableref05_Put.f x287000_5 x287001_5 x287002_3 (wrap64 ((wrap64 (a0_0 - 1)) - x9_3)) (wrap64 ((wrap64 (a0_1 - 1)) - x8_2)) t296).bind fun t297 => (incunableref05_Turn.l1 k3 (Int.tmod (wrap64 ((Int.tmod a1 4) + 4)) 4) x8_2 (wrap64 (x9_3 + 1)) a0_0 a0_1 l0_2 x287000_5 x287001_5 t297)) = some (r1, r2, r3, r4) := H
                          have A54 := Aside0.mk A540
                          clear A540
                          replace H := Option.bind_eq_some_iff.mp H
                          obtain ⟨t297, A550, H⟩ := H
                          replace H : (incunableref05_Turn.l1 k3 (Int.tmod (wrap64 ((Int.tmod a1 4) + 4)) 4) x8_2 (wrap64 (x9_3 + 1)) a0_0 a0_1 l0_2 x287000_5 x287001_5 t297) = some (r1, r2, r3, r4) := H
                          have A55 := Aside0.mk A550
                          clear A550
                          have H' := Aside0.mk H
                          clear H
                          have hnb56 := NB278_279.out
                          have hnc56 := NB279_278.out
                          have hnb57 := NB278_286.out
                          have hnc57 := NB286_278.out
                          have hcz58_0 : wr.cell? ⟨gb278, 0, none⟩ = some (.int .i64 a0_0) := (blk_cell BK278.out 0).trans rfl
                          have hcz58_1 : wr.cell? ⟨gb278, 1, none⟩ = some (.int .i64 a0_1) := (blk_cell BK278.out 1).trans rfl
                          have hcz58_2 : wr.cell? ⟨gb278, 2, none⟩ = some (.slice A0_2 l0_2.length c0_2) := (blk_cell BK278.out 2).trans rfl
                          have hfz58_0 := blk_frozen BK278.out 0
                          have hfz58_1 := blk_frozen BK278.out 1
                          have hfz58_2 := blk_frozen BK278.out 2
                          try go_wp2
                          have n0_ := Aside0.mk (Kd.R_drew HO_287002.out)
                          have n1_ := Aside0.mk (blk_drew BK278.out)
                          have n2_ := Aside0.mk (blk_drew BK279.out)
                          have n3_ := Aside0.mk (blk_drew BK286.out)
                          have n4_ := Aside0.mk (below_drew1 HB.out)
                          clear HO_287002
                          clear BK278
                          clear BK279
                          clear BK286
                          clear HB
                          have HO_287002 := n0_
                          have BK278 := n1_
                          have BK279 := n2_
                          have BK286 := n3_
                          have HB := n4_
                          clear n0_ n1_ n2_ n3_ n4_
                          refine start_ (n := 16) (S := fun w' => w'.cell? ⟨gb286, 0, none⟩ = some (.int .i64 x287000_5) ∧ w'.cell? ⟨gb286, 1, none⟩ = some (.int .i64 x287001_5) ∧ w'.cell? ⟨gb286, 2, none⟩ = some (u287002) ∧ w'.cell? ⟨gb278, 0, none⟩ = some (.int .i64 a0_0) ∧ w'.cell? ⟨gb278, 1, none⟩ = some (.int .i64 a0_1) ∧ w'.cell? ⟨gb278, 2, none⟩ = some (.slice A0_2 l0_2.length c0_2)) (ds := []) #[false, false, false, false, false, false, false, false, false, false, false, false, false, false, false, false] (by kernel_rfl) rfl rfl ⟨(blk_cell BK286.out 0).trans rfl, (blk_cell BK286.out 1).trans rfl, (blk_cell BK286.out 2).trans rfl, (blk_cell BK278.out 0).trans rfl, (blk_cell BK278.out 1).trans rfl, (blk_cell BK278.out 2).trans rfl⟩ (fun hHeld => ?_); refine with_tabW incunableref05_Turn.tab19 incunableref05_Turn.bits19 (fun HT_ HW_ => ?_)
                          generalize wr.drew = w59 at HO_287002 BK278 BK279 BK286 HB hHeld ⊢
                          refine pure_ (i := 1) (N := some 71) (v := ?_) (a' := ?_) #[false, true, false, false, false, false, false, false, false, false, false, false, false, false, false, false] rfl rfl (any_of HT_.out (by kernel_rfl)) (fun _ _ _ h => h) (Or.inl ⟨by rfl, ?_⟩) ?_ ?_
                          rotate_left
                          · intro w'
                            go_simp
                            with_reducible rfl
                          rotate_left
                          · simp only [Act.put, List.setIfInBounds_toArray, List.set_cons_zero, List.set_cons_succ, i64_w, i32_w]
                            rfl
                          refine pure_ (i := 4) (N := some 74) (v := ?_) (a' := ?_) #[false, true, false, false, true, false, false, false, false, false, false, false, false, false, false, false] rfl rfl (any_of HT_.out (by kernel_rfl)) (fun _ _ _ h => h) (Or.inl ⟨by rfl, ?_⟩) ?_ ?_
                          rotate_left
                          · intro w'
                            go_simp
                            with_reducible rfl
                          rotate_left
                          · simp only [Act.put, List.setIfInBounds_toArray, List.set_cons_zero, List.set_cons_succ, i64_w, i32_w]
                            rfl
                          refine pure_ (i := 6) (N := some 76) (v := ?_) (a' := ?_) #[false, true, false, false, true, false, true, false, false, false, false, false, false, false, false, false] rfl rfl (any_of HT_.out (by kernel_rfl)) (fun _ _ _ h => h) (Or.inl ⟨by rfl, ?_⟩) ?_ ?_
                          rotate_left
                          · intro w'
                            go_simp
                            with_reducible rfl
                          rotate_left
                          · simp only [Act.put, List.setIfInBounds_toArray, List.set_cons_zero, List.set_cons_succ, i64_w, i32_w]
                            rfl
                          refine pure_ (i := 9) (N := some 79) (v := ?_) (a' := ?_) #[false, true, false, false, true, false, true, false, false, true, false, false, false, false, false, false] rfl rfl (any_of HT_.out (by kernel_rfl)) (fun _ _ _ h => h) (Or.inl ⟨by rfl, ?_⟩) ?_ ?_
                          rotate_left
                          · intro w'
                            go_simp
                            with_reducible rfl
                          rotate_left
                          · simp only [Act.put, List.setIfInBounds_toArray, List.set_cons_zero, List.set_cons_succ, i64_w, i32_w]
                            rfl
                          refine pure_ (i := 12) (N := some 82) (v := ?_) (a' := ?_) #[false, true, false, false, true, false, true, false, false, true, false, false, true, false, false, false] rfl rfl (any_of HT_.out (by kernel_rfl)) (fun _ _ _ h => h) (Or.inl ⟨by rfl, ?_⟩) ?_ ?_
                          rotate_left
                          · intro w'
                            go_simp
                            with_reducible rfl
                          rotate_left
                          · simp only [Act.put, List.setIfInBounds_toArray, List.set_cons_zero, List.set_cons_succ, i64_w, i32_w]
                            rfl
                          refine pure_ (i := 13) (N := some 83) (v := ?_) (a' := ?_) #[false, true, false, false, true, false, true, false, false, true, false, false, true, true, false, false] rfl rfl (any_of HT_.out (by kernel_rfl)) (fun _ _ _ h => h) (Or.inl ⟨by rfl, ?_⟩) ?_ ?_
                          rotate_left
                          · intro w'
                            go_simp
                            with_reducible rfl
                          rotate_left
                          · simp only [Act.put, List.setIfInBounds_toArray, List.set_cons_zero, List.set_cons_succ, i64_w, i32_w]
                            rfl
                          refine take_ (i := 0) (N := some 70) (v := ?_) (a' := ?_) #[true, true, false, false, true, false, true, false, false, true, false, false, true, true, false, false] rfl rfl (take_ofW HT_.out HW_.out (by kernel_rfl)) (fun _ _ _ h => h) (Or.inl ⟨by rfl, ?_⟩) hHeld ?_ ?_
                          rotate_left
                          · rintro w' ⟨s0, s1, s2, s3, s4, s5⟩
                            go_simp
                            with_reducible rfl
                          rotate_left
                          · simp only [Act.put, List.setIfInBounds_toArray, List.set_cons_zero, List.set_cons_succ, i64_w, i32_w]
                            rfl
                          refine take_ (i := 2) (N := some 72) (v := ?_) (a' := ?_) #[true, true, true, false, true, false, true, false, false, true, false, false, true, true, false, false] rfl rfl (take_ofW HT_.out HW_.out (by kernel_rfl)) (fun _ _ _ h => h) (Or.inl ⟨by rfl, ?_⟩) hHeld ?_ ?_
                          rotate_left
                          · rintro w' ⟨s0, s1, s2, s3, s4, s5⟩
                            go_simp
                            with_reducible rfl
                          rotate_left
                          · simp only [Act.put, List.setIfInBounds_toArray, List.set_cons_zero, List.set_cons_succ, i64_w, i32_w]
                            rfl
                          refine pure_ (i := 3) (N := some 73) (v := ?_) (a' := ?_) #[true, true, true, true, true, false, true, false, false, true, false, false, true, true, false, false] rfl rfl (any_of HT_.out (by kernel_rfl)) (fun _ _ _ h => h) (Or.inl ⟨by rfl, ?_⟩) ?_ ?_
                          rotate_left
                          · intro w'
                            go_simp
                            with_reducible rfl
                          rotate_left
                          · simp only [Act.put, List.setIfInBounds_toArray, List.set_cons_zero, List.set_cons_succ, i64_w, i32_w]
                            rfl
                          refine pure_ (i := 5) (N := some 75) (v := ?_) (a' := ?_) #[true, true, true, true, true, true, true, false, false, true, false, false, true, true, false, false] rfl rfl (any_of HT_.out (by kernel_rfl)) (fun _ _ _ h => h) (Or.inl ⟨by rfl, ?_⟩) ?_ ?_
                          rotate_left
                          · intro w'
                            go_simp
                            with_reducible rfl
                          rotate_left
                          · simp only [Act.put, List.setIfInBounds_toArray, List.set_cons_zero, List.set_cons_succ, i64_w, i32_w]
                            rfl
                          refine take_ (i := 7) (N := some 77) (v := ?_) (a' := ?_) #[true, true, true, true, true, true, true, true, false, true, false, false, true, true, false, false] rfl rfl (take_ofW HT_.out HW_.out (by kernel_rfl)) (fun _ _ _ h => h) (Or.inl ⟨by rfl, ?_⟩) hHeld ?_ ?_
                          rotate_left
                          · rintro w' ⟨s0, s1, s2, s3, s4, s5⟩
                            go_simp
                            with_reducible rfl
                          rotate_left
                          · simp only [Act.put, List.setIfInBounds_toArray, List.set_cons_zero, List.set_cons_succ, i64_w, i32_w]
                            rfl
                          refine pure_ (i := 8) (N := some 78) (v := ?_) (a' := ?_) #[true, true, true, true, true, true, true, true, true, true, false, false, true, true, false, false] rfl rfl (any_of HT_.out (by kernel_rfl)) (fun _ _ _ h => h) (Or.inl ⟨by rfl, ?_⟩) ?_ ?_
                          rotate_left
                          · intro w'
                            go_simp
                            with_reducible rfl
                          rotate_left
                          · simp only [Act.put, List.setIfInBounds_toArray, List.set_cons_zero, List.set_cons_succ, i64_w, i32_w]
                            rfl
                          refine pure_ (i := 10) (N := some 80) (v := ?_) (a' := ?_) #[true, true, true, true, true, true, true, true, true, true, true, false, true, true, false, false] rfl rfl (any_of HT_.out (by kernel_rfl)) (fun _ _ _ h => h) (Or.inl ⟨by rfl, ?_⟩) ?_ ?_
                          rotate_left
                          · intro w'
                            go_simp
                            with_reducible rfl
                          rotate_left
                          · simp only [Act.put, List.setIfInBounds_toArray, List.set_cons_zero, List.set_cons_succ, i64_w, i32_w]
                            rfl
                          refine take_ (i := 11) (N := some 81) (v := ?_) (a' := ?_) #[true, true, true, true, true, true, true, true, true, true, true, true, true, true, false, false] rfl rfl (take_ofW HT_.out HW_.out (by kernel_rfl)) (fun _ _ _ h => h) (Or.inl ⟨by rfl, ?_⟩) hHeld ?_ ?_
                          rotate_left
                          · rintro w' ⟨s0, s1, s2, s3, s4, s5⟩
                            go_simp
                            with_reducible rfl
                          rotate_left
                          · simp only [Act.put, List.setIfInBounds_toArray, List.set_cons_zero, List.set_cons_succ, i64_w, i32_w]
                            rfl
                          refine one_ (i := 14) (N := some 84) #[true, true, true, true, true, true, true, true, true, true, true, true, true, true, true, false] rfl rfl (one_of HT_.out (by kernel_rfl)) (by decide) (fun K hK => ?_)
                          refine goes_ Try.func47 (by kernel_rfl) rfl #[.agg #[.int .i64 a0_0, .int .i64 a0_1, .slice A0_2 l0_2.length c0_2], .int .i64 x9_3, .int .i64 x8_2] (by rfl) rfl rfl (by (try simp only [List.map_toArray, List.map_cons, List.map_nil]); first | done | rfl | (simp only [List.length_drop, List.length_take]; rfl)) ?_
                          with_reducible refine (incunableref05_At.calls a0_0 a0_1 _ _ l0_2 x9_3 x8_2 t296 _ ?side1 ?side2 A54.out).mono ?_
                          (case side1 => repeat (first | exact (Kd.C_below HR0_2.out HB.out) | (with_reducible refine Kd.C_alloc ?_ _) | (with_reducible refine Kd.C_drewN ?_ _) | (with_reducible refine Kd.C_drew ?_)))
                          (case side2 => exact HC0_2.out)
                          rintro e w60 ⟨rfl, hb⟩
                          refine ⟨_, rfl, ?_⟩
                          have n0_ := Aside0.mk (Kd.R_below (rU HO_287002.out) hb)
                          have n1_ := Aside0.mk (blk_below (bU BK278.out) hb)
                          have n2_ := Aside0.mk (blk_below (bU BK279.out) hb)
                          have n3_ := Aside0.mk (blk_below (bU BK286.out) hb)
                          have n4_ := Aside0.mk (below_step (by repeat (first | (with_reducible first | exact HB.out | apply below_alloc | apply pw_below_drewN | apply below_drew1 | refine below_set ?_ GE278.out | refine below_set ?_ GE279.out | refine below_set ?_ GE286.out) | exact HB.out)) hb)
                          clear HO_287002
                          clear BK278
                          clear BK279
                          clear BK286
                          clear HB
                          have HO_287002 := n0_
                          have BK278 := n1_
                          have BK279 := n2_
                          have BK286 := n3_
                          have HB := n4_
                          clear n0_ n1_ n2_ n3_ n4_
                          (try clear hb)
                          (try clear hb2)
                          (try clear hk)
                          (try clear hi)
                          obtain ⟨Ao61, co61, eo61⟩ := Kd.R_slice HO_287002.out
                          (first | subst eo61 | (injection eo61 with f1_ f2_ f3_; have f4_ := f1_.symm; have f5_ := f3_.symm; clear f1_ f2_ f3_; subst f4_; subst f5_))
                          refine hK.out _ _ ⟨(blk_cell BK286.out 0).trans rfl, (blk_cell BK286.out 1).trans rfl, (blk_cell BK286.out 2).trans rfl, (blk_cell BK278.out 0).trans rfl, (blk_cell BK278.out 1).trans rfl, (blk_cell BK278.out 2).trans rfl⟩ (fun hHeld => ?_)
                          clear hK K
                          refine norm_ (a' := ?_) ?_ ?_
                          rotate_left
                          · show Act.put _ (some 84) _ = _
                            simp only [Act.put, List.setIfInBounds_toArray, List.set_cons_zero, List.set_cons_succ, i64_w, i32_w]
                            rfl
                          refine one_ (i := 15) (N := some 85) #[true, true, true, true, true, true, true, true, true, true, true, true, true, true, true, true] rfl rfl (one_of HT_.out (by kernel_rfl)) (by decide) (fun K hK => ?_)
                          refine goes_ Try.func46 (by kernel_rfl) rfl #[.agg #[.int .i64 x287000_5, .int .i64 x287001_5, .slice Ao61 x287002_3.length co61], .int .i64 (wrap64 ((wrap64 (a0_0 - 1)) - x9_3)), .int .i64 (wrap64 ((wrap64 (a0_1 - 1)) - x8_2)), .int .i64 t296] (by rfl) rfl rfl (by (try simp only [List.map_toArray, List.map_cons, List.map_nil]); first | done | rfl | (simp only [List.length_drop, List.length_take]; rfl)) ?_
                          with_reducible refine (incunableref05_Put.calls x287000_5 x287001_5 (fun k_ => some k_ = (.slice Ao61 x287002_3.length co61 : Value).ownBlock) (.slice Ao61 x287002_3.length co61) x287002_3 (wrap64 ((wrap64 (a0_0 - 1)) - x9_3)) (wrap64 ((wrap64 (a0_1 - 1)) - x8_2)) t296 t297 w _ ?side1 ?side2 A55.out).mono ?_
                          (case side1 => repeat (first | (with_reducible first | exact HB.out | apply below_alloc | apply pw_below_drewN | apply below_drew1 | refine below_set ?_ GE278.out | refine below_set ?_ GE279.out | refine below_set ?_ GE286.out) | exact HB.out))
                          (case side2 => exact Kd.R_tight rfl HO_287002.out)
                          rintro e w62 ⟨rfl, hy0, hb, hkp⟩
                          refine ⟨_, rfl, ?_⟩
                          have n0_ := Aside0.mk (Kd.R_reok rfl hy0 (fun k_ e_ => HO_287002.out.1 k_ e_))
                          have n1_ := Aside0.mk (blk_kept (bU BK278.out) hkp (fun hs_ => (fun e_ => (Kd.R_ne HO_287002.out BK278.out (by decide)) e_) hs_))
                          have n2_ := Aside0.mk (blk_kept (bU BK279.out) hkp (fun hs_ => (fun e_ => (Kd.R_ne HO_287002.out BK279.out (by decide)) e_) hs_))
                          have n3_ := Aside0.mk (blk_kept (bU BK286.out) hkp (fun hs_ => (fun e_ => (Kd.R_ne HO_287002.out BK286.out (by decide)) e_) hs_))
                          have n4_ := Aside0.mk (hb)
                          clear HO_287002
                          clear BK278
                          clear BK279
                          clear BK286
                          clear HB
                          have HO_287002 := n0_
                          have BK278 := n1_
                          have BK279 := n2_
                          have BK286 := n3_
                          have HB := n4_
                          clear n0_ n1_ n2_ n3_ n4_
                          (try clear hb)
                          (try clear hkp)
                          (try clear hy0)
                          refine hK.out _ _ ⟨(blk_cell BK286.out 0).trans rfl, (blk_cell BK286.out 1).trans rfl, (blk_cell BK286.out 2).trans rfl, (blk_cell BK278.out 0).trans rfl, (blk_cell BK278.out 1).trans rfl, (blk_cell BK278.out 2).trans rfl⟩ (fun hHeld => ?_)
                          clear hK K
                          refine norm_ (a' := ?_) ?_ ?_
                          rotate_left
                          · show Act.put _ (some 85) _ = _
                            simp only [Act.put, List.setIfInBounds_toArray, List.set_cons_zero, List.set_cons_succ, i64_w, i32_w]
                            rfl
                          refine done_ (done_of HT_.out (by kernel_rfl)) ?_
                          try go_wp2
                          go_roundg k3
                          case measure => have := HJ5.out; have := HK2.out; have := HK3.out; omega
                          case rel => exact ⟨(wrap64 (x9_3 + 1)), (t297), (.slice Ao61 x287002_3.length co61), (by first | rfl | (simp; done) | (simp [*]; done)), H', ⟨by have := HJ5.out; have := HK2.out; have := HK3.out; omega⟩, ⟨by (with_reducible repeat (first | apply Kd.R_alloc | apply Kd.R_drewN | apply Kd.R_drew)); exact HO_287002.out⟩, ⟨by exact bU BK278.out⟩, ⟨by exact bU BK279.out⟩, ⟨by exact bU BK286.out⟩, ⟨by repeat (first | (with_reducible first | exact HB.out | apply below_alloc | apply pw_below_drewN | apply below_drew1 | refine below_set ?_ GE278.out | refine below_set ?_ GE279.out | refine below_set ?_ GE286.out) | exact HB.out)⟩⟩
                        · rw [if_neg c53] at H
                          have c53b0 : ((Int.tmod (wrap64 ((Int.tmod a1 4) + 4)) 4) == 2) = false := beq_eq_false_iff_ne.mpr c53
                          have c53b1 : ((Int.tmod (wrap64 ((Int.tmod a1 4) + 4)) 4) != 2) = true := bne_iff_ne.mpr c53
                          by_cases c63 : (Int.tmod (wrap64 ((Int.tmod a1 4) + 4)) 4) = 3
                          · rw [if_pos c63] at H
                            have c63b0 : ((Int.tmod (wrap64 ((Int.tmod a1 4) + 4)) 4) == 3) = true := beq_iff_eq.mpr c63
                            have c63b1 : ((Int.tmod (wrap64 ((Int.tmod a1 4) + 4)) 4) != 3) = false := bne_eq_false_iff_eq.mpr c63
                            clear c63
                            replace H := Option.bind_eq_some_iff.mp H
                            obtain ⟨t298, A640, H⟩ := H
                            replace H : ((incunableref05_Put.f x287000_5 x287001_5 x287002_3 x8_2 (wrap64 ((wrap64 (a0_0 - 1)) - x9_3)) t298).bind fun t299 => (incunableref05_Turn.l1 k3 (Int.tmod (wrap64 ((Int.tmod a1 4) + 4)) 4) x8_2 (wrap64 (x9_3 + 1)) a0_0 a0_1 l0_2 x287000_5 x287001_5 t299)) = some (r1, r2, r3, r4) := H
                            have A64 := Aside0.mk A640
                            clear A640
                            replace H := Option.bind_eq_some_iff.mp H
                            obtain ⟨t299, A650, H⟩ := H
                            replace H : (incunableref05_Turn.l1 k3 (Int.tmod (wrap64 ((Int.tmod a1 4) + 4)) 4) x8_2 (wrap64 (x9_3 + 1)) a0_0 a0_1 l0_2 x287000_5 x287001_5 t299) = some (r1, r2, r3, r4) := H
                            have A65 := Aside0.mk A650
                            clear A650
                            have H' := Aside0.mk H
                            clear H
                            have hnb66 := NB278_279.out
                            have hnc66 := NB279_278.out
                            have hnb67 := NB278_286.out
                            have hnc67 := NB286_278.out
                            have hcz68_0 : wr.cell? ⟨gb278, 0, none⟩ = some (.int .i64 a0_0) := (blk_cell BK278.out 0).trans rfl
                            have hcz68_1 : wr.cell? ⟨gb278, 1, none⟩ = some (.int .i64 a0_1) := (blk_cell BK278.out 1).trans rfl
                            have hcz68_2 : wr.cell? ⟨gb278, 2, none⟩ = some (.slice A0_2 l0_2.length c0_2) := (blk_cell BK278.out 2).trans rfl
                            have hfz68_0 := blk_frozen BK278.out 0
                            have hfz68_1 := blk_frozen BK278.out 1
                            have hfz68_2 := blk_frozen BK278.out 2
                            try go_wp2
                            have n0_ := Aside0.mk (Kd.R_drew HO_287002.out)
                            have n1_ := Aside0.mk (blk_drew BK278.out)
                            have n2_ := Aside0.mk (blk_drew BK279.out)
                            have n3_ := Aside0.mk (blk_drew BK286.out)
                            have n4_ := Aside0.mk (below_drew1 HB.out)
                            clear HO_287002
                            clear BK278
                            clear BK279
                            clear BK286
                            clear HB
                            have HO_287002 := n0_
                            have BK278 := n1_
                            have BK279 := n2_
                            have BK286 := n3_
                            have HB := n4_
                            clear n0_ n1_ n2_ n3_ n4_
                            refine start_ (n := 12) (S := fun w' => w'.cell? ⟨gb286, 0, none⟩ = some (.int .i64 x287000_5) ∧ w'.cell? ⟨gb286, 1, none⟩ = some (.int .i64 x287001_5) ∧ w'.cell? ⟨gb286, 2, none⟩ = some (u287002) ∧ w'.cell? ⟨gb278, 0, none⟩ = some (.int .i64 a0_0) ∧ w'.cell? ⟨gb278, 1, none⟩ = some (.int .i64 a0_1) ∧ w'.cell? ⟨gb278, 2, none⟩ = some (.slice A0_2 l0_2.length c0_2)) (ds := []) #[false, false, false, false, false, false, false, false, false, false, false, false] (by kernel_rfl) rfl rfl ⟨(blk_cell BK286.out 0).trans rfl, (blk_cell BK286.out 1).trans rfl, (blk_cell BK286.out 2).trans rfl, (blk_cell BK278.out 0).trans rfl, (blk_cell BK278.out 1).trans rfl, (blk_cell BK278.out 2).trans rfl⟩ (fun hHeld => ?_); refine with_tabW incunableref05_Turn.tab21 incunableref05_Turn.bits21 (fun HT_ HW_ => ?_)
                            generalize wr.drew = w69 at HO_287002 BK278 BK279 BK286 HB hHeld ⊢
                            refine pure_ (i := 1) (N := some 89) (v := ?_) (a' := ?_) #[false, true, false, false, false, false, false, false, false, false, false, false] rfl rfl (any_of HT_.out (by kernel_rfl)) (fun _ _ _ h => h) (Or.inl ⟨by rfl, ?_⟩) ?_ ?_
                            rotate_left
                            · intro w'
                              go_simp
                              with_reducible rfl
                            rotate_left
                            · simp only [Act.put, List.setIfInBounds_toArray, List.set_cons_zero, List.set_cons_succ, i64_w, i32_w]
                              rfl
                            refine pure_ (i := 2) (N := some 90) (v := ?_) (a' := ?_) #[false, true, true, false, false, false, false, false, false, false, false, false] rfl rfl (any_of HT_.out (by kernel_rfl)) (fun _ _ _ h => h) (Or.inl ⟨by rfl, ?_⟩) ?_ ?_
                            rotate_left
                            · intro w'
                              go_simp
                              with_reducible rfl
                            rotate_left
                            · simp only [Act.put, List.setIfInBounds_toArray, List.set_cons_zero, List.set_cons_succ, i64_w, i32_w]
                              rfl
                            refine pure_ (i := 5) (N := some 93) (v := ?_) (a' := ?_) #[false, true, true, false, false, true, false, false, false, false, false, false] rfl rfl (any_of HT_.out (by kernel_rfl)) (fun _ _ _ h => h) (Or.inl ⟨by rfl, ?_⟩) ?_ ?_
                            rotate_left
                            · intro w'
                              go_simp
                              with_reducible rfl
                            rotate_left
                            · simp only [Act.put, List.setIfInBounds_toArray, List.set_cons_zero, List.set_cons_succ, i64_w, i32_w]
                              rfl
                            refine pure_ (i := 8) (N := some 96) (v := ?_) (a' := ?_) #[false, true, true, false, false, true, false, false, true, false, false, false] rfl rfl (any_of HT_.out (by kernel_rfl)) (fun _ _ _ h => h) (Or.inl ⟨by rfl, ?_⟩) ?_ ?_
                            rotate_left
                            · intro w'
                              go_simp
                              with_reducible rfl
                            rotate_left
                            · simp only [Act.put, List.setIfInBounds_toArray, List.set_cons_zero, List.set_cons_succ, i64_w, i32_w]
                              rfl
                            refine pure_ (i := 9) (N := some 97) (v := ?_) (a' := ?_) #[false, true, true, false, false, true, false, false, true, true, false, false] rfl rfl (any_of HT_.out (by kernel_rfl)) (fun _ _ _ h => h) (Or.inl ⟨by rfl, ?_⟩) ?_ ?_
                            rotate_left
                            · intro w'
                              go_simp
                              with_reducible rfl
                            rotate_left
                            · simp only [Act.put, List.setIfInBounds_toArray, List.set_cons_zero, List.set_cons_succ, i64_w, i32_w]
                              rfl
                            refine take_ (i := 0) (N := some 88) (v := ?_) (a' := ?_) #[true, true, true, false, false, true, false, false, true, true, false, false] rfl rfl (take_ofW HT_.out HW_.out (by kernel_rfl)) (fun _ _ _ h => h) (Or.inl ⟨by rfl, ?_⟩) hHeld ?_ ?_
                            rotate_left
                            · rintro w' ⟨s0, s1, s2, s3, s4, s5⟩
                              go_simp
                              with_reducible rfl
                            rotate_left
                            · simp only [Act.put, List.setIfInBounds_toArray, List.set_cons_zero, List.set_cons_succ, i64_w, i32_w]
                              rfl
                            refine take_ (i := 3) (N := some 91) (v := ?_) (a' := ?_) #[true, true, true, true, false, true, false, false, true, true, false, false] rfl rfl (take_ofW HT_.out HW_.out (by kernel_rfl)) (fun _ _ _ h => h) (Or.inl ⟨by rfl, ?_⟩) hHeld ?_ ?_
                            rotate_left
                            · rintro w' ⟨s0, s1, s2, s3, s4, s5⟩
                              go_simp
                              with_reducible rfl
                            rotate_left
                            · simp only [Act.put, List.setIfInBounds_toArray, List.set_cons_zero, List.set_cons_succ, i64_w, i32_w]
                              rfl
                            refine pure_ (i := 4) (N := some 92) (v := ?_) (a' := ?_) #[true, true, true, true, true, true, false, false, true, true, false, false] rfl rfl (any_of HT_.out (by kernel_rfl)) (fun _ _ _ h => h) (Or.inl ⟨by rfl, ?_⟩) ?_ ?_
                            rotate_left
                            · intro w'
                              go_simp
                              with_reducible rfl
                            rotate_left
                            · simp only [Act.put, List.setIfInBounds_toArray, List.set_cons_zero, List.set_cons_succ, i64_w, i32_w]
                              rfl
                            refine pure_ (i := 6) (N := some 94) (v := ?_) (a' := ?_) #[true, true, true, true, true, true, true, false, true, true, false, false] rfl rfl (any_of HT_.out (by kernel_rfl)) (fun _ _ _ h => h) (Or.inl ⟨by rfl, ?_⟩) ?_ ?_
                            rotate_left
                            · intro w'
                              go_simp
                              with_reducible rfl
                            rotate_left
                            · simp only [Act.put, List.setIfInBounds_toArray, List.set_cons_zero, List.set_cons_succ, i64_w, i32_w]
                              rfl
                            refine take_ (i := 7) (N := some 95) (v := ?_) (a' := ?_) #[true, true, true, true, true, true, true, true, true, true, false, false] rfl rfl (take_ofW HT_.out HW_.out (by kernel_rfl)) (fun _ _ _ h => h) (Or.inl ⟨by rfl, ?_⟩) hHeld ?_ ?_
                            rotate_left
                            · rintro w' ⟨s0, s1, s2, s3, s4, s5⟩
                              go_simp
                              with_reducible rfl
                            rotate_left
                            · simp only [Act.put, List.setIfInBounds_toArray, List.set_cons_zero, List.set_cons_succ, i64_w, i32_w]
                              rfl
                            refine one_ (i := 10) (N := some 98) #[true, true, true, true, true, true, true, true, true, true, true, false] rfl rfl (one_of HT_.out (by kernel_rfl)) (by decide) (fun K hK => ?_)
                            refine goes_ Try.func47 (by kernel_rfl) rfl #[.agg #[.int .i64 a0_0, .int .i64 a0_1, .slice A0_2 l0_2.length c0_2], .int .i64 x9_3, .int .i64 x8_2] (by rfl) rfl rfl (by (try simp only [List.map_toArray, List.map_cons, List.map_nil]); first | done | rfl | (simp only [List.length_drop, List.length_take]; rfl)) ?_
                            with_reducible refine (incunableref05_At.calls a0_0 a0_1 _ _ l0_2 x9_3 x8_2 t298 _ ?side1 ?side2 A64.out).mono ?_
                            (case side1 => repeat (first | exact (Kd.C_below HR0_2.out HB.out) | (with_reducible refine Kd.C_alloc ?_ _) | (with_reducible refine Kd.C_drewN ?_ _) | (with_reducible refine Kd.C_drew ?_)))
                            (case side2 => exact HC0_2.out)
                            rintro e w70 ⟨rfl, hb⟩
                            refine ⟨_, rfl, ?_⟩
                            have n0_ := Aside0.mk (Kd.R_below (rU HO_287002.out) hb)
                            have n1_ := Aside0.mk (blk_below (bU BK278.out) hb)
                            have n2_ := Aside0.mk (blk_below (bU BK279.out) hb)
                            have n3_ := Aside0.mk (blk_below (bU BK286.out) hb)
                            have n4_ := Aside0.mk (below_step (by repeat (first | (with_reducible first | exact HB.out | apply below_alloc | apply pw_below_drewN | apply below_drew1 | refine below_set ?_ GE278.out | refine below_set ?_ GE279.out | refine below_set ?_ GE286.out) | exact HB.out)) hb)
                            clear HO_287002
                            clear BK278
                            clear BK279
                            clear BK286
                            clear HB
                            have HO_287002 := n0_
                            have BK278 := n1_
                            have BK279 := n2_
                            have BK286 := n3_
                            have HB := n4_
                            clear n0_ n1_ n2_ n3_ n4_
                            (try clear hb)
                            (try clear hb2)
                            (try clear hk)
                            (try clear hi)
                            obtain ⟨Ao71, co71, eo71⟩ := Kd.R_slice HO_287002.out
                            (first | subst eo71 | (injection eo71 with f1_ f2_ f3_; have f4_ := f1_.symm; have f5_ := f3_.symm; clear f1_ f2_ f3_; subst f4_; subst f5_))
                            refine hK.out _ _ ⟨(blk_cell BK286.out 0).trans rfl, (blk_cell BK286.out 1).trans rfl, (blk_cell BK286.out 2).trans rfl, (blk_cell BK278.out 0).trans rfl, (blk_cell BK278.out 1).trans rfl, (blk_cell BK278.out 2).trans rfl⟩ (fun hHeld => ?_)
                            clear hK K
                            refine norm_ (a' := ?_) ?_ ?_
                            rotate_left
                            · show Act.put _ (some 98) _ = _
                              simp only [Act.put, List.setIfInBounds_toArray, List.set_cons_zero, List.set_cons_succ, i64_w, i32_w]
                              rfl
                            refine one_ (i := 11) (N := some 99) #[true, true, true, true, true, true, true, true, true, true, true, true] rfl rfl (one_of HT_.out (by kernel_rfl)) (by decide) (fun K hK => ?_)
                            refine goes_ Try.func46 (by kernel_rfl) rfl #[.agg #[.int .i64 x287000_5, .int .i64 x287001_5, .slice Ao71 x287002_3.length co71], .int .i64 x8_2, .int .i64 (wrap64 ((wrap64 (a0_0 - 1)) - x9_3)), .int .i64 t298] (by rfl) rfl rfl (by (try simp only [List.map_toArray, List.map_cons, List.map_nil]); first | done | rfl | (simp only [List.length_drop, List.length_take]; rfl)) ?_
                            with_reducible refine (incunableref05_Put.calls x287000_5 x287001_5 (fun k_ => some k_ = (.slice Ao71 x287002_3.length co71 : Value).ownBlock) (.slice Ao71 x287002_3.length co71) x287002_3 x8_2 (wrap64 ((wrap64 (a0_0 - 1)) - x9_3)) t298 t299 w _ ?side1 ?side2 A65.out).mono ?_
                            (case side1 => repeat (first | (with_reducible first | exact HB.out | apply below_alloc | apply pw_below_drewN | apply below_drew1 | refine below_set ?_ GE278.out | refine below_set ?_ GE279.out | refine below_set ?_ GE286.out) | exact HB.out))
                            (case side2 => exact Kd.R_tight rfl HO_287002.out)
                            rintro e w72 ⟨rfl, hy0, hb, hkp⟩
                            refine ⟨_, rfl, ?_⟩
                            have n0_ := Aside0.mk (Kd.R_reok rfl hy0 (fun k_ e_ => HO_287002.out.1 k_ e_))
                            have n1_ := Aside0.mk (blk_kept (bU BK278.out) hkp (fun hs_ => (fun e_ => (Kd.R_ne HO_287002.out BK278.out (by decide)) e_) hs_))
                            have n2_ := Aside0.mk (blk_kept (bU BK279.out) hkp (fun hs_ => (fun e_ => (Kd.R_ne HO_287002.out BK279.out (by decide)) e_) hs_))
                            have n3_ := Aside0.mk (blk_kept (bU BK286.out) hkp (fun hs_ => (fun e_ => (Kd.R_ne HO_287002.out BK286.out (by decide)) e_) hs_))
                            have n4_ := Aside0.mk (hb)
                            clear HO_287002
                            clear BK278
                            clear BK279
                            clear BK286
                            clear HB
                            have HO_287002 := n0_
                            have BK278 := n1_
                            have BK279 := n2_
                            have BK286 := n3_
                            have HB := n4_
                            clear n0_ n1_ n2_ n3_ n4_
                            (try clear hb)
                            (try clear hkp)
                            (try clear hy0)
                            refine hK.out _ _ ⟨(blk_cell BK286.out 0).trans rfl, (blk_cell BK286.out 1).trans rfl, (blk_cell BK286.out 2).trans rfl, (blk_cell BK278.out 0).trans rfl, (blk_cell BK278.out 1).trans rfl, (blk_cell BK278.out 2).trans rfl⟩ (fun hHeld => ?_)
                            clear hK K
                            refine norm_ (a' := ?_) ?_ ?_
                            rotate_left
                            · show Act.put _ (some 99) _ = _
                              simp only [Act.put, List.setIfInBounds_toArray, List.set_cons_zero, List.set_cons_succ, i64_w, i32_w]
                              rfl
                            refine done_ (done_of HT_.out (by kernel_rfl)) ?_
                            try go_wp2
                            go_roundg k3
                            case measure => have := HJ5.out; have := HK2.out; have := HK3.out; omega
                            case rel => exact ⟨(wrap64 (x9_3 + 1)), (t299), (.slice Ao71 x287002_3.length co71), (by first | rfl | (simp; done) | (simp [*]; done)), H', ⟨by have := HJ5.out; have := HK2.out; have := HK3.out; omega⟩, ⟨by (with_reducible repeat (first | apply Kd.R_alloc | apply Kd.R_drewN | apply Kd.R_drew)); exact HO_287002.out⟩, ⟨by exact bU BK278.out⟩, ⟨by exact bU BK279.out⟩, ⟨by exact bU BK286.out⟩, ⟨by repeat (first | (with_reducible first | exact HB.out | apply below_alloc | apply pw_below_drewN | apply below_drew1 | refine below_set ?_ GE278.out | refine below_set ?_ GE279.out | refine below_set ?_ GE286.out) | exact HB.out)⟩⟩
                          · rw [if_neg c63] at H
                            have c63b0 : ((Int.tmod (wrap64 ((Int.tmod a1 4) + 4)) 4) == 3) = false := beq_eq_false_iff_ne.mpr c63
                            have c63b1 : ((Int.tmod (wrap64 ((Int.tmod a1 4) + 4)) 4) != 3) = true := bne_iff_ne.mpr c63
                            have H' := Aside0.mk H
                            clear H
                            have hnb73 := NB278_279.out
                            have hnc73 := NB279_278.out
                            have hnb74 := NB278_286.out
                            have hnc74 := NB286_278.out
                            have hcz75_0 : wr.cell? ⟨gb278, 0, none⟩ = some (.int .i64 a0_0) := (blk_cell BK278.out 0).trans rfl
                            have hcz75_1 : wr.cell? ⟨gb278, 1, none⟩ = some (.int .i64 a0_1) := (blk_cell BK278.out 1).trans rfl
                            have hcz75_2 : wr.cell? ⟨gb278, 2, none⟩ = some (.slice A0_2 l0_2.length c0_2) := (blk_cell BK278.out 2).trans rfl
                            have hfz75_0 := blk_frozen BK278.out 0
                            have hfz75_1 := blk_frozen BK278.out 1
                            have hfz75_2 := blk_frozen BK278.out 2
                            go_wp2
                            go_roundg k3
                            case measure => have := HJ5.out; have := HK2.out; have := HK3.out; omega
                            case rel => exact ⟨(wrap64 (x9_3 + 1)), (x287002_3), (u287002), (by first | rfl | (simp; done) | (simp [*]; done)), H', ⟨by have := HJ5.out; have := HK2.out; have := HK3.out; omega⟩, ⟨by (with_reducible repeat (first | apply Kd.R_alloc | apply Kd.R_drewN | apply Kd.R_drew)); exact HO_287002.out⟩, ⟨by exact bU BK278.out⟩, ⟨by exact bU BK279.out⟩, ⟨by exact bU BK286.out⟩, ⟨by repeat (first | (with_reducible first | exact HB.out | apply below_alloc | apply pw_below_drewN | apply below_drew1 | refine below_set ?_ GE278.out | refine below_set ?_ GE279.out | refine below_set ?_ GE286.out) | exact HB.out)⟩⟩
                  · rw [if_neg c32] at H
                    have c32b0 : decide (x9_3 < a0_0) = false := decide_eq_false c32
                    clear c32
                    have H' := Aside0.mk H
                    clear H
                    have hnb76 := NB278_279.out
                    have hnc76 := NB279_278.out
                    have hnb77 := NB278_286.out
                    have hnc77 := NB286_278.out
                    have hcz78_0 : wr.cell? ⟨gb278, 0, none⟩ = some (.int .i64 a0_0) := (blk_cell BK278.out 0).trans rfl
                    have hcz78_1 : wr.cell? ⟨gb278, 1, none⟩ = some (.int .i64 a0_1) := (blk_cell BK278.out 1).trans rfl
                    have hcz78_2 : wr.cell? ⟨gb278, 2, none⟩ = some (.slice A0_2 l0_2.length c0_2) := (blk_cell BK278.out 2).trans rfl
                    have hfz78_0 := blk_frozen BK278.out 0
                    have hfz78_1 := blk_frozen BK278.out 1
                    have hfz78_2 := blk_frozen BK278.out 2
                    go_wp2
                    go_roundg k3
                    case measure => have := HJ5.out; have := HK2.out; have := HK3.out; omega
                    case rel => exact ⟨(wrap64 (x8_2 + 1)), (x287002_3), (u287002), (by first | rfl | (simp; done) | (simp [*]; done)), H', ⟨by have := HJ5.out; have := HK2.out; have := HK3.out; omega⟩, ⟨by (with_reducible repeat (first | apply Kd.R_alloc | apply Kd.R_drewN | apply Kd.R_drew)); exact HO_287002.out⟩, ⟨by exact bU BK278.out⟩, ⟨by exact bU BK279.out⟩, ⟨by exact bU BK286.out⟩, ⟨by repeat (first | (with_reducible first | exact HB.out | apply below_alloc | apply pw_below_drewN | apply below_drew1 | refine below_set ?_ GE278.out | refine below_set ?_ GE279.out | refine below_set ?_ GE286.out) | exact HB.out)⟩⟩
            · rw [if_neg c28] at H
              have c28b0 : decide (x8_2 < a0_1) = false := decide_eq_false c28
              clear c28
              simp only [Option.some.injEq, Prod.mk.injEq] at H
              obtain ⟨rfl, rfl, rfl, rfl⟩ := H
              have hnb79 := NB278_279.out
              have hnc79 := NB279_278.out
              have hnb80 := NB278_286.out
              have hnc80 := NB286_278.out
              have hcz81_0 : wr.cell? ⟨gb278, 0, none⟩ = some (.int .i64 a0_0) := (blk_cell BK278.out 0).trans rfl
              have hcz81_1 : wr.cell? ⟨gb278, 1, none⟩ = some (.int .i64 a0_1) := (blk_cell BK278.out 1).trans rfl
              have hcz81_2 : wr.cell? ⟨gb278, 2, none⟩ = some (.slice A0_2 l0_2.length c0_2) := (blk_cell BK278.out 2).trans rfl
              have hfz81_0 := blk_frozen BK278.out 0
              have hfz81_1 := blk_frozen BK278.out 1
              have hfz81_2 := blk_frozen BK278.out 2
              have hnb82 := NB286_279.out
              have hnc82 := NB279_286.out
              have hcz83_0 : wr.cell? ⟨gb286, 0, none⟩ = some (.int .i64 x287000_5) := (blk_cell BK286.out 0).trans rfl
              have hcz83_1 : wr.cell? ⟨gb286, 1, none⟩ = some (.int .i64 x287001_5) := (blk_cell BK286.out 1).trans rfl
              have hcz83_2 : wr.cell? ⟨gb286, 2, none⟩ = some (u287002) := (blk_cell BK286.out 2).trans rfl
              have hfz83_0 := blk_frozen BK286.out 0
              have hfz83_1 := blk_frozen BK286.out 1
              have hfz83_2 := blk_frozen BK286.out 2
              have hcz84_0 : wr.cell? ⟨gb279, 0, none⟩ = some (.int .i64 0) := (blk_cell BK279.out 0).trans rfl
              have hcz84_1 : wr.cell? ⟨gb279, 1, none⟩ = some (.int .i64 0) := (blk_cell BK279.out 1).trans rfl
              have hcz84_2 : wr.cell? ⟨gb279, 2, none⟩ = some (.slice none 0 0) := (blk_cell BK279.out 2).trans rfl
              have hfz84_0 := blk_frozen BK279.out 0
              have hfz84_1 := blk_frozen BK279.out 1
              have hfz84_2 := blk_frozen BK279.out 2
              obtain ⟨Ao85, co85, eo85⟩ := Kd.R_slice HO_287002.out
              subst eo85
              go_wp2
              refine bodyPost_ret (results_ct rfl _ _ gb279 24 #[.int .i64 x287000_5, .int .i64 x287001_5, .slice Ao85 x287002_2.length co85] (0, 0) _ rfl (by (with_reducible repeat (first | refine blk_drewN ?_ _ | refine blk_drew ?_ | refine blk_alloc ?_ _)); refine blk_put (cs := #[.int .i64 x287000_5, .int .i64 x287001_5, .slice none 0 0]) ?_ 2 _ rfl; (with_reducible repeat (first | refine blk_drewN ?_ _ | refine blk_drew ?_ | refine blk_alloc ?_ _)); refine blk_put (cs := #[.int .i64 x287000_5, .int .i64 0, .slice none 0 0]) ?_ 1 _ rfl; (with_reducible repeat (first | refine blk_drewN ?_ _ | refine blk_drew ?_ | refine blk_alloc ?_ _)); refine blk_put (cs := #[.int .i64 0, .int .i64 0, .slice none 0 0]) ?_ 0 _ rfl; exact bU BK279.out) Try.underlying24 rfl (by kernel_rfl)) rfl ?_
              exact ⟨_, by first | rfl | (simp [errW_none, errW_some] <;> rfl) | (simp [*, errW_none, errW_some] <;> rfl), by (with_reducible repeat (first | apply Kd.R_alloc | apply Kd.R_drewN | apply Kd.R_drew)); exact Kd.R_mono (Kd.R_far (p := ⟨gb279, 2, none⟩) (Kd.R_far (p := ⟨gb279, 1, none⟩) (Kd.R_far (p := ⟨gb279, 0, none⟩) (Kd.R_types HO_287002.out BK279.out (by decide)) (fun _ hk => hk.2) (.int .i64 x287000_5)) (fun _ hk => hk.2) (.int .i64 x287001_5)) (fun _ hk => hk.2) (.slice Ao85 x287002_2.length co85)) (fun _ hk => trivial), by repeat (first | (with_reducible first | exact HB.out | apply below_alloc | apply pw_below_drewN | apply below_drew1 | refine below_set ?_ GE278.out | refine below_set ?_ GE279.out | refine below_set ?_ GE286.out) | exact HB.out)⟩
  · replace c4 := Bool.eq_false_iff.mpr c4
    subst c4
    have H1 : (some (0, 0, ([] : List Int), 30)) = some (r1, r2, r3, r4) := by rw [if_neg (show ¬ (false = true) by decide)] at H; exact H
    clear H
    have H := H1
    clear H1
    simp only [Option.some.injEq, Prod.mk.injEq] at H
    obtain ⟨rfl, rfl, rfl, rfl⟩ := H
    go_enter Try.func14, Try.ntmps14
    go_wp2_with (first | ((with_reducible refine gate_dst (N := 2) rfl ?_); refine box_event ?hg (N := 2) ?hd (cs := #[.int .i64 a0_0, .int .i64 a0_1, .slice A0_2 l0_2.length c0_2]) (t := 24) ?hr ?_; (case hd => rfl); (case hg => rfl); (case hr => first | (go_simp; done) | (go_simp; rfl)); intro gb278 hg w86 hbox hb; have n0_ := Aside0.mk (below_step (by repeat (first | (with_reducible first | exact HB.out | apply below_alloc | apply pw_below_drewN | apply below_drew1) | exact HB.out)) hb); have n1_ := Aside0.mk (hbox); have n2_ := Aside0.mk ((by rw [hg]; exact (below_size (by repeat (first | (with_reducible first | exact HB.out | apply below_alloc | apply pw_below_drewN | apply below_drew1) | exact HB.out))) : w.heap.size ≤ gb278)); have n3_ := Aside0.mk ((by rw [hg]; exact (below_size (by repeat (first | (with_reducible first | exact HB.out | apply below_alloc | apply pw_below_drewN | apply below_drew1) | exact HB.out))) : w.heap.size ≤ gb278)); clear HB; have HB := n0_; have BK278 := n1_; have GW278 := n2_; have GE278 := n3_; clear n0_ n1_ n2_ n3_; clear hb hbox hg) | ((with_reducible refine gate_dst (N := 4) rfl ?_); refine box_event ?hg (N := 4) ?hd (cs := #[.int .i64 0, .int .i64 0, .slice none 0 0]) (t := 24) ?hr ?_; (case hd => rfl); (case hg => rfl); (case hr => first | (go_simp; done) | (go_simp; rfl)); intro gb279 hg w87 hbox hb; have n0_ := Aside0.mk (blk_below (bU BK278.out) hb); have n1_ := Aside0.mk (below_step (by repeat (first | (with_reducible first | exact HB.out | apply below_alloc | apply pw_below_drewN | apply below_drew1 | refine below_set ?_ GE278.out) | exact HB.out)) hb); have n2_ := Aside0.mk (hbox); have n3_ := Aside0.mk ((by rw [hg]; exact (below_size (by repeat (first | (with_reducible first | exact HB.out | apply below_alloc | apply pw_below_drewN | apply below_drew1 | refine below_set ?_ GE278.out) | exact HB.out))) : w.heap.size ≤ gb279)); have n4_ := Aside0.mk ((by rw [hg]; exact (below_size (by repeat (first | (with_reducible first | exact HB.out | apply below_alloc | apply pw_below_drewN | apply below_drew1 | refine below_set ?_ GE278.out) | exact HB.out))) : w.heap.size ≤ gb279)); have n5_ := Aside0.mk ((by rw [hg]; exact Nat.ne_of_lt (blk_lt (bU BK278.out)) : gb278 ≠ gb279)); have n6_ := Aside0.mk ((by rw [hg]; exact Nat.ne_of_gt (blk_lt (bU BK278.out)) : gb279 ≠ gb278)); clear BK278; clear HB; have BK278 := n0_; have HB := n1_; have BK279 := n2_; have GW279 := n3_; have GE279 := n4_; have NB278_279 := n5_; have NB279_278 := n6_; clear n0_ n1_ n2_ n3_ n4_ n5_ n6_; clear hb hbox hg; have hnb88 := NB278_279.out; have hnc88 := NB279_278.out; have hcz89_0 : w87.cell? ⟨gb278, 0, none⟩ = some (.int .i64 a0_0) := (blk_cell BK278.out 0).trans rfl; have hcz89_1 : w87.cell? ⟨gb278, 1, none⟩ = some (.int .i64 a0_1) := (blk_cell BK278.out 1).trans rfl; have hcz89_2 : w87.cell? ⟨gb278, 2, none⟩ = some (.slice A0_2 l0_2.length c0_2) := (blk_cell BK278.out 2).trans rfl; have hfz89_0 := blk_frozen BK278.out 0; have hfz89_1 := blk_frozen BK278.out 1; have hfz89_2 := blk_frozen BK278.out 2) | ((with_reducible refine gate_callee (f := 33) rfl ?_); refine goesL_ (some 11) rfl rfl Try.func33 (by kernel_rfl) rfl #[.agg #[.int .i64 a0_0, .int .i64 a0_1, .slice A0_2 l0_2.length c0_2]] rfl (by (try simp only [List.map_toArray, List.map_cons, List.map_nil]); first | done | rfl | (simp only [List.length_drop, List.length_take]; rfl)) ?_; (with_reducible refine (incunableref05_Valid.calls k a0_0 a0_1 _ _ l0_2 false _ ?side1 ?side2 A3.out).mono ?_); (case side1 => repeat (first | exact (Kd.C_below HR0_2.out HB.out) | (with_reducible refine Kd.C_alloc ?_ _) | (with_reducible refine Kd.C_drewN ?_ _) | (with_reducible refine Kd.C_drew ?_))); (case side2 => exact HC0_2.out); rintro e w90 ⟨rfl, hb⟩; refine ⟨_, rfl, ?_⟩; have n0_ := Aside0.mk (blk_below (bU BK278.out) hb); have n1_ := Aside0.mk (blk_below (bU BK279.out) hb); have n2_ := Aside0.mk (below_step (by repeat (first | (with_reducible first | exact HB.out | apply below_alloc | apply pw_below_drewN | apply below_drew1 | refine below_set ?_ GE278.out | refine below_set ?_ GE279.out) | exact HB.out)) hb); clear BK278; clear BK279; clear HB; have BK278 := n0_; have BK279 := n1_; have HB := n2_; clear n0_ n1_ n2_; (try clear hb); (try clear hb2); (try clear hk); (try clear hi); have hcz91_0 : w90.cell? ⟨gb279, 0, none⟩ = some (.int .i64 0) := (blk_cell BK279.out 0).trans rfl; have hcz91_1 : w90.cell? ⟨gb279, 1, none⟩ = some (.int .i64 0) := (blk_cell BK279.out 1).trans rfl; have hcz91_2 : w90.cell? ⟨gb279, 2, none⟩ = some (.slice none 0 0) := (blk_cell BK279.out 2).trans rfl; have hfz91_0 := blk_frozen BK279.out 0; have hfz91_1 := blk_frozen BK279.out 1; have hfz91_2 := blk_frozen BK279.out 2))
    refine bodyPost_ret (results_ct rfl _ _ gb279 24 #[.int .i64 0, .int .i64 0, .slice none 0 0] (0, 0) _ rfl (by (with_reducible repeat (first | refine blk_drewN ?_ _ | refine blk_drew ?_ | refine blk_alloc ?_ _)); refine blk_put (cs := #[.int .i64 0, .int .i64 0, .slice none 0 0]) ?_ 2 _ rfl; (with_reducible repeat (first | refine blk_drewN ?_ _ | refine blk_drew ?_ | refine blk_alloc ?_ _)); refine blk_put (cs := #[.int .i64 0, .int .i64 0, .slice none 0 0]) ?_ 1 _ rfl; (with_reducible repeat (first | refine blk_drewN ?_ _ | refine blk_drew ?_ | refine blk_alloc ?_ _)); refine blk_put (cs := #[.int .i64 0, .int .i64 0, .slice none 0 0]) ?_ 0 _ rfl; exact bU BK279.out) Try.underlying24 rfl (by kernel_rfl)) rfl ?_
    exact ⟨_, by first | rfl | (simp [errW_none, errW_some] <;> rfl) | (simp [*, errW_none, errW_some] <;> rfl), by first | exact Kd.R_nil _ _ _ _ _ | exact Kd.N_nil _ _ _ _ _ | exact Kd.V_nil _ _ _ _ _ | exact Kd.Q_nil _ _ _ _ _ | exact Kd.S_nil _ _ _ _ _, by repeat (first | (with_reducible first | exact HB.out | apply below_alloc | apply pw_below_drewN | apply below_drew1 | refine below_set ?_ GE278.out | refine below_set ?_ GE279.out) | exact HB.out)⟩

end Go.Proofs.Ytaflekobfbgedaa.PShapeHoles
