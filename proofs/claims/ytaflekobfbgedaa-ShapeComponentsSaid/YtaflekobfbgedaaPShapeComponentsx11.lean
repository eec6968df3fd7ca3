-- Written by a program of this session (wip/tools/myprint.py) over the kit's print. Not trusted: Lean checks it.
import Derived.Test.YtaflekobfbgedaaPShapeComponentsx0
import Derived.Test.YtaflekobfbgedaaPShapeComponentsx1
import Derived.Test.YtaflekobfbgedaaPShapeComponentsx10
namespace Go.Proofs.Ytaflekobfbgedaa.PShapeComponents
open Go.RowKit Go.Proofs.YtaflekobfbgedaaW.PrintWords Go.Proofs.YtaflekobfbgedaaW.PrintLast Go.Proofs.YtaflekobfbgedaaW.PrintMore
attribute [local go_sem] max2_int min2_int max_two min_two max_three min_three max_four min_four   -- for this text's walks alone
set_option linter.unusedVariables false
set_option linter.unusedSimpArgs false

/-! ### bitmap_Draw: function 57 -/
mutual
def bitmap_Draw.j0 : Nat → Int → Int → Int → Bool → Int → Int → List Int → Int → Int → List Int → Option (Int × Int × List Int × Int)
 | 0, _, _, _, _, _, _, _, _, _, _ => none
 | k + 1, x2, x3, x4, x18, x320000, x320001, x320002, x321000, x321001, x321002 => if x18 = true then (some (0, 0, ([] : List Int), 30)) else (if x4 < 0 then (some (0, 0, ([] : List Int), 2)) else (if x4 > 4 then (some (0, 0, ([] : List Int), 2)) else ((bitmap_isShift.f x2 x3).bind fun t324 => (if t324 = true then ((bitmap_clone.f x320000 x320001 x320002).bind fun bt325 => (bitmap_Draw.l0 k x2 x3 x4 x321001 0 x320000 x320001 x320002 x321000 x321001 x321002 bt325.1 bt325.2.1 bt325.2.2)) else (some (0, 0, ([] : List Int), 2))))))
def bitmap_Draw.l0 : Nat → Int → Int → Int → Int → Int → Int → Int → List Int → Int → Int → List Int → Int → Int → List Int → Option (Int × Int × List Int × Int)
 | 0, _, _, _, _, _, _, _, _, _, _, _, _, _, _ => none
 | k + 1, x2, x3, x4, x45, x46, x320000, x320001, x320002, x321000, x321001, x321002, x331000, x331001, x331002 => if x46 < x45 then (bitmap_Draw.l1 k x2 x3 x4 x46 x45 x46 x321000 0 x320000 x320001 x320002 x321000 x321001 x321002 x331000 x331001 x331002) else (some (x331000, x331001, x331002, 0))
def bitmap_Draw.l1 : Nat → Int → Int → Int → Int → Int → Int → Int → Int → Int → Int → List Int → Int → Int → List Int → Int → Int → List Int → Option (Int × Int × List Int × Int)
 | 0, _, _, _, _, _, _, _, _, _, _, _, _, _, _, _, _, _ => none
 | k + 1, x2, x3, x4, x13, x45, x46, x50, x51, x320000, x320001, x320002, x321000, x321001, x321002, x331000, x331001, x331002 => if x51 < x50 then (if (wrap64 (x2 + x51)) ≥ 0 then (if (wrap64 (x3 + x13)) ≥ 0 then (if (wrap64 (x2 + x51)) < x320000 then (bitmap_Draw.j3 k x2 x3 x4 x13 x51 (wrap64 (x2 + x51)) (wrap64 (x3 + x13)) x45 x46 x50 x51 (decide ((wrap64 (x3 + x13)) < x320001)) x320000 x320001 x320002 x321000 x321001 x321002 x331000 x331001 x331002) else (bitmap_Draw.j3 k x2 x3 x4 x13 x51 (wrap64 (x2 + x51)) (wrap64 (x3 + x13)) x45 x46 x50 x51 false x320000 x320001 x320002 x321000 x321001 x321002 x331000 x331001 x331002)) else (bitmap_Draw.j3 k x2 x3 x4 x13 x51 (wrap64 (x2 + x51)) (wrap64 (x3 + x13)) x45 x46 x50 x51 false x320000 x320001 x320002 x321000 x321001 x321002 x331000 x331001 x331002)) else (bitmap_Draw.j3 k x2 x3 x4 x13 x51 (wrap64 (x2 + x51)) (wrap64 (x3 + x13)) x45 x46 x50 x51 false x320000 x320001 x320002 x321000 x321001 x321002 x331000 x331001 x331002)) else (bitmap_Draw.l0 k x2 x3 x4 x45 (wrap64 (x46 + 1)) x320000 x320001 x320002 x321000 x321001 x321002 x331000 x331001 x331002)
def bitmap_Draw.j3 : Nat → Int → Int → Int → Int → Int → Int → Int → Int → Int → Int → Int → Bool → Int → Int → List Int → Int → Int → List Int → Int → Int → List Int → Option (Int × Int × List Int × Int)
 | 0, _, _, _, _, _, _, _, _, _, _, _, _, _, _, _, _, _, _, _, _, _ => none
 | k + 1, x2, x3, x4, x13, x14, x15, x16, x45, x46, x50, x51, x77, x320000, x320001, x320002, x321000, x321001, x321002, x331000, x331001, x331002 => if x77 = true then (if 0 ≤ (wrap64 ((wrap64 (x16 * x320000)) + x15)) then (if (wrap64 ((wrap64 (x16 * x320000)) + x15)) < (x331002.length : Int) then ((bitmap_at.f x321000 x321001 x321002 x14 x13).bind fun t331 => ((bitmap_combine.f (rd x331002 (wrap64 ((wrap64 (x16 * x320000)) + x15))) t331 x4).bind fun t332 => (bitmap_Draw.l1 k x2 x3 x4 x13 x45 x46 x50 (wrap64 (x51 + 1)) x320000 x320001 x320002 x321000 x321001 x321002 x331000 x331001 (x331002.set ((wrap64 ((wrap64 (x16 * x320000)) + x15)) : Int).toNat t332)))) else (none)) else (none)) else (bitmap_Draw.l1 k x2 x3 x4 x13 x45 x46 x50 (wrap64 (x51 + 1)) x320000 x320001 x320002 x321000 x321001 x321002 x331000 x331001 x331002)
end
def bitmap_Draw.f (k : Nat) (a0_0 : Int) (a0_1 : Int) (l0_2 : List Int) (a1_0 : Int) (a1_1 : Int) (l1_2 : List Int) (a2 : Int) (a3 : Int) (a4 : Int) : Option (Int × Int × List Int × Int) := (bitmap_Valid.f k a0_0 a0_1 l0_2).bind fun t322 => (if t322 = true then ((bitmap_Valid.f k a1_0 a1_1 l1_2).bind fun t323 => (bitmap_Draw.j0 k a2 a3 a4 (!t323) a0_0 a0_1 l0_2 a1_0 a1_1 l1_2)) else (bitmap_Draw.j0 k a2 a3 a4 true a0_0 a0_1 l0_2 a1_0 a1_1 l1_2))
theorem bitmap_Draw.mono_l : ∀ k, (∀ y0 y1 y2 y3 y4 y5 y6 y7 y8 y9, LeO (bitmap_Draw.j0 k y0 y1 y2 y3 y4 y5 y6 y7 y8 y9) (bitmap_Draw.j0 (k + 1) y0 y1 y2 y3 y4 y5 y6 y7 y8 y9)) ∧ (∀ y0 y1 y2 y3 y4 y5 y6 y7 y8 y9 y10 y11 y12 y13, LeO (bitmap_Draw.l0 k y0 y1 y2 y3 y4 y5 y6 y7 y8 y9 y10 y11 y12 y13) (bitmap_Draw.l0 (k + 1) y0 y1 y2 y3 y4 y5 y6 y7 y8 y9 y10 y11 y12 y13)) ∧ (∀ y0 y1 y2 y3 y4 y5 y6 y7 y8 y9 y10 y11 y12 y13 y14 y15 y16, LeO (bitmap_Draw.l1 k y0 y1 y2 y3 y4 y5 y6 y7 y8 y9 y10 y11 y12 y13 y14 y15 y16) (bitmap_Draw.l1 (k + 1) y0 y1 y2 y3 y4 y5 y6 y7 y8 y9 y10 y11 y12 y13 y14 y15 y16)) ∧ (∀ y0 y1 y2 y3 y4 y5 y6 y7 y8 y9 y10 y11 y12 y13 y14 y15 y16 y17 y18 y19 y20, LeO (bitmap_Draw.j3 k y0 y1 y2 y3 y4 y5 y6 y7 y8 y9 y10 y11 y12 y13 y14 y15 y16 y17 y18 y19 y20) (bitmap_Draw.j3 (k + 1) y0 y1 y2 y3 y4 y5 y6 y7 y8 y9 y10 y11 y12 y13 y14 y15 y16 y17 y18 y19 y20))
 | 0 => ⟨fun _ _ _ _ _ _ _ _ _ _ r h => by simp [bitmap_Draw.j0] at h, fun _ _ _ _ _ _ _ _ _ _ _ _ _ _ r h => by simp [bitmap_Draw.l0] at h, fun _ _ _ _ _ _ _ _ _ _ _ _ _ _ _ _ _ r h => by simp [bitmap_Draw.l1] at h, fun _ _ _ _ _ _ _ _ _ _ _ _ _ _ _ _ _ _ _ _ _ r h => by simp [bitmap_Draw.j3] at h⟩
 | k + 1 => by
  obtain ⟨ih0, ih1, ih2, ih3⟩ := bitmap_Draw.mono_l k
  refine ⟨?_, ?_, ?_, ?_⟩
  ·intro y0 y1 y2 y3 y4 y5 y6 y7 y8 y9
   unfold bitmap_Draw.j0
   repeat' first
   | (with_reducible exact ih0 _ _ _ _ _ _ _ _ _ _)
   | (with_reducible exact ih1 _ _ _ _ _ _ _ _ _ _ _ _ _ _)
   | (with_reducible exact ih2 _ _ _ _ _ _ _ _ _ _ _ _ _ _ _ _ _)
   | (with_reducible exact ih3 _ _ _ _ _ _ _ _ _ _ _ _ _ _ _ _ _ _ _ _ _)
   | (with_reducible exact bitmap_Valid.mono _ _ _ _)
   | (with_reducible exact LeO.refl _)
   | (with_reducible exact LeO.none _)
   | (with_reducible refine LeO.ite ?_ ?_)
   | (with_reducible refine LeO.bind ?_ (fun _ => ?_))
   | exact ih0 _ _ _ _ _ _ _ _ _ _
   | exact ih1 _ _ _ _ _ _ _ _ _ _ _ _ _ _
   | exact ih2 _ _ _ _ _ _ _ _ _ _ _ _ _ _ _ _ _
   | exact ih3 _ _ _ _ _ _ _ _ _ _ _ _ _ _ _ _ _ _ _ _ _
   | exact bitmap_Valid.mono _ _ _ _
   | exact LeO.none _
   | refine LeO.ite ?_ ?_
   | refine LeO.bind ?_ (fun _ => ?_)
  ·intro y0 y1 y2 y3 y4 y5 y6 y7 y8 y9 y10 y11 y12 y13
   unfold bitmap_Draw.l0
   repeat' first
   | (with_reducible exact ih0 _ _ _ _ _ _ _ _ _ _)
   | (with_reducible exact ih1 _ _ _ _ _ _ _ _ _ _ _ _ _ _)
   | (with_reducible exact ih2 _ _ _ _ _ _ _ _ _ _ _ _ _ _ _ _ _)
   | (with_reducible exact ih3 _ _ _ _ _ _ _ _ _ _ _ _ _ _ _ _ _ _ _ _ _)
   | (with_reducible exact bitmap_Valid.mono _ _ _ _)
   | (with_reducible exact LeO.refl _)
   | (with_reducible exact LeO.none _)
   | (with_reducible refine LeO.ite ?_ ?_)
   | (with_reducible refine LeO.bind ?_ (fun _ => ?_))
   | exact ih0 _ _ _ _ _ _ _ _ _ _
   | exact ih1 _ _ _ _ _ _ _ _ _ _ _ _ _ _
   | exact ih2 _ _ _ _ _ _ _ _ _ _ _ _ _ _ _ _ _
   | exact ih3 _ _ _ _ _ _ _ _ _ _ _ _ _ _ _ _ _ _ _ _ _
   | exact bitmap_Valid.mono _ _ _ _
   | exact LeO.none _
   | refine LeO.ite ?_ ?_
   | refine LeO.bind ?_ (fun _ => ?_)
  ·intro y0 y1 y2 y3 y4 y5 y6 y7 y8 y9 y10 y11 y12 y13 y14 y15 y16
   unfold bitmap_Draw.l1
   repeat' first
   | (with_reducible exact ih0 _ _ _ _ _ _ _ _ _ _)
   | (with_reducible exact ih1 _ _ _ _ _ _ _ _ _ _ _ _ _ _)
   | (with_reducible exact ih2 _ _ _ _ _ _ _ _ _ _ _ _ _ _ _ _ _)
   | (with_reducible exact ih3 _ _ _ _ _ _ _ _ _ _ _ _ _ _ _ _ _ _ _ _ _)
   | (with_reducible exact bitmap_Valid.mono _ _ _ _)
   | (with_reducible exact LeO.refl _)
   | (with_reducible exact LeO.none _)
   | (with_reducible refine LeO.ite ?_ ?_)
   | (with_reducible refine LeO.bind ?_ (fun _ => ?_))
   | exact ih0 _ _ _ _ _ _ _ _ _ _
   | exact ih1 _ _ _ _ _ _ _ _ _ _ _ _ _ _
   | exact ih2 _ _ _ _ _ _ _ _ _ _ _ _ _ _ _ _ _
   | exact ih3 _ _ _ _ _ _ _ _ _ _ _ _ _ _ _ _ _ _ _ _ _
   | exact bitmap_Valid.mono _ _ _ _
   | exact LeO.none _
   | refine LeO.ite ?_ ?_
   | refine LeO.bind ?_ (fun _ => ?_)
  ·intro y0 y1 y2 y3 y4 y5 y6 y7 y8 y9 y10 y11 y12 y13 y14 y15 y16 y17 y18 y19 y20
   unfold bitmap_Draw.j3
   repeat' first
   | (with_reducible exact ih0 _ _ _ _ _ _ _ _ _ _)
   | (with_reducible exact ih1 _ _ _ _ _ _ _ _ _ _ _ _ _ _)
   | (with_reducible exact ih2 _ _ _ _ _ _ _ _ _ _ _ _ _ _ _ _ _)
   | (with_reducible exact ih3 _ _ _ _ _ _ _ _ _ _ _ _ _ _ _ _ _ _ _ _ _)
   | (with_reducible exact bitmap_Valid.mono _ _ _ _)
   | (with_reducible exact LeO.refl _)
   | (with_reducible exact LeO.none _)
   | (with_reducible refine LeO.ite ?_ ?_)
   | (with_reducible refine LeO.bind ?_ (fun _ => ?_))
   | exact ih0 _ _ _ _ _ _ _ _ _ _
   | exact ih1 _ _ _ _ _ _ _ _ _ _ _ _ _ _
   | exact ih2 _ _ _ _ _ _ _ _ _ _ _ _ _ _ _ _ _
   | exact ih3 _ _ _ _ _ _ _ _ _ _ _ _ _ _ _ _ _ _ _ _ _
   | exact bitmap_Valid.mono _ _ _ _
   | exact LeO.none _
   | refine LeO.ite ?_ ?_
   | refine LeO.bind ?_ (fun _ => ?_)
theorem bitmap_Draw.mono : ∀ a0 a1 a2 a3 a4 a5 a6 a7 a8 k, LeO (bitmap_Draw.f k a0 a1 a2 a3 a4 a5 a6 a7 a8) (bitmap_Draw.f (k + 1) a0 a1 a2 a3 a4 a5 a6 a7 a8) := by
 intro a0 a1 a2 a3 a4 a5 a6 a7 a8 k
 obtain ⟨ih0, ih1, ih2, ih3⟩ := bitmap_Draw.mono_l k
 unfold bitmap_Draw.f
 repeat' first
   | (with_reducible exact ih0 _ _ _ _ _ _ _ _ _ _)
   | (with_reducible exact ih1 _ _ _ _ _ _ _ _ _ _ _ _ _ _)
   | (with_reducible exact ih2 _ _ _ _ _ _ _ _ _ _ _ _ _ _ _ _ _)
   | (with_reducible exact ih3 _ _ _ _ _ _ _ _ _ _ _ _ _ _ _ _ _ _ _ _ _)
   | (with_reducible exact bitmap_Valid.mono _ _ _ _)
   | (with_reducible exact LeO.refl _)
   | (with_reducible exact LeO.none _)
   | (with_reducible refine LeO.ite ?_ ?_)
   | (with_reducible refine LeO.bind ?_ (fun _ => ?_))
   | exact ih0 _ _ _ _ _ _ _ _ _ _
   | exact ih1 _ _ _ _ _ _ _ _ _ _ _ _ _ _
   | exact ih2 _ _ _ _ _ _ _ _ _ _ _ _ _ _ _ _ _
   | exact ih3 _ _ _ _ _ _ _ _ _ _ _ _ _ _ _ _ _ _ _ _ _
   | exact bitmap_Valid.mono _ _ _ _
   | exact LeO.none _
   | refine LeO.ite ?_ ?_
   | refine LeO.bind ?_ (fun _ => ?_)
def bitmap_Draw.T15 : Bool × List (List Nat × List Nat) := (true, [([], []), ([], []), ([1], [1]), ([2], [2]), ([], []), ([], []), ([], []), ([4, 5, 6], [4, 5, 6]), ([], []), ([3, 7, 8, 7], [3, 7, 8]), ([0, 0, 1, 2, 3, 4, 5, 6, 7, 8, 9], [0]), ([10, 9, 9, 0, 1, 2, 3, 4, 5, 6, 7, 8, 9], [9, 10])])
def bitmap_Draw.B15 : List Nat := [0, 0, 2, 6, 0, 0, 0, 112, 0, 510, 1023, 2047]
theorem bitmap_Draw.tab15 : rtab .any (opsOf Try.f57 15) = bitmap_Draw.T15 := by kernel_rfl
theorem bitmap_Draw.bits15 : waitsOk bitmap_Draw.T15.2 bitmap_Draw.B15 = true := by kernel_rfl
set_option maxHeartbeats 8000000 in
set_option maxRecDepth 100000 in
theorem bitmap_Draw.calls (k : Nat) (a0_0 : Int) (a0_1 : Int) (A0_2 : Option Addr) (c0_2 : Nat) (l0_2 : List Int) (a1_0 : Int) (a1_1 : Int) (A1_2 : Option Addr) (c1_2 : Nat) (l1_2 : List Int) (a2 : Int) (a3 : Int) (a4 : Int) (r1 : Int) (r2 : Int) (r3 : List Int) (r4 : Int) (w : World) (hr0_2 : Kd.C (Kd.int .u8) w A0_2 l0_2.length l0_2) (hc0_2 : l0_2.length ≤ c0_2) (hr1_2 : Kd.C (Kd.int .u8) w A1_2 l1_2.length l1_2) (hc1_2 : l1_2.length ≤ c1_2) (h : bitmap_Draw.f k a0_0 a0_1 l0_2 a1_0 a1_1 l1_2 a2 a3 a4 = some (r1, r2, r3, r4)) :
  Calls Try.prog 57 #[.agg #[.int .i64 a0_0, .int .i64 a0_1, .slice A0_2 l0_2.length c0_2], .agg #[.int .i64 a1_0, .int .i64 a1_1, .slice A1_2 l1_2.length c1_2], .int .i64 a2, .int .i64 a3, .int .i64 a4] w fun e w' => ∃ v2_ : Value, e = .returned (.tuple #[.agg #[.int .i64 r1, .int .i64 r2, v2_], .int .i64 r4]) ∧ Kd.R (Kd.int .u8) 5 w' w.heap.size (fun _ => True) v2_ r3 ∧ Below w.heap.size w w' := by
 have hu24 := Try.underlying24
 have HR0_2 := Aside0.mk hr0_2
 have HC0_2 := Aside0.mk hc0_2
 clear hr0_2 hc0_2
 have HR1_2 := Aside0.mk hr1_2
 have HC1_2 := Aside0.mk hc1_2
 clear hr1_2 hc1_2
 have HB := Aside0.mk (Below.refl w.heap.size w)
 have H : ((bitmap_Valid.f k a0_0 a0_1 l0_2).bind fun t322 => (if t322 = true then ((bitmap_Valid.f k a1_0 a1_1 l1_2).bind fun t323 => (bitmap_Draw.j0 k a2 a3 a4 (!t323) a0_0 a0_1 l0_2 a1_0 a1_1 l1_2)) else (bitmap_Draw.j0 k a2 a3 a4 true a0_0 a0_1 l0_2 a1_0 a1_1 l1_2))) = some (r1, r2, r3, r4) := h
 clear h
 have HC6 := Aside0.mk H
 clear H
 go_enter Try.func57, Try.ntmps57
 go_upto_region 1 with (first | ((with_reducible refine gate_dst (N := 5) rfl ?_); refine box_event ?hg (N := 5) ?hd (cs := #[.int .i64 a0_0, .int .i64 a0_1, .slice A0_2 l0_2.length c0_2]) (t := 24) ?hr ?_; (case hd => rfl); (case hg => rfl); (case hr => first | (go_simp; done) | (go_simp; rfl)); intro gb319 hg w7 hbox hb; have n0_ := Aside0.mk (below_step (by repeat (first | (with_reducible first | exact HB.out | apply below_alloc | apply pw_below_drewN | apply below_drew1) | exact HB.out)) hb); have n1_ := Aside0.mk (hbox); have n2_ := Aside0.mk ((by rw [hg]; exact (below_size (by repeat (first | (with_reducible first | exact HB.out | apply below_alloc | apply pw_below_drewN | apply below_drew1) | exact HB.out))) : w.heap.size ≤ gb319)); have n3_ := Aside0.mk ((by rw [hg]; exact (below_size (by repeat (first | (with_reducible first | exact HB.out | apply below_alloc | apply pw_below_drewN | apply below_drew1) | exact HB.out))) : w.heap.size ≤ gb319)); clear HB; have HB := n0_; have BK319 := n1_; have GW319 := n2_; have GE319 := n3_; clear n0_ n1_ n2_ n3_; clear hb hbox hg) | ((with_reducible refine gate_dst (N := 6) rfl ?_); refine box_event ?hg (N := 6) ?hd (cs := #[.int .i64 a1_0, .int .i64 a1_1, .slice A1_2 l1_2.length c1_2]) (t := 24) ?hr ?_; (case hd => rfl); (case hg => rfl); (case hr => first | (go_simp; done) | (go_simp; rfl)); intro gb320 hg w8 hbox hb; have n0_ := Aside0.mk (blk_below (bU BK319.out) hb); have n1_ := Aside0.mk (below_step (by repeat (first | (with_reducible first | exact HB.out | apply below_alloc | apply pw_below_drewN | apply below_drew1 | refine below_set ?_ GE319.out) | exact HB.out)) hb); have n2_ := Aside0.mk (hbox); have n3_ := Aside0.mk ((by rw [hg]; exact (below_size (by repeat (first | (with_reducible first | exact HB.out | apply below_alloc | apply pw_below_drewN | apply below_drew1 | refine below_set ?_ GE319.out) | exact HB.out))) : w.heap.size ≤ gb320)); have n4_ := Aside0.mk ((by rw [hg]; exact (below_size (by repeat (first | (with_reducible first | exact HB.out | apply below_alloc | apply pw_below_drewN | apply below_drew1 | refine below_set ?_ GE319.out) | exact HB.out))) : w.heap.size ≤ gb320)); have n5_ := Aside0.mk ((by rw [hg]; exact Nat.ne_of_lt (blk_lt (bU BK319.out)) : gb319 ≠ gb320)); have n6_ := Aside0.mk ((by rw [hg]; exact Nat.ne_of_gt (blk_lt (bU BK319.out)) : gb320 ≠ gb319)); clear BK319; clear HB; have BK319 := n0_; have HB := n1_; have BK320 := n2_; have GW320 := n3_; have GE320 := n4_; have NB319_320 := n5_; have NB320_319 := n6_; clear n0_ n1_ n2_ n3_ n4_ n5_ n6_; clear hb hbox hg) | ((with_reducible refine gate_dst (N := 10) rfl ?_); refine box_event ?hg (N := 10) ?hd (cs := #[.int .i64 0, .int .i64 0, .slice none 0 0]) (t := 24) ?hr ?_; (case hd => rfl); (case hg => rfl); (case hr => first | (go_simp; done) | (go_simp; rfl)); intro gb321 hg w9 hbox hb; have n0_ := Aside0.mk (blk_below (bU BK319.out) hb); have n1_ := Aside0.mk (blk_below (bU BK320.out) hb); have n2_ := Aside0.mk (below_step (by repeat (first | (with_reducible first | exact HB.out | apply below_alloc | apply pw_below_drewN | apply below_drew1 | refine below_set ?_ GE319.out | refine below_set ?_ GE320.out) | exact HB.out)) hb); have n3_ := Aside0.mk (hbox); have n4_ := Aside0.mk ((by rw [hg]; exact (below_size (by repeat (first | (with_reducible first | exact HB.out | apply below_alloc | apply pw_below_drewN | apply below_drew1 | refine below_set ?_ GE319.out | refine below_set ?_ GE320.out) | exact HB.out))) : w.heap.size ≤ gb321)); have n5_ := Aside0.mk ((by rw [hg]; exact (below_size (by repeat (first | (with_reducible first | exact HB.out | apply below_alloc | apply pw_below_drewN | apply below_drew1 | refine below_set ?_ GE319.out | refine below_set ?_ GE320.out) | exact HB.out))) : w.heap.size ≤ gb321)); have n6_ := Aside0.mk ((by rw [hg]; exact Nat.ne_of_lt (blk_lt (bU BK319.out)) : gb319 ≠ gb321)); have n7_ := Aside0.mk ((by rw [hg]; exact Nat.ne_of_gt (blk_lt (bU BK319.out)) : gb321 ≠ gb319)); have n8_ := Aside0.mk ((by rw [hg]; exact Nat.ne_of_lt (blk_lt (bU BK320.out)) : gb320 ≠ gb321)); have n9_ := Aside0.mk ((by rw [hg]; exact Nat.ne_of_gt (blk_lt (bU BK320.out)) : gb321 ≠ gb320)); clear BK319; clear BK320; clear HB; have BK319 := n0_; have BK320 := n1_; have HB := n2_; have BK321 := n3_; have GW321 := n4_; have GE321 := n5_; have NB319_321 := n6_; have NB321_319 := n7_; have NB320_321 := n8_; have NB321_320 := n9_; clear n0_ n1_ n2_ n3_ n4_ n5_ n6_ n7_ n8_ n9_; clear hb hbox hg))
 (try simp only [Act.put, List.setIfInBounds_toArray, List.set_cons_zero, List.set_cons_succ])
 go_cut [18] (fun v18 wc => ∃ (kq : Nat) (x18_5 : Bool), v18 = .bool x18_5 ∧ Aside0 (bitmap_Draw.j0 kq a2 a3 a4 x18_5 a0_0 a0_1 l0_2 a1_0 a1_1 l1_2 = some (r1, r2, r3, r4)) ∧ Aside0 (kq ≤ k) ∧ Aside0 (wc.heap[gb319]? = some (.cells #[.int .i64 a0_0, .int .i64 a0_1, (.slice A0_2 l0_2.length c0_2)] 24 (0, 0))) ∧ Aside0 (wc.heap[gb320]? = some (.cells #[.int .i64 a1_0, .int .i64 a1_1, (.slice A1_2 l1_2.length c1_2)] 24 (0, 0))) ∧ Aside0 (wc.heap[gb321]? = some (.cells #[.int .i64 0, .int .i64 0, (.slice none 0 0)] 24 (0, 0))) ∧ Aside0 (Below w.heap.size w wc))
 case first =>
  have H := HC6.out
  clear HC6
  replace H := Option.bind_eq_some_iff.mp H
  obtain ⟨t322, A100, H⟩ := H
  replace H : (if t322 = true then ((bitmap_Valid.f k a1_0 a1_1 l1_2).bind fun t323 => (bitmap_Draw.j0 k a2 a3 a4 (!t323) a0_0 a0_1 l0_2 a1_0 a1_1 l1_2)) else (bitmap_Draw.j0 k a2 a3 a4 true a0_0 a0_1 l0_2 a1_0 a1_1 l1_2)) = some (r1, r2, r3, r4) := H
  have A10 := Aside0.mk A100
  clear A100
  by_cases c11 : t322 = true
  ·subst c11
   have H1 : ((bitmap_Valid.f k a1_0 a1_1 l1_2).bind fun t323 => (bitmap_Draw.j0 k a2 a3 a4 (!t323) a0_0 a0_1 l0_2 a1_0 a1_1 l1_2)) = some (r1, r2, r3, r4) := by rw [if_pos rfl] at H; exact H
   clear H
   have H := H1
   clear H1
   replace H := Option.bind_eq_some_iff.mp H
   obtain ⟨t323, A120, H⟩ := H
   replace H : (bitmap_Draw.j0 k a2 a3 a4 (!t323) a0_0 a0_1 l0_2 a1_0 a1_1 l1_2) = some (r1, r2, r3, r4) := H
   have A12 := Aside0.mk A120
   clear A120
   have H' := Aside0.mk H
   clear H
   have hnb13 := NB319_320.out
   have hnc13 := NB320_319.out
   have hnb14 := NB319_321.out
   have hnc14 := NB321_319.out
   have hcz15_0 : w9.cell? ⟨gb319, 0, none⟩ = some (.int .i64 a0_0) := (blk_cell BK319.out 0).trans rfl
   have hcz15_1 : w9.cell? ⟨gb319, 1, none⟩ = some (.int .i64 a0_1) := (blk_cell BK319.out 1).trans rfl
   have hcz15_2 : w9.cell? ⟨gb319, 2, none⟩ = some (.slice A0_2 l0_2.length c0_2) := (blk_cell BK319.out 2).trans rfl
   have hfz15_0 := blk_frozen BK319.out 0
   have hfz15_1 := blk_frozen BK319.out 1
   have hfz15_2 := blk_frozen BK319.out 2
   go_wp2_with (first | ((with_reducible refine gate_callee (f := 38) rfl ?_); refine goesL_ (some 20) rfl rfl Try.func38 (by kernel_rfl) rfl #[.agg #[.int .i64 a0_0, .int .i64 a0_1, .slice A0_2 l0_2.length c0_2]] rfl (by (try simp only [List.map_toArray, List.map_cons, List.map_nil]); first | done | rfl | (simp only [List.length_drop, List.length_take]; rfl)) ?_; (with_reducible refine (bitmap_Valid.calls k a0_0 a0_1 _ _ l0_2 true _ ?side1 ?side2 A10.out).mono ?_); (case side1 => repeat (first | exact (Kd.C_below HR0_2.out HB.out) | (with_reducible refine Kd.C_alloc ?_ _) | (with_reducible refine Kd.C_drewN ?_ _) | (with_reducible refine Kd.C_drew ?_))); (case side2 => exact HC0_2.out); rintro e w16 ⟨rfl, hb⟩; refine ⟨_, rfl, ?_⟩; have n0_ := Aside0.mk (blk_below (bU BK319.out) hb); have n1_ := Aside0.mk (blk_below (bU BK320.out) hb); have n2_ := Aside0.mk (blk_below (bU BK321.out) hb); have n3_ := Aside0.mk (below_step (by repeat (first | (with_reducible first | exact HB.out | apply below_alloc | apply pw_below_drewN | apply below_drew1 | refine below_set ?_ GE319.out | refine below_set ?_ GE320.out | refine below_set ?_ GE321.out) | exact HB.out)) hb); clear BK319; clear BK320; clear BK321; clear HB; have BK319 := n0_; have BK320 := n1_; have BK321 := n2_; have HB := n3_; clear n0_ n1_ n2_ n3_; (try clear hb); (try clear hb2); (try clear hk); (try clear hi); have hnb17 := NB320_321.out; have hnc17 := NB321_320.out; have hcz18_0 : w16.cell? ⟨gb320, 0, none⟩ = some (.int .i64 a1_0) := (blk_cell BK320.out 0).trans rfl; have hcz18_1 : w16.cell? ⟨gb320, 1, none⟩ = some (.int .i64 a1_1) := (blk_cell BK320.out 1).trans rfl; have hcz18_2 : w16.cell? ⟨gb320, 2, none⟩ = some (.slice A1_2 l1_2.length c1_2) := (blk_cell BK320.out 2).trans rfl; have hfz18_0 := blk_frozen BK320.out 0; have hfz18_1 := blk_frozen BK320.out 1; have hfz18_2 := blk_frozen BK320.out 2) | (go_at_call 38; (with_reducible refine (bitmap_Valid.calls k a1_0 a1_1 _ _ l1_2 t323 _ ?side1 ?side2 A12.out).mono ?_); (case side1 => repeat (first | exact (Kd.C_below HR1_2.out HB.out) | (with_reducible refine Kd.C_alloc ?_ _) | (with_reducible refine Kd.C_drewN ?_ _) | (with_reducible refine Kd.C_drew ?_))); (case side2 => exact HC1_2.out); rintro e w19 ⟨rfl, hb⟩; have n0_ := Aside0.mk (blk_below (bU BK319.out) hb); have n1_ := Aside0.mk (blk_below (bU BK320.out) hb); have n2_ := Aside0.mk (blk_below (bU BK321.out) hb); have n3_ := Aside0.mk (below_step (by repeat (first | (with_reducible first | exact HB.out | apply below_alloc | apply pw_below_drewN | apply below_drew1 | refine below_set ?_ GE319.out | refine below_set ?_ GE320.out | refine below_set ?_ GE321.out) | exact HB.out)) hb); clear BK319; clear BK320; clear BK321; clear HB; have BK319 := n0_; have BK320 := n1_; have BK321 := n2_; have HB := n3_; clear n0_ n1_ n2_ n3_; (try clear hb); (try clear hb2); (try clear hk); (try clear hi)))
   go_meet
   case rel => exact ⟨_, (!t323), (by first | rfl | (simp; done) | (simp [*]; done)), H', ⟨by first | omega | exact Nat.le_refl _⟩, ⟨by exact bU BK319.out⟩, ⟨by exact bU BK320.out⟩, ⟨by exact bU BK321.out⟩, ⟨by repeat (first | (with_reducible first | exact HB.out | apply below_alloc | apply pw_below_drewN | apply below_drew1 | refine below_set ?_ GE319.out | refine below_set ?_ GE320.out | refine below_set ?_ GE321.out) | exact HB.out)⟩⟩
  ·replace c11 := Bool.eq_false_iff.mpr c11
   subst c11
   have H1 : (bitmap_Draw.j0 k a2 a3 a4 true a0_0 a0_1 l0_2 a1_0 a1_1 l1_2) = some (r1, r2, r3, r4) := by rw [if_neg (show ¬ (false = true) by decide)] at H; exact H
   clear H
   have H := H1
   clear H1
   have H' := Aside0.mk H
   clear H
   have hnb20 := NB319_320.out
   have hnc20 := NB320_319.out
   have hnb21 := NB319_321.out
   have hnc21 := NB321_319.out
   have hcz22_0 : w9.cell? ⟨gb319, 0, none⟩ = some (.int .i64 a0_0) := (blk_cell BK319.out 0).trans rfl
   have hcz22_1 : w9.cell? ⟨gb319, 1, none⟩ = some (.int .i64 a0_1) := (blk_cell BK319.out 1).trans rfl
   have hcz22_2 : w9.cell? ⟨gb319, 2, none⟩ = some (.slice A0_2 l0_2.length c0_2) := (blk_cell BK319.out 2).trans rfl
   have hfz22_0 := blk_frozen BK319.out 0
   have hfz22_1 := blk_frozen BK319.out 1
   have hfz22_2 := blk_frozen BK319.out 2
   go_wp2_with (first | ((with_reducible refine gate_callee (f := 38) rfl ?_); refine goesL_ (some 20) rfl rfl Try.func38 (by kernel_rfl) rfl #[.agg #[.int .i64 a0_0, .int .i64 a0_1, .slice A0_2 l0_2.length c0_2]] rfl (by (try simp only [List.map_toArray, List.map_cons, List.map_nil]); first | done | rfl | (simp only [List.length_drop, List.length_take]; rfl)) ?_; (with_reducible refine (bitmap_Valid.calls k a0_0 a0_1 _ _ l0_2 false _ ?side1 ?side2 A10.out).mono ?_); (case side1 => repeat (first | exact (Kd.C_below HR0_2.out HB.out) | (with_reducible refine Kd.C_alloc ?_ _) | (with_reducible refine Kd.C_drewN ?_ _) | (with_reducible refine Kd.C_drew ?_))); (case side2 => exact HC0_2.out); rintro e w23 ⟨rfl, hb⟩; refine ⟨_, rfl, ?_⟩; have n0_ := Aside0.mk (blk_below (bU BK319.out) hb); have n1_ := Aside0.mk (blk_below (bU BK320.out) hb); have n2_ := Aside0.mk (blk_below (bU BK321.out) hb); have n3_ := Aside0.mk (below_step (by repeat (first | (with_reducible first | exact HB.out | apply below_alloc | apply pw_below_drewN | apply below_drew1 | refine below_set ?_ GE319.out | refine below_set ?_ GE320.out | refine below_set ?_ GE321.out) | exact HB.out)) hb); clear BK319; clear BK320; clear BK321; clear HB; have BK319 := n0_; have BK320 := n1_; have BK321 := n2_; have HB := n3_; clear n0_ n1_ n2_ n3_; (try clear hb); (try clear hb2); (try clear hk); (try clear hi)))
   go_meet
   case rel => exact ⟨_, (true), (by first | rfl | (simp; done) | (simp [*]; done)), H', ⟨by first | omega | exact Nat.le_refl _⟩, ⟨by exact bU BK319.out⟩, ⟨by exact bU BK320.out⟩, ⟨by exact bU BK321.out⟩, ⟨by repeat (first | (with_reducible first | exact HB.out | apply below_alloc | apply pw_below_drewN | apply below_drew1 | refine below_set ?_ GE319.out | refine below_set ?_ GE320.out | refine below_set ?_ GE321.out) | exact HB.out)⟩⟩
 case rest =>
  clear HC6
  try clear c1
  try clear c2
  try clear p2
  try clear c3
  try clear c5
  try clear c11
  try clear c13
  try clear c14
  try clear c17
  try clear c20
  try clear c21
  try clear hcz15_0
  try clear hcz15_1
  try clear hcz15_2
  try clear hcz18_0
  try clear hcz18_1
  try clear hcz18_2
  try clear hcz22_0
  try clear hcz22_1
  try clear hcz22_2
  try clear hfz15_0
  try clear hfz15_1
  try clear hfz15_2
  try clear hfz18_0
  try clear hfz18_1
  try clear hfz18_2
  try clear hfz22_0
  try clear hfz22_1
  try clear hfz22_2
  obtain ⟨kq, x18_5, rfl, HA, HJ5, BK319, BK320, BK321, HB⟩ := hcut
  cases kq with
  | zero => exact absurd HA.out (by simp [bitmap_Draw.j0])
  | succ kj5 =>
   have H := HA.out
   clear HA
   simp only [bitmap_Draw.j0] at H
   by_cases c24 : x18_5 = true
   ·subst c24
    have H1 : (some (0, 0, ([] : List Int), 30)) = some (r1, r2, r3, r4) := by rw [if_pos rfl] at H; exact H
    clear H
    have H := H1
    clear H1
    simp only [Option.some.injEq, Prod.mk.injEq] at H
    obtain ⟨rfl, rfl, rfl, rfl⟩ := H
    have hnb25 := NB321_319.out
    have hnc25 := NB319_321.out
    have hnb26 := NB321_320.out
    have hnc26 := NB320_321.out
    have hcz27_0 : wc.cell? ⟨gb321, 0, none⟩ = some (.int .i64 0) := (blk_cell BK321.out 0).trans rfl
    have hcz27_1 : wc.cell? ⟨gb321, 1, none⟩ = some (.int .i64 0) := (blk_cell BK321.out 1).trans rfl
    have hcz27_2 : wc.cell? ⟨gb321, 2, none⟩ = some (.slice none 0 0) := (blk_cell BK321.out 2).trans rfl
    have hfz27_0 := blk_frozen BK321.out 0
    have hfz27_1 := blk_frozen BK321.out 1
    have hfz27_2 := blk_frozen BK321.out 2
    go_wp2
    refine bodyPost_ret (results_ct rfl _ _ gb321 24 #[.int .i64 0, .int .i64 0, .slice none 0 0] (0, 0) _ rfl (by (with_reducible repeat (first | refine blk_drewN ?_ _ | refine blk_drew ?_ | refine blk_alloc ?_ _)); refine blk_put (cs := #[.int .i64 0, .int .i64 0, .slice none 0 0]) ?_ 2 _ rfl; (with_reducible repeat (first | refine blk_drewN ?_ _ | refine blk_drew ?_ | refine blk_alloc ?_ _)); refine blk_put (cs := #[.int .i64 0, .int .i64 0, .slice none 0 0]) ?_ 1 _ rfl; (with_reducible repeat (first | refine blk_drewN ?_ _ | refine blk_drew ?_ | refine blk_alloc ?_ _)); refine blk_put (cs := #[.int .i64 0, .int .i64 0, .slice none 0 0]) ?_ 0 _ rfl; exact bU BK321.out) Try.underlying24 rfl (by kernel_rfl)) rfl ?_
    exact ⟨_, by first | rfl | (simp [errW_none, errW_some] <;> rfl) | (simp [*, errW_none, errW_some] <;> rfl), by first | exact Kd.R_nil _ _ _ _ _ | exact Kd.N_nil _ _ _ _ _ | exact Kd.V_nil _ _ _ _ _ | exact Kd.Q_nil _ _ _ _ _ | exact Kd.S_nil _ _ _ _ _, by repeat (first | (with_reducible first | exact HB.out | apply below_alloc | apply pw_below_drewN | apply below_drew1 | refine below_set ?_ GE319.out | refine below_set ?_ GE320.out | refine below_set ?_ GE321.out) | exact HB.out)⟩
   ·replace c24 := Bool.eq_false_iff.mpr c24
    subst c24
    have H1 : (if a4 < 0 then (some (0, 0, ([] : List Int), 2)) else (if a4 > 4 then (some (0, 0, ([] : List Int), 2)) else ((bitmap_isShift.f a2 a3).bind fun t324 => (if t324 = true then ((bitmap_clone.f a0_0 a0_1 l0_2).bind fun bt325 => (bitmap_Draw.l0 kj5 a2 a3 a4 a1_1 0 a0_0 a0_1 l0_2 a1_0 a1_1 l1_2 bt325.1 bt325.2.1 bt325.2.2)) else (some (0, 0, ([] : List Int), 2)))))) = some (r1, r2, r3, r4) := by rw [if_neg (show ¬ (false = true) by decide)] at H; exact H
    clear H
    have H := H1
    clear H1
    by_cases c28 : a4 < 0
    ·rw [if_pos c28] at H
     have c28b0 : decide (a4 < 0) = true := decide_eq_true c28
     clear c28
     simp only [Option.some.injEq, Prod.mk.injEq] at H
     obtain ⟨rfl, rfl, rfl, rfl⟩ := H
     have hnb29 := NB321_319.out
     have hnc29 := NB319_321.out
     have hnb30 := NB321_320.out
     have hnc30 := NB320_321.out
     have hcz31_0 : wc.cell? ⟨gb321, 0, none⟩ = some (.int .i64 0) := (blk_cell BK321.out 0).trans rfl
     have hcz31_1 : wc.cell? ⟨gb321, 1, none⟩ = some (.int .i64 0) := (blk_cell BK321.out 1).trans rfl
     have hcz31_2 : wc.cell? ⟨gb321, 2, none⟩ = some (.slice none 0 0) := (blk_cell BK321.out 2).trans rfl
     have hfz31_0 := blk_frozen BK321.out 0
     have hfz31_1 := blk_frozen BK321.out 1
     have hfz31_2 := blk_frozen BK321.out 2
     go_wp2
     refine bodyPost_ret (results_ct rfl _ _ gb321 24 #[.int .i64 0, .int .i64 0, .slice none 0 0] (0, 0) _ rfl (by (with_reducible repeat (first | refine blk_drewN ?_ _ | refine blk_drew ?_ | refine blk_alloc ?_ _)); refine blk_put (cs := #[.int .i64 0, .int .i64 0, .slice none 0 0]) ?_ 2 _ rfl; (with_reducible repeat (first | refine blk_drewN ?_ _ | refine blk_drew ?_ | refine blk_alloc ?_ _)); refine blk_put (cs := #[.int .i64 0, .int .i64 0, .slice none 0 0]) ?_ 1 _ rfl; (with_reducible repeat (first | refine blk_drewN ?_ _ | refine blk_drew ?_ | refine blk_alloc ?_ _)); refine blk_put (cs := #[.int .i64 0, .int .i64 0, .slice none 0 0]) ?_ 0 _ rfl; exact bU BK321.out) Try.underlying24 rfl (by kernel_rfl)) rfl ?_
     exact ⟨_, by first | rfl | (simp [errW_none, errW_some] <;> rfl) | (simp [*, errW_none, errW_some] <;> rfl), by first | exact Kd.R_nil _ _ _ _ _ | exact Kd.N_nil _ _ _ _ _ | exact Kd.V_nil _ _ _ _ _ | exact Kd.Q_nil _ _ _ _ _ | exact Kd.S_nil _ _ _ _ _, by repeat (first | (with_reducible first | exact HB.out | apply below_alloc | apply pw_below_drewN | apply below_drew1 | refine below_set ?_ GE319.out | refine below_set ?_ GE320.out | refine below_set ?_ GE321.out) | exact HB.out)⟩
    ·rw [if_neg c28] at H
     have c28b0 : decide (a4 < 0) = false := decide_eq_false c28
     clear c28
     by_cases c32 : a4 > 4
     ·rw [if_pos c32] at H
      have c32b0 : decide (4 < a4) = true := decide_eq_true c32
      clear c32
      simp only [Option.some.injEq, Prod.mk.injEq] at H
      obtain ⟨rfl, rfl, rfl, rfl⟩ := H
      have hnb33 := NB321_319.out
      have hnc33 := NB319_321.out
      have hnb34 := NB321_320.out
      have hnc34 := NB320_321.out
      have hcz35_0 : wc.cell? ⟨gb321, 0, none⟩ = some (.int .i64 0) := (blk_cell BK321.out 0).trans rfl
      have hcz35_1 : wc.cell? ⟨gb321, 1, none⟩ = some (.int .i64 0) := (blk_cell BK321.out 1).trans rfl
      have hcz35_2 : wc.cell? ⟨gb321, 2, none⟩ = some (.slice none 0 0) := (blk_cell BK321.out 2).trans rfl
      have hfz35_0 := blk_frozen BK321.out 0
      have hfz35_1 := blk_frozen BK321.out 1
      have hfz35_2 := blk_frozen BK321.out 2
      go_wp2
      refine bodyPost_ret (results_ct rfl _ _ gb321 24 #[.int .i64 0, .int .i64 0, .slice none 0 0] (0, 0) _ rfl (by (with_reducible repeat (first | refine blk_drewN ?_ _ | refine blk_drew ?_ | refine blk_alloc ?_ _)); refine blk_put (cs := #[.int .i64 0, .int .i64 0, .slice none 0 0]) ?_ 2 _ rfl; (with_reducible repeat (first | refine blk_drewN ?_ _ | refine blk_drew ?_ | refine blk_alloc ?_ _)); refine blk_put (cs := #[.int .i64 0, .int .i64 0, .slice none 0 0]) ?_ 1 _ rfl; (with_reducible repeat (first | refine blk_drewN ?_ _ | refine blk_drew ?_ | refine blk_alloc ?_ _)); refine blk_put (cs := #[.int .i64 0, .int .i64 0, .slice none 0 0]) ?_ 0 _ rfl; exact bU BK321.out) Try.underlying24 rfl (by kernel_rfl)) rfl ?_
      exact ⟨_, by first | rfl | (simp [errW_none, errW_some] <;> rfl) | (simp [*, errW_none, errW_some] <;> rfl), by first | exact Kd.R_nil _ _ _ _ _ | exact Kd.N_nil _ _ _ _ _ | exact Kd.V_nil _ _ _ _ _ | exact Kd.Q_nil _ _ _ _ _ | exact Kd.S_nil _ _ _ _ _, by repeat (first | (with_reducible first | exact HB.out | apply below_alloc | apply pw_below_drewN | apply below_drew1 | refine below_set ?_ GE319.out | refine below_set ?_ GE320.out | refine below_set ?_ GE321.out) | exact HB.out)⟩
     ·rw [if_neg c32] at H
      have c32b0 : decide (4 < a4) = false := decide_eq_false c32
      clear c32
      replace H := Option.bind_eq_some_iff.mp H
      obtain ⟨t324, A360, H⟩ := H
      replace H : (if t324 = true then ((bitmap_clone.f a0_0 a0_1 l0_2).bind fun bt325 => (bitmap_Draw.l0 kj5 a2 a3 a4 a1_1 0 a0_0 a0_1 l0_2 a1_0 a1_1 l1_2 bt325.1 bt325.2.1 bt325.2.2)) else (some (0, 0, ([] : List Int), 2))) = some (r1, r2, r3, r4) := H
      have A36 := Aside0.mk A360
      clear A360
      by_cases c37 : t324 = true
      ·subst c37
       have H1 : ((bitmap_clone.f a0_0 a0_1 l0_2).bind fun bt325 => (bitmap_Draw.l0 kj5 a2 a3 a4 a1_1 0 a0_0 a0_1 l0_2 a1_0 a1_1 l1_2 bt325.1 bt325.2.1 bt325.2.2)) = some (r1, r2, r3, r4) := by rw [if_pos rfl] at H; exact H
       clear H
       have H := H1
       clear H1
       replace H := Option.bind_eq_some_iff.mp H
       obtain ⟨⟨t325, t326, t327⟩, A380, H⟩ := H
       replace H : (bitmap_Draw.l0 kj5 a2 a3 a4 a1_1 0 a0_0 a0_1 l0_2 a1_0 a1_1 l1_2 t325 t326 t327) = some (r1, r2, r3, r4) := H
       have A38 := Aside0.mk A380
       clear A380
       have H' := Aside0.mk H
       clear H
       go_wp2_with (first | (go_at_call 86; (with_reducible refine (bitmap_isShift.calls a2 a3 true _ A36.out).mono ?_); rintro e w39 ⟨rfl, hb⟩; have n0_ := Aside0.mk (blk_below (bU BK319.out) hb); have n1_ := Aside0.mk (blk_below (bU BK320.out) hb); have n2_ := Aside0.mk (blk_below (bU BK321.out) hb); have n3_ := Aside0.mk (below_step (by repeat (first | (with_reducible first | exact HB.out | apply below_alloc | apply pw_below_drewN | apply below_drew1 | refine below_set ?_ GE319.out | refine below_set ?_ GE320.out | refine below_set ?_ GE321.out) | exact HB.out)) hb); clear BK319; clear BK320; clear BK321; clear HB; have BK319 := n0_; have BK320 := n1_; have BK321 := n2_; have HB := n3_; clear n0_ n1_ n2_ n3_; (try clear hb); (try clear hb2); (try clear hk); (try clear hi); have hnb40 := NB319_320.out; have hnc40 := NB320_319.out; have hnb41 := NB319_321.out; have hnc41 := NB321_319.out; have hcz42_0 : w39.cell? ⟨gb319, 0, none⟩ = some (.int .i64 a0_0) := (blk_cell BK319.out 0).trans rfl; have hcz42_1 : w39.cell? ⟨gb319, 1, none⟩ = some (.int .i64 a0_1) := (blk_cell BK319.out 1).trans rfl; have hcz42_2 : w39.cell? ⟨gb319, 2, none⟩ = some (.slice A0_2 l0_2.length c0_2) := (blk_cell BK319.out 2).trans rfl; have hfz42_0 := blk_frozen BK319.out 0; have hfz42_1 := blk_frozen BK319.out 1; have hfz42_2 := blk_frozen BK319.out 2) | ((with_reducible refine gate_callee (f := 87) rfl ?_); refine goesL_ (some 43) rfl rfl Try.func87 (by kernel_rfl) rfl #[.agg #[.int .i64 a0_0, .int .i64 a0_1, .slice A0_2 l0_2.length c0_2]] rfl (by (try simp only [List.map_toArray, List.map_cons, List.map_nil]); first | done | rfl | (simp only [List.length_drop, List.length_take]; rfl)) ?_; (with_reducible refine (bitmap_clone.calls a0_0 a0_1 _ _ l0_2 t325 t326 t327 _ ?side1 ?side2 A38.out).mono ?_); (case side1 => repeat (first | exact (Kd.C_below HR0_2.out HB.out) | (with_reducible refine Kd.C_alloc ?_ _) | (with_reducible refine Kd.C_drewN ?_ _) | (with_reducible refine Kd.C_drew ?_))); (case side2 => exact HC0_2.out); rintro e w43 ⟨v328, rfl, ho0, hb⟩; refine ⟨_, rfl, ?_⟩; have n0_ := Aside0.mk (Kd.R_lower ho0 (below_size (by repeat (first | (with_reducible first | exact HB.out | apply below_alloc | apply pw_below_drewN | apply below_drew1 | refine below_set ?_ GE319.out | refine below_set ?_ GE320.out | refine below_set ?_ GE321.out) | exact HB.out)))); have n1_ := Aside0.mk (blk_below (bU BK319.out) hb); have n2_ := Aside0.mk (blk_below (bU BK320.out) hb); have n3_ := Aside0.mk (blk_below (bU BK321.out) hb); have n4_ := Aside0.mk (below_step (by repeat (first | (with_reducible first | exact HB.out | apply below_alloc | apply pw_below_drewN | apply below_drew1 | refine below_set ?_ GE319.out | refine below_set ?_ GE320.out | refine below_set ?_ GE321.out) | exact HB.out)) hb); clear BK319; clear BK320; clear BK321; clear HB; have HO329 := n0_; have BK319 := n1_; have BK320 := n2_; have BK321 := n3_; have HB := n4_; clear n0_ n1_ n2_ n3_ n4_; (try clear hb); (try clear hb2); (try clear hk); (try clear hi); (try clear ho0)) | ((with_reducible refine gate_dst (N := 12) rfl ?_); refine box_event ?hg (N := 12) ?hd (cs := #[.int .i64 0, .int .i64 0, .slice none 0 0]) (t := 24) ?hr ?_; (case hd => rfl); (case hg => rfl); (case hr => first | (go_simp; done) | (go_simp; rfl)); intro gb330 hg w44 hbox hb; have n0_ := Aside0.mk (Kd.R_below (rU HO329.out) hb); have n1_ := Aside0.mk (blk_below (bU BK319.out) hb); have n2_ := Aside0.mk (blk_below (bU BK320.out) hb); have n3_ := Aside0.mk (blk_below (bU BK321.out) hb); have n4_ := Aside0.mk (below_step (by repeat (first | (with_reducible first | exact HB.out | apply below_alloc | apply pw_below_drewN | apply below_drew1 | refine below_set ?_ GE319.out | refine below_set ?_ GE320.out | refine below_set ?_ GE321.out) | exact HB.out)) hb); have n5_ := Aside0.mk (hbox); have n6_ := Aside0.mk ((by rw [hg]; exact (below_size (by repeat (first | (with_reducible first | exact HB.out | apply below_alloc | apply pw_below_drewN | apply below_drew1 | refine below_set ?_ GE319.out | refine below_set ?_ GE320.out | refine below_set ?_ GE321.out) | exact HB.out))) : w.heap.size ≤ gb330)); have n7_ := Aside0.mk ((by rw [hg]; exact (below_size (by repeat (first | (with_reducible first | exact HB.out | apply below_alloc | apply pw_below_drewN | apply below_drew1 | refine below_set ?_ GE319.out | refine below_set ?_ GE320.out | refine below_set ?_ GE321.out) | exact HB.out))) : w.heap.size ≤ gb330)); have n8_ := Aside0.mk ((by rw [hg]; exact Nat.ne_of_lt (blk_lt (bU BK319.out)) : gb319 ≠ gb330)); have n9_ := Aside0.mk ((by rw [hg]; exact Nat.ne_of_gt (blk_lt (bU BK319.out)) : gb330 ≠ gb319)); have n10_ := Aside0.mk ((by rw [hg]; exact Nat.ne_of_lt (blk_lt (bU BK320.out)) : gb320 ≠ gb330)); have n11_ := Aside0.mk ((by rw [hg]; exact Nat.ne_of_gt (blk_lt (bU BK320.out)) : gb330 ≠ gb320)); have n12_ := Aside0.mk ((by rw [hg]; exact Nat.ne_of_lt (blk_lt (bU BK321.out)) : gb321 ≠ gb330)); have n13_ := Aside0.mk ((by rw [hg]; exact Nat.ne_of_gt (blk_lt (bU BK321.out)) : gb330 ≠ gb321)); clear HO329; clear BK319; clear BK320; clear BK321; clear HB; have HO329 := n0_; have BK319 := n1_; have BK320 := n2_; have BK321 := n3_; have HB := n4_; have BK330 := n5_; have GW330 := n6_; have GE330 := n7_; have NB319_330 := n8_; have NB330_319 := n9_; have NB320_330 := n10_; have NB330_320 := n11_; have NB321_330 := n12_; have NB330_321 := n13_; clear n0_ n1_ n2_ n3_ n4_ n5_ n6_ n7_ n8_ n9_ n10_ n11_ n12_ n13_; clear hb hbox hg; have hnb45 := NB330_319.out; have hnc45 := NB319_330.out; have hnb46 := NB330_320.out; have hnc46 := NB320_330.out; have hnb47 := NB330_321.out; have hnc47 := NB321_330.out; have hcz48_0 : w44.cell? ⟨gb330, 0, none⟩ = some (.int .i64 0) := (blk_cell BK330.out 0).trans rfl; have hcz48_1 : w44.cell? ⟨gb330, 1, none⟩ = some (.int .i64 0) := (blk_cell BK330.out 1).trans rfl; have hcz48_2 : w44.cell? ⟨gb330, 2, none⟩ = some (.slice none 0 0) := (blk_cell BK330.out 2).trans rfl; have hfz48_0 := blk_frozen BK330.out 0; have hfz48_1 := blk_frozen BK330.out 1; have hfz48_2 := blk_frozen BK330.out 2; obtain ⟨Ao49, co49, eo49⟩ := Kd.R_slice HO329.out; subst eo49; have hnb50 := NB320_321.out; have hnc50 := NB321_320.out; have hcz51_0 : w44.cell? ⟨gb320, 0, none⟩ = some (.int .i64 a1_0) := (blk_cell BK320.out 0).trans rfl; have hcz51_1 : w44.cell? ⟨gb320, 1, none⟩ = some (.int .i64 a1_1) := (blk_cell BK320.out 1).trans rfl; have hcz51_2 : w44.cell? ⟨gb320, 2, none⟩ = some (.slice A1_2 l1_2.length c1_2) := (blk_cell BK320.out 2).trans rfl; have hfz51_0 := blk_frozen BK320.out 0; have hfz51_1 := blk_frozen BK320.out 1; have hfz51_2 := blk_frozen BK320.out 2))
       go_loopg [46] kj5 (fun kq v46 w' => ∃ (x46_2 : Int) (x331002_2 : List Int) (u331002 : Value), v46 = .int .i64 x46_2 ∧ Aside0 (bitmap_Draw.l0 kq a2 a3 a4 a1_1 x46_2 a0_0 a0_1 l0_2 a1_0 a1_1 l1_2 t325 t326 x331002_2 = some (r1, r2, r3, r4)) ∧ Aside0 (kq ≤ kj5) ∧ Aside0 (Kd.R (Kd.int .u8) 5 w' w.heap.size (fun _ => True) u331002 x331002_2) ∧ Aside0 (w'.heap[gb319]? = some (.cells #[.int .i64 a0_0, .int .i64 a0_1, (.slice A0_2 l0_2.length c0_2)] 24 (0, 0))) ∧ Aside0 (w'.heap[gb320]? = some (.cells #[.int .i64 a1_0, .int .i64 a1_1, (.slice A1_2 l1_2.length c1_2)] 24 (0, 0))) ∧ Aside0 (w'.heap[gb321]? = some (.cells #[.int .i64 0, .int .i64 0, (.slice none 0 0)] 24 (0, 0))) ∧ Aside0 (w'.heap[gb330]? = some (.cells #[.int .i64 t325, .int .i64 t326, u331002] 24 (0, 0))) ∧ Aside0 (Below w.heap.size w w'))
       case atStart => exact ⟨(0), (t327), (.slice Ao49 t327.length co49), (by first | rfl | (simp; done) | (simp [*]; done)), H', ⟨Nat.le_refl _⟩, ⟨by (with_reducible repeat (first | apply Kd.R_alloc | apply Kd.R_drewN | apply Kd.R_drew)); exact Kd.R_mono (Kd.R_far (p := ⟨gb330, 2, none⟩) (Kd.R_far (p := ⟨gb330, 1, none⟩) (Kd.R_far (p := ⟨gb330, 0, none⟩) (Kd.R_types HO329.out BK330.out (by decide)) (fun _ hk => hk.2) (.int .i64 t325)) (fun _ hk => hk.2) (.int .i64 t326)) (fun _ hk => hk.2) (.slice Ao49 t327.length co49)) (fun _ hk => trivial)⟩, ⟨by refine bF ?_ ?_; exact NB319_330.out; refine bF ?_ ?_; exact NB319_330.out; refine bF ?_ ?_; exact NB319_330.out; exact bU BK319.out⟩, ⟨by refine bF ?_ ?_; exact NB320_330.out; refine bF ?_ ?_; exact NB320_330.out; refine bF ?_ ?_; exact NB320_330.out; exact bU BK320.out⟩, ⟨by refine bF ?_ ?_; exact NB321_330.out; refine bF ?_ ?_; exact NB321_330.out; refine bF ?_ ?_; exact NB321_330.out; exact bU BK321.out⟩, ⟨by (with_reducible repeat (first | refine blk_drewN ?_ _ | refine blk_drew ?_ | refine blk_alloc ?_ _)); refine blk_put (cs := #[.int .i64 t325, .int .i64 t326, .slice none 0 0]) ?_ 2 _ rfl; (with_reducible repeat (first | refine blk_drewN ?_ _ | refine blk_drew ?_ | refine blk_alloc ?_ _)); refine blk_put (cs := #[.int .i64 t325, .int .i64 0, .slice none 0 0]) ?_ 1 _ rfl; (with_reducible repeat (first | refine blk_drewN ?_ _ | refine blk_drew ?_ | refine blk_alloc ?_ _)); refine blk_put (cs := #[.int .i64 0, .int .i64 0, .slice none 0 0]) ?_ 0 _ rfl; exact bU BK330.out⟩, ⟨by repeat (first | (with_reducible first | exact HB.out | apply below_alloc | apply pw_below_drewN | apply below_drew1 | refine below_set ?_ GE319.out | refine below_set ?_ GE320.out | refine below_set ?_ GE321.out | refine below_set ?_ GE330.out) | exact HB.out)⟩⟩
       case round =>
        clear H'
        try clear c1
        try clear c2
        try clear p2
        try clear c3
        try clear c4
        try clear c5
        try clear c8
        try clear c11
        try clear c13
        try clear c14
        try clear c17
        try clear c20
        try clear c21
        try clear c24
        try clear c25
        try clear c26
        try clear c28
        try clear c28b0
        try clear c29
        try clear c30
        try clear c32
        try clear c32b0
        try clear c33
        try clear c34
        try clear c37
        try clear c38
        try clear c40
        try clear c41
        try clear c45
        try clear c46
        try clear c47
        try clear c50
        try clear hcz15_0
        try clear hcz15_1
        try clear hcz15_2
        try clear hcz18_0
        try clear hcz18_1
        try clear hcz18_2
        try clear hcz22_0
        try clear hcz22_1
        try clear hcz22_2
        try clear hcz27_0
        try clear hcz27_1
        try clear hcz27_2
        try clear hcz31_0
        try clear hcz31_1
        try clear hcz31_2
        try clear hcz35_0
        try clear hcz35_1
        try clear hcz35_2
        try clear hcz42_0
        try clear hcz42_1
        try clear hcz42_2
        try clear hcz48_0
        try clear hcz48_1
        try clear hcz48_2
        try clear hcz51_0
        try clear hcz51_1
        try clear hcz51_2
        try clear hfz15_0
        try clear hfz15_1
        try clear hfz15_2
        try clear hfz18_0
        try clear hfz18_1
        try clear hfz18_2
        try clear hfz22_0
        try clear hfz22_1
        try clear hfz22_2
        try clear hfz27_0
        try clear hfz27_1
        try clear hfz27_2
        try clear hfz31_0
        try clear hfz31_1
        try clear hfz31_2
        try clear hfz35_0
        try clear hfz35_1
        try clear hfz35_2
        try clear hfz42_0
        try clear hfz42_1
        try clear hfz42_2
        try clear hfz48_0
        try clear hfz48_1
        try clear hfz48_2
        try clear hfz51_0
        try clear hfz51_1
        try clear hfz51_2
        try clear p2
        obtain ⟨x46_2, x331002_2, u331002, rfl, HA, HK2, HO_331002, BK319, BK320, BK321, BK330, HB⟩ := hrel
        cases gk with
        | zero => exact absurd HA.out (by simp [bitmap_Draw.l0])
        | succ k2 =>
         have H := HA.out
         clear HA
         simp only [bitmap_Draw.l0] at H
         by_cases c52 : x46_2 < a1_1
         ·rw [if_pos c52] at H
          have c52b0 : decide (x46_2 < a1_1) = true := decide_eq_true c52
          clear c52
          have H' := Aside0.mk H
          clear H
          have hnb53 := NB320_319.out
          have hnc53 := NB319_320.out
          have hnb54 := NB320_321.out
          have hnc54 := NB321_320.out
          have hnb55 := NB320_330.out
          have hnc55 := NB330_320.out
          have hcz56_0 : wr.cell? ⟨gb320, 0, none⟩ = some (.int .i64 a1_0) := (blk_cell BK320.out 0).trans rfl
          have hcz56_1 : wr.cell? ⟨gb320, 1, none⟩ = some (.int .i64 a1_1) := (blk_cell BK320.out 1).trans rfl
          have hcz56_2 : wr.cell? ⟨gb320, 2, none⟩ = some (.slice A1_2 l1_2.length c1_2) := (blk_cell BK320.out 2).trans rfl
          have hfz56_0 := blk_frozen BK320.out 0
          have hfz56_1 := blk_frozen BK320.out 1
          have hfz56_2 := blk_frozen BK320.out 2
          go_wp2
          go_loopg [51] k2 (fun kq v51 w' => ∃ (x51_3 : Int) (x331002_3 : List Int) (u331002 : Value), v51 = .int .i64 x51_3 ∧ Aside0 (bitmap_Draw.l1 kq a2 a3 a4 x46_2 a1_1 x46_2 a1_0 x51_3 a0_0 a0_1 l0_2 a1_0 a1_1 l1_2 t325 t326 x331002_3 = some (r1, r2, r3, r4)) ∧ Aside0 (kq ≤ k2) ∧ Aside0 (Kd.R (Kd.int .u8) 5 w' w.heap.size (fun _ => True) u331002 x331002_3) ∧ Aside0 (w'.heap[gb319]? = some (.cells #[.int .i64 a0_0, .int .i64 a0_1, (.slice A0_2 l0_2.length c0_2)] 24 (0, 0))) ∧ Aside0 (w'.heap[gb320]? = some (.cells #[.int .i64 a1_0, .int .i64 a1_1, (.slice A1_2 l1_2.length c1_2)] 24 (0, 0))) ∧ Aside0 (w'.heap[gb321]? = some (.cells #[.int .i64 0, .int .i64 0, (.slice none 0 0)] 24 (0, 0))) ∧ Aside0 (w'.heap[gb330]? = some (.cells #[.int .i64 t325, .int .i64 t326, u331002] 24 (0, 0))) ∧ Aside0 (Below w.heap.size w w'))
          case atStart => exact ⟨(0), (x331002_2), (u331002), (by first | rfl | (simp; done) | (simp [*]; done)), H', ⟨Nat.le_refl _⟩, ⟨by (with_reducible repeat (first | apply Kd.R_alloc | apply Kd.R_drewN | apply Kd.R_drew)); exact HO_331002.out⟩, ⟨by exact bU BK319.out⟩, ⟨by exact bU BK320.out⟩, ⟨by exact bU BK321.out⟩, ⟨by exact bU BK330.out⟩, ⟨by repeat (first | (with_reducible first | exact HB.out | apply below_alloc | apply pw_below_drewN | apply below_drew1 | refine below_set ?_ GE319.out | refine below_set ?_ GE320.out | refine below_set ?_ GE321.out | refine below_set ?_ GE330.out) | exact HB.out)⟩⟩
          case round =>
           clear H'
           try clear c1
           try clear c2
           try clear p2
           try clear c3
           try clear c4
           try clear c5
           try clear c8
           try clear c11
           try clear c13
           try clear c14
           try clear c17
           try clear c20
           try clear c21
           try clear c24
           try clear c25
           try clear c26
           try clear c28
           try clear c28b0
           try clear c29
           try clear c30
           try clear c32
           try clear c32b0
           try clear c33
           try clear c34
           try clear c37
           try clear c38
           try clear c40
           try clear c41
           try clear c45
           try clear c46
           try clear c47
           try clear c50
           try clear c52
           try clear c52b0
           try clear c53
           try clear c54
           try clear c55
           try clear hcz15_0
           try clear hcz15_1
           try clear hcz15_2
           try clear hcz18_0
           try clear hcz18_1
           try clear hcz18_2
           try clear hcz22_0
           try clear hcz22_1
           try clear hcz22_2
           try clear hcz27_0
           try clear hcz27_1
           try clear hcz27_2
           try clear hcz31_0
           try clear hcz31_1
           try clear hcz31_2
           try clear hcz35_0
           try clear hcz35_1
           try clear hcz35_2
           try clear hcz42_0
           try clear hcz42_1
           try clear hcz42_2
           try clear hcz48_0
           try clear hcz48_1
           try clear hcz48_2
           try clear hcz51_0
           try clear hcz51_1
           try clear hcz51_2
           try clear hcz56_0
           try clear hcz56_1
           try clear hcz56_2
           try clear hfz15_0
           try clear hfz15_1
           try clear hfz15_2
           try clear hfz18_0
           try clear hfz18_1
           try clear hfz18_2
           try clear hfz22_0
           try clear hfz22_1
           try clear hfz22_2
           try clear hfz27_0
           try clear hfz27_1
           try clear hfz27_2
           try clear hfz31_0
           try clear hfz31_1
           try clear hfz31_2
           try clear hfz35_0
           try clear hfz35_1
           try clear hfz35_2
           try clear hfz42_0
           try clear hfz42_1
           try clear hfz42_2
           try clear hfz48_0
           try clear hfz48_1
           try clear hfz48_2
           try clear hfz51_0
           try clear hfz51_1
           try clear hfz51_2
           try clear hfz56_0
           try clear hfz56_1
           try clear hfz56_2
           try clear p2
           obtain ⟨x51_3, x331002_3, u331002, rfl, HA, HK3, HO_331002, BK319, BK320, BK321, BK330, HB⟩ := hrel
           cases gk with
           | zero => exact absurd HA.out (by simp [bitmap_Draw.l1])
           | succ k3 =>
            have H := HA.out
            clear HA
            simp only [bitmap_Draw.l1] at H
            by_cases c57 : x51_3 < a1_0
            ·rw [if_pos c57] at H
             have c57b0 : decide (x51_3 < a1_0) = true := decide_eq_true c57
             clear c57
             have HC58 := Aside0.mk H
             clear H
             go_upto_region 13 with (fail)
             go_cut [77] (fun v77 wc => ∃ (kq : Nat) (x77_57 : Bool), v77 = .bool x77_57 ∧ Aside0 (bitmap_Draw.j3 kq a2 a3 a4 x46_2 x51_3 (wrap64 (a2 + x51_3)) (wrap64 (a3 + x46_2)) a1_1 x46_2 a1_0 x51_3 x77_57 a0_0 a0_1 l0_2 a1_0 a1_1 l1_2 t325 t326 x331002_3 = some (r1, r2, r3, r4)) ∧ Aside0 (kq ≤ k3) ∧ Aside0 (Kd.R (Kd.int .u8) 5 wc w.heap.size (fun _ => True) u331002 x331002_3) ∧ Aside0 (wc.heap[gb319]? = some (.cells #[.int .i64 a0_0, .int .i64 a0_1, (.slice A0_2 l0_2.length c0_2)] 24 (0, 0))) ∧ Aside0 (wc.heap[gb320]? = some (.cells #[.int .i64 a1_0, .int .i64 a1_1, (.slice A1_2 l1_2.length c1_2)] 24 (0, 0))) ∧ Aside0 (wc.heap[gb321]? = some (.cells #[.int .i64 0, .int .i64 0, (.slice none 0 0)] 24 (0, 0))) ∧ Aside0 (wc.heap[gb330]? = some (.cells #[.int .i64 t325, .int .i64 t326, u331002] 24 (0, 0))) ∧ Aside0 (Below w.heap.size w wc))
             case first =>
              have H := HC58.out
              clear HC58
              by_cases c59 : (wrap64 (a2 + x51_3)) ≥ 0
              ·rw [if_pos c59] at H
               have c59b0 : decide (0 ≤ (wrap64 (a2 + x51_3))) = true := decide_eq_true c59
               clear c59
               (first | rw [c59b0] | (simp only [i64_w, i32_w]; rw [c59b0]) | skip)
               by_cases c60 : (wrap64 (a3 + x46_2)) ≥ 0
               ·rw [if_pos c60] at H
                have c60b0 : decide (0 ≤ (wrap64 (a3 + x46_2))) = true := decide_eq_true c60
                clear c60
                by_cases c61 : (wrap64 (a2 + x51_3)) < a0_0
                ·rw [if_pos c61] at H
                 have c61b0 : decide ((wrap64 (a2 + x51_3)) < a0_0) = true := decide_eq_true c61
                 clear c61
                 have H' := Aside0.mk H
                 clear H
                 have hnb62 := NB319_320.out
                 have hnc62 := NB320_319.out
                 have hnb63 := NB319_321.out
                 have hnc63 := NB321_319.out
                 have hnb64 := NB319_330.out
                 have hnc64 := NB330_319.out
                 have hcz65_0 : wr.cell? ⟨gb319, 0, none⟩ = some (.int .i64 a0_0) := (blk_cell BK319.out 0).trans rfl
                 have hcz65_1 : wr.cell? ⟨gb319, 1, none⟩ = some (.int .i64 a0_1) := (blk_cell BK319.out 1).trans rfl
                 have hcz65_2 : wr.cell? ⟨gb319, 2, none⟩ = some (.slice A0_2 l0_2.length c0_2) := (blk_cell BK319.out 2).trans rfl
                 have hfz65_0 := blk_frozen BK319.out 0
                 have hfz65_1 := blk_frozen BK319.out 1
                 have hfz65_2 := blk_frozen BK319.out 2
                 go_wp2
                 go_meet
                 case rel => exact ⟨_, (decide ((wrap64 (a3 + x46_2)) < a0_1)), (by first | rfl | (simp; done) | (simp [*]; done)), H', ⟨by have := HJ5.out; have := HK2.out; have := HK3.out; first | omega | exact Nat.le_refl _⟩, ⟨by (with_reducible repeat (first | apply Kd.R_alloc | apply Kd.R_drewN | apply Kd.R_drew)); exact HO_331002.out⟩, ⟨by exact bU BK319.out⟩, ⟨by exact bU BK320.out⟩, ⟨by exact bU BK321.out⟩, ⟨by exact bU BK330.out⟩, ⟨by repeat (first | (with_reducible first | exact HB.out | apply below_alloc | apply pw_below_drewN | apply below_drew1 | refine below_set ?_ GE319.out | refine below_set ?_ GE320.out | refine below_set ?_ GE321.out | refine below_set ?_ GE330.out) | exact HB.out)⟩⟩
                ·rw [if_neg c61] at H
                 have c61b0 : decide ((wrap64 (a2 + x51_3)) < a0_0) = false := decide_eq_false c61
                 clear c61
                 have H' := Aside0.mk H
                 clear H
                 have hnb66 := NB319_320.out
                 have hnc66 := NB320_319.out
                 have hnb67 := NB319_321.out
                 have hnc67 := NB321_319.out
                 have hnb68 := NB319_330.out
                 have hnc68 := NB330_319.out
                 have hcz69_0 : wr.cell? ⟨gb319, 0, none⟩ = some (.int .i64 a0_0) := (blk_cell BK319.out 0).trans rfl
                 have hcz69_1 : wr.cell? ⟨gb319, 1, none⟩ = some (.int .i64 a0_1) := (blk_cell BK319.out 1).trans rfl
                 have hcz69_2 : wr.cell? ⟨gb319, 2, none⟩ = some (.slice A0_2 l0_2.length c0_2) := (blk_cell BK319.out 2).trans rfl
                 have hfz69_0 := blk_frozen BK319.out 0
                 have hfz69_1 := blk_frozen BK319.out 1
                 have hfz69_2 := blk_frozen BK319.out 2
                 go_wp2
                 go_meet
                 case rel => exact ⟨_, (false), (by first | rfl | (simp; done) | (simp [*]; done)), H', ⟨by have := HJ5.out; have := HK2.out; have := HK3.out; first | omega | exact Nat.le_refl _⟩, ⟨by (with_reducible repeat (first | apply Kd.R_alloc | apply Kd.R_drewN | apply Kd.R_drew)); exact HO_331002.out⟩, ⟨by exact bU BK319.out⟩, ⟨by exact bU BK320.out⟩, ⟨by exact bU BK321.out⟩, ⟨by exact bU BK330.out⟩, ⟨by repeat (first | (with_reducible first | exact HB.out | apply below_alloc | apply pw_below_drewN | apply below_drew1 | refine below_set ?_ GE319.out | refine below_set ?_ GE320.out | refine below_set ?_ GE321.out | refine below_set ?_ GE330.out) | exact HB.out)⟩⟩
               ·rw [if_neg c60] at H
                have c60b0 : decide (0 ≤ (wrap64 (a3 + x46_2))) = false := decide_eq_false c60
                clear c60
                have H' := Aside0.mk H
                clear H
                go_wp2
                go_meet
                case rel => exact ⟨_, (false), (by first | rfl | (simp; done) | (simp [*]; done)), H', ⟨by have := HJ5.out; have := HK2.out; have := HK3.out; first | omega | exact Nat.le_refl _⟩, ⟨by (with_reducible repeat (first | apply Kd.R_alloc | apply Kd.R_drewN | apply Kd.R_drew)); exact HO_331002.out⟩, ⟨by exact bU BK319.out⟩, ⟨by exact bU BK320.out⟩, ⟨by exact bU BK321.out⟩, ⟨by exact bU BK330.out⟩, ⟨by repeat (first | (with_reducible first | exact HB.out | apply below_alloc | apply pw_below_drewN | apply below_drew1 | refine below_set ?_ GE319.out | refine below_set ?_ GE320.out | refine below_set ?_ GE321.out | refine below_set ?_ GE330.out) | exact HB.out)⟩⟩
              ·rw [if_neg c59] at H
               have c59b0 : decide (0 ≤ (wrap64 (a2 + x51_3))) = false := decide_eq_false c59
               clear c59
               (first | rw [c59b0] | (simp only [i64_w, i32_w]; rw [c59b0]) | skip)
               have H' := Aside0.mk H
               clear H
               go_wp2
               go_meet
               case rel => exact ⟨_, (false), (by first | rfl | (simp; done) | (simp [*]; done)), H', ⟨by have := HJ5.out; have := HK2.out; have := HK3.out; first | omega | exact Nat.le_refl _⟩, ⟨by (with_reducible repeat (first | apply Kd.R_alloc | apply Kd.R_drewN | apply Kd.R_drew)); exact HO_331002.out⟩, ⟨by exact bU BK319.out⟩, ⟨by exact bU BK320.out⟩, ⟨by exact bU BK321.out⟩, ⟨by exact bU BK330.out⟩, ⟨by repeat (first | (with_reducible first | exact HB.out | apply below_alloc | apply pw_below_drewN | apply below_drew1 | refine below_set ?_ GE319.out | refine below_set ?_ GE320.out | refine below_set ?_ GE321.out | refine below_set ?_ GE330.out) | exact HB.out)⟩⟩
             case rest =>
              clear HC58
              try clear c1
              try clear c2
              try clear p2
              try clear c3
              try clear c4
              try clear c5
              try clear c6
              try clear p6
              try clear c8
              try clear c11
              try clear c13
              try clear c14
              try clear c17
              try clear c20
              try clear c21
              try clear c24
              try clear c25
              try clear c26
              try clear c28
              try clear c28b0
              try clear c29
              try clear c30
              try clear c32
              try clear c32b0
              try clear c33
              try clear c34
              try clear c37
              try clear c38
              try clear c40
              try clear c41
              try clear c45
              try clear c46
              try clear c47
              try clear c50
              try clear c52
              try clear c52b0
              try clear c53
              try clear c54
              try clear c55
              try clear c57
              try clear c57b0
              try clear c59
              try clear c59b0
              try clear c60
              try clear c60b0
              try clear c61
              try clear c61b0
              try clear c62
              try clear c63
              try clear c64
              try clear p64
              try clear c66
              try clear c67
              try clear c68
              try clear hcz15_0
              try clear hcz15_1
              try clear hcz15_2
              try clear hcz18_0
              try clear hcz18_1
              try clear hcz18_2
              try clear hcz22_0
              try clear hcz22_1
              try clear hcz22_2
              try clear hcz27_0
              try clear hcz27_1
              try clear hcz27_2
              try clear hcz31_0
              try clear hcz31_1
              try clear hcz31_2
              try clear hcz35_0
              try clear hcz35_1
              try clear hcz35_2
              try clear hcz42_0
              try clear hcz42_1
              try clear hcz42_2
              try clear hcz48_0
              try clear hcz48_1
              try clear hcz48_2
              try clear hcz51_0
              try clear hcz51_1
              try clear hcz51_2
              try clear hcz56_0
              try clear hcz56_1
              try clear hcz56_2
              try clear hcz65_0
              try clear hcz65_1
              try clear hcz65_2
              try clear hcz69_0
              try clear hcz69_1
              try clear hcz69_2
              try clear hfz15_0
              try clear hfz15_1
              try clear hfz15_2
              try clear hfz18_0
              try clear hfz18_1
              try clear hfz18_2
              try clear hfz22_0
              try clear hfz22_1
              try clear hfz22_2
              try clear hfz27_0
              try clear hfz27_1
              try clear hfz27_2
              try clear hfz31_0
              try clear hfz31_1
              try clear hfz31_2
              try clear hfz35_0
              try clear hfz35_1
              try clear hfz35_2
              try clear hfz42_0
              try clear hfz42_1
              try clear hfz42_2
              try clear hfz48_0
              try clear hfz48_1
              try clear hfz48_2
              try clear hfz51_0
              try clear hfz51_1
              try clear hfz51_2
              try clear hfz56_0
              try clear hfz56_1
              try clear hfz56_2
              try clear hfz65_0
              try clear hfz65_1
              try clear hfz65_2
              try clear hfz69_0
              try clear hfz69_1
              try clear hfz69_2
              try clear p2
              obtain ⟨kq, x77_57, rfl, HA, HJ57, HO_331002, BK319, BK320, BK321, BK330, HB⟩ := hcut
              cases kq with
              | zero => exact absurd HA.out (by simp [bitmap_Draw.j3])
              | succ kj57 =>
               have H := HA.out
               clear HA
               simp only [bitmap_Draw.j3] at H
               by_cases c70 : x77_57 = true
               ·subst c70
                have H1 : (if 0 ≤ (wrap64 ((wrap64 ((wrap64 (a3 + x46_2)) * a0_0)) + (wrap64 (a2 + x51_3)))) then (if (wrap64 ((wrap64 ((wrap64 (a3 + x46_2)) * a0_0)) + (wrap64 (a2 + x51_3)))) < (x331002_3.length : Int) then ((bitmap_at.f a1_0 a1_1 l1_2 x51_3 x46_2).bind fun t331 => ((bitmap_combine.f (rd x331002_3 (wrap64 ((wrap64 ((wrap64 (a3 + x46_2)) * a0_0)) + (wrap64 (a2 + x51_3))))) t331 a4).bind fun t332 => (bitmap_Draw.l1 kj57 a2 a3 a4 x46_2 a1_1 x46_2 a1_0 (wrap64 (x51_3 + 1)) a0_0 a0_1 l0_2 a1_0 a1_1 l1_2 t325 t326 (x331002_3.set ((wrap64 ((wrap64 ((wrap64 (a3 + x46_2)) * a0_0)) + (wrap64 (a2 + x51_3)))) : Int).toNat t332)))) else (none)) else (none)) = some (r1, r2, r3, r4) := by rw [if_pos rfl] at H; exact H
                clear H
                have H := H1
                clear H1
                obtain ⟨ji71, hji71⟩ : ∃ j_ : Int, (wrap64 ((wrap64 ((wrap64 (a3 + x46_2)) * a0_0)) + (wrap64 (a2 + x51_3)))) = j_ := ⟨_, rfl⟩
                replace H : (if 0 ≤ (ji71) then (if (ji71) < (x331002_3.length : Int) then ((bitmap_at.f a1_0 a1_1 l1_2 x51_3 x46_2).bind fun t331 => ((bitmap_combine.f (rd x331002_3 (ji71)) t331 a4).bind fun t332 => (bitmap_Draw.l1 kj57 a2 a3 a4 x46_2 a1_1 x46_2 a1_0 (wrap64 (x51_3 + 1)) a0_0 a0_1 l0_2 a1_0 a1_1 l1_2 t325 t326 (x331002_3.set ((ji71) : Int).toNat t332)))) else (none)) else (none)) = some (r1, r2, r3, r4) := by first | (rw [hji71] at H; exact H) | (simp only [hji71] at H ⊢; exact H)
                have hji71w : (IntKind.i64.wrap ((wrap64 ((wrap64 (a3 + x46_2)) * a0_0)) + (wrap64 (a2 + x51_3)))) = ji71 := (i64_w _).trans hji71
                by_cases c72 : 0 ≤ (ji71)
                ·rw [if_pos c72] at H
                 have c72b0 : decide (0 ≤ (ji71)) = true := decide_eq_true c72
                 clear c72
                 by_cases c73 : (ji71) < (x331002_3.length : Int)
                 ·rw [if_pos c73] at H
                  have c73b0 : decide ((ji71) < (x331002_3.length : Int)) = true := decide_eq_true c73
                  clear c73
                  replace H := Option.bind_eq_some_iff.mp H
                  obtain ⟨t331, A750, H⟩ := H
                  replace H : ((bitmap_combine.f (rd x331002_3 (ji71)) t331 a4).bind fun t332 => (bitmap_Draw.l1 kj57 a2 a3 a4 x46_2 a1_1 x46_2 a1_0 (wrap64 (x51_3 + 1)) a0_0 a0_1 l0_2 a1_0 a1_1 l1_2 t325 t326 (x331002_3.set ((ji71) : Int).toNat t332))) = some (r1, r2, r3, r4) := H
                  have A75 := Aside0.mk A750
                  clear A750
                  replace H := Option.bind_eq_some_iff.mp H
                  obtain ⟨t332, A760, H⟩ := H
                  replace H : (bitmap_Draw.l1 kj57 a2 a3 a4 x46_2 a1_1 x46_2 a1_0 (wrap64 (x51_3 + 1)) a0_0 a0_1 l0_2 a1_0 a1_1 l1_2 t325 t326 (x331002_3.set ((ji71) : Int).toNat t332)) = some (r1, r2, r3, r4) := H
                  have A76 := Aside0.mk A760
                  clear A760
                  obtain ⟨y333, hy333⟩ : ∃ y_ : List Int, y_ = (x331002_3.set ((ji71) : Int).toNat t332) := ⟨_, rfl⟩
                  replace H : (bitmap_Draw.l1 kj57 a2 a3 a4 x46_2 a1_1 x46_2 a1_0 (wrap64 (x51_3 + 1)) a0_0 a0_1 l0_2 a1_0 a1_1 l1_2 t325 t326 y333) = some (r1, r2, r3, r4) := by first | (rw [hy333]; with_reducible exact H) | (have H2_ := (Option.bind_some _ _).symm.trans H; rw [hy333]; with_reducible exact H2_) | (have H2_ := (Option.bind_some _ _).symm.trans H; with_reducible exact H2_) | with_reducible exact H | (rw [hy333]; exact H) | exact H
                  have Ny333 := Aside0.mk hy333
                  clear hy333
                  have H' := Aside0.mk H
                  clear H
                  have hnb77 := NB330_319.out
                  have hnc77 := NB319_330.out
                  have hnb78 := NB330_320.out
                  have hnc78 := NB320_330.out
                  have hnb79 := NB330_321.out
                  have hnc79 := NB321_330.out
                  have hcz80_0 : wc.cell? ⟨gb330, 0, none⟩ = some (.int .i64 t325) := (blk_cell BK330.out 0).trans rfl
                  have hcz80_1 : wc.cell? ⟨gb330, 1, none⟩ = some (.int .i64 t326) := (blk_cell BK330.out 1).trans rfl
                  have hcz80_2 : wc.cell? ⟨gb330, 2, none⟩ = some (u331002) := (blk_cell BK330.out 2).trans rfl
                  have hfz80_0 := blk_frozen BK330.out 0
                  have hfz80_1 := blk_frozen BK330.out 1
                  have hfz80_2 := blk_frozen BK330.out 2
                  have hnb81 := NB319_320.out
                  have hnc81 := NB320_319.out
                  have hnb82 := NB319_321.out
                  have hnc82 := NB321_319.out
                  have hcz83_0 : wc.cell? ⟨gb319, 0, none⟩ = some (.int .i64 a0_0) := (blk_cell BK319.out 0).trans rfl
                  have hcz83_1 : wc.cell? ⟨gb319, 1, none⟩ = some (.int .i64 a0_1) := (blk_cell BK319.out 1).trans rfl
                  have hcz83_2 : wc.cell? ⟨gb319, 2, none⟩ = some (.slice A0_2 l0_2.length c0_2) := (blk_cell BK319.out 2).trans rfl
                  have hfz83_0 := blk_frozen BK319.out 0
                  have hfz83_1 := blk_frozen BK319.out 1
                  have hfz83_2 := blk_frozen BK319.out 2
                  have p74 : 0 ≤ ((ji71) : Int) := of_decide_eq_true (by first | (with_reducible assumption) | assumption)
                  have q74 : ((ji71) : Int) < ((x331002_3.length : Int) : Int) := of_decide_eq_true (by first | (with_reducible assumption) | assumption)
                  obtain ⟨go74, co74, eo74, gb74, gl74, cl74, HG74⟩ := Kd.R_form HO_331002.out (by omega)
                  (first | cases eo74 | (injection eo74 with ea_ en_ ec_; (first | subst ea_ | (injection ea_ with ea_; subst ea_)); subst ec_; clear en_))
                  have GB74 := Aside0.mk gb74
                  have GG74 := Aside0.mk HG74
                  clear gb74 gl74 HG74
                  obtain ⟨hx74_0, hf74_0⟩ := Kd.R_celln 0 HO_331002.out ((ji71) : Int) p74 q74
                  replace p74 := eq_true p74
                  replace q74 := eq_true q74
                  try go_wp2
                  have n0_ := Aside0.mk (Kd.R_drew HO_331002.out)
                  have n1_ := Aside0.mk (blk_drew BK319.out)
                  have n2_ := Aside0.mk (blk_drew BK320.out)
                  have n3_ := Aside0.mk (blk_drew BK321.out)
                  have n4_ := Aside0.mk (blk_drew BK330.out)
                  have n5_ := Aside0.mk (below_drew1 HB.out)
                  clear HO_331002
                  clear BK319
                  clear BK320
                  clear BK321
                  clear BK330
                  clear HB
                  have HO_331002 := n0_
                  have BK319 := n1_
                  have BK320 := n2_
                  have BK321 := n3_
                  have BK330 := n4_
                  have HB := n5_
                  clear n0_ n1_ n2_ n3_ n4_ n5_
                  refine start_ (n := 12) (S := fun w' => w'.cell? ⟨gb320, 0, none⟩ = some (.int .i64 a1_0) ∧ w'.cell? ⟨gb320, 1, none⟩ = some (.int .i64 a1_1) ∧ w'.cell? ⟨gb320, 2, none⟩ = some (.slice A1_2 l1_2.length c1_2) ∧ w'.cell? ⟨go74, ji71.toNat, none⟩ = some (.int .u8 (rd x331002_3 (ji71)))) (ds := [11]) #[false, false, false, false, false, false, false, false, false, false, false, false] (by kernel_rfl) rfl rfl ⟨(blk_cell BK320.out 0).trans rfl, (blk_cell BK320.out 1).trans rfl, (blk_cell BK320.out 2).trans rfl, (Kd.R_celln 0 HO_331002.out ((ji71) : Int) (of_eq_true p74) (of_eq_true q74)).1⟩ (fun hHeld => ?_); refine with_tabW bitmap_Draw.tab15 bitmap_Draw.bits15 (fun HT_ HW_ => ?_)
                  generalize wc.drew = w84 at HO_331002 BK319 BK320 BK321 BK330 HB hHeld ⊢
                  refine pure_ (i := 0) (N := some 87) (v := ?_) (a' := ?_) (bv 12 1) rfl rfl (any_of HT_.out (by kernel_rfl)) (fun _ _ _ h => h) (Or.inl ⟨by rfl, ?_⟩) ?_ ?_
                  rotate_left
                  ·intro w'
                   go_simp
                   with_reducible rfl
                  rotate_left
                  ·simp only [Act.put, List.setIfInBounds_toArray, List.set_cons_zero, List.set_cons_succ, i64_w, i32_w]
                   rfl
                  refine pure_ (i := 1) (N := some 88) (v := ?_) (a' := ?_) (bv 12 3) rfl rfl (any_of HT_.out (by kernel_rfl)) (fun _ _ _ h => h) (Or.inl ⟨by rfl, ?_⟩) ?_ ?_
                  rotate_left
                  ·intro w'
                   go_simp
                   with_reducible rfl
                  rotate_left
                  ·simp only [Act.put, List.setIfInBounds_toArray, List.set_cons_zero, List.set_cons_succ, i64_w, i32_w]
                   rfl
                  refine pure_ (i := 2) (N := some 89) (v := ?_) (a' := ?_) (bv 12 7) rfl rfl (any_of HT_.out (by kernel_rfl)) (fun _ _ _ h => h) (Or.inl ⟨by rfl, ?_⟩) ?_ ?_
                  rotate_left
                  ·intro w'
                   go_simp
                   with_reducible rfl
                  rotate_left
                  ·simp only [Act.put, List.setIfInBounds_toArray, List.set_cons_zero, List.set_cons_succ, i64_w, i32_w]
                   rfl
                  refine pure_ (i := 5) (N := some 92) (v := ?_) (a' := ?_) (bv 12 39) rfl rfl (any_of HT_.out (by kernel_rfl)) (fun _ _ _ h => h) (Or.inl ⟨by rfl, ?_⟩) ?_ ?_
                  rotate_left
                  ·intro w'
                   go_simp
                   with_reducible rfl
                  rotate_left
                  ·simp only [Act.put, List.setIfInBounds_toArray, List.set_cons_zero, List.set_cons_succ, i64_w, i32_w]
                   rfl
                  refine pure_ (i := 6) (N := some 93) (v := ?_) (a' := ?_) (bv 12 103) rfl rfl (any_of HT_.out (by kernel_rfl)) (fun _ _ _ h => h) (Or.inl ⟨by rfl, ?_⟩) ?_ ?_
                  rotate_left
                  ·intro w'
                   go_simp
                   with_reducible rfl
                  rotate_left
                  ·simp only [Act.put, List.setIfInBounds_toArray, List.set_cons_zero, List.set_cons_succ, i64_w, i32_w]
                   rfl
                  refine pure_ (i := 8) (N := some 95) (v := ?_) (a' := ?_) (bv 12 359) rfl rfl (any_of HT_.out (by kernel_rfl)) (fun _ _ _ h => h) (Or.inl ⟨by rfl, ?_⟩) ?_ ?_
                  rotate_left
                  ·intro w'
                   go_simp
                   with_reducible rfl
                  rotate_left
                  ·simp only [Act.put, List.setIfInBounds_toArray, List.set_cons_zero, List.set_cons_succ, i64_w, i32_w]
                   rfl
                  refine take_ (i := 3) (N := some 90) (v := ?_) (a' := ?_) (bv 12 367) rfl rfl (take_ofW HT_.out HW_.out (by kernel_rfl)) (fun _ _ _ h => h) (Or.inl ⟨by rfl, ?_⟩) hHeld ?_ ?_
                  rotate_left
                  ·rintro w' ⟨s0, s1, s2, s99⟩
                   go_simp
                   with_reducible rfl
                  rotate_left
                  ·simp only [Act.put, List.setIfInBounds_toArray, List.set_cons_zero, List.set_cons_succ, i64_w, i32_w]
                   rfl
                  refine take_ (i := 4) (N := some 91) (v := ?_) (a' := ?_) (bv 12 383) rfl rfl (take_ofW HT_.out HW_.out (by kernel_rfl)) (fun _ _ _ h => h) (Or.inl ⟨by rfl, ?_⟩) hHeld ?_ ?_
                  rotate_left
                  ·rintro w' ⟨s0, s1, s2, s99⟩
                   go_simp
                   with_reducible rfl
                  rotate_left
                  ·simp only [Act.put, List.setIfInBounds_toArray, List.set_cons_zero, List.set_cons_succ, i64_w, i32_w]
                   rfl
                  refine one_ (i := 7) (N := some 94) (bv 12 511) rfl rfl (one_of HT_.out (by kernel_rfl)) (by decide) (fun K hK => ?_)
                  refine goes_ Try.func89 (by kernel_rfl) rfl #[.agg #[.int .i64 a1_0, .int .i64 a1_1, .slice A1_2 l1_2.length c1_2], .int .i64 x51_3, .int .i64 x46_2] (by rfl) rfl rfl (by (try simp only [List.map_toArray, List.map_cons, List.map_nil]); first | done | rfl | (simp only [List.length_drop, List.length_take]; rfl)) ?_
                  with_reducible refine (bitmap_at.calls a1_0 a1_1 _ _ l1_2 x51_3 x46_2 t331 _ ?side1 ?side2 A75.out).mono ?_
                  (case side1 => repeat (first | exact (Kd.C_below HR1_2.out HB.out) | (with_reducible refine Kd.C_alloc ?_ _) | (with_reducible refine Kd.C_drewN ?_ _) | (with_reducible refine Kd.C_drew ?_)))
                  (case side2 => exact HC1_2.out)
                  rintro e w85 ⟨rfl, hb⟩
                  refine ⟨_, rfl, ?_⟩
                  have n0_ := Aside0.mk (Kd.R_below (rU HO_331002.out) hb)
                  have n1_ := Aside0.mk (blk_below (bU BK319.out) hb)
                  have n2_ := Aside0.mk (blk_below (bU BK320.out) hb)
                  have n3_ := Aside0.mk (blk_below (bU BK321.out) hb)
                  have n4_ := Aside0.mk (blk_below (bU BK330.out) hb)
                  have n5_ := Aside0.mk (below_step (by repeat (first | (with_reducible first | exact HB.out | apply below_alloc | apply pw_below_drewN | apply below_drew1 | refine below_set ?_ GE319.out | refine below_set ?_ GE320.out | refine below_set ?_ GE321.out | refine below_set ?_ GE330.out) | exact HB.out)) hb)
                  clear HO_331002
                  clear BK319
                  clear BK320
                  clear BK321
                  clear BK330
                  clear HB
                  have HO_331002 := n0_
                  have BK319 := n1_
                  have BK320 := n2_
                  have BK321 := n3_
                  have BK330 := n4_
                  have HB := n5_
                  clear n0_ n1_ n2_ n3_ n4_ n5_
                  (try clear hb)
                  (try clear hb2)
                  (try clear hk)
                  (try clear hi)
                  refine hK.out _ _ ⟨(blk_cell BK320.out 0).trans rfl, (blk_cell BK320.out 1).trans rfl, (blk_cell BK320.out 2).trans rfl, (Kd.R_celln 0 HO_331002.out ((ji71) : Int) (of_eq_true p74) (of_eq_true q74)).1⟩ (fun hHeld => ?_)
                  clear hK K
                  refine norm_ (a' := ?_) ?_ ?_
                  rotate_left
                  ·show Act.put _ (some 94) _ = _
                   simp only [Act.put, List.setIfInBounds_toArray, List.set_cons_zero, List.set_cons_succ, i64_w, i32_w]
                   rfl
                  refine one_ (i := 9) (N := some 96) (bv 12 1023) rfl rfl (one_of HT_.out (by kernel_rfl)) (by decide) (fun K hK => ?_)
                  refine goes_ Try.func88 (by kernel_rfl) rfl #[.int .u8 (rd x331002_3 (ji71)), .int .u8 t331, .int .i64 a4] (by rfl) rfl rfl (by (try simp only [List.map_toArray, List.map_cons, List.map_nil]); first | done | (simp only [hji71]; rfl) | rfl | (simp only [List.length_drop, List.length_take]; rfl)) ?_
                  with_reducible refine (bitmap_combine.calls (rd x331002_3 (ji71)) t331 a4 t332 _ A76.out).mono ?_
                  rintro e w' ⟨rfl, ⟨nd, rfl⟩⟩
                  refine ⟨_, rfl, ?_⟩
                  obtain ⟨hx99_0, hf99_0⟩ := (Kd.R_celln 0 HO_331002.out ((ji71) : Int) (of_eq_true p74) (of_eq_true q74))
                  have HP86 := Kd.R_putn HO_331002.out ((ji71) : Int) t332
                  rw [← Ny333.out] at HP86
                  have HQ86 := Aside0.mk HP86
                  clear HP86
                  refine hK.out _ _ ⟨(blk_cell BK320.out 0).trans rfl, (blk_cell BK320.out 1).trans rfl, (blk_cell BK320.out 2).trans rfl, (Kd.R_celln 0 HO_331002.out ((ji71) : Int) (of_eq_true p74) (of_eq_true q74)).1⟩ (fun hHeld => ?_)
                  clear hK K
                  refine norm_ (a' := ?_) ?_ ?_
                  rotate_left
                  ·show Act.put _ (some 96) _ = _
                   simp only [Act.put, List.setIfInBounds_toArray, List.set_cons_zero, List.set_cons_succ, i64_w, i32_w]
                   rfl
                  refine pure_ (i := 10) (N := some 97) (v := ?_) (a' := ?_) (bv 12 2047) rfl rfl (any_of HT_.out (by kernel_rfl)) (fun _ _ _ h => h) (Or.inl ⟨by rfl, ?_⟩) ?_ ?_
                  rotate_left
                  ·intro w'
                   go_simp
                   with_reducible rfl
                  rotate_left
                  ·simp only [Act.put, List.setIfInBounds_toArray, List.set_cons_zero, List.set_cons_succ, i64_w, i32_w]
                   rfl
                  refine last_ (i := 11) (N := none) (bv 12 4095) rfl rfl (one_of HT_.out (by kernel_rfl)) (by decide) (fun K hK => ?_)
                  refine skip_ (w1 := ?_) (by rfl) rfl ?_ ?_
                  rotate_left
                  ·go_simp
                   rfl
                  refine hK.out _ _ ?_
                  clear hK K
                  refine done_ (done_of HT_.out (by kernel_rfl)) ?_
                  try go_wp2
                  go_roundg kj57
                  case measure => have := HJ5.out; have := HK2.out; have := HK3.out; have := HJ57.out; omega
                  case rel => exact ⟨(wrap64 (x51_3 + 1)), (y333), (.slice (some ⟨go74, 0, none⟩) x331002_3.length co74), (by first | rfl | (simp; done) | (simp [*]; done)), H', ⟨by have := HJ5.out; have := HK2.out; have := HK3.out; have := HJ57.out; omega⟩, ⟨by (with_reducible repeat (first | apply Kd.R_alloc | apply Kd.R_drewN | apply Kd.R_drew)); exact HQ86.out⟩, ⟨by (with_reducible repeat (first | refine blk_drewN ?_ _ | refine blk_drew ?_ | refine blk_alloc ?_ _)); refine blk_far ?_ (by have h_ := Kd.R_ne HO_331002.out BK319.out (by decide); intro e_; exact h_ (by rw [e_]; rfl)) _; exact bU BK319.out⟩, ⟨by (with_reducible repeat (first | refine blk_drewN ?_ _ | refine blk_drew ?_ | refine blk_alloc ?_ _)); refine blk_far ?_ (by have h_ := Kd.R_ne HO_331002.out BK320.out (by decide); intro e_; exact h_ (by rw [e_]; rfl)) _; exact bU BK320.out⟩, ⟨by (with_reducible repeat (first | refine blk_drewN ?_ _ | refine blk_drew ?_ | refine blk_alloc ?_ _)); refine blk_far ?_ (by have h_ := Kd.R_ne HO_331002.out BK321.out (by decide); intro e_; exact h_ (by rw [e_]; rfl)) _; exact bU BK321.out⟩, ⟨by (with_reducible repeat (first | refine blk_drewN ?_ _ | refine blk_drew ?_ | refine blk_alloc ?_ _)); refine blk_far ?_ (by have h_ := Kd.R_ne HO_331002.out BK330.out (by decide); intro e_; exact h_ (by rw [e_]; rfl)) _; exact bU BK330.out⟩, ⟨by repeat (first | (with_reducible first | exact HB.out | apply below_alloc | apply pw_below_drewN | apply below_drew1 | refine below_set ?_ GB74.out | refine below_set ?_ GE319.out | refine below_set ?_ GE320.out | refine below_set ?_ GE321.out | refine below_set ?_ GE330.out) | exact HB.out)⟩⟩
                 ·rw [if_neg c73] at H
                  exact absurd H (by simp)
                ·rw [if_neg c72] at H
                 exact absurd H (by simp)
               ·replace c70 := Bool.eq_false_iff.mpr c70
                subst c70
                have H1 : (bitmap_Draw.l1 kj57 a2 a3 a4 x46_2 a1_1 x46_2 a1_0 (wrap64 (x51_3 + 1)) a0_0 a0_1 l0_2 a1_0 a1_1 l1_2 t325 t326 x331002_3) = some (r1, r2, r3, r4) := by rw [if_neg (show ¬ (false = true) by decide)] at H; exact H
                clear H
                have H := H1
                clear H1
                have H' := Aside0.mk H
                clear H
                go_wp2
                go_roundg kj57
                case measure => have := HJ5.out; have := HK2.out; have := HK3.out; have := HJ57.out; omega
                case rel => exact ⟨(wrap64 (x51_3 + 1)), (x331002_3), (u331002), (by first | rfl | (simp; done) | (simp [*]; done)), H', ⟨by have := HJ5.out; have := HK2.out; have := HK3.out; have := HJ57.out; omega⟩, ⟨by (with_reducible repeat (first | apply Kd.R_alloc | apply Kd.R_drewN | apply Kd.R_drew)); exact HO_331002.out⟩, ⟨by exact bU BK319.out⟩, ⟨by exact bU BK320.out⟩, ⟨by exact bU BK321.out⟩, ⟨by exact bU BK330.out⟩, ⟨by repeat (first | (with_reducible first | exact HB.out | apply below_alloc | apply pw_below_drewN | apply below_drew1 | refine below_set ?_ GE319.out | refine below_set ?_ GE320.out | refine below_set ?_ GE321.out | refine below_set ?_ GE330.out) | exact HB.out)⟩⟩
            ·rw [if_neg c57] at H
             have c57b0 : decide (x51_3 < a1_0) = false := decide_eq_false c57
             clear c57
             have H' := Aside0.mk H
             clear H
             go_wp2
             go_roundg k3
             case measure => have := HJ5.out; have := HK2.out; have := HK3.out; omega
             case rel => exact ⟨(wrap64 (x46_2 + 1)), (x331002_3), (u331002), (by first | rfl | (simp; done) | (simp [*]; done)), H', ⟨by have := HJ5.out; have := HK2.out; have := HK3.out; omega⟩, ⟨by (with_reducible repeat (first | apply Kd.R_alloc | apply Kd.R_drewN | apply Kd.R_drew)); exact HO_331002.out⟩, ⟨by exact bU BK319.out⟩, ⟨by exact bU BK320.out⟩, ⟨by exact bU BK321.out⟩, ⟨by exact bU BK330.out⟩, ⟨by repeat (first | (with_reducible first | exact HB.out | apply below_alloc | apply pw_below_drewN | apply below_drew1 | refine below_set ?_ GE319.out | refine below_set ?_ GE320.out | refine below_set ?_ GE321.out | refine below_set ?_ GE330.out) | exact HB.out)⟩⟩
         ·rw [if_neg c52] at H
          have c52b0 : decide (x46_2 < a1_1) = false := decide_eq_false c52
          clear c52
          simp only [Option.some.injEq, Prod.mk.injEq] at H
          obtain ⟨rfl, rfl, rfl, rfl⟩ := H
          have hnb87 := NB330_319.out
          have hnc87 := NB319_330.out
          have hnb88 := NB330_320.out
          have hnc88 := NB320_330.out
          have hnb89 := NB330_321.out
          have hnc89 := NB321_330.out
          have hcz90_0 : wr.cell? ⟨gb330, 0, none⟩ = some (.int .i64 t325) := (blk_cell BK330.out 0).trans rfl
          have hcz90_1 : wr.cell? ⟨gb330, 1, none⟩ = some (.int .i64 t326) := (blk_cell BK330.out 1).trans rfl
          have hcz90_2 : wr.cell? ⟨gb330, 2, none⟩ = some (u331002) := (blk_cell BK330.out 2).trans rfl
          have hfz90_0 := blk_frozen BK330.out 0
          have hfz90_1 := blk_frozen BK330.out 1
          have hfz90_2 := blk_frozen BK330.out 2
          have hnb91 := NB321_319.out
          have hnc91 := NB319_321.out
          have hnb92 := NB321_320.out
          have hnc92 := NB320_321.out
          have hcz93_0 : wr.cell? ⟨gb321, 0, none⟩ = some (.int .i64 0) := (blk_cell BK321.out 0).trans rfl
          have hcz93_1 : wr.cell? ⟨gb321, 1, none⟩ = some (.int .i64 0) := (blk_cell BK321.out 1).trans rfl
          have hcz93_2 : wr.cell? ⟨gb321, 2, none⟩ = some (.slice none 0 0) := (blk_cell BK321.out 2).trans rfl
          have hfz93_0 := blk_frozen BK321.out 0
          have hfz93_1 := blk_frozen BK321.out 1
          have hfz93_2 := blk_frozen BK321.out 2
          obtain ⟨Ao94, co94, eo94⟩ := Kd.R_slice HO_331002.out
          subst eo94
          go_wp2
          refine bodyPost_ret (results_ct rfl _ _ gb321 24 #[.int .i64 t325, .int .i64 t326, .slice Ao94 x331002_2.length co94] (0, 0) _ rfl (by (with_reducible repeat (first | refine blk_drewN ?_ _ | refine blk_drew ?_ | refine blk_alloc ?_ _)); refine blk_put (cs := #[.int .i64 t325, .int .i64 t326, .slice none 0 0]) ?_ 2 _ rfl; (with_reducible repeat (first | refine blk_drewN ?_ _ | refine blk_drew ?_ | refine blk_alloc ?_ _)); refine blk_put (cs := #[.int .i64 t325, .int .i64 0, .slice none 0 0]) ?_ 1 _ rfl; (with_reducible repeat (first | refine blk_drewN ?_ _ | refine blk_drew ?_ | refine blk_alloc ?_ _)); refine blk_put (cs := #[.int .i64 0, .int .i64 0, .slice none 0 0]) ?_ 0 _ rfl; exact bU BK321.out) Try.underlying24 rfl (by kernel_rfl)) rfl ?_
          exact ⟨_, by first | rfl | (simp [errW_none, errW_some] <;> rfl) | (simp [*, errW_none, errW_some] <;> rfl), by (with_reducible repeat (first | apply Kd.R_alloc | apply Kd.R_drewN | apply Kd.R_drew)); exact Kd.R_mono (Kd.R_far (p := ⟨gb321, 2, none⟩) (Kd.R_far (p := ⟨gb321, 1, none⟩) (Kd.R_far (p := ⟨gb321, 0, none⟩) (Kd.R_types HO_331002.out BK321.out (by decide)) (fun _ hk => hk.2) (.int .i64 t325)) (fun _ hk => hk.2) (.int .i64 t326)) (fun _ hk => hk.2) (.slice Ao94 x331002_2.length co94)) (fun _ hk => trivial), by repeat (first | (with_reducible first | exact HB.out | apply below_alloc | apply pw_below_drewN | apply below_drew1 | refine below_set ?_ GE319.out | refine below_set ?_ GE320.out | refine below_set ?_ GE321.out | refine below_set ?_ GE330.out) | exact HB.out)⟩
      ·replace c37 := Bool.eq_false_iff.mpr c37
       subst c37
       have H1 : (some (0, 0, ([] : List Int), 2)) = some (r1, r2, r3, r4) := by rw [if_neg (show ¬ (false = true) by decide)] at H; exact H
       clear H
       have H := H1
       clear H1
       simp only [Option.some.injEq, Prod.mk.injEq] at H
       obtain ⟨rfl, rfl, rfl, rfl⟩ := H
       go_wp2_with (first | (go_at_call 86; (with_reducible refine (bitmap_isShift.calls a2 a3 false _ A36.out).mono ?_); rintro e w95 ⟨rfl, hb⟩; have n0_ := Aside0.mk (blk_below (bU BK319.out) hb); have n1_ := Aside0.mk (blk_below (bU BK320.out) hb); have n2_ := Aside0.mk (blk_below (bU BK321.out) hb); have n3_ := Aside0.mk (below_step (by repeat (first | (with_reducible first | exact HB.out | apply below_alloc | apply pw_below_drewN | apply below_drew1 | refine below_set ?_ GE319.out | refine below_set ?_ GE320.out | refine below_set ?_ GE321.out) | exact HB.out)) hb); clear BK319; clear BK320; clear BK321; clear HB; have BK319 := n0_; have BK320 := n1_; have BK321 := n2_; have HB := n3_; clear n0_ n1_ n2_ n3_; (try clear hb); (try clear hb2); (try clear hk); (try clear hi); have hnb96 := NB321_319.out; have hnc96 := NB319_321.out; have hnb97 := NB321_320.out; have hnc97 := NB320_321.out; have hcz98_0 : w95.cell? ⟨gb321, 0, none⟩ = some (.int .i64 0) := (blk_cell BK321.out 0).trans rfl; have hcz98_1 : w95.cell? ⟨gb321, 1, none⟩ = some (.int .i64 0) := (blk_cell BK321.out 1).trans rfl; have hcz98_2 : w95.cell? ⟨gb321, 2, none⟩ = some (.slice none 0 0) := (blk_cell BK321.out 2).trans rfl; have hfz98_0 := blk_frozen BK321.out 0; have hfz98_1 := blk_frozen BK321.out 1; have hfz98_2 := blk_frozen BK321.out 2))
       refine bodyPost_ret (results_ct rfl _ _ gb321 24 #[.int .i64 0, .int .i64 0, .slice none 0 0] (0, 0) _ rfl (by (with_reducible repeat (first | refine blk_drewN ?_ _ | refine blk_drew ?_ | refine blk_alloc ?_ _)); refine blk_put (cs := #[.int .i64 0, .int .i64 0, .slice none 0 0]) ?_ 2 _ rfl; (with_reducible repeat (first | refine blk_drewN ?_ _ | refine blk_drew ?_ | refine blk_alloc ?_ _)); refine blk_put (cs := #[.int .i64 0, .int .i64 0, .slice none 0 0]) ?_ 1 _ rfl; (with_reducible repeat (first | refine blk_drewN ?_ _ | refine blk_drew ?_ | refine blk_alloc ?_ _)); refine blk_put (cs := #[.int .i64 0, .int .i64 0, .slice none 0 0]) ?_ 0 _ rfl; exact bU BK321.out) Try.underlying24 rfl (by kernel_rfl)) rfl ?_
       exact ⟨_, by first | rfl | (simp [errW_none, errW_some] <;> rfl) | (simp [*, errW_none, errW_some] <;> rfl), by first | exact Kd.R_nil _ _ _ _ _ | exact Kd.N_nil _ _ _ _ _ | exact Kd.V_nil _ _ _ _ _ | exact Kd.Q_nil _ _ _ _ _ | exact Kd.S_nil _ _ _ _ _, by repeat (first | (with_reducible first | exact HB.out | apply below_alloc | apply pw_below_drewN | apply below_drew1 | refine below_set ?_ GE319.out | refine below_set ?_ GE320.out | refine below_set ?_ GE321.out) | exact HB.out)⟩

end Go.Proofs.Ytaflekobfbgedaa.PShapeComponents
