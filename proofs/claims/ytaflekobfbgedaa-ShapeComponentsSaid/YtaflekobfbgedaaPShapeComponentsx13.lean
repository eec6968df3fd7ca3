-- Written by a program of this session (wip/tools/myprint.py) over the kit's print. Not trusted: Lean checks it.
import Derived.Test.YtaflekobfbgedaaPShapeComponentsx0
import Derived.Test.YtaflekobfbgedaaPShapeComponentsx4
import Derived.Test.YtaflekobfbgedaaPShapeComponentsx8
import Derived.Test.YtaflekobfbgedaaPShapeComponentsx9
import Derived.Test.YtaflekobfbgedaaPShapeComponentsx12
namespace Go.Proofs.Ytaflekobfbgedaa.PShapeComponents
open Go.RowKit Go.Proofs.YtaflekobfbgedaaW.PrintWords Go.Proofs.YtaflekobfbgedaaW.PrintLast Go.Proofs.YtaflekobfbgedaaW.PrintMore
attribute [local go_sem] max2_int min2_int max_two min_two max_three min_three max_four min_four   -- for this text's walks alone
set_option linter.unusedVariables false
set_option linter.unusedSimpArgs false

/-! ### incunablelaw15_ShapeComponents: function 5 -/
mutual
def incunablelaw15_ShapeComponents.j0 : Nat → List (S48) → Int → Bool → Int → Int → List Int → Option (Bool)
 | 0, _, _, _, _, _, _ => none
 | k + 1, x3, x4, x33, x356000, x356001, x356002 => if x33 = true then (some false) else (if x4 = 0 then ((shape_Draw.f k x356000 x356001 x3).bind fun bt368 => (if bt368.2.2.2 = 0 then ((incunableref05_Same.f bt368.1 bt368.2.1 bt368.2.2.1 x356000 x356001 x356002).bind fun t375 => (incunablelaw15_ShapeComponents.j1 k x3 (!t375) x356000 x356001 x356002)) else (incunablelaw15_ShapeComponents.j1 k x3 true x356000 x356001 x356002))) else ((incunablelaw15_Sane.f k).bind fun t367 => (some t367)))
def incunablelaw15_ShapeComponents.j1 : Nat → List (S48) → Bool → Int → Int → List Int → Option (Bool)
 | 0, _, _, _, _, _ => none
 | k + 1, x3, x53, x356000, x356001, x356002 => if x53 = true then (some false) else (incunablelaw15_ShapeComponents.l0 k x3 0 0 x356000 x356001 x356002)
def incunablelaw15_ShapeComponents.l0 : Nat → List (S48) → Int → Int → Int → Int → List Int → Option (Bool)
 | 0, _, _, _, _, _, _ => none
 | k + 1, x3, x8, x9, x356000, x356001, x356002 => if x9 < (x3.length : Int) then (if 0 ≤ x9 then ((incunableref05_Blacks.f k ((rd_T48 x3 x9).f0.f0) ((rd_T48 x3 x9).f0.f1) ((rd_T48 x3 x9).f0.f2)).bind fun t379 => ((shape_Components.f k ((rd_T48 x3 x9).f0.f0) ((rd_T48 x3 x9).f0.f1) ((rd_T48 x3 x9).f0.f2)).bind fun bt381 => (if bt381.2 = 0 then (if (bt381.1.length : Int) = 1 then (if 0 < (bt381.1.length : Int) then (if ((rd_T48 bt381.1 0).f1) = 0 then (if ((rd_T48 bt381.1 0).f2) = 0 then ((incunableref05_Same.f ((rd_T48 bt381.1 0).f0.f0) ((rd_T48 bt381.1 0).f0.f1) ((rd_T48 bt381.1 0).f0.f2) ((rd_T48 x3 x9).f0.f0) ((rd_T48 x3 x9).f0.f1) ((rd_T48 x3 x9).f0.f2)).bind fun t389 => (if t389 = true then (incunablelaw15_ShapeComponents.l0 k x3 (wrap64 (x8 + t379)) (wrap64 (x9 + 1)) x356000 x356001 x356002) else (some false))) else (some false)) else (some false)) else (none)) else (some false)) else (some false)))) else (none)) else ((incunableref05_Blacks.f k x356000 x356001 x356002).bind fun t376 => (if x8 = t376 then ((incunablelaw15_Sane.f k).bind fun t377 => (some t377)) else (some false)))
end
def incunablelaw15_ShapeComponents.f (k : Nat) (a0_0 : Int) (a0_1 : Int) (l0_2 : List Int) : Option (Bool) := (incunablelaw15_Large.f a0_0 a0_1 l0_2).bind fun t356 => (if t356 = true then ((incunablelaw15_Sane.f k).bind fun t357 => (some t357)) else ((shape_Components.f k a0_0 a0_1 l0_2).bind fun bt358 => ((incunableref15_Components.f k a0_0 a0_1 l0_2).bind fun bt362 => (if bt358.2 = bt362.2 then ((incunableref15_SamePlaced.f k bt358.1 bt362.1).bind fun t366 => (incunablelaw15_ShapeComponents.j0 k bt358.1 bt358.2 (!t366) a0_0 a0_1 l0_2)) else (incunablelaw15_ShapeComponents.j0 k bt358.1 bt358.2 true a0_0 a0_1 l0_2)))))
theorem incunablelaw15_ShapeComponents.mono_l : ∀ k, (∀ y0 y1 y2 y3 y4 y5, LeO (incunablelaw15_ShapeComponents.j0 k y0 y1 y2 y3 y4 y5) (incunablelaw15_ShapeComponents.j0 (k + 1) y0 y1 y2 y3 y4 y5)) ∧ (∀ y0 y1 y2 y3 y4, LeO (incunablelaw15_ShapeComponents.j1 k y0 y1 y2 y3 y4) (incunablelaw15_ShapeComponents.j1 (k + 1) y0 y1 y2 y3 y4)) ∧ (∀ y0 y1 y2 y3 y4 y5, LeO (incunablelaw15_ShapeComponents.l0 k y0 y1 y2 y3 y4 y5) (incunablelaw15_ShapeComponents.l0 (k + 1) y0 y1 y2 y3 y4 y5))
 | 0 => ⟨fun _ _ _ _ _ _ r h => by simp [incunablelaw15_ShapeComponents.j0] at h, fun _ _ _ _ _ r h => by simp [incunablelaw15_ShapeComponents.j1] at h, fun _ _ _ _ _ _ r h => by simp [incunablelaw15_ShapeComponents.l0] at h⟩
 | k + 1 => by
  obtain ⟨ih0, ih1, ih2⟩ := incunablelaw15_ShapeComponents.mono_l k
  refine ⟨?_, ?_, ?_⟩
  ·intro y0 y1 y2 y3 y4 y5
   unfold incunablelaw15_ShapeComponents.j0
   repeat' first
   | (with_reducible exact ih0 _ _ _ _ _ _)
   | (with_reducible exact ih1 _ _ _ _ _)
   | (with_reducible exact ih2 _ _ _ _ _ _)
   | (with_reducible exact incunablelaw15_Sane.mono _)
   | (with_reducible exact incunableref05_Blacks.mono _ _ _ _)
   | (with_reducible exact incunableref15_Components.mono _ _ _ _)
   | (with_reducible exact incunableref15_SamePlaced.mono _ _ _)
   | (with_reducible exact shape_Components.mono _ _ _ _)
   | (with_reducible exact shape_Draw.mono _ _ _ _)
   | (with_reducible exact LeO.refl _)
   | (with_reducible exact LeO.none _)
   | (with_reducible refine LeO.ite ?_ ?_)
   | (with_reducible refine LeO.bind ?_ (fun _ => ?_))
   | exact ih0 _ _ _ _ _ _
   | exact ih1 _ _ _ _ _
   | exact ih2 _ _ _ _ _ _
   | exact incunablelaw15_Sane.mono _
   | exact incunableref05_Blacks.mono _ _ _ _
   | exact incunableref15_Components.mono _ _ _ _
   | exact incunableref15_SamePlaced.mono _ _ _
   | exact shape_Components.mono _ _ _ _
   | exact shape_Draw.mono _ _ _ _
   | exact LeO.none _
   | refine LeO.ite ?_ ?_
   | refine LeO.bind ?_ (fun _ => ?_)
  ·intro y0 y1 y2 y3 y4
   unfold incunablelaw15_ShapeComponents.j1
   repeat' first
   | (with_reducible exact ih0 _ _ _ _ _ _)
   | (with_reducible exact ih1 _ _ _ _ _)
   | (with_reducible exact ih2 _ _ _ _ _ _)
   | (with_reducible exact incunablelaw15_Sane.mono _)
   | (with_reducible exact incunableref05_Blacks.mono _ _ _ _)
   | (with_reducible exact incunableref15_Components.mono _ _ _ _)
   | (with_reducible exact incunableref15_SamePlaced.mono _ _ _)
   | (with_reducible exact shape_Components.mono _ _ _ _)
   | (with_reducible exact shape_Draw.mono _ _ _ _)
   | (with_reducible exact LeO.refl _)
   | (with_reducible exact LeO.none _)
   | (with_reducible refine LeO.ite ?_ ?_)
   | (with_reducible refine LeO.bind ?_ (fun _ => ?_))
   | exact ih0 _ _ _ _ _ _
   | exact ih1 _ _ _ _ _
   | exact ih2 _ _ _ _ _ _
   | exact incunablelaw15_Sane.mono _
   | exact incunableref05_Blacks.mono _ _ _ _
   | exact incunableref15_Components.mono _ _ _ _
   | exact incunableref15_SamePlaced.mono _ _ _
   | exact shape_Components.mono _ _ _ _
   | exact shape_Draw.mono _ _ _ _
   | exact LeO.none _
   | refine LeO.ite ?_ ?_
   | refine LeO.bind ?_ (fun _ => ?_)
  ·intro y0 y1 y2 y3 y4 y5
   unfold incunablelaw15_ShapeComponents.l0
   repeat' first
   | (with_reducible exact ih0 _ _ _ _ _ _)
   | (with_reducible exact ih1 _ _ _ _ _)
   | (with_reducible exact ih2 _ _ _ _ _ _)
   | (with_reducible exact incunablelaw15_Sane.mono _)
   | (with_reducible exact incunableref05_Blacks.mono _ _ _ _)
   | (with_reducible exact incunableref15_Components.mono _ _ _ _)
   | (with_reducible exact incunableref15_SamePlaced.mono _ _ _)
   | (with_reducible exact shape_Components.mono _ _ _ _)
   | (with_reducible exact shape_Draw.mono _ _ _ _)
   | (with_reducible exact LeO.refl _)
   | (with_reducible exact LeO.none _)
   | (with_reducible refine LeO.ite ?_ ?_)
   | (with_reducible refine LeO.bind ?_ (fun _ => ?_))
   | exact ih0 _ _ _ _ _ _
   | exact ih1 _ _ _ _ _
   | exact ih2 _ _ _ _ _ _
   | exact incunablelaw15_Sane.mono _
   | exact incunableref05_Blacks.mono _ _ _ _
   | exact incunableref15_Components.mono _ _ _ _
   | exact incunableref15_SamePlaced.mono _ _ _
   | exact shape_Components.mono _ _ _ _
   | exact shape_Draw.mono _ _ _ _
   | exact LeO.none _
   | refine LeO.ite ?_ ?_
   | refine LeO.bind ?_ (fun _ => ?_)
theorem incunablelaw15_ShapeComponents.mono : ∀ a0 a1 a2 k, LeO (incunablelaw15_ShapeComponents.f k a0 a1 a2) (incunablelaw15_ShapeComponents.f (k + 1) a0 a1 a2) := by
 intro a0 a1 a2 k
 obtain ⟨ih0, ih1, ih2⟩ := incunablelaw15_ShapeComponents.mono_l k
 unfold incunablelaw15_ShapeComponents.f
 repeat' first
   | (with_reducible exact ih0 _ _ _ _ _ _)
   | (with_reducible exact ih1 _ _ _ _ _)
   | (with_reducible exact ih2 _ _ _ _ _ _)
   | (with_reducible exact incunablelaw15_Sane.mono _)
   | (with_reducible exact incunableref05_Blacks.mono _ _ _ _)
   | (with_reducible exact incunableref15_Components.mono _ _ _ _)
   | (with_reducible exact incunableref15_SamePlaced.mono _ _ _)
   | (with_reducible exact shape_Components.mono _ _ _ _)
   | (with_reducible exact shape_Draw.mono _ _ _ _)
   | (with_reducible exact LeO.refl _)
   | (with_reducible exact LeO.none _)
   | (with_reducible refine LeO.ite ?_ ?_)
   | (with_reducible refine LeO.bind ?_ (fun _ => ?_))
   | exact ih0 _ _ _ _ _ _
   | exact ih1 _ _ _ _ _
   | exact ih2 _ _ _ _ _ _
   | exact incunablelaw15_Sane.mono _
   | exact incunableref05_Blacks.mono _ _ _ _
   | exact incunableref15_Components.mono _ _ _ _
   | exact incunableref15_SamePlaced.mono _ _ _
   | exact shape_Components.mono _ _ _ _
   | exact shape_Draw.mono _ _ _ _
   | exact LeO.none _
   | refine LeO.ite ?_ ?_
   | refine LeO.bind ?_ (fun _ => ?_)
def incunablelaw15_ShapeComponents.T18 : Bool × List (List Nat × List Nat) := (true, [([], []), ([0], [0]), ([1], [1]), ([2], [2]), ([3, 2], [2, 3]), ([4, 2], [2, 4]), ([2, 5], [2, 5]), ([6, 2], [6]), ([7], [7]), ([8, 7], [7, 8]), ([9, 7], [7, 9]), ([10, 7], [7, 10]), ([11, 7], [7, 11]), ([7, 12], [7, 12]), ([13, 7], [13]), ([14], [14]), ([15, 14], [14, 15]), ([16, 14], [14, 16]), ([17, 14], [14, 17]), ([18, 14], [14, 18]), ([14, 19], [14, 19]), ([20, 14], [20]), ([21], [21]), ([22, 21], [21, 22]), ([23, 21], [21, 23]), ([24, 21], [21, 24]), ([21], [21]), ([21], [21]), ([26, 27, 21], [21, 26, 27]), ([28, 21], [21, 28]), ([29, 21], [21, 29]), ([25, 30, 21, 21], [21, 25, 30]), ([31, 21], [21, 31]), ([21, 32], [21, 32])])
def incunablelaw15_ShapeComponents.B18 : List Nat := [0, 1, 3, 7, 15, 31, 63, 127, 255, 511, 1023, 2047, 4095, 8191, 16383, 32767, 65535, 131071, 262143, 524287, 1048575, 2097151, 4194303, 8388607, 16777215, 33554431, 4194303, 4194303, 205520895, 473956351, 1010827263, 2147483647, 4294967295, 8589934591]
theorem incunablelaw15_ShapeComponents.tab18 : rtab .any (opsOf Try.f5 18) = incunablelaw15_ShapeComponents.T18 := by kernel_rfl
theorem incunablelaw15_ShapeComponents.bits18 : waitsOk incunablelaw15_ShapeComponents.T18.2 incunablelaw15_ShapeComponents.B18 = true := by kernel_rfl
set_option maxHeartbeats 8000000 in
set_option maxRecDepth 100000 in
theorem incunablelaw15_ShapeComponents.calls (k : Nat) (a0_0 : Int) (a0_1 : Int) (A0_2 : Option Addr) (c0_2 : Nat) (l0_2 : List Int) (r : Bool) (w : World) (hr0_2 : Kd.C (Kd.int .u8) w A0_2 l0_2.length l0_2) (hc0_2 : l0_2.length ≤ c0_2) (h : incunablelaw15_ShapeComponents.f k a0_0 a0_1 l0_2 = some r) (hr_ : r = true) :
  Calls Try.prog 5 #[.agg #[.int .i64 a0_0, .int .i64 a0_1, .slice A0_2 l0_2.length c0_2]] w fun e w' => e = .returned (.bool r) ∧ Below w.heap.size w w' := by
 have HR_ := Aside0.mk hr_
 clear hr_
 have hu24 := Try.underlying24
 have HR0_2 := Aside0.mk hr0_2
 have HC0_2 := Aside0.mk hc0_2
 clear hr0_2 hc0_2
 have HB := Aside0.mk (Below.refl w.heap.size w)
 have H : ((incunablelaw15_Large.f a0_0 a0_1 l0_2).bind fun t356 => (if t356 = true then ((incunablelaw15_Sane.f k).bind fun t357 => (some t357)) else ((shape_Components.f k a0_0 a0_1 l0_2).bind fun bt358 => ((incunableref15_Components.f k a0_0 a0_1 l0_2).bind fun bt362 => (if bt358.2 = bt362.2 then ((incunableref15_SamePlaced.f k bt358.1 bt362.1).bind fun t366 => (incunablelaw15_ShapeComponents.j0 k bt358.1 bt358.2 (!t366) a0_0 a0_1 l0_2)) else (incunablelaw15_ShapeComponents.j0 k bt358.1 bt358.2 true a0_0 a0_1 l0_2)))))) = some r := h
 clear h
 replace H := Option.bind_eq_some_iff.mp H
 obtain ⟨t356, A20, H⟩ := H
 replace H : (if t356 = true then ((incunablelaw15_Sane.f k).bind fun t357 => (some t357)) else ((shape_Components.f k a0_0 a0_1 l0_2).bind fun bt358 => ((incunableref15_Components.f k a0_0 a0_1 l0_2).bind fun bt362 => (if bt358.2 = bt362.2 then ((incunableref15_SamePlaced.f k bt358.1 bt362.1).bind fun t366 => (incunablelaw15_ShapeComponents.j0 k bt358.1 bt358.2 (!t366) a0_0 a0_1 l0_2)) else (incunablelaw15_ShapeComponents.j0 k bt358.1 bt358.2 true a0_0 a0_1 l0_2))))) = some r := H
 have A2 := Aside0.mk A20
 clear A20
 by_cases c3 : t356 = true
 ·subst c3
  have H1 : ((incunablelaw15_Sane.f k).bind fun t357 => (some t357)) = some r := by rw [if_pos rfl] at H; exact H
  clear H
  have H := H1
  clear H1
  replace H := Option.bind_eq_some_iff.mp H
  obtain ⟨t357, A40, H⟩ := H
  replace H : (some t357) = some r := H
  have A4 := Aside0.mk A40
  clear A40
  obtain rfl := Option.some.inj H
  go_enter Try.func5, Try.ntmps5
  go_wp2_with (first | ((with_reducible refine gate_dst (N := 1) rfl ?_); (try (refine gate_guard (by rfl) ?_; dsimp only)); refine box_event ?hg (N := 1) ?hd (cs := #[.int .i64 a0_0, .int .i64 a0_1, .slice A0_2 l0_2.length c0_2]) (t := 24) ?hr ?_; (case hd => rfl); (case hg => rfl); (case hr => first | (go_simp; done) | (go_simp; rfl)); intro gb355 hg w5 hbox hb; have n0_ := Aside0.mk (below_step (by repeat (first | (with_reducible first | exact HB.out | apply below_alloc | apply pw_below_drewN | apply below_drew1) | exact HB.out)) hb); have n1_ := Aside0.mk (hbox); have n2_ := Aside0.mk ((by rw [hg]; exact (below_size (by repeat (first | (with_reducible first | exact HB.out | apply below_alloc | apply pw_below_drewN | apply below_drew1) | exact HB.out))) : w.heap.size ≤ gb355)); have n3_ := Aside0.mk ((by rw [hg]; exact (below_size (by repeat (first | (with_reducible first | exact HB.out | apply below_alloc | apply pw_below_drewN | apply below_drew1) | exact HB.out))) : w.heap.size ≤ gb355)); clear HB; have HB := n0_; have BK355 := n1_; have GW355 := n2_; have GE355 := n3_; clear n0_ n1_ n2_ n3_; clear hb hbox hg; have hcz6_0 : w5.cell? ⟨gb355, 0, none⟩ = some (.int .i64 a0_0) := (blk_cell BK355.out 0).trans rfl; have hcz6_1 : w5.cell? ⟨gb355, 1, none⟩ = some (.int .i64 a0_1) := (blk_cell BK355.out 1).trans rfl; have hcz6_2 : w5.cell? ⟨gb355, 2, none⟩ = some (.slice A0_2 l0_2.length c0_2) := (blk_cell BK355.out 2).trans rfl; have hfz6_0 := blk_frozen BK355.out 0; have hfz6_1 := blk_frozen BK355.out 1; have hfz6_2 := blk_frozen BK355.out 2) | ((with_reducible refine gate_callee (f := 20) rfl ?_); refine goesL_ (some 13) rfl rfl Try.func20 (by kernel_rfl) rfl #[.agg #[.int .i64 a0_0, .int .i64 a0_1, .slice A0_2 l0_2.length c0_2]] rfl (by (try simp only [List.map_toArray, List.map_cons, List.map_nil]); first | done | rfl | (simp only [List.length_drop, List.length_take]; rfl)) ?_; (with_reducible refine (incunablelaw15_Large.calls a0_0 a0_1 _ _ l0_2 true _ ?side1 ?side2 A2.out).mono ?_); (case side1 => repeat (first | exact (Kd.C_below HR0_2.out HB.out) | (with_reducible refine Kd.C_alloc ?_ _) | (with_reducible refine Kd.C_drewN ?_ _) | (with_reducible refine Kd.C_drew ?_))); (case side2 => exact HC0_2.out); rintro e w7 ⟨rfl, hb⟩; refine ⟨_, rfl, ?_⟩; have n0_ := Aside0.mk (blk_below (bU BK355.out) hb); have n1_ := Aside0.mk (below_step (by repeat (first | (with_reducible first | exact HB.out | apply below_alloc | apply pw_below_drewN | apply below_drew1 | refine below_set ?_ GE355.out) | exact HB.out)) hb); clear BK355; clear HB; have BK355 := n0_; have HB := n1_; clear n0_ n1_; (try clear hb); (try clear hb2); (try clear hk); (try clear hi)) | ((with_reducible refine gate_callee (f := 11) rfl ?_); refine goesL_ (some 14) rfl rfl Try.func11 (by kernel_rfl) rfl #[] rfl (by (try simp only [List.map_toArray, List.map_cons, List.map_nil]); first | done | rfl | (simp only [List.length_drop, List.length_take]; rfl)) ?_; (with_reducible refine (incunablelaw15_Sane.calls k  t357 _ A4.out).mono ?_); rintro e w8 ⟨rfl, hb⟩; refine ⟨_, rfl, ?_⟩; have n0_ := Aside0.mk (blk_below (bU BK355.out) hb); have n1_ := Aside0.mk (below_step (by repeat (first | (with_reducible first | exact HB.out | apply below_alloc | apply pw_below_drewN | apply below_drew1 | refine below_set ?_ GE355.out) | exact HB.out)) hb); clear BK355; clear HB; have BK355 := n0_; have HB := n1_; clear n0_ n1_; (try clear hb); (try clear hb2); (try clear hk); (try clear hi)))
  go_ret
  exact ⟨by first | rfl | (simp [errW_none, errW_some] <;> rfl) | (simp [*, errW_none, errW_some] <;> rfl), by repeat (first | (with_reducible first | exact HB.out | apply below_alloc | apply pw_below_drewN | apply below_drew1 | refine below_set ?_ GE355.out) | exact HB.out)⟩
 ·replace c3 := Bool.eq_false_iff.mpr c3
  subst c3
  have H1 : ((shape_Components.f k a0_0 a0_1 l0_2).bind fun bt358 => ((incunableref15_Components.f k a0_0 a0_1 l0_2).bind fun bt362 => (if bt358.2 = bt362.2 then ((incunableref15_SamePlaced.f k bt358.1 bt362.1).bind fun t366 => (incunablelaw15_ShapeComponents.j0 k bt358.1 bt358.2 (!t366) a0_0 a0_1 l0_2)) else (incunablelaw15_ShapeComponents.j0 k bt358.1 bt358.2 true a0_0 a0_1 l0_2)))) = some r := by rw [if_neg (show ¬ (false = true) by decide)] at H; exact H
  clear H
  have H := H1
  clear H1
  replace H := Option.bind_eq_some_iff.mp H
  obtain ⟨⟨t358, t361⟩, A90, H⟩ := H
  replace H : ((incunableref15_Components.f k a0_0 a0_1 l0_2).bind fun bt362 => (if t361 = bt362.2 then ((incunableref15_SamePlaced.f k t358 bt362.1).bind fun t366 => (incunablelaw15_ShapeComponents.j0 k t358 t361 (!t366) a0_0 a0_1 l0_2)) else (incunablelaw15_ShapeComponents.j0 k t358 t361 true a0_0 a0_1 l0_2))) = some r := H
  have A9 := Aside0.mk A90
  clear A90
  replace H := Option.bind_eq_some_iff.mp H
  obtain ⟨⟨t362, t365⟩, A100, H⟩ := H
  replace H : (if t361 = t365 then ((incunableref15_SamePlaced.f k t358 t362).bind fun t366 => (incunablelaw15_ShapeComponents.j0 k t358 t361 (!t366) a0_0 a0_1 l0_2)) else (incunablelaw15_ShapeComponents.j0 k t358 t361 true a0_0 a0_1 l0_2)) = some r := H
  have A10 := Aside0.mk A100
  clear A100
  have HC11 := Aside0.mk H
  clear H
  go_enter Try.func5, Try.ntmps5
  go_upto_region 5 with (first | ((with_reducible refine gate_dst (N := 1) rfl ?_); (try (refine gate_guard (by rfl) ?_; dsimp only)); refine box_event ?hg (N := 1) ?hd (cs := #[.int .i64 a0_0, .int .i64 a0_1, .slice A0_2 l0_2.length c0_2]) (t := 24) ?hr ?_; (case hd => rfl); (case hg => rfl); (case hr => first | (go_simp; done) | (go_simp; rfl)); intro gb355 hg w12 hbox hb; have n0_ := Aside0.mk (below_step (by repeat (first | (with_reducible first | exact HB.out | apply below_alloc | apply pw_below_drewN | apply below_drew1) | exact HB.out)) hb); have n1_ := Aside0.mk (hbox); have n2_ := Aside0.mk ((by rw [hg]; exact (below_size (by repeat (first | (with_reducible first | exact HB.out | apply below_alloc | apply pw_below_drewN | apply below_drew1) | exact HB.out))) : w.heap.size ≤ gb355)); have n3_ := Aside0.mk ((by rw [hg]; exact (below_size (by repeat (first | (with_reducible first | exact HB.out | apply below_alloc | apply pw_below_drewN | apply below_drew1) | exact HB.out))) : w.heap.size ≤ gb355)); clear HB; have HB := n0_; have BK355 := n1_; have GW355 := n2_; have GE355 := n3_; clear n0_ n1_ n2_ n3_; clear hb hbox hg; have hcz13_0 : w12.cell? ⟨gb355, 0, none⟩ = some (.int .i64 a0_0) := (blk_cell BK355.out 0).trans rfl; have hcz13_1 : w12.cell? ⟨gb355, 1, none⟩ = some (.int .i64 a0_1) := (blk_cell BK355.out 1).trans rfl; have hcz13_2 : w12.cell? ⟨gb355, 2, none⟩ = some (.slice A0_2 l0_2.length c0_2) := (blk_cell BK355.out 2).trans rfl; have hfz13_0 := blk_frozen BK355.out 0; have hfz13_1 := blk_frozen BK355.out 1; have hfz13_2 := blk_frozen BK355.out 2) | ((with_reducible refine gate_callee (f := 20) rfl ?_); refine goesL_ (some 13) rfl rfl Try.func20 (by kernel_rfl) rfl #[.agg #[.int .i64 a0_0, .int .i64 a0_1, .slice A0_2 l0_2.length c0_2]] rfl (by (try simp only [List.map_toArray, List.map_cons, List.map_nil]); first | done | rfl | (simp only [List.length_drop, List.length_take]; rfl)) ?_; (with_reducible refine (incunablelaw15_Large.calls a0_0 a0_1 _ _ l0_2 false _ ?side1 ?side2 A2.out).mono ?_); (case side1 => repeat (first | exact (Kd.C_below HR0_2.out HB.out) | (with_reducible refine Kd.C_alloc ?_ _) | (with_reducible refine Kd.C_drewN ?_ _) | (with_reducible refine Kd.C_drew ?_))); (case side2 => exact HC0_2.out); rintro e w14 ⟨rfl, hb⟩; refine ⟨_, rfl, ?_⟩; have n0_ := Aside0.mk (blk_below (bU BK355.out) hb); have n1_ := Aside0.mk (below_step (by repeat (first | (with_reducible first | exact HB.out | apply below_alloc | apply pw_below_drewN | apply below_drew1 | refine below_set ?_ GE355.out) | exact HB.out)) hb); clear BK355; clear HB; have BK355 := n0_; have HB := n1_; clear n0_ n1_; (try clear hb); (try clear hb2); (try clear hk); (try clear hi); have hcz15_0 : w14.cell? ⟨gb355, 0, none⟩ = some (.int .i64 a0_0) := (blk_cell BK355.out 0).trans rfl; have hcz15_1 : w14.cell? ⟨gb355, 1, none⟩ = some (.int .i64 a0_1) := (blk_cell BK355.out 1).trans rfl; have hcz15_2 : w14.cell? ⟨gb355, 2, none⟩ = some (.slice A0_2 l0_2.length c0_2) := (blk_cell BK355.out 2).trans rfl; have hfz15_0 := blk_frozen BK355.out 0; have hfz15_1 := blk_frozen BK355.out 1; have hfz15_2 := blk_frozen BK355.out 2) | ((with_reducible refine gate_callee (f := 21) rfl ?_); refine goesL_ (some 17) rfl rfl Try.func21 (by kernel_rfl) rfl #[.agg #[.int .i64 a0_0, .int .i64 a0_1, .slice A0_2 l0_2.length c0_2]] rfl (by (try simp only [List.map_toArray, List.map_cons, List.map_nil]); first | done | rfl | (simp only [List.length_drop, List.length_take]; rfl)) ?_; (with_reducible refine (shape_Components.calls k a0_0 a0_1 _ _ l0_2 t358 t361 _ ?side1 ?side2 A9.out).mono ?_); (case side1 => repeat (first | exact (Kd.C_below HR0_2.out HB.out) | (with_reducible refine Kd.C_alloc ?_ _) | (with_reducible refine Kd.C_drewN ?_ _) | (with_reducible refine Kd.C_drew ?_))); (case side2 => exact HC0_2.out); rintro e w16 ⟨v359, rfl, ho0, hb⟩; refine ⟨_, rfl, ?_⟩; have n0_ := Aside0.mk (Kd.S_lower ho0 (below_size (by repeat (first | (with_reducible first | exact HB.out | apply below_alloc | apply pw_below_drewN | apply below_drew1 | refine below_set ?_ GE355.out) | exact HB.out)))); have n1_ := Aside0.mk (blk_below (bU BK355.out) hb); have n2_ := Aside0.mk (below_step (by repeat (first | (with_reducible first | exact HB.out | apply below_alloc | apply pw_below_drewN | apply below_drew1 | refine below_set ?_ GE355.out) | exact HB.out)) hb); clear BK355; clear HB; have HO360 := n0_; have BK355 := n1_; have HB := n2_; clear n0_ n1_ n2_; (try clear hb); (try clear hb2); (try clear hk); (try clear hi); (try clear ho0); have hcz17_0 : w16.cell? ⟨gb355, 0, none⟩ = some (.int .i64 a0_0) := (blk_cell BK355.out 0).trans rfl; have hcz17_1 : w16.cell? ⟨gb355, 1, none⟩ = some (.int .i64 a0_1) := (blk_cell BK355.out 1).trans rfl; have hcz17_2 : w16.cell? ⟨gb355, 2, none⟩ = some (.slice A0_2 l0_2.length c0_2) := (blk_cell BK355.out 2).trans rfl; have hfz17_0 := blk_frozen BK355.out 0; have hfz17_1 := blk_frozen BK355.out 1; have hfz17_2 := blk_frozen BK355.out 2) | ((with_reducible refine gate_callee (f := 22) rfl ?_); refine goesL_ (some 22) rfl rfl Try.func22 (by kernel_rfl) rfl #[.agg #[.int .i64 a0_0, .int .i64 a0_1, .slice A0_2 l0_2.length c0_2]] rfl (by (try simp only [List.map_toArray, List.map_cons, List.map_nil]); first | done | rfl | (simp only [List.length_drop, List.length_take]; rfl)) ?_; (with_reducible refine (incunableref15_Components.calls k a0_0 a0_1 _ _ l0_2 t362 t365 _ ?side1 ?side2 A10.out).mono ?_); (case side1 => repeat (first | exact (Kd.C_below HR0_2.out HB.out) | (with_reducible refine Kd.C_alloc ?_ _) | (with_reducible refine Kd.C_drewN ?_ _) | (with_reducible refine Kd.C_drew ?_))); (case side2 => exact HC0_2.out); rintro e w18 ⟨v363, rfl, ho0, hb⟩; refine ⟨_, rfl, ?_⟩; have n0_ := Aside0.mk (Kd.S_elder' (by (with_reducible repeat (first | apply Kd.S_alloc | apply Kd.S_drewN | apply Kd.S_drew)); exact HO360.out) (Kd.S_base ho0) hb); have n1_ := Aside0.mk (Kd.S_lower (Kd.S_new' ho0 (Kd.S_lt (by (with_reducible repeat (first | apply Kd.S_alloc | apply Kd.S_drewN | apply Kd.S_drew)); exact HO360.out))) (below_size (by repeat (first | (with_reducible first | exact HB.out | apply below_alloc | apply pw_below_drewN | apply below_drew1 | refine below_set ?_ GE355.out) | exact HB.out)))); have n2_ := Aside0.mk (blk_below (bU BK355.out) hb); have n3_ := Aside0.mk (below_step (by repeat (first | (with_reducible first | exact HB.out | apply below_alloc | apply pw_below_drewN | apply below_drew1 | refine below_set ?_ GE355.out) | exact HB.out)) hb); clear HO360; clear BK355; clear HB; have HO360 := n0_; have HO364 := n1_; have BK355 := n2_; have HB := n3_; clear n0_ n1_ n2_ n3_; (try clear hb); (try clear hb2); (try clear hk); (try clear hi); (try clear ho0)))
  (try simp only [Act.put, List.setIfInBounds_toArray, List.set_cons_zero, List.set_cons_succ])
  go_cut [33] (fun v33 wc => ∃ (kq : Nat) (x33_10 : Bool), v33 = .bool x33_10 ∧ Aside0 (incunablelaw15_ShapeComponents.j0 kq t358 t361 x33_10 a0_0 a0_1 l0_2 = some r) ∧ Aside0 (kq ≤ k) ∧ Aside0 (Kd.S k48 48 wc w.heap.size (fun _ => True) v359 t358) ∧ Aside0 (wc.heap[gb355]? = some (.cells #[.int .i64 a0_0, .int .i64 a0_1, (.slice A0_2 l0_2.length c0_2)] 24 (0, 0))) ∧ Aside0 (Below w.heap.size w wc))
  case first =>
   have H := HC11.out
   clear HC11
   by_cases c19 : t361 = t365
   ·rw [if_pos c19] at H
    have c19b0 : (t361 == t365) = true := beq_iff_eq.mpr c19
    have c19b1 : (t361 != t365) = false := bne_eq_false_iff_eq.mpr c19
    clear c19
    (first | rw [c19b0] | (simp only [i64_w, i32_w]; rw [c19b0]) | skip)
    replace H := Option.bind_eq_some_iff.mp H
    obtain ⟨t366, A200, H⟩ := H
    replace H : (incunablelaw15_ShapeComponents.j0 k t358 t361 (!t366) a0_0 a0_1 l0_2) = some r := H
    have A20 := Aside0.mk A200
    clear A200
    have H' := Aside0.mk H
    clear H
    obtain ⟨Ao21, co21, eo21⟩ := Kd.S_slice HO360.out
    subst eo21
    obtain ⟨Ao22, co22, eo22⟩ := Kd.S_slice HO364.out
    subst eo22
    go_wp2_with (first | (go_at_call 23; (with_reducible refine (incunableref15_SamePlaced.calls k _ _ t358 _ _ t362 t366 _ ?side1 ?side2 ?side3 ?side4 A20.out).mono ?_); (case side1 => repeat (first | exact (Kd.S_reads' HO360.out).2.2 | (with_reducible refine Kd.C_alloc ?_ _) | (with_reducible refine Kd.C_drewN ?_ _) | (with_reducible refine Kd.C_drew ?_))); (case side2 => exact (Kd.S_reads' HO360.out).2.1); (case side3 => repeat (first | exact (Kd.S_reads' HO364.out).2.2 | (with_reducible refine Kd.C_alloc ?_ _) | (with_reducible refine Kd.C_drewN ?_ _) | (with_reducible refine Kd.C_drew ?_))); (case side4 => exact (Kd.S_reads' HO364.out).2.1); rintro e w23 ⟨rfl, hb⟩; have n0_ := Aside0.mk (Kd.S_below (by (with_reducible repeat (first | apply Kd.S_alloc | apply Kd.S_drewN | apply Kd.S_drew)); exact HO360.out) hb); have n1_ := Aside0.mk (Kd.S_below (by (with_reducible repeat (first | apply Kd.S_alloc | apply Kd.S_drewN | apply Kd.S_drew)); exact HO364.out) hb); have n2_ := Aside0.mk (blk_below (bU BK355.out) hb); have n3_ := Aside0.mk (below_step (by repeat (first | (with_reducible first | exact HB.out | apply below_alloc | apply pw_below_drewN | apply below_drew1 | refine below_set ?_ GE355.out) | exact HB.out)) hb); clear HO360; clear HO364; clear BK355; clear HB; have HO360 := n0_; have HO364 := n1_; have BK355 := n2_; have HB := n3_; clear n0_ n1_ n2_ n3_; (try clear hb); (try clear hb2); (try clear hk); (try clear hi)))
    go_meet
    case rel => exact ⟨_, (!t366), (by first | rfl | (simp; done) | (simp [*]; done)), H', ⟨by first | omega | exact Nat.le_refl _⟩, ⟨by (with_reducible repeat (first | apply Kd.S_alloc | apply Kd.S_drewN | apply Kd.S_drew)); exact Kd.S_mono HO360.out (fun _ hk => trivial)⟩, ⟨by exact bU BK355.out⟩, ⟨by repeat (first | (with_reducible first | exact HB.out | apply below_alloc | apply pw_below_drewN | apply below_drew1 | refine below_set ?_ GE355.out) | exact HB.out)⟩⟩
   ·rw [if_neg c19] at H
    have c19b0 : (t361 == t365) = false := beq_eq_false_iff_ne.mpr c19
    have c19b1 : (t361 != t365) = true := bne_iff_ne.mpr c19
    (first | rw [c19b0] | (simp only [i64_w, i32_w]; rw [c19b0]) | skip)
    have H' := Aside0.mk H
    clear H
    go_wp2
    go_meet
    case rel => exact ⟨_, (true), (by first | rfl | (simp; done) | (simp [*]; done)), H', ⟨by first | omega | exact Nat.le_refl _⟩, ⟨by (with_reducible repeat (first | apply Kd.S_alloc | apply Kd.S_drewN | apply Kd.S_drew)); exact Kd.S_mono HO360.out (fun _ hk => trivial)⟩, ⟨by exact bU BK355.out⟩, ⟨by repeat (first | (with_reducible first | exact HB.out | apply below_alloc | apply pw_below_drewN | apply below_drew1 | refine below_set ?_ GE355.out) | exact HB.out)⟩⟩
  case rest =>
   clear HC11
   try clear c1
   try clear c2
   try clear p2
   try clear c3
   try clear c5
   try clear c11
   try clear c19
   try clear c19b0
   try clear c19b1
   try clear c20
   try clear c21
   try clear c22
   try clear hcz13_0
   try clear hcz13_1
   try clear hcz13_2
   try clear hcz15_0
   try clear hcz15_1
   try clear hcz15_2
   try clear hcz17_0
   try clear hcz17_1
   try clear hcz17_2
   try clear hcz6_0
   try clear hcz6_1
   try clear hcz6_2
   try clear hfz13_0
   try clear hfz13_1
   try clear hfz13_2
   try clear hfz15_0
   try clear hfz15_1
   try clear hfz15_2
   try clear hfz17_0
   try clear hfz17_1
   try clear hfz17_2
   try clear hfz6_0
   try clear hfz6_1
   try clear hfz6_2
   obtain ⟨kq, x33_10, rfl, HA, HJ10, HO_3, BK355, HB⟩ := hcut
   cases kq with
   | zero => exact absurd HA.out (by simp [incunablelaw15_ShapeComponents.j0])
   | succ kj10 =>
    have H := HA.out
    clear HA
    simp only [incunablelaw15_ShapeComponents.j0] at H
    by_cases c24 : x33_10 = true
    ·subst c24
     have H1 : (some false) = some r := by rw [if_pos rfl] at H; exact H
     clear H
     have H := H1
     clear H1
     exact absurd ((Option.some.inj H).trans HR_.out) (by decide)
    ·replace c24 := Bool.eq_false_iff.mpr c24
     subst c24
     have H1 : (if t361 = 0 then ((shape_Draw.f kj10 a0_0 a0_1 t358).bind fun bt368 => (if bt368.2.2.2 = 0 then ((incunableref05_Same.f bt368.1 bt368.2.1 bt368.2.2.1 a0_0 a0_1 l0_2).bind fun t375 => (incunablelaw15_ShapeComponents.j1 kj10 t358 (!t375) a0_0 a0_1 l0_2)) else (incunablelaw15_ShapeComponents.j1 kj10 t358 true a0_0 a0_1 l0_2))) else ((incunablelaw15_Sane.f kj10).bind fun t367 => (some t367))) = some r := by rw [if_neg (show ¬ (false = true) by decide)] at H; exact H
     clear H
     have H := H1
     clear H1
     by_cases c25 : t361 = 0
     ·rw [if_pos c25] at H
      have c25b0 : (t361 == 0) = true := beq_iff_eq.mpr c25
      have c25b1 : (t361 != 0) = false := bne_eq_false_iff_eq.mpr c25
      clear c25
      replace H := Option.bind_eq_some_iff.mp H
      obtain ⟨⟨t368, t369, t370, t373⟩, A260, H⟩ := H
      replace H : (if t373 = 0 then ((incunableref05_Same.f t368 t369 t370 a0_0 a0_1 l0_2).bind fun t375 => (incunablelaw15_ShapeComponents.j1 kj10 t358 (!t375) a0_0 a0_1 l0_2)) else (incunablelaw15_ShapeComponents.j1 kj10 t358 true a0_0 a0_1 l0_2)) = some r := H
      have A26 := Aside0.mk A260
      clear A260
      have HC27 := Aside0.mk H
      clear H
      have hcz28_0 : wc.cell? ⟨gb355, 0, none⟩ = some (.int .i64 a0_0) := (blk_cell BK355.out 0).trans rfl
      have hcz28_1 : wc.cell? ⟨gb355, 1, none⟩ = some (.int .i64 a0_1) := (blk_cell BK355.out 1).trans rfl
      have hcz28_2 : wc.cell? ⟨gb355, 2, none⟩ = some (.slice A0_2 l0_2.length c0_2) := (blk_cell BK355.out 2).trans rfl
      have hfz28_0 := blk_frozen BK355.out 0
      have hfz28_1 := blk_frozen BK355.out 1
      have hfz28_2 := blk_frozen BK355.out 2
      obtain ⟨Ao29, co29, eo29⟩ := Kd.S_slice HO_3.out
      subst eo29
      go_upto_region 10 with (first | ((with_reducible refine gate_callee (f := 24) rfl ?_); refine goesL_ (some 43) rfl rfl Try.func24 (by kernel_rfl) rfl #[.int .i64 a0_0, .int .i64 a0_1, .slice Ao29 t358.length co29] rfl (by (try simp only [List.map_toArray, List.map_cons, List.map_nil]); first | done | rfl | (simp only [List.length_drop, List.length_take]; rfl)) ?_; (with_reducible refine (shape_Draw.calls kj10 a0_0 a0_1 _ _ t358 t368 t369 t370 t373 _ ?side1 ?side2 A26.out).mono ?_); (case side1 => repeat (first | exact (Kd.S_reads' HO_3.out).2.2 | (with_reducible refine Kd.C_alloc ?_ _) | (with_reducible refine Kd.C_drewN ?_ _) | (with_reducible refine Kd.C_drew ?_))); (case side2 => exact (Kd.S_reads' HO_3.out).2.1); rintro e w30 ⟨v371, rfl, ho0, hb⟩; refine ⟨_, rfl, ?_⟩; have n0_ := Aside0.mk (Kd.S_elder' (by (with_reducible repeat (first | apply Kd.S_alloc | apply Kd.S_drewN | apply Kd.S_drew)); exact HO_3.out) (Kd.R_base ho0) hb); have n1_ := Aside0.mk (Kd.R_lower ho0 (below_size (by repeat (first | (with_reducible first | exact HB.out | apply below_alloc | apply pw_below_drewN | apply below_drew1 | refine below_set ?_ GE355.out) | exact HB.out)))); have n2_ := Aside0.mk (blk_below (bU BK355.out) hb); have n3_ := Aside0.mk (below_step (by repeat (first | (with_reducible first | exact HB.out | apply below_alloc | apply pw_below_drewN | apply below_drew1 | refine below_set ?_ GE355.out) | exact HB.out)) hb); clear HO_3; clear BK355; clear HB; have HO_3 := n0_; have HO372 := n1_; have BK355 := n2_; have HB := n3_; clear n0_ n1_ n2_ n3_; (try clear hb); (try clear hb2); (try clear hk); (try clear hi); (try clear ho0)) | ((with_reducible refine gate_dst (N := 7) rfl ?_); (try (refine gate_guard (by rfl) ?_; dsimp only)); refine box_event ?hg (N := 7) ?hd (cs := #[.int .i64 0, .int .i64 0, .slice none 0 0]) (t := 24) ?hr ?_; (case hd => rfl); (case hg => rfl); (case hr => first | (go_simp; done) | (go_simp; rfl)); intro gb374 hg w31 hbox hb; have n0_ := Aside0.mk (Kd.S_below (by (with_reducible repeat (first | apply Kd.S_alloc | apply Kd.S_drewN | apply Kd.S_drew)); exact HO_3.out) hb); have n1_ := Aside0.mk (Kd.R_below (rU HO372.out) hb); have n2_ := Aside0.mk (blk_below (bU BK355.out) hb); have n3_ := Aside0.mk (below_step (by repeat (first | (with_reducible first | exact HB.out | apply below_alloc | apply pw_below_drewN | apply below_drew1 | refine below_set ?_ GE355.out) | exact HB.out)) hb); have n4_ := Aside0.mk (hbox); have n5_ := Aside0.mk ((by rw [hg]; exact (below_size (by repeat (first | (with_reducible first | exact HB.out | apply below_alloc | apply pw_below_drewN | apply below_drew1 | refine below_set ?_ GE355.out) | exact HB.out))) : w.heap.size ≤ gb374)); have n6_ := Aside0.mk ((by rw [hg]; exact (below_size (by repeat (first | (with_reducible first | exact HB.out | apply below_alloc | apply pw_below_drewN | apply below_drew1 | refine below_set ?_ GE355.out) | exact HB.out))) : w.heap.size ≤ gb374)); have n7_ := Aside0.mk ((by rw [hg]; exact Nat.ne_of_lt (blk_lt (bU BK355.out)) : gb355 ≠ gb374)); have n8_ := Aside0.mk ((by rw [hg]; exact Nat.ne_of_gt (blk_lt (bU BK355.out)) : gb374 ≠ gb355)); clear HO_3; clear HO372; clear BK355; clear HB; have HO_3 := n0_; have HO372 := n1_; have BK355 := n2_; have HB := n3_; have BK374 := n4_; have GW374 := n5_; have GE374 := n6_; have NB355_374 := n7_; have NB374_355 := n8_; clear n0_ n1_ n2_ n3_ n4_ n5_ n6_ n7_ n8_; clear hb hbox hg; have hnb32 := NB374_355.out; have hnc32 := NB355_374.out; have hcz33_0 : w31.cell? ⟨gb374, 0, none⟩ = some (.int .i64 0) := (blk_cell BK374.out 0).trans rfl; have hcz33_1 : w31.cell? ⟨gb374, 1, none⟩ = some (.int .i64 0) := (blk_cell BK374.out 1).trans rfl; have hcz33_2 : w31.cell? ⟨gb374, 2, none⟩ = some (.slice none 0 0) := (blk_cell BK374.out 2).trans rfl; have hfz33_0 := blk_frozen BK374.out 0; have hfz33_1 := blk_frozen BK374.out 1; have hfz33_2 := blk_frozen BK374.out 2; obtain ⟨Ao34, co34, eo34⟩ := Kd.R_slice HO372.out; subst eo34))
      (try simp only [Act.put, List.setIfInBounds_toArray, List.set_cons_zero, List.set_cons_succ])
      go_cut [53] (fun v53 wc => ∃ (kq : Nat) (x53_26 : Bool), v53 = .bool x53_26 ∧ Aside0 (incunablelaw15_ShapeComponents.j1 kq t358 x53_26 a0_0 a0_1 l0_2 = some r) ∧ Aside0 (kq ≤ kj10) ∧ Aside0 (Kd.S k48 48 wc w.heap.size (fun k_ => some k_ ≠ ((.slice Ao34 t370.length co34) : Value).ownBlock) (.slice Ao29 t358.length co29) t358) ∧ Aside0 (Kd.R (Kd.int .u8) 5 wc w.heap.size (fun _ => True) (.slice Ao34 t370.length co34) t370) ∧ Aside0 (wc.heap[gb355]? = some (.cells #[.int .i64 a0_0, .int .i64 a0_1, (.slice A0_2 l0_2.length c0_2)] 24 (0, 0))) ∧ Aside0 (wc.heap[gb374]? = some (.cells #[.int .i64 t368, .int .i64 t369, (.slice Ao34 t370.length co34)] 24 (0, 0))) ∧ Aside0 (Below w.heap.size w wc))
      case first =>
       have H := HC27.out
       clear HC27
       by_cases c35 : t373 = 0
       ·rw [if_pos c35] at H
        have c35b0 : (t373 == 0) = true := beq_iff_eq.mpr c35
        have c35b1 : (t373 != 0) = false := bne_eq_false_iff_eq.mpr c35
        clear c35
        (first | rw [c35b0] | (simp only [i64_w, i32_w]; rw [c35b0]) | skip)
        replace H := Option.bind_eq_some_iff.mp H
        obtain ⟨t375, A360, H⟩ := H
        replace H : (incunablelaw15_ShapeComponents.j1 kj10 t358 (!t375) a0_0 a0_1 l0_2) = some r := H
        have A36 := Aside0.mk A360
        clear A360
        have H' := Aside0.mk H
        clear H
        have hnb37 := NB374_355.out
        have hnc37 := NB355_374.out
        have hcz38_0 : w31.cell? ⟨gb374, 0, none⟩ = some (.int .i64 0) := (blk_cell BK374.out 0).trans rfl
        have hcz38_1 : w31.cell? ⟨gb374, 1, none⟩ = some (.int .i64 0) := (blk_cell BK374.out 1).trans rfl
        have hcz38_2 : w31.cell? ⟨gb374, 2, none⟩ = some (.slice none 0 0) := (blk_cell BK374.out 2).trans rfl
        have hfz38_0 := blk_frozen BK374.out 0
        have hfz38_1 := blk_frozen BK374.out 1
        have hfz38_2 := blk_frozen BK374.out 2
        have hcz39_0 : w31.cell? ⟨gb355, 0, none⟩ = some (.int .i64 a0_0) := (blk_cell BK355.out 0).trans rfl
        have hcz39_1 : w31.cell? ⟨gb355, 1, none⟩ = some (.int .i64 a0_1) := (blk_cell BK355.out 1).trans rfl
        have hcz39_2 : w31.cell? ⟨gb355, 2, none⟩ = some (.slice A0_2 l0_2.length c0_2) := (blk_cell BK355.out 2).trans rfl
        have hfz39_0 := blk_frozen BK355.out 0
        have hfz39_1 := blk_frozen BK355.out 1
        have hfz39_2 := blk_frozen BK355.out 2
        go_wp2_with (first | (go_at_call 25; (with_reducible refine (incunableref05_Same.calls t368 t369 _ _ t370 a0_0 a0_1 _ _ l0_2 t375 _ ?side1 ?side2 ?side3 ?side4 A36.out).mono ?_); (case side1 => refine (Kd.R_reads' (e := 5) (base := w.heap.size) (ok := fun k_ => True) (n := t370.length) (c := co34) ?_).2.2; exact (by (with_reducible repeat (first | apply Kd.R_alloc | apply Kd.R_drewN | apply Kd.R_drew)); exact (Kd.R_mono (Kd.R_far (p := ⟨gb374, 2, none⟩) (Kd.R_far (p := ⟨gb374, 1, none⟩) (Kd.R_far (p := ⟨gb374, 0, none⟩) (Kd.R_types HO372.out BK374.out (by decide)) (fun _ hk => hk.2) (.int .i64 t368)) (fun _ hk => hk.2) (.int .i64 t369)) (fun _ hk => hk.2) (.slice Ao34 t370.length co34)) (fun _ h_ => h_.1)))); (case side2 => exact (Kd.R_reads' HO372.out).2.1); (case side3 => exact Kd.C_below HR0_2.out (by repeat (first | (with_reducible first | exact HB.out | apply below_alloc | apply pw_below_drewN | apply below_drew1 | refine below_set ?_ GE355.out | refine below_set ?_ GE374.out) | exact HB.out))); (case side4 => exact HC0_2.out); rintro e w40 ⟨rfl, hb⟩; have n0_ := Aside0.mk (Kd.S_below (by (with_reducible repeat (first | apply Kd.S_alloc | apply Kd.S_drewN | apply Kd.S_drew)); exact (Kd.S_mono (Kd.S_far (p := ⟨gb374, 2, none⟩) (Kd.S_far (p := ⟨gb374, 1, none⟩) (Kd.S_far (p := ⟨gb374, 0, none⟩) (Kd.S_types HO_3.out BK374.out (by decide)) (fun _ hk => hk.2) (.int .i64 t368)) (fun _ hk => hk.2) (.int .i64 t369)) (fun _ hk => hk.2) (.slice Ao34 t370.length co34)) (fun _ h_ => h_.1))) hb); have n1_ := Aside0.mk (Kd.R_below (by (with_reducible repeat (first | apply Kd.R_alloc | apply Kd.R_drewN | apply Kd.R_drew)); exact (Kd.R_mono (Kd.R_far (p := ⟨gb374, 2, none⟩) (Kd.R_far (p := ⟨gb374, 1, none⟩) (Kd.R_far (p := ⟨gb374, 0, none⟩) (Kd.R_types HO372.out BK374.out (by decide)) (fun _ hk => hk.2) (.int .i64 t368)) (fun _ hk => hk.2) (.int .i64 t369)) (fun _ hk => hk.2) (.slice Ao34 t370.length co34)) (fun _ h_ => h_.1))) hb); have n2_ := Aside0.mk (blk_below (g := gb355) (o := .cells #[.int .i64 a0_0, .int .i64 a0_1, .slice A0_2 l0_2.length c0_2] 24 (0, 0)) (by refine bF ?_ ?_; exact NB355_374.out; refine bF ?_ ?_; exact NB355_374.out; refine bF ?_ ?_; exact NB355_374.out; exact bU BK355.out) hb); have n3_ := Aside0.mk (blk_below (g := gb374) (o := .cells #[.int .i64 t368, .int .i64 t369, .slice Ao34 t370.length co34] 24 (0, 0)) (by (with_reducible repeat (first | refine blk_drewN ?_ _ | refine blk_drew ?_ | refine blk_alloc ?_ _)); refine blk_put (cs := #[.int .i64 t368, .int .i64 t369, .slice none 0 0]) ?_ 2 _ rfl; (with_reducible repeat (first | refine blk_drewN ?_ _ | refine blk_drew ?_ | refine blk_alloc ?_ _)); refine blk_put (cs := #[.int .i64 t368, .int .i64 0, .slice none 0 0]) ?_ 1 _ rfl; (with_reducible repeat (first | refine blk_drewN ?_ _ | refine blk_drew ?_ | refine blk_alloc ?_ _)); refine blk_put (cs := #[.int .i64 0, .int .i64 0, .slice none 0 0]) ?_ 0 _ rfl; exact bU BK374.out) hb); have n4_ := Aside0.mk (below_step (by repeat (first | (with_reducible first | exact HB.out | apply below_alloc | apply pw_below_drewN | apply below_drew1 | refine below_set ?_ GE355.out | refine below_set ?_ GE374.out) | exact HB.out)) hb); clear HO_3; clear HO372; clear BK355; clear BK374; clear HB; have HO_3 := n0_; have HO372 := n1_; have BK355 := n2_; have BK374 := n3_; have HB := n4_; clear n0_ n1_ n2_ n3_ n4_; (try clear hb); (try clear hb2); (try clear hk); (try clear hi)))
        go_meet
        case rel => exact ⟨_, (!t375), (by first | rfl | (simp; done) | (simp [*]; done)), H', ⟨by have := HJ10.out; first | omega | exact Nat.le_refl _⟩, ⟨by (with_reducible repeat (first | apply Kd.S_alloc | apply Kd.S_drewN | apply Kd.S_drew)); exact Kd.S_mono HO_3.out (fun _ hk => hk.2)⟩, ⟨by (with_reducible repeat (first | apply Kd.R_alloc | apply Kd.R_drewN | apply Kd.R_drew)); exact HO372.out⟩, ⟨by exact bU BK355.out⟩, ⟨by exact bU BK374.out⟩, ⟨by repeat (first | (with_reducible first | exact HB.out | apply below_alloc | apply pw_below_drewN | apply below_drew1 | refine below_set ?_ GE355.out | refine below_set ?_ GE374.out) | exact HB.out)⟩⟩
       ·rw [if_neg c35] at H
        have c35b0 : (t373 == 0) = false := beq_eq_false_iff_ne.mpr c35
        have c35b1 : (t373 != 0) = true := bne_iff_ne.mpr c35
        (first | rw [c35b0] | (simp only [i64_w, i32_w]; rw [c35b0]) | skip)
        have H' := Aside0.mk H
        clear H
        go_wp2
        go_meet
        case rel => exact ⟨_, (true), (by first | rfl | (simp; done) | (simp [*]; done)), H', ⟨by have := HJ10.out; first | omega | exact Nat.le_refl _⟩, ⟨by (with_reducible repeat (first | apply Kd.S_alloc | apply Kd.S_drewN | apply Kd.S_drew)); exact Kd.S_mono (Kd.S_far (p := ⟨gb374, 2, none⟩) (Kd.S_far (p := ⟨gb374, 1, none⟩) (Kd.S_far (p := ⟨gb374, 0, none⟩) (Kd.S_types HO_3.out BK374.out (by decide)) (fun _ hk => hk.2) (.int .i64 t368)) (fun _ hk => hk.2) (.int .i64 t369)) (fun _ hk => hk.2) (.slice Ao34 t370.length co34)) (fun _ hk => hk.1.2)⟩, ⟨by (with_reducible repeat (first | apply Kd.R_alloc | apply Kd.R_drewN | apply Kd.R_drew)); exact Kd.R_mono (Kd.R_far (p := ⟨gb374, 2, none⟩) (Kd.R_far (p := ⟨gb374, 1, none⟩) (Kd.R_far (p := ⟨gb374, 0, none⟩) (Kd.R_types HO372.out BK374.out (by decide)) (fun _ hk => hk.2) (.int .i64 t368)) (fun _ hk => hk.2) (.int .i64 t369)) (fun _ hk => hk.2) (.slice Ao34 t370.length co34)) (fun _ hk => trivial)⟩, ⟨by refine bF ?_ ?_; exact NB355_374.out; refine bF ?_ ?_; exact NB355_374.out; refine bF ?_ ?_; exact NB355_374.out; exact bU BK355.out⟩, ⟨by (with_reducible repeat (first | refine blk_drewN ?_ _ | refine blk_drew ?_ | refine blk_alloc ?_ _)); refine blk_put (cs := #[.int .i64 t368, .int .i64 t369, .slice none 0 0]) ?_ 2 _ rfl; (with_reducible repeat (first | refine blk_drewN ?_ _ | refine blk_drew ?_ | refine blk_alloc ?_ _)); refine blk_put (cs := #[.int .i64 t368, .int .i64 0, .slice none 0 0]) ?_ 1 _ rfl; (with_reducible repeat (first | refine blk_drewN ?_ _ | refine blk_drew ?_ | refine blk_alloc ?_ _)); refine blk_put (cs := #[.int .i64 0, .int .i64 0, .slice none 0 0]) ?_ 0 _ rfl; exact bU BK374.out⟩, ⟨by repeat (first | (with_reducible first | exact HB.out | apply below_alloc | apply pw_below_drewN | apply below_drew1 | refine below_set ?_ GE355.out | refine below_set ?_ GE374.out) | exact HB.out)⟩⟩
      case rest =>
       clear HC27
       try clear c1
       try clear c2
       try clear p2
       try clear c3
       try clear c5
       try clear c11
       try clear c19
       try clear c19b0
       try clear c19b1
       try clear c20
       try clear c21
       try clear c22
       try clear c24
       try clear c25
       try clear c25b0
       try clear c25b1
       try clear c32
       try clear c35
       try clear c35b0
       try clear c35b1
       try clear c37
       try clear hcz13_0
       try clear hcz13_1
       try clear hcz13_2
       try clear hcz15_0
       try clear hcz15_1
       try clear hcz15_2
       try clear hcz17_0
       try clear hcz17_1
       try clear hcz17_2
       try clear hcz28_0
       try clear hcz28_1
       try clear hcz28_2
       try clear hcz33_0
       try clear hcz33_1
       try clear hcz33_2
       try clear hcz38_0
       try clear hcz38_1
       try clear hcz38_2
       try clear hcz39_0
       try clear hcz39_1
       try clear hcz39_2
       try clear hcz6_0
       try clear hcz6_1
       try clear hcz6_2
       try clear hfz13_0
       try clear hfz13_1
       try clear hfz13_2
       try clear hfz15_0
       try clear hfz15_1
       try clear hfz15_2
       try clear hfz17_0
       try clear hfz17_1
       try clear hfz17_2
       try clear hfz28_0
       try clear hfz28_1
       try clear hfz28_2
       try clear hfz33_0
       try clear hfz33_1
       try clear hfz33_2
       try clear hfz38_0
       try clear hfz38_1
       try clear hfz38_2
       try clear hfz39_0
       try clear hfz39_1
       try clear hfz39_2
       try clear hfz6_0
       try clear hfz6_1
       try clear hfz6_2
       try clear p2
       obtain ⟨kq, x53_26, rfl, HA, HJ26, HO_3, HO_375002, BK355, BK374, HB⟩ := hcut
       cases kq with
       | zero => exact absurd HA.out (by simp [incunablelaw15_ShapeComponents.j1])
       | succ kj26 =>
        have H := HA.out
        clear HA
        simp only [incunablelaw15_ShapeComponents.j1] at H
        by_cases c41 : x53_26 = true
        ·subst c41
         have H1 : (some false) = some r := by rw [if_pos rfl] at H; exact H
         clear H
         have H := H1
         clear H1
         exact absurd ((Option.some.inj H).trans HR_.out) (by decide)
        ·replace c41 := Bool.eq_false_iff.mpr c41
         subst c41
         have H1 : (incunablelaw15_ShapeComponents.l0 kj26 t358 0 0 a0_0 a0_1 l0_2) = some r := by rw [if_neg (show ¬ (false = true) by decide)] at H; exact H
         clear H
         have H := H1
         clear H1
         have H' := Aside0.mk H
         clear H
         go_wp2
         go_loopg [8, 9] kj26 (fun kq v8 v9 w' => ∃ (x8_3 : Int) (x9_3 : Int), v8 = .int .i64 x8_3 ∧ v9 = .int .i64 x9_3 ∧ Aside0 (incunablelaw15_ShapeComponents.l0 kq t358 x8_3 x9_3 a0_0 a0_1 l0_2 = some r) ∧ Aside0 (kq ≤ kj26) ∧ Aside0 (Kd.S k48 48 w' w.heap.size (fun k_ => some k_ ≠ ((.slice Ao34 t370.length co34) : Value).ownBlock) (.slice Ao29 t358.length co29) t358) ∧ Aside0 (Kd.R (Kd.int .u8) 5 w' w.heap.size (fun _ => True) (.slice Ao34 t370.length co34) t370) ∧ Aside0 (w'.heap[gb355]? = some (.cells #[.int .i64 a0_0, .int .i64 a0_1, (.slice A0_2 l0_2.length c0_2)] 24 (0, 0))) ∧ Aside0 (w'.heap[gb374]? = some (.cells #[.int .i64 t368, .int .i64 t369, (.slice Ao34 t370.length co34)] 24 (0, 0))) ∧ Aside0 (Below w.heap.size w w'))
         case atStart => exact ⟨(0), (0), (by first | rfl | (simp; done) | (simp [*]; done)), (by first | rfl | (simp; done) | (simp [*]; done)), H', ⟨Nat.le_refl _⟩, ⟨by (with_reducible repeat (first | apply Kd.S_alloc | apply Kd.S_drewN | apply Kd.S_drew)); exact HO_3.out⟩, ⟨by (with_reducible repeat (first | apply Kd.R_alloc | apply Kd.R_drewN | apply Kd.R_drew)); exact HO_375002.out⟩, ⟨by exact bU BK355.out⟩, ⟨by exact bU BK374.out⟩, ⟨by repeat (first | (with_reducible first | exact HB.out | apply below_alloc | apply pw_below_drewN | apply below_drew1 | refine below_set ?_ GE355.out | refine below_set ?_ GE374.out) | exact HB.out)⟩⟩
         case round =>
          clear H'
          try clear c1
          try clear c2
          try clear p2
          try clear c3
          try clear c4
          try clear c5
          try clear c11
          try clear c19
          try clear c19b0
          try clear c19b1
          try clear c20
          try clear c21
          try clear c22
          try clear c24
          try clear c25
          try clear c25b0
          try clear c25b1
          try clear c32
          try clear c35
          try clear c35b0
          try clear c35b1
          try clear c37
          try clear c41
          try clear hcz13_0
          try clear hcz13_1
          try clear hcz13_2
          try clear hcz15_0
          try clear hcz15_1
          try clear hcz15_2
          try clear hcz17_0
          try clear hcz17_1
          try clear hcz17_2
          try clear hcz28_0
          try clear hcz28_1
          try clear hcz28_2
          try clear hcz33_0
          try clear hcz33_1
          try clear hcz33_2
          try clear hcz38_0
          try clear hcz38_1
          try clear hcz38_2
          try clear hcz39_0
          try clear hcz39_1
          try clear hcz39_2
          try clear hcz6_0
          try clear hcz6_1
          try clear hcz6_2
          try clear hfz13_0
          try clear hfz13_1
          try clear hfz13_2
          try clear hfz15_0
          try clear hfz15_1
          try clear hfz15_2
          try clear hfz17_0
          try clear hfz17_1
          try clear hfz17_2
          try clear hfz28_0
          try clear hfz28_1
          try clear hfz28_2
          try clear hfz33_0
          try clear hfz33_1
          try clear hfz33_2
          try clear hfz38_0
          try clear hfz38_1
          try clear hfz38_2
          try clear hfz39_0
          try clear hfz39_1
          try clear hfz39_2
          try clear hfz6_0
          try clear hfz6_1
          try clear hfz6_2
          try clear p2
          obtain ⟨x8_3, x9_3, rfl, rfl, HA, HK3, HO_3, HO_375002, BK355, BK374, HB⟩ := hrel
          cases gk with
          | zero => exact absurd HA.out (by simp [incunablelaw15_ShapeComponents.l0])
          | succ k3 =>
           have H := HA.out
           clear HA
           simp only [incunablelaw15_ShapeComponents.l0] at H
           by_cases c42 : x9_3 < (t358.length : Int)
           ·rw [if_pos c42] at H
            have c42b0 : decide (x9_3 < (t358.length : Int)) = true := decide_eq_true c42
            clear c42
            by_cases c43 : 0 ≤ x9_3
            ·rw [if_pos c43] at H
             have c43b0 : decide (0 ≤ x9_3) = true := decide_eq_true c43
             clear c43
             replace H := Option.bind_eq_some_iff.mp H
             obtain ⟨t379, A440, H⟩ := H
             replace H : ((shape_Components.f k3 ((rd_T48 t358 x9_3).f0.f0) ((rd_T48 t358 x9_3).f0.f1) ((rd_T48 t358 x9_3).f0.f2)).bind fun bt381 => (if bt381.2 = 0 then (if (bt381.1.length : Int) = 1 then (if 0 < (bt381.1.length : Int) then (if ((rd_T48 bt381.1 0).f1) = 0 then (if ((rd_T48 bt381.1 0).f2) = 0 then ((incunableref05_Same.f ((rd_T48 bt381.1 0).f0.f0) ((rd_T48 bt381.1 0).f0.f1) ((rd_T48 bt381.1 0).f0.f2) ((rd_T48 t358 x9_3).f0.f0) ((rd_T48 t358 x9_3).f0.f1) ((rd_T48 t358 x9_3).f0.f2)).bind fun t389 => (if t389 = true then (incunablelaw15_ShapeComponents.l0 k3 t358 (wrap64 (x8_3 + t379)) (wrap64 (x9_3 + 1)) a0_0 a0_1 l0_2) else (some false))) else (some false)) else (some false)) else (none)) else (some false)) else (some false))) = some r := H
             have A44 := Aside0.mk A440
             clear A440
             replace H := Option.bind_eq_some_iff.mp H
             obtain ⟨⟨t381, t384⟩, A450, H⟩ := H
             replace H : (if t384 = 0 then (if (t381.length : Int) = 1 then (if 0 < (t381.length : Int) then (if ((rd_T48 t381 0).f1) = 0 then (if ((rd_T48 t381 0).f2) = 0 then ((incunableref05_Same.f ((rd_T48 t381 0).f0.f0) ((rd_T48 t381 0).f0.f1) ((rd_T48 t381 0).f0.f2) ((rd_T48 t358 x9_3).f0.f0) ((rd_T48 t358 x9_3).f0.f1) ((rd_T48 t358 x9_3).f0.f2)).bind fun t389 => (if t389 = true then (incunablelaw15_ShapeComponents.l0 k3 t358 (wrap64 (x8_3 + t379)) (wrap64 (x9_3 + 1)) a0_0 a0_1 l0_2) else (some false))) else (some false)) else (some false)) else (none)) else (some false)) else (some false)) = some r := H
             have A45 := Aside0.mk A450
             clear A450
             by_cases c46 : t384 = 0
             ·rw [if_pos c46] at H
              have c46b0 : (t384 == 0) = true := beq_iff_eq.mpr c46
              have c46b1 : (t384 != 0) = false := bne_eq_false_iff_eq.mpr c46
              clear c46
              by_cases c47 : (t381.length : Int) = 1
              ·rw [if_pos c47] at H
               have c47b0 : ((t381.length : Int) == 1) = true := beq_iff_eq.mpr c47
               have c47b1 : ((t381.length : Int) != 1) = false := bne_eq_false_iff_eq.mpr c47
               clear c47
               by_cases c48 : 0 < (t381.length : Int)
               ·rw [if_pos c48] at H
                have c48b0 : decide (0 < (t381.length : Int)) = true := decide_eq_true c48
                have c48b1 : decide (0 < t381.length) = true := decide_eq_true (by omega)
                clear c48
                by_cases c49 : ((rd_T48 t381 0).f1) = 0
                ·rw [if_pos c49] at H
                 have c49b0 : (((rd_T48 t381 0).f1) == 0) = true := beq_iff_eq.mpr c49
                 have c49b1 : (((rd_T48 t381 0).f1) != 0) = false := bne_eq_false_iff_eq.mpr c49
                 clear c49
                 by_cases c50 : ((rd_T48 t381 0).f2) = 0
                 ·rw [if_pos c50] at H
                  have c50b0 : (((rd_T48 t381 0).f2) == 0) = true := beq_iff_eq.mpr c50
                  have c50b1 : (((rd_T48 t381 0).f2) != 0) = false := bne_eq_false_iff_eq.mpr c50
                  clear c50
                  replace H := Option.bind_eq_some_iff.mp H
                  obtain ⟨t389, A510, H⟩ := H
                  replace H : (if t389 = true then (incunablelaw15_ShapeComponents.l0 k3 t358 (wrap64 (x8_3 + t379)) (wrap64 (x9_3 + 1)) a0_0 a0_1 l0_2) else (some false)) = some r := H
                  have A51 := Aside0.mk A510
                  clear A510
                  by_cases c52 : t389 = true
                  ·subst c52
                   have H1 : (incunablelaw15_ShapeComponents.l0 k3 t358 (wrap64 (x8_3 + t379)) (wrap64 (x9_3 + 1)) a0_0 a0_1 l0_2) = some r := by rw [if_pos rfl] at H; exact H
                   clear H
                   have H := H1
                   clear H1
                   have H' := Aside0.mk H
                   clear H
                   have p378 : 0 ≤ (x9_3 : Int) := of_decide_eq_true (by first | (with_reducible assumption) | assumption)
                   have q378 : x9_3 < (t358.length : Int) := of_decide_eq_true (by first | (with_reducible assumption) | assumption)
                   obtain ⟨ad378, A378_2, c378_2, e378, hx378_0, hx378_1, hx378_2, hx378_3, hx378_4, hl378_2, hi378_2⟩ := at_T48 (Kd.S_reads' HO_3.out).2.2 x9_3 p378 q378
                   cases e378
                   obtain ⟨ce378, hce378, hMe378, hcc378⟩ := Kd.S_get HO_3.out z48 x9_3 p378 (by first | exact q378 | exact of_decide_eq_true (by first | (with_reducible assumption) | assumption) | (have e_ := (Kd.S_reads' HO_3.out).1; omega))
                   obtain ⟨ve378_2, rfl, ge378_2⟩ := k48_openM hMe378
                   have hv378_2 := hcc378 2 _ rfl
                   rw [add_field _ _ 2 (by omega)] at hv378_2
                   replace hv378_2 := Option.some.inj (hv378_2.symm.trans hx378_2)
                   rw [hv378_2] at ge378_2
                   have HL378_2 := Aside0.mk (show Kd.R (Kd.int .u8) 5 _ _ _ _ ((rd_T48 t358 x9_3).f0.f2) from ge378_2)
                   clear hv378_2 ge378_2
                   clear hcc378 hce378
                   have HR378_2 := Aside0.mk hi378_2
                   have HC378_2 := Aside0.mk hl378_2
                   clear hi378_2 hl378_2
                   replace p378 := eq_true p378
                   replace q378 := eq_true q378
                   try go_wp2_with (first | ((with_reducible refine gate_callee (f := 26) rfl ?_); refine goesL_ (some 66) rfl rfl Try.func26 (by kernel_rfl) rfl #[.agg #[.int .i64 ((rd_T48 t358 x9_3).f0.f0), .int .i64 ((rd_T48 t358 x9_3).f0.f1), .slice A378_2 ((rd_T48 t358 x9_3).f0.f2).length c378_2]] rfl (by (try simp only [List.map_toArray, List.map_cons, List.map_nil]); first | done | rfl | (simp only [List.length_drop, List.length_take]; rfl)) ?_; (with_reducible refine (incunableref05_Blacks.calls k3 ((rd_T48 t358 x9_3).f0.f0) ((rd_T48 t358 x9_3).f0.f1) _ _ ((rd_T48 t358 x9_3).f0.f2) t379 _ ?side1 ?side2 A44.out).mono ?_); (case side1 => repeat (first | exact (by repeat (first | (with_reducible exact HR378_2.out) | (with_reducible refine Kd.C_alloc ?_ _) | (with_reducible refine Kd.C_drewN ?_ _) | (with_reducible refine Kd.C_drew ?_) | exact HR378_2.out)) | (with_reducible refine Kd.C_alloc ?_ _) | (with_reducible refine Kd.C_drewN ?_ _) | (with_reducible refine Kd.C_drew ?_))); (case side2 => exact HC378_2.out); rintro e w53 ⟨rfl, hb⟩; refine ⟨_, rfl, ?_⟩; have n0_ := Aside0.mk (Kd.S_below (by (with_reducible repeat (first | apply Kd.S_alloc | apply Kd.S_drewN | apply Kd.S_drew)); exact HO_3.out) hb); have n1_ := Aside0.mk (Kd.R_below (rU HO_375002.out) hb); have n2_ := Aside0.mk (Kd.R_below (rU HL378_2.out) hb); have n3_ := Aside0.mk (blk_below (bU BK355.out) hb); have n4_ := Aside0.mk (blk_below (bU BK374.out) hb); have n5_ := Aside0.mk (Kd.C_below (by repeat (first | (with_reducible exact HR378_2.out) | (with_reducible refine Kd.C_alloc ?_ _) | (with_reducible refine Kd.C_drewN ?_ _) | (with_reducible refine Kd.C_drew ?_) | exact HR378_2.out)) hb); have n6_ := Aside0.mk (below_step (by repeat (first | (with_reducible first | exact HB.out | apply below_alloc | apply pw_below_drewN | apply below_drew1 | refine below_set ?_ GE355.out | refine below_set ?_ GE374.out) | exact HB.out)) hb); clear HO_3; clear HO_375002; clear HL378_2; clear BK355; clear BK374; clear HR378_2; clear HB; have HO_3 := n0_; have HO_375002 := n1_; have HL378_2 := n2_; have BK355 := n3_; have BK374 := n4_; have HR378_2 := n5_; have HB := n6_; clear n0_ n1_ n2_ n3_ n4_ n5_ n6_; (try clear hb); (try clear hb2); (try clear hk); (try clear hi); have p380 : 0 ≤ (x9_3 : Int) := of_decide_eq_true (by first | (with_reducible assumption) | assumption); have q380 : x9_3 < (t358.length : Int) := of_decide_eq_true (by first | (with_reducible assumption) | assumption); obtain ⟨ad380, A380_2, c380_2, e380, hx380_0, hx380_1, hx380_2, hx380_3, hx380_4, hl380_2, hi380_2⟩ := at_T48 (Kd.S_reads' HO_3.out).2.2 x9_3 p380 q380; obtain rfl : ad378 = ad380 := (by injection e380); obtain ⟨ce380, hce380, hMe380, hcc380⟩ := Kd.S_get HO_3.out z48 x9_3 p380 (by first | exact q380 | exact of_decide_eq_true (by first | (with_reducible assumption) | assumption) | (have e_ := (Kd.S_reads' HO_3.out).1; omega)); obtain ⟨ve380_2, rfl, ge380_2⟩ := k48_openM hMe380; have hv380_2 := hcc380 2 _ rfl; rw [add_field _ _ 2 (by omega)] at hv380_2; replace hv380_2 := Option.some.inj (hv380_2.symm.trans hx380_2); rw [hv380_2] at ge380_2; have HL380_2 := Aside0.mk (show Kd.R (Kd.int .u8) 5 _ _ _ _ ((rd_T48 t358 x9_3).f0.f2) from ge380_2); clear hv380_2 ge380_2; clear hcc380 hce380; have HR380_2 := Aside0.mk hi380_2; have HC380_2 := Aside0.mk hl380_2; clear hi380_2 hl380_2; replace p380 := eq_true p380; replace q380 := eq_true q380) | ((with_reducible refine gate_callee (f := 21) rfl ?_); refine goesL_ (some 74) rfl rfl Try.func21 (by kernel_rfl) rfl #[.agg #[.int .i64 ((rd_T48 t358 x9_3).f0.f0), .int .i64 ((rd_T48 t358 x9_3).f0.f1), .slice A380_2 ((rd_T48 t358 x9_3).f0.f2).length c380_2]] rfl (by (try simp only [List.map_toArray, List.map_cons, List.map_nil]); first | done | rfl | (simp only [List.length_drop, List.length_take]; rfl)) ?_; (with_reducible refine (shape_Components.calls k3 ((rd_T48 t358 x9_3).f0.f0) ((rd_T48 t358 x9_3).f0.f1) _ _ ((rd_T48 t358 x9_3).f0.f2) t381 t384 _ ?side1 ?side2 A45.out).mono ?_); (case side1 => repeat (first | exact (by repeat (first | (with_reducible exact HR380_2.out) | (with_reducible refine Kd.C_alloc ?_ _) | (with_reducible refine Kd.C_drewN ?_ _) | (with_reducible refine Kd.C_drew ?_) | exact HR380_2.out)) | (with_reducible refine Kd.C_alloc ?_ _) | (with_reducible refine Kd.C_drewN ?_ _) | (with_reducible refine Kd.C_drew ?_))); (case side2 => exact HC380_2.out); rintro e w54 ⟨v382, rfl, ho0, hb⟩; refine ⟨_, rfl, ?_⟩; have n0_ := Aside0.mk (Kd.S_elder' (by (with_reducible repeat (first | apply Kd.S_alloc | apply Kd.S_drewN | apply Kd.S_drew)); exact HO_3.out) (Kd.S_base ho0) hb); have n1_ := Aside0.mk (Kd.R_below (rU HO_375002.out) hb); have n2_ := Aside0.mk (Kd.R_below (rU HL378_2.out) hb); have n3_ := Aside0.mk (Kd.R_below (rU HL380_2.out) hb); have n4_ := Aside0.mk (Kd.S_lower (Kd.S_new' (Kd.S_new' (Kd.S_new' (Kd.S_new' ho0 (Kd.S_lt (by (with_reducible repeat (first | apply Kd.S_alloc | apply Kd.S_drewN | apply Kd.S_drew)); exact HO_3.out))) (Kd.R_lt (rU HO_375002.out))) (Kd.R_lt (rU HL378_2.out))) (Kd.R_lt (rU HL380_2.out))) (below_size (by repeat (first | (with_reducible first | exact HB.out | apply below_alloc | apply pw_below_drewN | apply below_drew1 | refine below_set ?_ GE355.out | refine below_set ?_ GE374.out) | exact HB.out)))); have n5_ := Aside0.mk (blk_below (bU BK355.out) hb); have n6_ := Aside0.mk (blk_below (bU BK374.out) hb); have n7_ := Aside0.mk (Kd.C_below (by repeat (first | (with_reducible exact HR378_2.out) | (with_reducible refine Kd.C_alloc ?_ _) | (with_reducible refine Kd.C_drewN ?_ _) | (with_reducible refine Kd.C_drew ?_) | exact HR378_2.out)) hb); have n8_ := Aside0.mk (Kd.C_below (by repeat (first | (with_reducible exact HR380_2.out) | (with_reducible refine Kd.C_alloc ?_ _) | (with_reducible refine Kd.C_drewN ?_ _) | (with_reducible refine Kd.C_drew ?_) | exact HR380_2.out)) hb); have n9_ := Aside0.mk (below_step (by repeat (first | (with_reducible first | exact HB.out | apply below_alloc | apply pw_below_drewN | apply below_drew1 | refine below_set ?_ GE355.out | refine below_set ?_ GE374.out) | exact HB.out)) hb); clear HO_3; clear HO_375002; clear HL378_2; clear HL380_2; clear BK355; clear BK374; clear HR378_2; clear HR380_2; clear HB; have HO_3 := n0_; have HO_375002 := n1_; have HL378_2 := n2_; have HL380_2 := n3_; have HO383 := n4_; have BK355 := n5_; have BK374 := n6_; have HR378_2 := n7_; have HR380_2 := n8_; have HB := n9_; clear n0_ n1_ n2_ n3_ n4_ n5_ n6_ n7_ n8_ n9_; (try clear hb); (try clear hb2); (try clear hk); (try clear hi); (try clear ho0)))
                   have n0_ := Aside0.mk (Kd.S_drew HO_3.out)
                   have n1_ := Aside0.mk (Kd.R_drew HO_375002.out)
                   have n2_ := Aside0.mk (Kd.R_drew HL378_2.out)
                   have n3_ := Aside0.mk (Kd.R_drew HL380_2.out)
                   have n4_ := Aside0.mk (Kd.S_drew HO383.out)
                   have n5_ := Aside0.mk (blk_drew BK355.out)
                   have n6_ := Aside0.mk (blk_drew BK374.out)
                   have n7_ := Aside0.mk (Kd.C_drew HR378_2.out)
                   have n8_ := Aside0.mk (Kd.C_drew HR380_2.out)
                   have n9_ := Aside0.mk (below_drew1 HB.out)
                   clear HO_3
                   clear HO_375002
                   clear HL378_2
                   clear HL380_2
                   clear HO383
                   clear BK355
                   clear BK374
                   clear HR378_2
                   clear HR380_2
                   clear HB
                   have HO_3 := n0_
                   have HO_375002 := n1_
                   have HL378_2 := n2_
                   have HL380_2 := n3_
                   have HO383 := n4_
                   have BK355 := n5_
                   have BK374 := n6_
                   have HR378_2 := n7_
                   have HR380_2 := n8_
                   have HB := n9_
                   clear n0_ n1_ n2_ n3_ n4_ n5_ n6_ n7_ n8_ n9_
                   obtain ⟨Ao56, co56, eo56⟩ := Kd.S_slice HO383.out
                   (first | subst eo56 | (injection eo56 with f1_ f2_ f3_; have f4_ := f1_.symm; have f5_ := f3_.symm; clear f1_ f2_ f3_; subst f4_; subst f5_))
                   have p385 : 0 ≤ (0 : Int) := (by omega)
                   have q385 : 0 < (t381.length : Int) := of_decide_eq_true (by first | (with_reducible assumption) | assumption)
                   obtain ⟨ad385, A385_2, c385_2, e385, hx385_0, hx385_1, hx385_2, hx385_3, hx385_4, hl385_2, hi385_2⟩ := at_T48 (Kd.S_reads' HO383.out).2.2 0 p385 q385
                   cases e385
                   obtain ⟨ce385, hce385, hMe385, hcc385⟩ := Kd.S_get HO383.out z48 0 p385 (by first | exact q385 | exact of_decide_eq_true (by first | (with_reducible assumption) | assumption) | (have e_ := (Kd.S_reads' HO383.out).1; omega))
                   obtain ⟨ve385_2, rfl, ge385_2⟩ := k48_openM hMe385
                   have hv385_2 := hcc385 2 _ rfl
                   rw [add_field _ _ 2 (by omega)] at hv385_2
                   replace hv385_2 := Option.some.inj (hv385_2.symm.trans hx385_2)
                   rw [hv385_2] at ge385_2
                   have HL385_2 := Aside0.mk (show Kd.R (Kd.int .u8) 5 _ _ _ _ ((rd_T48 t381 0).f0.f2) from ge385_2)
                   clear hv385_2 ge385_2
                   clear hcc385 hce385
                   have qi385 : (0 < t381.length) = True := eq_true (by omega)
                   (try rw [show ((0 : Int)).toNat = 0 from rfl] at hx385_0)
                   (try rw [show 0 * 5 = 0 from rfl] at hx385_0)
                   (try rw [Addr.add_zero'] at hx385_0)
                   (try rw [show ((0 : Int)).toNat = 0 from rfl] at hx385_1)
                   (try rw [show 0 * 5 = 0 from rfl] at hx385_1)
                   (try rw [Addr.add_zero'] at hx385_1)
                   (try rw [show ((0 : Int)).toNat = 0 from rfl] at hx385_2)
                   (try rw [show 0 * 5 = 0 from rfl] at hx385_2)
                   (try rw [Addr.add_zero'] at hx385_2)
                   (try rw [show ((0 : Int)).toNat = 0 from rfl] at hx385_3)
                   (try rw [show 0 * 5 = 0 from rfl] at hx385_3)
                   (try rw [Addr.add_zero'] at hx385_3)
                   (try rw [show ((0 : Int)).toNat = 0 from rfl] at hx385_4)
                   (try rw [show 0 * 5 = 0 from rfl] at hx385_4)
                   (try rw [Addr.add_zero'] at hx385_4)
                   have HR385_2 := Aside0.mk hi385_2
                   have HC385_2 := Aside0.mk hl385_2
                   clear hi385_2 hl385_2
                   replace p385 := eq_true p385
                   replace q385 := eq_true q385
                   have p386 : 0 ≤ (0 : Int) := (by omega)
                   have q386 : 0 < (t381.length : Int) := of_decide_eq_true (by first | (with_reducible assumption) | assumption)
                   obtain ⟨ad386, A386_2, c386_2, e386, hx386_0, hx386_1, hx386_2, hx386_3, hx386_4, hl386_2, hi386_2⟩ := at_T48 (Kd.S_reads' HO383.out).2.2 0 p386 q386
                   obtain rfl : ad385 = ad386 := (by injection e386)
                   obtain ⟨ce386, hce386, hMe386, hcc386⟩ := Kd.S_get HO383.out z48 0 p386 (by first | exact q386 | exact of_decide_eq_true (by first | (with_reducible assumption) | assumption) | (have e_ := (Kd.S_reads' HO383.out).1; omega))
                   obtain ⟨ve386_2, rfl, ge386_2⟩ := k48_openM hMe386
                   have hv386_2 := hcc386 2 _ rfl
                   rw [add_field _ _ 2 (by omega)] at hv386_2
                   replace hv386_2 := Option.some.inj (hv386_2.symm.trans hx386_2)
                   rw [hv386_2] at ge386_2
                   have HL386_2 := Aside0.mk (show Kd.R (Kd.int .u8) 5 _ _ _ _ ((rd_T48 t381 0).f0.f2) from ge386_2)
                   clear hv386_2 ge386_2
                   clear hcc386 hce386
                   have qi386 : (0 < t381.length) = True := eq_true (by omega)
                   (try rw [show ((0 : Int)).toNat = 0 from rfl] at hx386_0)
                   (try rw [show 0 * 5 = 0 from rfl] at hx386_0)
                   (try rw [Addr.add_zero'] at hx386_0)
                   (try rw [show ((0 : Int)).toNat = 0 from rfl] at hx386_1)
                   (try rw [show 0 * 5 = 0 from rfl] at hx386_1)
                   (try rw [Addr.add_zero'] at hx386_1)
                   (try rw [show ((0 : Int)).toNat = 0 from rfl] at hx386_2)
                   (try rw [show 0 * 5 = 0 from rfl] at hx386_2)
                   (try rw [Addr.add_zero'] at hx386_2)
                   (try rw [show ((0 : Int)).toNat = 0 from rfl] at hx386_3)
                   (try rw [show 0 * 5 = 0 from rfl] at hx386_3)
                   (try rw [Addr.add_zero'] at hx386_3)
                   (try rw [show ((0 : Int)).toNat = 0 from rfl] at hx386_4)
                   (try rw [show 0 * 5 = 0 from rfl] at hx386_4)
                   (try rw [Addr.add_zero'] at hx386_4)
                   have HR386_2 := Aside0.mk hi386_2
                   have HC386_2 := Aside0.mk hl386_2
                   clear hi386_2 hl386_2
                   replace p386 := eq_true p386
                   replace q386 := eq_true q386
                   have ea_ := Option.some.inj (hx385_2.symm.trans hx386_2)
                   injection ea_ with ea_ en_ ec_
                   subst ea_
                   subst ec_
                   clear en_
                   have p387 : 0 ≤ (0 : Int) := (by omega)
                   have q387 : 0 < (t381.length : Int) := of_decide_eq_true (by first | (with_reducible assumption) | assumption)
                   obtain ⟨ad387, A387_2, c387_2, e387, hx387_0, hx387_1, hx387_2, hx387_3, hx387_4, hl387_2, hi387_2⟩ := at_T48 (Kd.S_reads' HO383.out).2.2 0 p387 q387
                   obtain rfl : ad385 = ad387 := (by injection e387)
                   obtain ⟨ce387, hce387, hMe387, hcc387⟩ := Kd.S_get HO383.out z48 0 p387 (by first | exact q387 | exact of_decide_eq_true (by first | (with_reducible assumption) | assumption) | (have e_ := (Kd.S_reads' HO383.out).1; omega))
                   obtain ⟨ve387_2, rfl, ge387_2⟩ := k48_openM hMe387
                   have hv387_2 := hcc387 2 _ rfl
                   rw [add_field _ _ 2 (by omega)] at hv387_2
                   replace hv387_2 := Option.some.inj (hv387_2.symm.trans hx387_2)
                   rw [hv387_2] at ge387_2
                   have HL387_2 := Aside0.mk (show Kd.R (Kd.int .u8) 5 _ _ _ _ ((rd_T48 t381 0).f0.f2) from ge387_2)
                   clear hv387_2 ge387_2
                   clear hcc387 hce387
                   have qi387 : (0 < t381.length) = True := eq_true (by omega)
                   (try rw [show ((0 : Int)).toNat = 0 from rfl] at hx387_0)
                   (try rw [show 0 * 5 = 0 from rfl] at hx387_0)
                   (try rw [Addr.add_zero'] at hx387_0)
                   (try rw [show ((0 : Int)).toNat = 0 from rfl] at hx387_1)
                   (try rw [show 0 * 5 = 0 from rfl] at hx387_1)
                   (try rw [Addr.add_zero'] at hx387_1)
                   (try rw [show ((0 : Int)).toNat = 0 from rfl] at hx387_2)
                   (try rw [show 0 * 5 = 0 from rfl] at hx387_2)
                   (try rw [Addr.add_zero'] at hx387_2)
                   (try rw [show ((0 : Int)).toNat = 0 from rfl] at hx387_3)
                   (try rw [show 0 * 5 = 0 from rfl] at hx387_3)
                   (try rw [Addr.add_zero'] at hx387_3)
                   (try rw [show ((0 : Int)).toNat = 0 from rfl] at hx387_4)
                   (try rw [show 0 * 5 = 0 from rfl] at hx387_4)
                   (try rw [Addr.add_zero'] at hx387_4)
                   have HR387_2 := Aside0.mk hi387_2
                   have HC387_2 := Aside0.mk hl387_2
                   clear hi387_2 hl387_2
                   replace p387 := eq_true p387
                   replace q387 := eq_true q387
                   have ea_ := Option.some.inj (hx385_2.symm.trans hx387_2)
                   injection ea_ with ea_ en_ ec_
                   subst ea_
                   subst ec_
                   clear en_
                   have p388 : 0 ≤ (x9_3 : Int) := of_decide_eq_true (by first | (with_reducible assumption) | assumption)
                   have q388 : x9_3 < (t358.length : Int) := of_decide_eq_true (by first | (with_reducible assumption) | assumption)
                   obtain ⟨ad388, A388_2, c388_2, e388, hx388_0, hx388_1, hx388_2, hx388_3, hx388_4, hl388_2, hi388_2⟩ := at_T48 (Kd.S_reads' HO_3.out).2.2 x9_3 p388 q388
                   obtain rfl : ad378 = ad388 := (by injection e388)
                   obtain ⟨ce388, hce388, hMe388, hcc388⟩ := Kd.S_get HO_3.out z48 x9_3 p388 (by first | exact q388 | exact of_decide_eq_true (by first | (with_reducible assumption) | assumption) | (have e_ := (Kd.S_reads' HO_3.out).1; omega))
                   obtain ⟨ve388_2, rfl, ge388_2⟩ := k48_openM hMe388
                   have hv388_2 := hcc388 2 _ rfl
                   rw [add_field _ _ 2 (by omega)] at hv388_2
                   replace hv388_2 := Option.some.inj (hv388_2.symm.trans hx388_2)
                   rw [hv388_2] at ge388_2
                   have HL388_2 := Aside0.mk (show Kd.R (Kd.int .u8) 5 _ _ _ _ ((rd_T48 t358 x9_3).f0.f2) from ge388_2)
                   clear hv388_2 ge388_2
                   clear hcc388 hce388
                   have HR388_2 := Aside0.mk hi388_2
                   have HC388_2 := Aside0.mk hl388_2
                   clear hi388_2 hl388_2
                   replace p388 := eq_true p388
                   replace q388 := eq_true q388
                   refine start_ (n := 34) (S := fun w' => w'.cell? ad385 = some (.int .i64 ((rd_T48 t381 0).f0.f0)) ∧ w'.cell? ⟨ad385.block, ad385.off + 1, none⟩ = some (.int .i64 ((rd_T48 t381 0).f0.f1)) ∧ w'.cell? ⟨ad385.block, ad385.off + 2, none⟩ = some (.slice A385_2 ((rd_T48 t381 0).f0.f2).length c385_2) ∧ w'.cell? ⟨ad385.block, ad385.off + 3, none⟩ = some (.int .i64 ((rd_T48 t381 0).f1)) ∧ w'.cell? ⟨ad385.block, ad385.off + 4, none⟩ = some (.int .i64 ((rd_T48 t381 0).f2)) ∧ w'.cell? ad385 = some (.int .i64 ((rd_T48 t381 0).f0.f0)) ∧ w'.cell? ⟨ad385.block, ad385.off + 1, none⟩ = some (.int .i64 ((rd_T48 t381 0).f0.f1)) ∧ w'.cell? ⟨ad385.block, ad385.off + 2, none⟩ = some (.slice A385_2 ((rd_T48 t381 0).f0.f2).length c385_2) ∧ w'.cell? ⟨ad385.block, ad385.off + 3, none⟩ = some (.int .i64 ((rd_T48 t381 0).f1)) ∧ w'.cell? ⟨ad385.block, ad385.off + 4, none⟩ = some (.int .i64 ((rd_T48 t381 0).f2)) ∧ w'.cell? ad385 = some (.int .i64 ((rd_T48 t381 0).f0.f0)) ∧ w'.cell? ⟨ad385.block, ad385.off + 1, none⟩ = some (.int .i64 ((rd_T48 t381 0).f0.f1)) ∧ w'.cell? ⟨ad385.block, ad385.off + 2, none⟩ = some (.slice A385_2 ((rd_T48 t381 0).f0.f2).length c385_2) ∧ w'.cell? ⟨ad385.block, ad385.off + 3, none⟩ = some (.int .i64 ((rd_T48 t381 0).f1)) ∧ w'.cell? ⟨ad385.block, ad385.off + 4, none⟩ = some (.int .i64 ((rd_T48 t381 0).f2)) ∧ w'.cell? (ad378.add ((x9_3).toNat * 5)) = some (.int .i64 ((rd_T48 t358 x9_3).f0.f0)) ∧ w'.cell? ⟨(ad378.add ((x9_3).toNat * 5)).block, (ad378.add ((x9_3).toNat * 5)).off + 1, none⟩ = some (.int .i64 ((rd_T48 t358 x9_3).f0.f1)) ∧ w'.cell? ⟨(ad378.add ((x9_3).toNat * 5)).block, (ad378.add ((x9_3).toNat * 5)).off + 2, none⟩ = some (.slice A388_2 ((rd_T48 t358 x9_3).f0.f2).length c388_2) ∧ w'.cell? ⟨(ad378.add ((x9_3).toNat * 5)).block, (ad378.add ((x9_3).toNat * 5)).off + 3, none⟩ = some (.int .i64 ((rd_T48 t358 x9_3).f1)) ∧ w'.cell? ⟨(ad378.add ((x9_3).toNat * 5)).block, (ad378.add ((x9_3).toNat * 5)).off + 4, none⟩ = some (.int .i64 ((rd_T48 t358 x9_3).f2))) (ds := []) #[false, false, false, false, false, false, false, false, false, false, false, false, false, false, false, false, false, false, false, false, false, false, false, false, false, false, false, false, false, false, false, false, false, false] (by kernel_rfl) rfl rfl ⟨hx385_0, hx385_1, hx385_2, hx385_3, hx385_4, hx386_0, hx386_1, hx386_2, hx386_3, hx386_4, hx387_0, hx387_1, hx387_2, hx387_3, hx387_4, hx388_0, hx388_1, hx388_2, hx388_3, hx388_4⟩ (fun hHeld => ?_); refine with_tabW incunablelaw15_ShapeComponents.tab18 incunablelaw15_ShapeComponents.bits18 (fun HT_ HW_ => ?_)
                   generalize w54.drew = w55 at HO_3 HO_375002 HL378_2 HL380_2 HO383 BK355 BK374 HR378_2 HR380_2 HB HL385_2 HL386_2 HL387_2 HL388_2 HR385_2 HR386_2 HR387_2 HR388_2 hx385_0 hx385_1 hx385_2 hx385_3 hx385_4 hx386_0 hx386_1 hx386_2 hx386_3 hx386_4 hx387_0 hx387_1 hx387_2 hx387_3 hx387_4 hx388_0 hx388_1 hx388_2 hx388_3 hx388_4 hHeld ⊢
                   refine pure_ (i := 0) (N := some 77) (v := ?_) (a' := ?_) (bv 34 1) rfl rfl (any_of HT_.out (by kernel_rfl)) (fun _ _ _ h => h) (Or.inl ⟨by rfl, ?_⟩) ?_ ?_
                   rotate_left
                   ·intro w'
                    go_simp
                    with_reducible rfl
                   rotate_left
                   ·simp only [Act.put, List.setIfInBounds_toArray, List.set_cons_zero, List.set_cons_succ, i64_w, i32_w]
                    rfl
                   refine pure_ (i := 1) (N := some 78) (v := ?_) (a' := ?_) (bv 34 3) rfl rfl (any_of HT_.out (by kernel_rfl)) (fun _ _ _ h => h) (Or.inl ⟨by rfl, ?_⟩) ?_ ?_
                   rotate_left
                   ·intro w'
                    go_simp
                    with_reducible rfl
                   rotate_left
                   ·simp only [Act.put, List.setIfInBounds_toArray, List.set_cons_zero, List.set_cons_succ, i64_w, i32_w]
                    rfl
                   refine pure_ (i := 2) (N := some 79) (v := ?_) (a' := ?_) (bv 34 7) rfl rfl (any_of HT_.out (by kernel_rfl)) (fun _ _ _ h => h) (Or.inl ⟨by rfl, ?_⟩) ?_ ?_
                   rotate_left
                   ·intro w'
                    go_simp
                    with_reducible rfl
                   rotate_left
                   ·simp only [Act.put, List.setIfInBounds_toArray, List.set_cons_zero, List.set_cons_succ, i64_w, i32_w]
                    rfl
                   refine pure_ (i := 3) (N := some 80) (v := ?_) (a' := ?_) (bv 34 15) rfl rfl (any_of HT_.out (by kernel_rfl)) (fun _ _ _ h => h) (Or.inl ⟨by rfl, ?_⟩) ?_ ?_
                   rotate_left
                   ·intro w'
                    go_simp
                    with_reducible rfl
                   rotate_left
                   ·simp only [Act.put, List.setIfInBounds_toArray, List.set_cons_zero, List.set_cons_succ, i64_w, i32_w]
                    rfl
                   refine pure_ (i := 4) (N := some 81) (v := ?_) (a' := ?_) (bv 34 31) rfl rfl (any_of HT_.out (by kernel_rfl)) (fun _ _ _ h => h) (Or.inl ⟨by rfl, ?_⟩) ?_ ?_
                   rotate_left
                   ·intro w'
                    go_simp
                    with_reducible rfl
                   rotate_left
                   ·simp only [Act.put, List.setIfInBounds_toArray, List.set_cons_zero, List.set_cons_succ, i64_w, i32_w]
                    rfl
                   refine pure_ (i := 5) (N := some 82) (v := ?_) (a' := ?_) (bv 34 63) rfl rfl (any_of HT_.out (by kernel_rfl)) (fun _ _ _ h => h) (Or.inl ⟨by rfl, ?_⟩) ?_ ?_
                   rotate_left
                   ·intro w'
                    go_simp
                    with_reducible rfl
                   rotate_left
                   ·simp only [Act.put, List.setIfInBounds_toArray, List.set_cons_zero, List.set_cons_succ, i64_w, i32_w]
                    rfl
                   refine pure_ (i := 6) (N := some 83) (v := ?_) (a' := ?_) (bv 34 127) rfl rfl (any_of HT_.out (by kernel_rfl)) (fun _ _ _ h => h) (Or.inl ⟨by rfl, ?_⟩) ?_ ?_
                   rotate_left
                   ·intro w'
                    go_simp
                    with_reducible rfl
                   rotate_left
                   ·simp only [Act.put, List.setIfInBounds_toArray, List.set_cons_zero, List.set_cons_succ, i64_w, i32_w]
                    rfl
                   refine pure_ (i := 7) (N := some 84) (v := ?_) (a' := ?_) (bv 34 255) rfl rfl (any_of HT_.out (by kernel_rfl)) (fun _ _ _ h => h) (Or.inl ⟨by rfl, ?_⟩) ?_ ?_
                   rotate_left
                   ·intro w'
                    go_simp
                    with_reducible rfl
                   rotate_left
                   ·simp only [Act.put, List.setIfInBounds_toArray, List.set_cons_zero, List.set_cons_succ, i64_w, i32_w]
                    rfl
                   refine pure_ (i := 8) (N := some 85) (v := ?_) (a' := ?_) (bv 34 511) rfl rfl (any_of HT_.out (by kernel_rfl)) (fun _ _ _ h => h) (Or.inl ⟨by rfl, ?_⟩) ?_ ?_
                   rotate_left
                   ·intro w'
                    go_simp
                    with_reducible rfl
                   rotate_left
                   ·simp only [Act.put, List.setIfInBounds_toArray, List.set_cons_zero, List.set_cons_succ, i64_w, i32_w]
                    rfl
                   refine pure_ (i := 9) (N := some 86) (v := ?_) (a' := ?_) (bv 34 1023) rfl rfl (any_of HT_.out (by kernel_rfl)) (fun _ _ _ h => h) (Or.inl ⟨by rfl, ?_⟩) ?_ ?_
                   rotate_left
                   ·intro w'
                    go_simp
                    with_reducible rfl
                   rotate_left
                   ·simp only [Act.put, List.setIfInBounds_toArray, List.set_cons_zero, List.set_cons_succ, i64_w, i32_w]
                    rfl
                   refine pure_ (i := 10) (N := some 87) (v := ?_) (a' := ?_) (bv 34 2047) rfl rfl (any_of HT_.out (by kernel_rfl)) (fun _ _ _ h => h) (Or.inl ⟨by rfl, ?_⟩) ?_ ?_
                   rotate_left
                   ·intro w'
                    go_simp
                    with_reducible rfl
                   rotate_left
                   ·simp only [Act.put, List.setIfInBounds_toArray, List.set_cons_zero, List.set_cons_succ, i64_w, i32_w]
                    rfl
                   refine take_ (i := 11) (N := some 88) (v := ?_) (a' := ?_) (bv 34 4095) rfl rfl (take_ofW HT_.out HW_.out (by kernel_rfl)) (fun _ _ _ h => h) (Or.inl ⟨by rfl, ?_⟩) hHeld ?_ ?_
                   rotate_left
                   ·rintro w' ⟨s0, s1, s2, s3, s4, s5, s6, s7, s8, s9, s10, s11, s12, s13, s14, s15, s16, s17, s18, s19⟩
                    go_simp
                    with_reducible rfl
                   rotate_left
                   ·simp only [Act.put, List.setIfInBounds_toArray, List.set_cons_zero, List.set_cons_succ, i64_w, i32_w]
                    rfl
                   refine pure_ (i := 12) (N := some 89) (v := ?_) (a' := ?_) (bv 34 8191) rfl rfl (any_of HT_.out (by kernel_rfl)) (fun _ _ _ h => h) (Or.inl ⟨by rfl, ?_⟩) ?_ ?_
                   rotate_left
                   ·intro w'
                    go_simp
                    with_reducible rfl
                   rotate_left
                   ·simp only [Act.put, List.setIfInBounds_toArray, List.set_cons_zero, List.set_cons_succ, i64_w, i32_w]
                    rfl
                   refine pure_ (i := 13) (N := some 90) (v := ?_) (a' := ?_) (bv 34 16383) rfl rfl (any_of HT_.out (by kernel_rfl)) (fun _ _ _ h => h) (Or.inl ⟨by rfl, ?_⟩) ?_ ?_
                   rotate_left
                   ·intro w'
                    go_simp
                    with_reducible rfl
                   rotate_left
                   ·simp only [Act.put, List.setIfInBounds_toArray, List.set_cons_zero, List.set_cons_succ, i64_w, i32_w]
                    rfl
                   refine pure_ (i := 14) (N := some 91) (v := ?_) (a' := ?_) (bv 34 32767) rfl rfl (any_of HT_.out (by kernel_rfl)) (fun _ _ _ h => h) (Or.inl ⟨by rfl, ?_⟩) ?_ ?_
                   rotate_left
                   ·intro w'
                    go_simp
                    with_reducible rfl
                   rotate_left
                   ·simp only [Act.put, List.setIfInBounds_toArray, List.set_cons_zero, List.set_cons_succ, i64_w, i32_w]
                    rfl
                   refine pure_ (i := 15) (N := some 92) (v := ?_) (a' := ?_) (bv 34 65535) rfl rfl (any_of HT_.out (by kernel_rfl)) (fun _ _ _ h => h) (Or.inl ⟨by rfl, ?_⟩) ?_ ?_
                   rotate_left
                   ·intro w'
                    go_simp
                    with_reducible rfl
                   rotate_left
                   ·simp only [Act.put, List.setIfInBounds_toArray, List.set_cons_zero, List.set_cons_succ, i64_w, i32_w]
                    rfl
                   refine pure_ (i := 16) (N := some 93) (v := ?_) (a' := ?_) (bv 34 131071) rfl rfl (any_of HT_.out (by kernel_rfl)) (fun _ _ _ h => h) (Or.inl ⟨by rfl, ?_⟩) ?_ ?_
                   rotate_left
                   ·intro w'
                    go_simp
                    with_reducible rfl
                   rotate_left
                   ·simp only [Act.put, List.setIfInBounds_toArray, List.set_cons_zero, List.set_cons_succ, i64_w, i32_w]
                    rfl
                   refine pure_ (i := 17) (N := some 94) (v := ?_) (a' := ?_) (bv 34 262143) rfl rfl (any_of HT_.out (by kernel_rfl)) (fun _ _ _ h => h) (Or.inl ⟨by rfl, ?_⟩) ?_ ?_
                   rotate_left
                   ·intro w'
                    go_simp
                    with_reducible rfl
                   rotate_left
                   ·simp only [Act.put, List.setIfInBounds_toArray, List.set_cons_zero, List.set_cons_succ, i64_w, i32_w]
                    rfl
                   refine take_ (i := 18) (N := some 95) (v := ?_) (a' := ?_) (bv 34 524287) rfl rfl (take_ofW HT_.out HW_.out (by kernel_rfl)) (fun _ _ _ h => h) (Or.inl ⟨by rfl, ?_⟩) hHeld ?_ ?_
                   rotate_left
                   ·rintro w' ⟨s0, s1, s2, s3, s4, s5, s6, s7, s8, s9, s10, s11, s12, s13, s14, s15, s16, s17, s18, s19⟩
                    go_simp
                    with_reducible rfl
                   rotate_left
                   ·simp only [Act.put, List.setIfInBounds_toArray, List.set_cons_zero, List.set_cons_succ, i64_w, i32_w]
                    rfl
                   refine pure_ (i := 19) (N := some 96) (v := ?_) (a' := ?_) (bv 34 1048575) rfl rfl (any_of HT_.out (by kernel_rfl)) (fun _ _ _ h => h) (Or.inl ⟨by rfl, ?_⟩) ?_ ?_
                   rotate_left
                   ·intro w'
                    go_simp
                    with_reducible rfl
                   rotate_left
                   ·simp only [Act.put, List.setIfInBounds_toArray, List.set_cons_zero, List.set_cons_succ, i64_w, i32_w]
                    rfl
                   refine pure_ (i := 20) (N := some 97) (v := ?_) (a' := ?_) (bv 34 2097151) rfl rfl (any_of HT_.out (by kernel_rfl)) (fun _ _ _ h => h) (Or.inl ⟨by rfl, ?_⟩) ?_ ?_
                   rotate_left
                   ·intro w'
                    go_simp
                    with_reducible rfl
                   rotate_left
                   ·simp only [Act.put, List.setIfInBounds_toArray, List.set_cons_zero, List.set_cons_succ, i64_w, i32_w]
                    rfl
                   refine pure_ (i := 21) (N := some 98) (v := ?_) (a' := ?_) (bv 34 4194303) rfl rfl (any_of HT_.out (by kernel_rfl)) (fun _ _ _ h => h) (Or.inl ⟨by rfl, ?_⟩) ?_ ?_
                   rotate_left
                   ·intro w'
                    go_simp
                    with_reducible rfl
                   rotate_left
                   ·simp only [Act.put, List.setIfInBounds_toArray, List.set_cons_zero, List.set_cons_succ, i64_w, i32_w]
                    rfl
                   refine pure_ (i := 22) (N := some 99) (v := ?_) (a' := ?_) (bv 34 8388607) rfl rfl (any_of HT_.out (by kernel_rfl)) (fun _ _ _ h => h) (Or.inl ⟨by rfl, ?_⟩) ?_ ?_
                   rotate_left
                   ·intro w'
                    go_simp
                    with_reducible rfl
                   rotate_left
                   ·simp only [Act.put, List.setIfInBounds_toArray, List.set_cons_zero, List.set_cons_succ, i64_w, i32_w]
                    rfl
                   refine pure_ (i := 23) (N := some 100) (v := ?_) (a' := ?_) (bv 34 16777215) rfl rfl (any_of HT_.out (by kernel_rfl)) (fun _ _ _ h => h) (Or.inl ⟨by rfl, ?_⟩) ?_ ?_
                   rotate_left
                   ·intro w'
                    go_simp
                    with_reducible rfl
                   rotate_left
                   ·simp only [Act.put, List.setIfInBounds_toArray, List.set_cons_zero, List.set_cons_succ, i64_w, i32_w]
                    rfl
                   refine pure_ (i := 24) (N := some 101) (v := ?_) (a' := ?_) (bv 34 33554431) rfl rfl (any_of HT_.out (by kernel_rfl)) (fun _ _ _ h => h) (Or.inl ⟨by rfl, ?_⟩) ?_ ?_
                   rotate_left
                   ·intro w'
                    go_simp
                    with_reducible rfl
                   rotate_left
                   ·simp only [Act.put, List.setIfInBounds_toArray, List.set_cons_zero, List.set_cons_succ, i64_w, i32_w]
                    rfl
                   refine pure_ (i := 26) (N := some 103) (v := ?_) (a' := ?_) (bv 34 100663295) rfl rfl (any_of HT_.out (by kernel_rfl)) (fun _ _ _ h => h) (Or.inl ⟨by rfl, ?_⟩) ?_ ?_
                   rotate_left
                   ·intro w'
                    go_simp
                    with_reducible rfl
                   rotate_left
                   ·simp only [Act.put, List.setIfInBounds_toArray, List.set_cons_zero, List.set_cons_succ, i64_w, i32_w]
                    rfl
                   refine pure_ (i := 27) (N := some 104) (v := ?_) (a' := ?_) (bv 34 234881023) rfl rfl (any_of HT_.out (by kernel_rfl)) (fun _ _ _ h => h) (Or.inl ⟨by rfl, ?_⟩) ?_ ?_
                   rotate_left
                   ·intro w'
                    go_simp
                    with_reducible rfl
                   rotate_left
                   ·simp only [Act.put, List.setIfInBounds_toArray, List.set_cons_zero, List.set_cons_succ, i64_w, i32_w]
                    rfl
                   refine pure_ (i := 28) (N := some 105) (v := ?_) (a' := ?_) (bv 34 503316479) rfl rfl (any_of HT_.out (by kernel_rfl)) (fun _ _ _ h => h) (Or.inl ⟨by rfl, ?_⟩) ?_ ?_
                   rotate_left
                   ·intro w'
                    go_simp
                    with_reducible rfl
                   rotate_left
                   ·simp only [Act.put, List.setIfInBounds_toArray, List.set_cons_zero, List.set_cons_succ, i64_w, i32_w]
                    rfl
                   refine pure_ (i := 29) (N := some 106) (v := ?_) (a' := ?_) (bv 34 1040187391) rfl rfl (any_of HT_.out (by kernel_rfl)) (fun _ _ _ h => h) (Or.inl ⟨by rfl, ?_⟩) ?_ ?_
                   rotate_left
                   ·intro w'
                    go_simp
                    with_reducible rfl
                   rotate_left
                   ·simp only [Act.put, List.setIfInBounds_toArray, List.set_cons_zero, List.set_cons_succ, i64_w, i32_w]
                    rfl
                   refine take_ (i := 25) (N := some 102) (v := ?_) (a' := ?_) (bv 34 1073741823) rfl rfl (take_ofW HT_.out HW_.out (by kernel_rfl)) (fun _ _ _ h => h) (Or.inl ⟨by rfl, ?_⟩) hHeld ?_ ?_
                   rotate_left
                   ·rintro w' ⟨s0, s1, s2, s3, s4, s5, s6, s7, s8, s9, s10, s11, s12, s13, s14, s15, s16, s17, s18, s19⟩
                    go_simp
                    with_reducible rfl
                   rotate_left
                   ·simp only [Act.put, List.setIfInBounds_toArray, List.set_cons_zero, List.set_cons_succ, i64_w, i32_w]
                    rfl
                   refine take_ (i := 30) (N := some 107) (v := ?_) (a' := ?_) (bv 34 2147483647) rfl rfl (take_ofW HT_.out HW_.out (by kernel_rfl)) (fun _ _ _ h => h) (Or.inl ⟨by rfl, ?_⟩) hHeld ?_ ?_
                   rotate_left
                   ·rintro w' ⟨s0, s1, s2, s3, s4, s5, s6, s7, s8, s9, s10, s11, s12, s13, s14, s15, s16, s17, s18, s19⟩
                    go_simp
                    with_reducible rfl
                   rotate_left
                   ·simp only [Act.put, List.setIfInBounds_toArray, List.set_cons_zero, List.set_cons_succ, i64_w, i32_w]
                    rfl
                   refine one_ (i := 31) (N := some 108) (bv 34 4294967295) rfl rfl (one_of HT_.out (by kernel_rfl)) (by decide) (fun K hK => ?_)
                   refine goes_ Try.func25 (by kernel_rfl) rfl #[.agg #[.int .i64 ((rd_T48 t381 0).f0.f0), .int .i64 ((rd_T48 t381 0).f0.f1), .slice A385_2 ((rd_T48 t381 0).f0.f2).length c385_2], .agg #[.int .i64 ((rd_T48 t358 x9_3).f0.f0), .int .i64 ((rd_T48 t358 x9_3).f0.f1), .slice A388_2 ((rd_T48 t358 x9_3).f0.f2).length c388_2]] (by rfl) rfl rfl (by (try simp only [List.map_toArray, List.map_cons, List.map_nil]); first | done | rfl | (simp only [List.length_drop, List.length_take]; rfl)) ?_
                   with_reducible refine (incunableref05_Same.calls ((rd_T48 t381 0).f0.f0) ((rd_T48 t381 0).f0.f1) _ _ ((rd_T48 t381 0).f0.f2) ((rd_T48 t358 x9_3).f0.f0) ((rd_T48 t358 x9_3).f0.f1) _ _ ((rd_T48 t358 x9_3).f0.f2) true _ ?side1 ?side2 ?side3 ?side4 A51.out).mono ?_
                   (case side1 => repeat (first | exact (by repeat (first | (with_reducible exact HR387_2.out) | (with_reducible refine Kd.C_alloc ?_ _) | (with_reducible refine Kd.C_drewN ?_ _) | (with_reducible refine Kd.C_drew ?_) | exact HR387_2.out)) | (with_reducible refine Kd.C_alloc ?_ _) | (with_reducible refine Kd.C_drewN ?_ _) | (with_reducible refine Kd.C_drew ?_)))
                   (case side2 => exact HC387_2.out)
                   (case side3 => repeat (first | exact (by repeat (first | (with_reducible exact HR388_2.out) | (with_reducible refine Kd.C_alloc ?_ _) | (with_reducible refine Kd.C_drewN ?_ _) | (with_reducible refine Kd.C_drew ?_) | exact HR388_2.out)) | (with_reducible refine Kd.C_alloc ?_ _) | (with_reducible refine Kd.C_drewN ?_ _) | (with_reducible refine Kd.C_drew ?_)))
                   (case side4 => exact HC388_2.out)
                   rintro e w57 ⟨rfl, hb⟩
                   have HS0_ := (hb.cell (World.block_lt_of_cell? _ _ (hHeld.1))).trans (hHeld.1)
                   have HS1_ := (hb.cell (World.block_lt_of_cell? _ _ (hHeld.2.1))).trans (hHeld.2.1)
                   have HS2_ := (hb.cell (World.block_lt_of_cell? _ _ (hHeld.2.2.1))).trans (hHeld.2.2.1)
                   have HS3_ := (hb.cell (World.block_lt_of_cell? _ _ (hHeld.2.2.2.1))).trans (hHeld.2.2.2.1)
                   have HS4_ := (hb.cell (World.block_lt_of_cell? _ _ (hHeld.2.2.2.2.1))).trans (hHeld.2.2.2.2.1)
                   have HS5_ := (hb.cell (World.block_lt_of_cell? _ _ (hHeld.2.2.2.2.2.1))).trans (hHeld.2.2.2.2.2.1)
                   have HS6_ := (hb.cell (World.block_lt_of_cell? _ _ (hHeld.2.2.2.2.2.2.1))).trans (hHeld.2.2.2.2.2.2.1)
                   have HS7_ := (hb.cell (World.block_lt_of_cell? _ _ (hHeld.2.2.2.2.2.2.2.1))).trans (hHeld.2.2.2.2.2.2.2.1)
                   have HS8_ := (hb.cell (World.block_lt_of_cell? _ _ (hHeld.2.2.2.2.2.2.2.2.1))).trans (hHeld.2.2.2.2.2.2.2.2.1)
                   have HS9_ := (hb.cell (World.block_lt_of_cell? _ _ (hHeld.2.2.2.2.2.2.2.2.2.1))).trans (hHeld.2.2.2.2.2.2.2.2.2.1)
                   have HS10_ := (hb.cell (World.block_lt_of_cell? _ _ (hHeld.2.2.2.2.2.2.2.2.2.2.1))).trans (hHeld.2.2.2.2.2.2.2.2.2.2.1)
                   have HS11_ := (hb.cell (World.block_lt_of_cell? _ _ (hHeld.2.2.2.2.2.2.2.2.2.2.2.1))).trans (hHeld.2.2.2.2.2.2.2.2.2.2.2.1)
                   have HS12_ := (hb.cell (World.block_lt_of_cell? _ _ (hHeld.2.2.2.2.2.2.2.2.2.2.2.2.1))).trans (hHeld.2.2.2.2.2.2.2.2.2.2.2.2.1)
                   have HS13_ := (hb.cell (World.block_lt_of_cell? _ _ (hHeld.2.2.2.2.2.2.2.2.2.2.2.2.2.1))).trans (hHeld.2.2.2.2.2.2.2.2.2.2.2.2.2.1)
                   have HS14_ := (hb.cell (World.block_lt_of_cell? _ _ (hHeld.2.2.2.2.2.2.2.2.2.2.2.2.2.2.1))).trans (hHeld.2.2.2.2.2.2.2.2.2.2.2.2.2.2.1)
                   have HS15_ := (hb.cell (World.block_lt_of_cell? _ _ (hHeld.2.2.2.2.2.2.2.2.2.2.2.2.2.2.2.1))).trans (hHeld.2.2.2.2.2.2.2.2.2.2.2.2.2.2.2.1)
                   have HS16_ := (hb.cell (World.block_lt_of_cell? _ _ (hHeld.2.2.2.2.2.2.2.2.2.2.2.2.2.2.2.2.1))).trans (hHeld.2.2.2.2.2.2.2.2.2.2.2.2.2.2.2.2.1)
                   have HS17_ := (hb.cell (World.block_lt_of_cell? _ _ (hHeld.2.2.2.2.2.2.2.2.2.2.2.2.2.2.2.2.2.1))).trans (hHeld.2.2.2.2.2.2.2.2.2.2.2.2.2.2.2.2.2.1)
                   have HS18_ := (hb.cell (World.block_lt_of_cell? _ _ (hHeld.2.2.2.2.2.2.2.2.2.2.2.2.2.2.2.2.2.2.1))).trans (hHeld.2.2.2.2.2.2.2.2.2.2.2.2.2.2.2.2.2.2.1)
                   have HS19_ := (hb.cell (World.block_lt_of_cell? _ _ (hHeld.2.2.2.2.2.2.2.2.2.2.2.2.2.2.2.2.2.2.2))).trans (hHeld.2.2.2.2.2.2.2.2.2.2.2.2.2.2.2.2.2.2.2)
                   refine ⟨_, rfl, ?_⟩
                   have n0_ := Aside0.mk (Kd.S_below (by (with_reducible repeat (first | apply Kd.S_alloc | apply Kd.S_drewN | apply Kd.S_drew)); exact HO_3.out) hb)
                   have n1_ := Aside0.mk (Kd.R_below (rU HO_375002.out) hb)
                   have n2_ := Aside0.mk (Kd.R_below (rU HL378_2.out) hb)
                   have n3_ := Aside0.mk (Kd.R_below (rU HL380_2.out) hb)
                   have n4_ := Aside0.mk (Kd.S_below (by (with_reducible repeat (first | apply Kd.S_alloc | apply Kd.S_drewN | apply Kd.S_drew)); exact HO383.out) hb)
                   have n5_ := Aside0.mk (Kd.R_below (rU HL385_2.out) hb)
                   have n6_ := Aside0.mk (Kd.R_below (rU HL386_2.out) hb)
                   have n7_ := Aside0.mk (Kd.R_below (rU HL387_2.out) hb)
                   have n8_ := Aside0.mk (Kd.R_below (rU HL388_2.out) hb)
                   have n9_ := Aside0.mk (blk_below (bU BK355.out) hb)
                   have n10_ := Aside0.mk (blk_below (bU BK374.out) hb)
                   have n11_ := Aside0.mk (Kd.C_below (by repeat (first | (with_reducible exact HR378_2.out) | (with_reducible refine Kd.C_alloc ?_ _) | (with_reducible refine Kd.C_drewN ?_ _) | (with_reducible refine Kd.C_drew ?_) | exact HR378_2.out)) hb)
                   have n12_ := Aside0.mk (Kd.C_below (by repeat (first | (with_reducible exact HR380_2.out) | (with_reducible refine Kd.C_alloc ?_ _) | (with_reducible refine Kd.C_drewN ?_ _) | (with_reducible refine Kd.C_drew ?_) | exact HR380_2.out)) hb)
                   have n13_ := Aside0.mk (Kd.C_below (by repeat (first | (with_reducible exact HR385_2.out) | (with_reducible refine Kd.C_alloc ?_ _) | (with_reducible refine Kd.C_drewN ?_ _) | (with_reducible refine Kd.C_drew ?_) | exact HR385_2.out)) hb)
                   have n14_ := Aside0.mk (Kd.C_below (by repeat (first | (with_reducible exact HR386_2.out) | (with_reducible refine Kd.C_alloc ?_ _) | (with_reducible refine Kd.C_drewN ?_ _) | (with_reducible refine Kd.C_drew ?_) | exact HR386_2.out)) hb)
                   have n15_ := Aside0.mk (Kd.C_below (by repeat (first | (with_reducible exact HR387_2.out) | (with_reducible refine Kd.C_alloc ?_ _) | (with_reducible refine Kd.C_drewN ?_ _) | (with_reducible refine Kd.C_drew ?_) | exact HR387_2.out)) hb)
                   have n16_ := Aside0.mk (Kd.C_below (by repeat (first | (with_reducible exact HR388_2.out) | (with_reducible refine Kd.C_alloc ?_ _) | (with_reducible refine Kd.C_drewN ?_ _) | (with_reducible refine Kd.C_drew ?_) | exact HR388_2.out)) hb)
                   have n17_ := Aside0.mk (below_step (by repeat (first | (with_reducible first | exact HB.out | apply below_alloc | apply pw_below_drewN | apply below_drew1 | refine below_set ?_ GE355.out | refine below_set ?_ GE374.out) | exact HB.out)) hb)
                   clear HO_3
                   clear HO_375002
                   clear HL378_2
                   clear HL380_2
                   clear HO383
                   clear HL385_2
                   clear HL386_2
                   clear HL387_2
                   clear HL388_2
                   clear BK355
                   clear BK374
                   clear HR378_2
                   clear HR380_2
                   clear HR385_2
                   clear HR386_2
                   clear HR387_2
                   clear HR388_2
                   clear HB
                   have HO_3 := n0_
                   have HO_375002 := n1_
                   have HL378_2 := n2_
                   have HL380_2 := n3_
                   have HO383 := n4_
                   have HL385_2 := n5_
                   have HL386_2 := n6_
                   have HL387_2 := n7_
                   have HL388_2 := n8_
                   have BK355 := n9_
                   have BK374 := n10_
                   have HR378_2 := n11_
                   have HR380_2 := n12_
                   have HR385_2 := n13_
                   have HR386_2 := n14_
                   have HR387_2 := n15_
                   have HR388_2 := n16_
                   have HB := n17_
                   clear n0_ n1_ n2_ n3_ n4_ n5_ n6_ n7_ n8_ n9_ n10_ n11_ n12_ n13_ n14_ n15_ n16_ n17_
                   (try clear hb)
                   (try clear hb2)
                   (try clear hk)
                   (try clear hi)
                   refine hK.out _ _ ⟨HS0_, HS1_, HS2_, HS3_, HS4_, HS5_, HS6_, HS7_, HS8_, HS9_, HS10_, HS11_, HS12_, HS13_, HS14_, HS15_, HS16_, HS17_, HS18_, HS19_⟩ (fun hHeld => ?_)
                   clear hK K
                   refine norm_ (a' := ?_) ?_ ?_
                   rotate_left
                   ·show Act.put _ (some 108) _ = _
                    simp only [Act.put, List.setIfInBounds_toArray, List.set_cons_zero, List.set_cons_succ, i64_w, i32_w]
                    rfl
                   refine pure_ (i := 32) (N := some 109) (v := ?_) (a' := ?_) (bv 34 8589934591) rfl rfl (any_of HT_.out (by kernel_rfl)) (fun _ _ _ h => h) (Or.inl ⟨by rfl, ?_⟩) ?_ ?_
                   rotate_left
                   ·intro w'
                    go_simp
                    with_reducible rfl
                   rotate_left
                   ·simp only [Act.put, List.setIfInBounds_toArray, List.set_cons_zero, List.set_cons_succ, i64_w, i32_w]
                    rfl
                   refine pure_ (i := 33) (N := some 110) (v := ?_) (a' := ?_) (bv 34 17179869183) rfl rfl (any_of HT_.out (by kernel_rfl)) (fun _ _ _ h => h) (Or.inl ⟨by rfl, ?_⟩) ?_ ?_
                   rotate_left
                   ·intro w'
                    go_simp
                    with_reducible rfl
                   rotate_left
                   ·simp only [Act.put, List.setIfInBounds_toArray, List.set_cons_zero, List.set_cons_succ, i64_w, i32_w]
                    rfl
                   refine done_ (done_of HT_.out (by kernel_rfl)) ?_
                   try go_wp2
                   go_roundg k3
                   case measure => have := HJ10.out; have := HJ26.out; have := HK3.out; omega
                   case rel => exact ⟨(wrap64 (x8_3 + t379)), (wrap64 (x9_3 + 1)), (by first | rfl | (simp; done) | (simp [*]; done)), (by first | rfl | (simp; done) | (simp [*]; done)), H', ⟨by have := HJ10.out; have := HJ26.out; have := HK3.out; omega⟩, ⟨by (with_reducible repeat (first | apply Kd.S_alloc | apply Kd.S_drewN | apply Kd.S_drew)); exact Kd.S_mono HO_3.out (fun _ hk => hk.1)⟩, ⟨by (with_reducible repeat (first | apply Kd.R_alloc | apply Kd.R_drewN | apply Kd.R_drew)); exact HO_375002.out⟩, ⟨by exact bU BK355.out⟩, ⟨by exact bU BK374.out⟩, ⟨by repeat (first | (with_reducible first | exact HB.out | apply below_alloc | apply pw_below_drewN | apply below_drew1 | refine below_set ?_ GE355.out | refine below_set ?_ GE374.out) | exact HB.out)⟩⟩
                  ·replace c52 := Bool.eq_false_iff.mpr c52
                   subst c52
                   have H1 : (some false) = some r := by rw [if_neg (show ¬ (false = true) by decide)] at H; exact H
                   clear H
                   have H := H1
                   clear H1
                   exact absurd ((Option.some.inj H).trans HR_.out) (by decide)
                 ·rw [if_neg c50] at H
                  have c50b0 : (((rd_T48 t381 0).f2) == 0) = false := beq_eq_false_iff_ne.mpr c50
                  have c50b1 : (((rd_T48 t381 0).f2) != 0) = true := bne_iff_ne.mpr c50
                  exact absurd ((Option.some.inj H).trans HR_.out) (by decide)
                ·rw [if_neg c49] at H
                 have c49b0 : (((rd_T48 t381 0).f1) == 0) = false := beq_eq_false_iff_ne.mpr c49
                 have c49b1 : (((rd_T48 t381 0).f1) != 0) = true := bne_iff_ne.mpr c49
                 exact absurd ((Option.some.inj H).trans HR_.out) (by decide)
               ·rw [if_neg c48] at H
                exact absurd H (by simp)
              ·rw [if_neg c47] at H
               have c47b0 : ((t381.length : Int) == 1) = false := beq_eq_false_iff_ne.mpr c47
               have c47b1 : ((t381.length : Int) != 1) = true := bne_iff_ne.mpr c47
               exact absurd ((Option.some.inj H).trans HR_.out) (by decide)
             ·rw [if_neg c46] at H
              have c46b0 : (t384 == 0) = false := beq_eq_false_iff_ne.mpr c46
              have c46b1 : (t384 != 0) = true := bne_iff_ne.mpr c46
              exact absurd ((Option.some.inj H).trans HR_.out) (by decide)
            ·rw [if_neg c43] at H
             exact absurd H (by simp)
           ·rw [if_neg c42] at H
            have c42b0 : decide (x9_3 < (t358.length : Int)) = false := decide_eq_false c42
            clear c42
            replace H := Option.bind_eq_some_iff.mp H
            obtain ⟨t376, A580, H⟩ := H
            replace H : (if x8_3 = t376 then ((incunablelaw15_Sane.f k3).bind fun t377 => (some t377)) else (some false)) = some r := H
            have A58 := Aside0.mk A580
            clear A580
            by_cases c59 : x8_3 = t376
            ·rw [if_pos c59] at H
             have c59b0 : (x8_3 == t376) = true := beq_iff_eq.mpr c59
             have c59b1 : (x8_3 != t376) = false := bne_eq_false_iff_eq.mpr c59
             clear c59
             replace H := Option.bind_eq_some_iff.mp H
             obtain ⟨t377, A600, H⟩ := H
             replace H : (some t377) = some r := H
             have A60 := Aside0.mk A600
             clear A600
             obtain rfl := Option.some.inj H
             have hnb61 := NB355_374.out
             have hnc61 := NB374_355.out
             have hcz62_0 : wr.cell? ⟨gb355, 0, none⟩ = some (.int .i64 a0_0) := (blk_cell BK355.out 0).trans rfl
             have hcz62_1 : wr.cell? ⟨gb355, 1, none⟩ = some (.int .i64 a0_1) := (blk_cell BK355.out 1).trans rfl
             have hcz62_2 : wr.cell? ⟨gb355, 2, none⟩ = some (.slice A0_2 l0_2.length c0_2) := (blk_cell BK355.out 2).trans rfl
             have hfz62_0 := blk_frozen BK355.out 0
             have hfz62_1 := blk_frozen BK355.out 1
             have hfz62_2 := blk_frozen BK355.out 2
             go_wp2_with (first | ((with_reducible refine gate_callee (f := 26) rfl ?_); refine goesL_ (some 113) rfl rfl Try.func26 (by kernel_rfl) rfl #[.agg #[.int .i64 a0_0, .int .i64 a0_1, .slice A0_2 l0_2.length c0_2]] rfl (by (try simp only [List.map_toArray, List.map_cons, List.map_nil]); first | done | rfl | (simp only [List.length_drop, List.length_take]; rfl)) ?_; (with_reducible refine (incunableref05_Blacks.calls k3 a0_0 a0_1 _ _ l0_2 t376 _ ?side1 ?side2 A58.out).mono ?_); (case side1 => repeat (first | exact (Kd.C_below HR0_2.out HB.out) | (with_reducible refine Kd.C_alloc ?_ _) | (with_reducible refine Kd.C_drewN ?_ _) | (with_reducible refine Kd.C_drew ?_))); (case side2 => exact HC0_2.out); rintro e w63 ⟨rfl, hb⟩; refine ⟨_, rfl, ?_⟩; have n0_ := Aside0.mk (Kd.S_below (by (with_reducible repeat (first | apply Kd.S_alloc | apply Kd.S_drewN | apply Kd.S_drew)); exact HO_3.out) hb); have n1_ := Aside0.mk (Kd.R_below (rU HO_375002.out) hb); have n2_ := Aside0.mk (blk_below (bU BK355.out) hb); have n3_ := Aside0.mk (blk_below (bU BK374.out) hb); have n4_ := Aside0.mk (below_step (by repeat (first | (with_reducible first | exact HB.out | apply below_alloc | apply pw_below_drewN | apply below_drew1 | refine below_set ?_ GE355.out | refine below_set ?_ GE374.out) | exact HB.out)) hb); clear HO_3; clear HO_375002; clear BK355; clear BK374; clear HB; have HO_3 := n0_; have HO_375002 := n1_; have BK355 := n2_; have BK374 := n3_; have HB := n4_; clear n0_ n1_ n2_ n3_ n4_; (try clear hb); (try clear hb2); (try clear hk); (try clear hi)) | (go_at_call 11; (with_reducible refine (incunablelaw15_Sane.calls k3  t377 _ A60.out).mono ?_); rintro e w64 ⟨rfl, hb⟩; have n0_ := Aside0.mk (Kd.S_below (by (with_reducible repeat (first | apply Kd.S_alloc | apply Kd.S_drewN | apply Kd.S_drew)); exact HO_3.out) hb); have n1_ := Aside0.mk (Kd.R_below (rU HO_375002.out) hb); have n2_ := Aside0.mk (blk_below (bU BK355.out) hb); have n3_ := Aside0.mk (blk_below (bU BK374.out) hb); have n4_ := Aside0.mk (below_step (by repeat (first | (with_reducible first | exact HB.out | apply below_alloc | apply pw_below_drewN | apply below_drew1 | refine below_set ?_ GE355.out | refine below_set ?_ GE374.out) | exact HB.out)) hb); clear HO_3; clear HO_375002; clear BK355; clear BK374; clear HB; have HO_3 := n0_; have HO_375002 := n1_; have BK355 := n2_; have BK374 := n3_; have HB := n4_; clear n0_ n1_ n2_ n3_ n4_; (try clear hb); (try clear hb2); (try clear hk); (try clear hi)))
             go_ret
             exact ⟨by first | rfl | (simp [errW_none, errW_some] <;> rfl) | (simp [*, errW_none, errW_some] <;> rfl), by repeat (first | (with_reducible first | exact HB.out | apply below_alloc | apply pw_below_drewN | apply below_drew1 | refine below_set ?_ GE355.out | refine below_set ?_ GE374.out) | exact HB.out)⟩
            ·rw [if_neg c59] at H
             have c59b0 : (x8_3 == t376) = false := beq_eq_false_iff_ne.mpr c59
             have c59b1 : (x8_3 != t376) = true := bne_iff_ne.mpr c59
             exact absurd ((Option.some.inj H).trans HR_.out) (by decide)
     ·rw [if_neg c25] at H
      have c25b0 : (t361 == 0) = false := beq_eq_false_iff_ne.mpr c25
      have c25b1 : (t361 != 0) = true := bne_iff_ne.mpr c25
      replace H := Option.bind_eq_some_iff.mp H
      obtain ⟨t367, A650, H⟩ := H
      replace H : (some t367) = some r := H
      have A65 := Aside0.mk A650
      clear A650
      obtain rfl := Option.some.inj H
      go_wp2_with (first | ((with_reducible refine gate_callee (f := 11) rfl ?_); refine goesL_ (some 36) rfl rfl Try.func11 (by kernel_rfl) rfl #[] rfl (by (try simp only [List.map_toArray, List.map_cons, List.map_nil]); first | done | rfl | (simp only [List.length_drop, List.length_take]; rfl)) ?_; (with_reducible refine (incunablelaw15_Sane.calls kj10  t367 _ A65.out).mono ?_); rintro e w66 ⟨rfl, hb⟩; refine ⟨_, rfl, ?_⟩; have n0_ := Aside0.mk (Kd.S_below (by (with_reducible repeat (first | apply Kd.S_alloc | apply Kd.S_drewN | apply Kd.S_drew)); exact HO_3.out) hb); have n1_ := Aside0.mk (blk_below (bU BK355.out) hb); have n2_ := Aside0.mk (below_step (by repeat (first | (with_reducible first | exact HB.out | apply below_alloc | apply pw_below_drewN | apply below_drew1 | refine below_set ?_ GE355.out) | exact HB.out)) hb); clear HO_3; clear BK355; clear HB; have HO_3 := n0_; have BK355 := n1_; have HB := n2_; clear n0_ n1_ n2_; (try clear hb); (try clear hb2); (try clear hk); (try clear hi)))
      go_ret
      exact ⟨by first | rfl | (simp [errW_none, errW_some] <;> rfl) | (simp [*, errW_none, errW_some] <;> rfl), by repeat (first | (with_reducible first | exact HB.out | apply below_alloc | apply pw_below_drewN | apply below_drew1 | refine below_set ?_ GE355.out) | exact HB.out)⟩

/-- THE ONE PURE STATEMENT of incunablelaw15_ShapeComponents: yours. -/
def incunablelaw15_ShapeComponents.Pure : Prop := ∀ (a0_0 : Int) (a0_1 : Int) (l0_2 : List Int), ((Lit.int .i64 a0_0).wf = true) → ((Lit.int .i64 a0_1).wf = true) → (l0_2.length ≤ 9223372036854775807 ∧ l0_2.length * 1 ≤ 140737488351232 ∧ ∀ y0_ ∈ l0_2, (Lit.int .u8 y0_).wf = true) → ∃ k, incunablelaw15_ShapeComponents.f k a0_0 a0_1 l0_2 = some true
theorem incunablelaw15_ShapeComponents.walk (P : incunablelaw15_ShapeComponents.Pure) (a0_0 : Int) (a0_1 : Int) (A0_2 : Option Addr) (c0_2 : Nat) (l0_2 : List Int) (w : World) (hr0_2 : Kd.C (Kd.int .u8) w A0_2 l0_2.length l0_2) (hc0_2 : l0_2.length ≤ c0_2) (g0_0 : (Lit.int .i64 a0_0).wf = true) (g0_1 : (Lit.int .i64 a0_1).wf = true) (g0_2 : l0_2.length ≤ 9223372036854775807 ∧ l0_2.length * 1 ≤ 140737488351232 ∧ ∀ y0_ ∈ l0_2, (Lit.int .u8 y0_).wf = true) :
  Calls Try.prog 5 #[.agg #[.int .i64 a0_0, .int .i64 a0_1, .slice A0_2 l0_2.length c0_2]] w fun e w' => e = .returned (.bool true) ∧ Below w.heap.size w w' := by
 obtain ⟨k, h⟩ := P a0_0 a0_1 l0_2 g0_0 g0_1 g0_2
 refine (incunablelaw15_ShapeComponents.calls k a0_0 a0_1 A0_2 c0_2 l0_2 true w hr0_2 hc0_2 h rfl).mono ?_
 rintro e w' ⟨rfl, hd⟩
 exact ⟨rfl, hd⟩

end Go.Proofs.Ytaflekobfbgedaa.PShapeComponents
