-- Written by a program of this session (wip/tools/myprint.py) over the kit's print. Not trusted: Lean checks it.
import Derived.Test.YtaflekobfbgedaaPShapeComponentsx0
import Derived.Test.YtaflekobfbgedaaPShapeComponentsx3
import Derived.Test.YtaflekobfbgedaaPShapeComponentsx10
import Derived.Test.YtaflekobfbgedaaPShapeComponentsx11
namespace Go.Proofs.Ytaflekobfbgedaa.PShapeComponents
open Go.RowKit Go.Proofs.YtaflekobfbgedaaW.PrintWords Go.Proofs.YtaflekobfbgedaaW.PrintLast Go.Proofs.YtaflekobfbgedaaW.PrintMore
attribute [local go_sem] max2_int min2_int max_two min_two max_three min_three max_four min_four   -- for this text's walks alone
set_option linter.unusedVariables false
set_option linter.unusedSimpArgs false

/-! ### shape_Draw: function 24 -/
mutual
def shape_Draw.j0 : Nat → List (S48) → Bool → Int → Int → List Int → Option (Int × Int × List Int × Int)
 | 0, _, _, _, _, _ => none
 | k + 1, x2, x24, x342000, x342001, x342002 => if x24 = true then (some (0, 0, ([] : List Int), 30)) else (shape_Draw.l0 k x2 (x2.length : Int) 0 x342000 x342001 x342002)
def shape_Draw.l0 : Nat → List (S48) → Int → Int → Int → Int → List Int → Option (Int × Int × List Int × Int)
 | 0, _, _, _, _, _, _ => none
 | k + 1, x26, x27, x28, x342000, x342001, x342002 => if x28 < x27 then (if 0 ≤ x28 then (if x28 < (x26.length : Int) then ((shape_near.f ((rd_T48 x26 x28).f1)).bind fun t345 => (if t345 = true then ((shape_near.f ((rd_T48 x26 x28).f2)).bind fun t346 => (if t346 = true then ((bitmap_Draw.f k x342000 x342001 x342002 ((rd_T48 x26 x28).f0.f0) ((rd_T48 x26 x28).f0.f1) ((rd_T48 x26 x28).f0.f2) ((rd_T48 x26 x28).f1) ((rd_T48 x26 x28).f2) 1).bind fun bt347 => (shape_Draw.l0 k x26 x27 (wrap64 (x28 + 1)) bt347.1 bt347.2.1 bt347.2.2.1)) else (some (0, 0, ([] : List Int), 2)))) else (some (0, 0, ([] : List Int), 2)))) else (none)) else (none)) else (some (x342000, x342001, x342002, 0))
end
def shape_Draw.f (k : Nat) (a0 : Int) (a1 : Int) (l2 : List (S48)) : Option (Int × Int × List Int × Int) := (bitmap_New.f k a0 a1 0).bind fun bt335 => (if bt335.2.2.2 = 0 then ((shape_rightPlaced.f k l2).bind fun t342 => (shape_Draw.j0 k l2 (!t342) bt335.1 bt335.2.1 bt335.2.2.1)) else (shape_Draw.j0 k l2 true bt335.1 bt335.2.1 bt335.2.2.1))
theorem shape_Draw.mono_l : ∀ k, (∀ y0 y1 y2 y3 y4, LeO (shape_Draw.j0 k y0 y1 y2 y3 y4) (shape_Draw.j0 (k + 1) y0 y1 y2 y3 y4)) ∧ (∀ y0 y1 y2 y3 y4 y5, LeO (shape_Draw.l0 k y0 y1 y2 y3 y4 y5) (shape_Draw.l0 (k + 1) y0 y1 y2 y3 y4 y5))
 | 0 => ⟨fun _ _ _ _ _ r h => by simp [shape_Draw.j0] at h, fun _ _ _ _ _ _ r h => by simp [shape_Draw.l0] at h⟩
 | k + 1 => by
  obtain ⟨ih0, ih1⟩ := shape_Draw.mono_l k
  refine ⟨?_, ?_⟩
  ·intro y0 y1 y2 y3 y4
   unfold shape_Draw.j0
   repeat' first
   | (with_reducible exact ih0 _ _ _ _ _)
   | (with_reducible exact ih1 _ _ _ _ _ _)
   | (with_reducible exact bitmap_Draw.mono _ _ _ _ _ _ _ _ _ _)
   | (with_reducible exact bitmap_New.mono _ _ _ _)
   | (with_reducible exact shape_rightPlaced.mono _ _)
   | (with_reducible exact LeO.refl _)
   | (with_reducible exact LeO.none _)
   | (with_reducible refine LeO.ite ?_ ?_)
   | (with_reducible refine LeO.bind ?_ (fun _ => ?_))
   | exact ih0 _ _ _ _ _
   | exact ih1 _ _ _ _ _ _
   | exact bitmap_Draw.mono _ _ _ _ _ _ _ _ _ _
   | exact bitmap_New.mono _ _ _ _
   | exact shape_rightPlaced.mono _ _
   | exact LeO.none _
   | refine LeO.ite ?_ ?_
   | refine LeO.bind ?_ (fun _ => ?_)
  ·intro y0 y1 y2 y3 y4 y5
   unfold shape_Draw.l0
   repeat' first
   | (with_reducible exact ih0 _ _ _ _ _)
   | (with_reducible exact ih1 _ _ _ _ _ _)
   | (with_reducible exact bitmap_Draw.mono _ _ _ _ _ _ _ _ _ _)
   | (with_reducible exact bitmap_New.mono _ _ _ _)
   | (with_reducible exact shape_rightPlaced.mono _ _)
   | (with_reducible exact LeO.refl _)
   | (with_reducible exact LeO.none _)
   | (with_reducible refine LeO.ite ?_ ?_)
   | (with_reducible refine LeO.bind ?_ (fun _ => ?_))
   | exact ih0 _ _ _ _ _
   | exact ih1 _ _ _ _ _ _
   | exact bitmap_Draw.mono _ _ _ _ _ _ _ _ _ _
   | exact bitmap_New.mono _ _ _ _
   | exact shape_rightPlaced.mono _ _
   | exact LeO.none _
   | refine LeO.ite ?_ ?_
   | refine LeO.bind ?_ (fun _ => ?_)
theorem shape_Draw.mono : ∀ a0 a1 a2 k, LeO (shape_Draw.f k a0 a1 a2) (shape_Draw.f (k + 1) a0 a1 a2) := by
 intro a0 a1 a2 k
 obtain ⟨ih0, ih1⟩ := shape_Draw.mono_l k
 unfold shape_Draw.f
 repeat' first
   | (with_reducible exact ih0 _ _ _ _ _)
   | (with_reducible exact ih1 _ _ _ _ _ _)
   | (with_reducible exact bitmap_Draw.mono _ _ _ _ _ _ _ _ _ _)
   | (with_reducible exact bitmap_New.mono _ _ _ _)
   | (with_reducible exact shape_rightPlaced.mono _ _)
   | (with_reducible exact LeO.refl _)
   | (with_reducible exact LeO.none _)
   | (with_reducible refine LeO.ite ?_ ?_)
   | (with_reducible refine LeO.bind ?_ (fun _ => ?_))
   | exact ih0 _ _ _ _ _
   | exact ih1 _ _ _ _ _ _
   | exact bitmap_Draw.mono _ _ _ _ _ _ _ _ _ _
   | exact bitmap_New.mono _ _ _ _
   | exact shape_rightPlaced.mono _ _
   | exact LeO.none _
   | refine LeO.ite ?_ ?_
   | refine LeO.bind ?_ (fun _ => ?_)
set_option maxHeartbeats 8000000 in
set_option maxRecDepth 100000 in
theorem shape_Draw.calls (k : Nat) (a0 : Int) (a1 : Int) (A2 : Option Addr) (c2 : Nat) (l2 : List (S48)) (r1 : Int) (r2 : Int) (r3 : List Int) (r4 : Int) (w : World) (hr2 : Kd.C k48 w A2 l2.length l2) (hc2 : l2.length ≤ c2) (h : shape_Draw.f k a0 a1 l2 = some (r1, r2, r3, r4)) :
  Calls Try.prog 24 #[.int .i64 a0, .int .i64 a1, .slice A2 l2.length c2] w fun e w' => ∃ v2_ : Value, e = .returned (.tuple #[.agg #[.int .i64 r1, .int .i64 r2, v2_], .int .i64 r4]) ∧ Kd.R (Kd.int .u8) 5 w' w.heap.size (fun _ => True) v2_ r3 ∧ Below w.heap.size w w' := by
 have hu24 := Try.underlying24
 have hu48 := Try.underlying48
 have HR2 := Aside0.mk hr2
 have HC2 := Aside0.mk hc2
 clear hr2 hc2
 have HB := Aside0.mk (Below.refl w.heap.size w)
 have H : ((bitmap_New.f k a0 a1 0).bind fun bt335 => (if bt335.2.2.2 = 0 then ((shape_rightPlaced.f k l2).bind fun t342 => (shape_Draw.j0 k l2 (!t342) bt335.1 bt335.2.1 bt335.2.2.1)) else (shape_Draw.j0 k l2 true bt335.1 bt335.2.1 bt335.2.2.1))) = some (r1, r2, r3, r4) := h
 clear h
 replace H := Option.bind_eq_some_iff.mp H
 obtain ⟨⟨t335, t336, t337, t340⟩, A40, H⟩ := H
 replace H : (if t340 = 0 then ((shape_rightPlaced.f k l2).bind fun t342 => (shape_Draw.j0 k l2 (!t342) t335 t336 t337)) else (shape_Draw.j0 k l2 true t335 t336 t337)) = some (r1, r2, r3, r4) := H
 have A4 := Aside0.mk A40
 clear A40
 have HC5 := Aside0.mk H
 clear H
 go_enter Try.func24, Try.ntmps24
 go_upto_region 2 with (first | ((with_reducible refine gate_dst (N := 6) rfl ?_); refine box_event ?hg (N := 6) ?hd (cs := #[.int .i64 0, .int .i64 0, .slice none 0 0]) (t := 24) ?hr ?_; (case hd => rfl); (case hg => rfl); (case hr => first | (go_simp; done) | (go_simp; rfl)); intro gb334 hg w6 hbox hb; have n0_ := Aside0.mk (below_step (by repeat (first | (with_reducible first | exact HB.out | apply below_alloc | apply pw_below_drewN | apply below_drew1) | exact HB.out)) hb); have n1_ := Aside0.mk (hbox); have n2_ := Aside0.mk ((by rw [hg]; exact (below_size (by repeat (first | (with_reducible first | exact HB.out | apply below_alloc | apply pw_below_drewN | apply below_drew1) | exact HB.out))) : w.heap.size ≤ gb334)); have n3_ := Aside0.mk ((by rw [hg]; exact (below_size (by repeat (first | (with_reducible first | exact HB.out | apply below_alloc | apply pw_below_drewN | apply below_drew1) | exact HB.out))) : w.heap.size ≤ gb334)); clear HB; have HB := n0_; have BK334 := n1_; have GW334 := n2_; have GE334 := n3_; clear n0_ n1_ n2_ n3_; clear hb hbox hg) | ((with_reducible refine gate_callee (f := 54) rfl ?_); refine goesL_ (some 15) rfl rfl Try.func54 (by kernel_rfl) rfl #[.int .i64 a0, .int .i64 a1, .int .i64 0] rfl (by (try simp only [List.map_toArray, List.map_cons, List.map_nil]); first | done | rfl | (simp only [List.length_drop, List.length_take]; rfl)) ?_; (with_reducible refine (bitmap_New.calls k a0 a1 0 t335 t336 t337 t340 _ A4.out).mono ?_); rintro e w7 ⟨v338, rfl, ho0, hb⟩; refine ⟨_, rfl, ?_⟩; have n0_ := Aside0.mk (Kd.R_lower ho0 (below_size (by repeat (first | (with_reducible first | exact HB.out | apply below_alloc | apply pw_below_drewN | apply below_drew1 | refine below_set ?_ GE334.out) | exact HB.out)))); have n1_ := Aside0.mk (blk_below (bU BK334.out) hb); have n2_ := Aside0.mk (below_step (by repeat (first | (with_reducible first | exact HB.out | apply below_alloc | apply pw_below_drewN | apply below_drew1 | refine below_set ?_ GE334.out) | exact HB.out)) hb); clear BK334; clear HB; have HO339 := n0_; have BK334 := n1_; have HB := n2_; clear n0_ n1_ n2_; (try clear hb); (try clear hb2); (try clear hk); (try clear hi); (try clear ho0)) | ((with_reducible refine gate_dst (N := 8) rfl ?_); refine box_event ?hg (N := 8) ?hd (cs := #[.int .i64 0, .int .i64 0, .slice none 0 0]) (t := 24) ?hr ?_; (case hd => rfl); (case hg => rfl); (case hr => first | (go_simp; done) | (go_simp; rfl)); intro gb341 hg w8 hbox hb; have n0_ := Aside0.mk (Kd.R_below (rU HO339.out) hb); have n1_ := Aside0.mk (blk_below (bU BK334.out) hb); have n2_ := Aside0.mk (below_step (by repeat (first | (with_reducible first | exact HB.out | apply below_alloc | apply pw_below_drewN | apply below_drew1 | refine below_set ?_ GE334.out) | exact HB.out)) hb); have n3_ := Aside0.mk (hbox); have n4_ := Aside0.mk ((by rw [hg]; exact (below_size (by repeat (first | (with_reducible first | exact HB.out | apply below_alloc | apply pw_below_drewN | apply below_drew1 | refine below_set ?_ GE334.out) | exact HB.out))) : w.heap.size ≤ gb341)); have n5_ := Aside0.mk ((by rw [hg]; exact (below_size (by repeat (first | (with_reducible first | exact HB.out | apply below_alloc | apply pw_below_drewN | apply below_drew1 | refine below_set ?_ GE334.out) | exact HB.out))) : w.heap.size ≤ gb341)); have n6_ := Aside0.mk ((by rw [hg]; exact Nat.ne_of_lt (blk_lt (bU BK334.out)) : gb334 ≠ gb341)); have n7_ := Aside0.mk ((by rw [hg]; exact Nat.ne_of_gt (blk_lt (bU BK334.out)) : gb341 ≠ gb334)); clear HO339; clear BK334; clear HB; have HO339 := n0_; have BK334 := n1_; have HB := n2_; have BK341 := n3_; have GW341 := n4_; have GE341 := n5_; have NB334_341 := n6_; have NB341_334 := n7_; clear n0_ n1_ n2_ n3_ n4_ n5_ n6_ n7_; clear hb hbox hg; have hnb9 := NB341_334.out; have hnc9 := NB334_341.out; have hcz10_0 : w8.cell? ⟨gb341, 0, none⟩ = some (.int .i64 0) := (blk_cell BK341.out 0).trans rfl; have hcz10_1 : w8.cell? ⟨gb341, 1, none⟩ = some (.int .i64 0) := (blk_cell BK341.out 1).trans rfl; have hcz10_2 : w8.cell? ⟨gb341, 2, none⟩ = some (.slice none 0 0) := (blk_cell BK341.out 2).trans rfl; have hfz10_0 := blk_frozen BK341.out 0; have hfz10_1 := blk_frozen BK341.out 1; have hfz10_2 := blk_frozen BK341.out 2; obtain ⟨Ao11, co11, eo11⟩ := Kd.R_slice HO339.out; subst eo11))
 (try simp only [Act.put, List.setIfInBounds_toArray, List.set_cons_zero, List.set_cons_succ])
 go_cut [24] (fun v24 wc => ∃ (kq : Nat) (x24_4 : Bool), v24 = .bool x24_4 ∧ Aside0 (shape_Draw.j0 kq l2 x24_4 t335 t336 t337 = some (r1, r2, r3, r4)) ∧ Aside0 (kq ≤ k) ∧ Aside0 (Kd.R (Kd.int .u8) 5 wc w.heap.size (fun _ => True) (.slice Ao11 t337.length co11) t337) ∧ Aside0 (wc.heap[gb334]? = some (.cells #[.int .i64 0, .int .i64 0, (.slice none 0 0)] 24 (0, 0))) ∧ Aside0 (wc.heap[gb341]? = some (.cells #[.int .i64 t335, .int .i64 t336, (.slice Ao11 t337.length co11)] 24 (0, 0))) ∧ Aside0 (Below w.heap.size w wc))
 case first =>
  have H := HC5.out
  clear HC5
  by_cases c12 : t340 = 0
  ·rw [if_pos c12] at H
   have c12b0 : (t340 == 0) = true := beq_iff_eq.mpr c12
   have c12b1 : (t340 != 0) = false := bne_eq_false_iff_eq.mpr c12
   clear c12
   (first | rw [c12b0] | (simp only [i64_w, i32_w]; rw [c12b0]) | skip)
   replace H := Option.bind_eq_some_iff.mp H
   obtain ⟨t342, A130, H⟩ := H
   replace H : (shape_Draw.j0 k l2 (!t342) t335 t336 t337) = some (r1, r2, r3, r4) := H
   have A13 := Aside0.mk A130
   clear A130
   have H' := Aside0.mk H
   clear H
   go_wp2_with (first | (go_at_call 55; (with_reducible refine (shape_rightPlaced.calls k _ _ l2 t342 _ ?side1 ?side2 A13.out).mono ?_); (case side1 => exact Kd.C_below HR2.out (by repeat (first | (with_reducible first | exact HB.out | apply below_alloc | apply pw_below_drewN | apply below_drew1 | refine below_set ?_ GE334.out | refine below_set ?_ GE341.out) | exact HB.out))); (case side2 => exact HC2.out); rintro e w14 ⟨rfl, hb⟩; have n0_ := Aside0.mk (Kd.R_below (by (with_reducible repeat (first | apply Kd.R_alloc | apply Kd.R_drewN | apply Kd.R_drew)); exact (Kd.R_mono (Kd.R_far (p := ⟨gb341, 2, none⟩) (Kd.R_far (p := ⟨gb341, 1, none⟩) (Kd.R_far (p := ⟨gb341, 0, none⟩) (Kd.R_types HO339.out BK341.out (by decide)) (fun _ hk => hk.2) (.int .i64 t335)) (fun _ hk => hk.2) (.int .i64 t336)) (fun _ hk => hk.2) (.slice Ao11 t337.length co11)) (fun _ h_ => h_.1))) hb); have n1_ := Aside0.mk (blk_below (g := gb334) (o := .cells #[.int .i64 0, .int .i64 0, .slice none 0 0] 24 (0, 0)) (by refine bF ?_ ?_; exact NB334_341.out; refine bF ?_ ?_; exact NB334_341.out; refine bF ?_ ?_; exact NB334_341.out; exact bU BK334.out) hb); have n2_ := Aside0.mk (blk_below (g := gb341) (o := .cells #[.int .i64 t335, .int .i64 t336, .slice Ao11 t337.length co11] 24 (0, 0)) (by (with_reducible repeat (first | refine blk_drewN ?_ _ | refine blk_drew ?_ | refine blk_alloc ?_ _)); refine blk_put (cs := #[.int .i64 t335, .int .i64 t336, .slice none 0 0]) ?_ 2 _ rfl; (with_reducible repeat (first | refine blk_drewN ?_ _ | refine blk_drew ?_ | refine blk_alloc ?_ _)); refine blk_put (cs := #[.int .i64 t335, .int .i64 0, .slice none 0 0]) ?_ 1 _ rfl; (with_reducible repeat (first | refine blk_drewN ?_ _ | refine blk_drew ?_ | refine blk_alloc ?_ _)); refine blk_put (cs := #[.int .i64 0, .int .i64 0, .slice none 0 0]) ?_ 0 _ rfl; exact bU BK341.out) hb); have n3_ := Aside0.mk (below_step (by repeat (first | (with_reducible first | exact HB.out | apply below_alloc | apply pw_below_drewN | apply below_drew1 | refine below_set ?_ GE334.out | refine below_set ?_ GE341.out) | exact HB.out)) hb); clear HO339; clear BK334; clear BK341; clear HB; have HO339 := n0_; have BK334 := n1_; have BK341 := n2_; have HB := n3_; clear n0_ n1_ n2_ n3_; (try clear hb); (try clear hb2); (try clear hk); (try clear hi)))
   go_meet
   case rel => exact ⟨_, (!t342), (by first | rfl | (simp; done) | (simp [*]; done)), H', ⟨by first | omega | exact Nat.le_refl _⟩, ⟨by (with_reducible repeat (first | apply Kd.R_alloc | apply Kd.R_drewN | apply Kd.R_drew)); exact HO339.out⟩, ⟨by exact bU BK334.out⟩, ⟨by exact bU BK341.out⟩, ⟨by repeat (first | (with_reducible first | exact HB.out | apply below_alloc | apply pw_below_drewN | apply below_drew1 | refine below_set ?_ GE334.out | refine below_set ?_ GE341.out) | exact HB.out)⟩⟩
  ·rw [if_neg c12] at H
   have c12b0 : (t340 == 0) = false := beq_eq_false_iff_ne.mpr c12
   have c12b1 : (t340 != 0) = true := bne_iff_ne.mpr c12
   (first | rw [c12b0] | (simp only [i64_w, i32_w]; rw [c12b0]) | skip)
   have H' := Aside0.mk H
   clear H
   go_wp2
   go_meet
   case rel => exact ⟨_, (true), (by first | rfl | (simp; done) | (simp [*]; done)), H', ⟨by first | omega | exact Nat.le_refl _⟩, ⟨by (with_reducible repeat (first | apply Kd.R_alloc | apply Kd.R_drewN | apply Kd.R_drew)); exact Kd.R_mono (Kd.R_far (p := ⟨gb341, 2, none⟩) (Kd.R_far (p := ⟨gb341, 1, none⟩) (Kd.R_far (p := ⟨gb341, 0, none⟩) (Kd.R_types HO339.out BK341.out (by decide)) (fun _ hk => hk.2) (.int .i64 t335)) (fun _ hk => hk.2) (.int .i64 t336)) (fun _ hk => hk.2) (.slice Ao11 t337.length co11)) (fun _ hk => trivial)⟩, ⟨by refine bF ?_ ?_; exact NB334_341.out; refine bF ?_ ?_; exact NB334_341.out; refine bF ?_ ?_; exact NB334_341.out; exact bU BK334.out⟩, ⟨by (with_reducible repeat (first | refine blk_drewN ?_ _ | refine blk_drew ?_ | refine blk_alloc ?_ _)); refine blk_put (cs := #[.int .i64 t335, .int .i64 t336, .slice none 0 0]) ?_ 2 _ rfl; (with_reducible repeat (first | refine blk_drewN ?_ _ | refine blk_drew ?_ | refine blk_alloc ?_ _)); refine blk_put (cs := #[.int .i64 t335, .int .i64 0, .slice none 0 0]) ?_ 1 _ rfl; (with_reducible repeat (first | refine blk_drewN ?_ _ | refine blk_drew ?_ | refine blk_alloc ?_ _)); refine blk_put (cs := #[.int .i64 0, .int .i64 0, .slice none 0 0]) ?_ 0 _ rfl; exact bU BK341.out⟩, ⟨by repeat (first | (with_reducible first | exact HB.out | apply below_alloc | apply pw_below_drewN | apply below_drew1 | refine below_set ?_ GE334.out | refine below_set ?_ GE341.out) | exact HB.out)⟩⟩
 case rest =>
  clear HC5
  try clear c1
  try clear c2
  try clear p2
  try clear c5
  try clear c9
  try clear c12
  try clear c12b0
  try clear c12b1
  try clear hcz10_0
  try clear hcz10_1
  try clear hcz10_2
  try clear hfz10_0
  try clear hfz10_1
  try clear hfz10_2
  obtain ⟨kq, x24_4, rfl, HA, HJ4, HO_342002, BK334, BK341, HB⟩ := hcut
  cases kq with
  | zero => exact absurd HA.out (by simp [shape_Draw.j0])
  | succ kj4 =>
   have H := HA.out
   clear HA
   simp only [shape_Draw.j0] at H
   by_cases c15 : x24_4 = true
   ·subst c15
    have H1 : (some (0, 0, ([] : List Int), 30)) = some (r1, r2, r3, r4) := by rw [if_pos rfl] at H; exact H
    clear H
    have H := H1
    clear H1
    simp only [Option.some.injEq, Prod.mk.injEq] at H
    obtain ⟨rfl, rfl, rfl, rfl⟩ := H
    have hnb16 := NB334_341.out
    have hnc16 := NB341_334.out
    have hcz17_0 : wc.cell? ⟨gb334, 0, none⟩ = some (.int .i64 0) := (blk_cell BK334.out 0).trans rfl
    have hcz17_1 : wc.cell? ⟨gb334, 1, none⟩ = some (.int .i64 0) := (blk_cell BK334.out 1).trans rfl
    have hcz17_2 : wc.cell? ⟨gb334, 2, none⟩ = some (.slice none 0 0) := (blk_cell BK334.out 2).trans rfl
    have hfz17_0 := blk_frozen BK334.out 0
    have hfz17_1 := blk_frozen BK334.out 1
    have hfz17_2 := blk_frozen BK334.out 2
    go_wp2
    refine bodyPost_ret (results_ct rfl _ _ gb334 24 #[.int .i64 0, .int .i64 0, .slice none 0 0] (0, 0) _ rfl (by (with_reducible repeat (first | refine blk_drewN ?_ _ | refine blk_drew ?_ | refine blk_alloc ?_ _)); refine blk_put (cs := #[.int .i64 0, .int .i64 0, .slice none 0 0]) ?_ 2 _ rfl; (with_reducible repeat (first | refine blk_drewN ?_ _ | refine blk_drew ?_ | refine blk_alloc ?_ _)); refine blk_put (cs := #[.int .i64 0, .int .i64 0, .slice none 0 0]) ?_ 1 _ rfl; (with_reducible repeat (first | refine blk_drewN ?_ _ | refine blk_drew ?_ | refine blk_alloc ?_ _)); refine blk_put (cs := #[.int .i64 0, .int .i64 0, .slice none 0 0]) ?_ 0 _ rfl; exact bU BK334.out) Try.underlying24 rfl (by kernel_rfl)) rfl ?_
    exact ⟨_, by first | rfl | (simp [errW_none, errW_some] <;> rfl) | (simp [*, errW_none, errW_some] <;> rfl), by first | exact Kd.R_nil _ _ _ _ _ | exact Kd.N_nil _ _ _ _ _ | exact Kd.V_nil _ _ _ _ _ | exact Kd.Q_nil _ _ _ _ _ | exact Kd.S_nil _ _ _ _ _, by repeat (first | (with_reducible first | exact HB.out | apply below_alloc | apply pw_below_drewN | apply below_drew1 | refine below_set ?_ GE334.out | refine below_set ?_ GE341.out) | exact HB.out)⟩
   ·replace c15 := Bool.eq_false_iff.mpr c15
    subst c15
    have H1 : (shape_Draw.l0 kj4 l2 (l2.length : Int) 0 t335 t336 t337) = some (r1, r2, r3, r4) := by rw [if_neg (show ¬ (false = true) by decide)] at H; exact H
    clear H
    have H := H1
    clear H1
    have H' := Aside0.mk H
    clear H
    go_wp2
    go_loopg [28] kj4 (fun kq v28 w' => ∃ (x28_2 : Int) (x335000_2 : Int) (x335001_2 : Int) (x342000_2 : Int) (x342001_2 : Int) (x342002_2 : List Int) (u342002 : Value), v28 = .int .i64 x28_2 ∧ Aside0 (shape_Draw.l0 kq l2 (l2.length : Int) x28_2 x342000_2 x342001_2 x342002_2 = some (r1, r2, r3, r4)) ∧ Aside0 (kq ≤ kj4) ∧ Aside0 (Kd.R (Kd.int .u8) 5 w' w.heap.size (fun _ => True) u342002 x342002_2) ∧ Aside0 (w'.heap[gb334]? = some (.cells #[.int .i64 x335000_2, .int .i64 x335001_2, (.slice none 0 0)] 24 (0, 0))) ∧ Aside0 (w'.heap[gb341]? = some (.cells #[.int .i64 x342000_2, .int .i64 x342001_2, u342002] 24 (0, 0))) ∧ Aside0 (Below w.heap.size w w'))
    case atStart => exact ⟨(0), (0), (0), (t335), (t336), (t337), (.slice Ao11 t337.length co11), (by first | rfl | (simp; done) | (simp [*]; done)), H', ⟨Nat.le_refl _⟩, ⟨by (with_reducible repeat (first | apply Kd.R_alloc | apply Kd.R_drewN | apply Kd.R_drew)); exact HO_342002.out⟩, ⟨by exact bU BK334.out⟩, ⟨by exact bU BK341.out⟩, ⟨by repeat (first | (with_reducible first | exact HB.out | apply below_alloc | apply pw_below_drewN | apply below_drew1 | refine below_set ?_ GE334.out | refine below_set ?_ GE341.out) | exact HB.out)⟩⟩
    case round =>
     clear H'
     try clear c1
     try clear c2
     try clear p2
     try clear c5
     try clear c9
     try clear c12
     try clear c12b0
     try clear c12b1
     try clear c15
     try clear c16
     try clear hcz10_0
     try clear hcz10_1
     try clear hcz10_2
     try clear hcz17_0
     try clear hcz17_1
     try clear hcz17_2
     try clear hfz10_0
     try clear hfz10_1
     try clear hfz10_2
     try clear hfz17_0
     try clear hfz17_1
     try clear hfz17_2
     try clear p2
     obtain ⟨x28_2, x335000_2, x335001_2, x342000_2, x342001_2, x342002_2, u342002, rfl, HA, HK2, HO_342002, BK334, BK341, HB⟩ := hrel
     cases gk with
     | zero => exact absurd HA.out (by simp [shape_Draw.l0])
     | succ k2 =>
      have H := HA.out
      clear HA
      simp only [shape_Draw.l0] at H
      by_cases c18 : x28_2 < (l2.length : Int)
      ·rw [if_pos c18] at H
       have c18b0 : decide (x28_2 < (l2.length : Int)) = true := decide_eq_true c18
       clear c18
       by_cases c19 : 0 ≤ x28_2
       ·rw [if_pos c19] at H
        have c19b0 : decide (0 ≤ x28_2) = true := decide_eq_true c19
        clear c19
        by_cases c20 : x28_2 < (l2.length : Int)
        ·rw [if_pos c20] at H
         have c20b0 : decide (x28_2 < (l2.length : Int)) = true := decide_eq_true c20
         clear c20
         replace H := Option.bind_eq_some_iff.mp H
         obtain ⟨t345, A210, H⟩ := H
         replace H : (if t345 = true then ((shape_near.f ((rd_T48 l2 x28_2).f2)).bind fun t346 => (if t346 = true then ((bitmap_Draw.f k2 x342000_2 x342001_2 x342002_2 ((rd_T48 l2 x28_2).f0.f0) ((rd_T48 l2 x28_2).f0.f1) ((rd_T48 l2 x28_2).f0.f2) ((rd_T48 l2 x28_2).f1) ((rd_T48 l2 x28_2).f2) 1).bind fun bt347 => (shape_Draw.l0 k2 l2 (l2.length : Int) (wrap64 (x28_2 + 1)) bt347.1 bt347.2.1 bt347.2.2.1)) else (some (0, 0, ([] : List Int), 2)))) else (some (0, 0, ([] : List Int), 2))) = some (r1, r2, r3, r4) := H
         have A21 := Aside0.mk A210
         clear A210
         by_cases c22 : t345 = true
         ·subst c22
          have H1 : ((shape_near.f ((rd_T48 l2 x28_2).f2)).bind fun t346 => (if t346 = true then ((bitmap_Draw.f k2 x342000_2 x342001_2 x342002_2 ((rd_T48 l2 x28_2).f0.f0) ((rd_T48 l2 x28_2).f0.f1) ((rd_T48 l2 x28_2).f0.f2) ((rd_T48 l2 x28_2).f1) ((rd_T48 l2 x28_2).f2) 1).bind fun bt347 => (shape_Draw.l0 k2 l2 (l2.length : Int) (wrap64 (x28_2 + 1)) bt347.1 bt347.2.1 bt347.2.2.1)) else (some (0, 0, ([] : List Int), 2)))) = some (r1, r2, r3, r4) := by rw [if_pos rfl] at H; exact H
          clear H
          have H := H1
          clear H1
          replace H := Option.bind_eq_some_iff.mp H
          obtain ⟨t346, A230, H⟩ := H
          replace H : (if t346 = true then ((bitmap_Draw.f k2 x342000_2 x342001_2 x342002_2 ((rd_T48 l2 x28_2).f0.f0) ((rd_T48 l2 x28_2).f0.f1) ((rd_T48 l2 x28_2).f0.f2) ((rd_T48 l2 x28_2).f1) ((rd_T48 l2 x28_2).f2) 1).bind fun bt347 => (shape_Draw.l0 k2 l2 (l2.length : Int) (wrap64 (x28_2 + 1)) bt347.1 bt347.2.1 bt347.2.2.1)) else (some (0, 0, ([] : List Int), 2))) = some (r1, r2, r3, r4) := H
          have A23 := Aside0.mk A230
          clear A230
          by_cases c24 : t346 = true
          ·subst c24
           have H1 : ((bitmap_Draw.f k2 x342000_2 x342001_2 x342002_2 ((rd_T48 l2 x28_2).f0.f0) ((rd_T48 l2 x28_2).f0.f1) ((rd_T48 l2 x28_2).f0.f2) ((rd_T48 l2 x28_2).f1) ((rd_T48 l2 x28_2).f2) 1).bind fun bt347 => (shape_Draw.l0 k2 l2 (l2.length : Int) (wrap64 (x28_2 + 1)) bt347.1 bt347.2.1 bt347.2.2.1)) = some (r1, r2, r3, r4) := by rw [if_pos rfl] at H; exact H
           clear H
           have H := H1
           clear H1
           replace H := Option.bind_eq_some_iff.mp H
           obtain ⟨⟨t347, t348, t349, t352⟩, A250, H⟩ := H
           replace H : (shape_Draw.l0 k2 l2 (l2.length : Int) (wrap64 (x28_2 + 1)) t347 t348 t349) = some (r1, r2, r3, r4) := H
           have A25 := Aside0.mk A250
           clear A250
           have H' := Aside0.mk H
           clear H
           have p343 : 0 ≤ (x28_2 : Int) := of_decide_eq_true (by first | (with_reducible assumption) | assumption)
           have q343 : x28_2 < (l2.length : Int) := of_decide_eq_true (by first | (with_reducible assumption) | assumption)
           obtain ⟨ad343, A343_2, c343_2, e343, hx343_0, hx343_1, hx343_2, hx343_3, hx343_4, hl343_2, hi343_2⟩ := at_T48 HR2.out x28_2 p343 q343
           cases e343
           replace hx343_0 := (HB.out.cell (World.block_lt_of_cell? w _ hx343_0)).trans hx343_0
           replace hx343_1 := (HB.out.cell (World.block_lt_of_cell? w _ hx343_1)).trans hx343_1
           replace hx343_2 := (HB.out.cell (World.block_lt_of_cell? w _ hx343_2)).trans hx343_2
           replace hx343_3 := (HB.out.cell (World.block_lt_of_cell? w _ hx343_3)).trans hx343_3
           replace hx343_4 := (HB.out.cell (World.block_lt_of_cell? w _ hx343_4)).trans hx343_4
           have HR343_2 := Aside0.mk hi343_2
           have HC343_2 := Aside0.mk hl343_2
           clear hi343_2 hl343_2
           replace p343 := eq_true p343
           replace q343 := eq_true q343
           go_wp2_with (first | ((with_reducible refine gate_dst (N := 11) rfl ?_); refine box_event ?hg (N := 11) ?hd (cs := #[.int .i64 0, .int .i64 0, .slice none 0 0, .int .i64 0, .int .i64 0]) (t := 48) ?hr ?_; (case hd => rfl); (case hg => rfl); (case hr => first | (go_simp; done) | (go_simp; rfl)); intro gb344 hg w26 hbox hb; have n0_ := Aside0.mk (Kd.R_below (rU HO_342002.out) hb); have n1_ := Aside0.mk (blk_below (bU BK334.out) hb); have n2_ := Aside0.mk (blk_below (bU BK341.out) hb); have n3_ := Aside0.mk (below_step (by repeat (first | (with_reducible first | exact HB.out | apply below_alloc | apply pw_below_drewN | apply below_drew1 | refine below_set ?_ GE334.out | refine below_set ?_ GE341.out) | exact HB.out)) hb); have n4_ := Aside0.mk (hbox); have n5_ := Aside0.mk ((by rw [hg]; exact (below_size (by repeat (first | (with_reducible first | exact HB.out | apply below_alloc | apply pw_below_drewN | apply below_drew1 | refine below_set ?_ GE334.out | refine below_set ?_ GE341.out) | exact HB.out))) : w.heap.size ≤ gb344)); have n6_ := Aside0.mk ((by rw [hg]; exact (below_size (by repeat (first | (with_reducible first | exact HB.out | apply below_alloc | apply pw_below_drewN | apply below_drew1 | refine below_set ?_ GE334.out | refine below_set ?_ GE341.out) | exact HB.out))) : w.heap.size ≤ gb344)); have n7_ := Aside0.mk ((by rw [hg]; exact Nat.ne_of_lt (blk_lt (bU BK334.out)) : gb334 ≠ gb344)); have n8_ := Aside0.mk ((by rw [hg]; exact Nat.ne_of_gt (blk_lt (bU BK334.out)) : gb344 ≠ gb334)); have n9_ := Aside0.mk ((by rw [hg]; exact Nat.ne_of_lt (blk_lt (bU BK341.out)) : gb341 ≠ gb344)); have n10_ := Aside0.mk ((by rw [hg]; exact Nat.ne_of_gt (blk_lt (bU BK341.out)) : gb344 ≠ gb341)); clear HO_342002; clear BK334; clear BK341; clear HB; have HO_342002 := n0_; have BK334 := n1_; have BK341 := n2_; have HB := n3_; have BK344 := n4_; have GW344 := n5_; have GE344 := n6_; have NB334_344 := n7_; have NB344_334 := n8_; have NB341_344 := n9_; have NB344_341 := n10_; clear n0_ n1_ n2_ n3_ n4_ n5_ n6_ n7_ n8_ n9_ n10_; clear hb hbox hg; have hnb27 := NB344_334.out; have hnc27 := NB334_344.out; have hnb28 := NB344_341.out; have hnc28 := NB341_344.out; have hcz29_0 : w26.cell? ⟨gb344, 0, none⟩ = some (.int .i64 0) := (blk_cell BK344.out 0).trans rfl; have hcz29_1 : w26.cell? ⟨gb344, 1, none⟩ = some (.int .i64 0) := (blk_cell BK344.out 1).trans rfl; have hcz29_2 : w26.cell? ⟨gb344, 2, none⟩ = some (.slice none 0 0) := (blk_cell BK344.out 2).trans rfl; have hcz29_3 : w26.cell? ⟨gb344, 3, none⟩ = some (.int .i64 0) := (blk_cell BK344.out 3).trans rfl; have hcz29_4 : w26.cell? ⟨gb344, 4, none⟩ = some (.int .i64 0) := (blk_cell BK344.out 4).trans rfl; have hfz29_0 := blk_frozen BK344.out 0; have hfz29_1 := blk_frozen BK344.out 1; have hfz29_2 := blk_frozen BK344.out 2; have hfz29_3 := blk_frozen BK344.out 3; have hfz29_4 := blk_frozen BK344.out 4) | ((with_reducible refine gate_callee (f := 56) rfl ?_); refine goesL_ (some 34) rfl rfl Try.func56 (by kernel_rfl) rfl #[.int .i64 ((rd_T48 l2 x28_2).f1)] rfl (by (try simp only [List.map_toArray, List.map_cons, List.map_nil]); first | done | rfl | (simp only [List.length_drop, List.length_take]; rfl)) ?_; (with_reducible refine (shape_near.calls ((rd_T48 l2 x28_2).f1) true _ A21.out).mono ?_); rintro e w' ⟨rfl, ⟨nd, rfl⟩⟩; refine ⟨_, rfl, ?_⟩) | (go_at_call 56; (with_reducible refine (shape_near.calls ((rd_T48 l2 x28_2).f2) true _ A23.out).mono ?_); rintro e w' ⟨rfl, ⟨nd, rfl⟩⟩; have hnb30 := NB341_334.out; have hnc30 := NB334_341.out; have hcz31_0 : w26.cell? ⟨gb341, 0, none⟩ = some (.int .i64 x342000_2) := (blk_cell BK341.out 0).trans rfl; have hcz31_1 : w26.cell? ⟨gb341, 1, none⟩ = some (.int .i64 x342001_2) := (blk_cell BK341.out 1).trans rfl; have hcz31_2 : w26.cell? ⟨gb341, 2, none⟩ = some (u342002) := (blk_cell BK341.out 2).trans rfl; have hfz31_0 := blk_frozen BK341.out 0; have hfz31_1 := blk_frozen BK341.out 1; have hfz31_2 := blk_frozen BK341.out 2; obtain ⟨Ao32, co32, eo32⟩ := Kd.R_slice HO_342002.out; subst eo32) | ((with_reducible refine gate_callee (f := 57) rfl ?_); refine goesL_ (some 51) rfl rfl Try.func57 (by kernel_rfl) rfl #[.agg #[.int .i64 x342000_2, .int .i64 x342001_2, .slice Ao32 x342002_2.length co32], .agg #[.int .i64 ((rd_T48 l2 x28_2).f0.f0), .int .i64 ((rd_T48 l2 x28_2).f0.f1), .slice A343_2 ((rd_T48 l2 x28_2).f0.f2).length c343_2], .int .i64 ((rd_T48 l2 x28_2).f1), .int .i64 ((rd_T48 l2 x28_2).f2), .int .i64 1] rfl (by (try simp only [List.map_toArray, List.map_cons, List.map_nil]); first | done | rfl | (simp only [List.length_drop, List.length_take]; rfl)) ?_; (with_reducible refine (bitmap_Draw.calls k2 x342000_2 x342001_2 _ _ x342002_2 ((rd_T48 l2 x28_2).f0.f0) ((rd_T48 l2 x28_2).f0.f1) _ _ ((rd_T48 l2 x28_2).f0.f2) ((rd_T48 l2 x28_2).f1) ((rd_T48 l2 x28_2).f2) 1 t347 t348 t349 t352 _ ?side1 ?side2 ?side3 ?side4 A25.out).mono ?_); (case side1 => refine (Kd.R_reads' (e := 5) (base := w.heap.size) (ok := fun k_ => True) (n := x342002_2.length) (c := co32) ?_).2.2; exact (by (with_reducible repeat (first | apply Kd.R_alloc | apply Kd.R_drewN | apply Kd.R_drew)); exact (Kd.R_mono (Kd.R_far (p := ⟨gb344, 4, none⟩) (Kd.R_far (p := ⟨gb344, 3, none⟩) (Kd.R_far (p := ⟨gb344, 2, none⟩) (Kd.R_far (p := ⟨gb344, 1, none⟩) (Kd.R_far (p := ⟨gb344, 0, none⟩) (Kd.R_types HO_342002.out BK344.out (by decide)) (fun _ hk => hk.2) (.int .i64 ((rd_T48 l2 x28_2).f0.f0))) (fun _ hk => hk.2) (.int .i64 ((rd_T48 l2 x28_2).f0.f1))) (fun _ hk => hk.2) (.slice A343_2 ((rd_T48 l2 x28_2).f0.f2).length c343_2)) (fun _ hk => hk.2) (.int .i64 ((rd_T48 l2 x28_2).f1))) (fun _ hk => hk.2) (.int .i64 ((rd_T48 l2 x28_2).f2))) (fun _ h_ => h_.1)))); (case side2 => exact (Kd.R_reads' HO_342002.out).2.1); (case side3 => exact Kd.C_below HR343_2.out (by repeat (first | (with_reducible first | exact HB.out | apply below_alloc | apply pw_below_drewN | apply below_drew1 | refine below_set ?_ GE334.out | refine below_set ?_ GE341.out | refine below_set ?_ GE344.out) | exact HB.out))); (case side4 => exact HC343_2.out); rintro e w33 ⟨v350, rfl, ho0, hb⟩; refine ⟨_, rfl, ?_⟩; have n0_ := Aside0.mk (Kd.R_elder' (by (with_reducible repeat (first | apply Kd.R_alloc | apply Kd.R_drewN | apply Kd.R_drew)); exact (Kd.R_mono (Kd.R_far (p := ⟨gb344, 4, none⟩) (Kd.R_far (p := ⟨gb344, 3, none⟩) (Kd.R_far (p := ⟨gb344, 2, none⟩) (Kd.R_far (p := ⟨gb344, 1, none⟩) (Kd.R_far (p := ⟨gb344, 0, none⟩) (Kd.R_types HO_342002.out BK344.out (by decide)) (fun _ hk => hk.2) (.int .i64 ((rd_T48 l2 x28_2).f0.f0))) (fun _ hk => hk.2) (.int .i64 ((rd_T48 l2 x28_2).f0.f1))) (fun _ hk => hk.2) (.slice A343_2 ((rd_T48 l2 x28_2).f0.f2).length c343_2)) (fun _ hk => hk.2) (.int .i64 ((rd_T48 l2 x28_2).f1))) (fun _ hk => hk.2) (.int .i64 ((rd_T48 l2 x28_2).f2))) (fun _ h_ => h_.1))) (Kd.R_base ho0) hb); have n1_ := Aside0.mk (Kd.R_lower (Kd.R_new' ho0 (Kd.R_lt (by (with_reducible repeat (first | apply Kd.R_alloc | apply Kd.R_drewN | apply Kd.R_drew)); exact (Kd.R_mono (Kd.R_far (p := ⟨gb344, 4, none⟩) (Kd.R_far (p := ⟨gb344, 3, none⟩) (Kd.R_far (p := ⟨gb344, 2, none⟩) (Kd.R_far (p := ⟨gb344, 1, none⟩) (Kd.R_far (p := ⟨gb344, 0, none⟩) (Kd.R_types HO_342002.out BK344.out (by decide)) (fun _ hk => hk.2) (.int .i64 ((rd_T48 l2 x28_2).f0.f0))) (fun _ hk => hk.2) (.int .i64 ((rd_T48 l2 x28_2).f0.f1))) (fun _ hk => hk.2) (.slice A343_2 ((rd_T48 l2 x28_2).f0.f2).length c343_2)) (fun _ hk => hk.2) (.int .i64 ((rd_T48 l2 x28_2).f1))) (fun _ hk => hk.2) (.int .i64 ((rd_T48 l2 x28_2).f2))) (fun _ h_ => h_.1))))) (below_size (by repeat (first | (with_reducible first | exact HB.out | apply below_alloc | apply pw_below_drewN | apply below_drew1 | refine below_set ?_ GE334.out | refine below_set ?_ GE341.out | refine below_set ?_ GE344.out) | exact HB.out)))); have n2_ := Aside0.mk (blk_below (g := gb334) (o := .cells #[.int .i64 x335000_2, .int .i64 x335001_2, .slice none 0 0] 24 (0, 0)) (by refine bF ?_ ?_; exact NB334_344.out; refine bF ?_ ?_; exact NB334_344.out; refine bF ?_ ?_; exact NB334_344.out; refine bF ?_ ?_; exact NB334_344.out; refine bF ?_ ?_; exact NB334_344.out; exact bU BK334.out) hb); have n3_ := Aside0.mk (blk_below (g := gb341) (o := .cells #[.int .i64 x342000_2, .int .i64 x342001_2, .slice Ao32 x342002_2.length co32] 24 (0, 0)) (by refine bF ?_ ?_; exact NB341_344.out; refine bF ?_ ?_; exact NB341_344.out; refine bF ?_ ?_; exact NB341_344.out; refine bF ?_ ?_; exact NB341_344.out; refine bF ?_ ?_; exact NB341_344.out; exact bU BK341.out) hb); have n4_ := Aside0.mk (blk_below (g := gb344) (o := .cells #[.int .i64 ((rd_T48 l2 x28_2).f0.f0), .int .i64 ((rd_T48 l2 x28_2).f0.f1), .slice A343_2 ((rd_T48 l2 x28_2).f0.f2).length c343_2, .int .i64 ((rd_T48 l2 x28_2).f1), .int .i64 ((rd_T48 l2 x28_2).f2)] 48 (0, 0)) (by (with_reducible repeat (first | refine blk_drewN ?_ _ | refine blk_drew ?_ | refine blk_alloc ?_ _)); refine blk_put (cs := #[.int .i64 ((rd_T48 l2 x28_2).f0.f0), .int .i64 ((rd_T48 l2 x28_2).f0.f1), .slice A343_2 ((rd_T48 l2 x28_2).f0.f2).length c343_2, .int .i64 ((rd_T48 l2 x28_2).f1), .int .i64 0]) ?_ 4 _ rfl; (with_reducible repeat (first | refine blk_drewN ?_ _ | refine blk_drew ?_ | refine blk_alloc ?_ _)); refine blk_put (cs := #[.int .i64 ((rd_T48 l2 x28_2).f0.f0), .int .i64 ((rd_T48 l2 x28_2).f0.f1), .slice A343_2 ((rd_T48 l2 x28_2).f0.f2).length c343_2, .int .i64 0, .int .i64 0]) ?_ 3 _ rfl; (with_reducible repeat (first | refine blk_drewN ?_ _ | refine blk_drew ?_ | refine blk_alloc ?_ _)); refine blk_put (cs := #[.int .i64 ((rd_T48 l2 x28_2).f0.f0), .int .i64 ((rd_T48 l2 x28_2).f0.f1), .slice none 0 0, .int .i64 0, .int .i64 0]) ?_ 2 _ rfl; (with_reducible repeat (first | refine blk_drewN ?_ _ | refine blk_drew ?_ | refine blk_alloc ?_ _)); refine blk_put (cs := #[.int .i64 ((rd_T48 l2 x28_2).f0.f0), .int .i64 0, .slice none 0 0, .int .i64 0, .int .i64 0]) ?_ 1 _ rfl; (with_reducible repeat (first | refine blk_drewN ?_ _ | refine blk_drew ?_ | refine blk_alloc ?_ _)); refine blk_put (cs := #[.int .i64 0, .int .i64 0, .slice none 0 0, .int .i64 0, .int .i64 0]) ?_ 0 _ rfl; exact bU BK344.out) hb); have n5_ := Aside0.mk (below_step (by repeat (first | (with_reducible first | exact HB.out | apply below_alloc | apply pw_below_drewN | apply below_drew1 | refine below_set ?_ GE334.out | refine below_set ?_ GE341.out | refine below_set ?_ GE344.out) | exact HB.out)) hb); clear HO_342002; clear BK334; clear BK341; clear BK344; clear HB; have HO_342002 := n0_; have HO351 := n1_; have BK334 := n2_; have BK341 := n3_; have BK344 := n4_; have HB := n5_; clear n0_ n1_ n2_ n3_ n4_ n5_; (try clear hb); (try clear hb2); (try clear hk); (try clear hi); (try clear ho0); have hcz34_0 : w33.cell? ⟨gb341, 0, none⟩ = some (.int .i64 x342000_2) := (blk_cell BK341.out 0).trans rfl; have hcz34_1 : w33.cell? ⟨gb341, 1, none⟩ = some (.int .i64 x342001_2) := (blk_cell BK341.out 1).trans rfl; have hcz34_2 : w33.cell? ⟨gb341, 2, none⟩ = some (.slice Ao32 x342002_2.length co32) := (blk_cell BK341.out 2).trans rfl; have hfz34_0 := blk_frozen BK341.out 0; have hfz34_1 := blk_frozen BK341.out 1; have hfz34_2 := blk_frozen BK341.out 2; obtain ⟨Ao35, co35, eo35⟩ := Kd.R_slice HO351.out; subst eo35))
           go_roundg k2
           case measure => have := HJ4.out; have := HK2.out; omega
           case rel => exact ⟨(wrap64 (x28_2 + 1)), (x335000_2), (x335001_2), (t347), (t348), (t349), (.slice Ao35 t349.length co35), (by first | rfl | (simp; done) | (simp [*]; done)), H', ⟨by have := HJ4.out; have := HK2.out; omega⟩, ⟨by (with_reducible repeat (first | apply Kd.R_alloc | apply Kd.R_drewN | apply Kd.R_drew)); exact Kd.R_mono (Kd.R_far (p := ⟨gb341, 2, none⟩) (Kd.R_far (p := ⟨gb341, 1, none⟩) (Kd.R_far (p := ⟨gb341, 0, none⟩) (Kd.R_types HO351.out BK341.out (by decide)) (fun _ hk => hk.2) (.int .i64 t347)) (fun _ hk => hk.2) (.int .i64 t348)) (fun _ hk => hk.2) (.slice Ao35 t349.length co35)) (fun _ hk => trivial)⟩, ⟨by refine bF ?_ ?_; exact NB334_341.out; refine bF ?_ ?_; exact NB334_341.out; refine bF ?_ ?_; exact NB334_341.out; exact bU BK334.out⟩, ⟨by (with_reducible repeat (first | refine blk_drewN ?_ _ | refine blk_drew ?_ | refine blk_alloc ?_ _)); refine blk_put (cs := #[.int .i64 t347, .int .i64 t348, .slice Ao32 x342002_2.length co32]) ?_ 2 _ rfl; (with_reducible repeat (first | refine blk_drewN ?_ _ | refine blk_drew ?_ | refine blk_alloc ?_ _)); refine blk_put (cs := #[.int .i64 t347, .int .i64 x342001_2, .slice Ao32 x342002_2.length co32]) ?_ 1 _ rfl; (with_reducible repeat (first | refine blk_drewN ?_ _ | refine blk_drew ?_ | refine blk_alloc ?_ _)); refine blk_put (cs := #[.int .i64 x342000_2, .int .i64 x342001_2, .slice Ao32 x342002_2.length co32]) ?_ 0 _ rfl; exact bU BK341.out⟩, ⟨by repeat (first | (with_reducible first | exact HB.out | apply below_alloc | apply pw_below_drewN | apply below_drew1 | refine below_set ?_ GE334.out | refine below_set ?_ GE341.out | refine below_set ?_ GE344.out) | exact HB.out)⟩⟩
          ·replace c24 := Bool.eq_false_iff.mpr c24
           subst c24
           have H1 : (some (0, 0, ([] : List Int), 2)) = some (r1, r2, r3, r4) := by rw [if_neg (show ¬ (false = true) by decide)] at H; exact H
           clear H
           have H := H1
           clear H1
           simp only [Option.some.injEq, Prod.mk.injEq] at H
           obtain ⟨rfl, rfl, rfl, rfl⟩ := H
           have p343 : 0 ≤ (x28_2 : Int) := of_decide_eq_true (by first | (with_reducible assumption) | assumption)
           have q343 : x28_2 < (l2.length : Int) := of_decide_eq_true (by first | (with_reducible assumption) | assumption)
           obtain ⟨ad343, A343_2, c343_2, e343, hx343_0, hx343_1, hx343_2, hx343_3, hx343_4, hl343_2, hi343_2⟩ := at_T48 HR2.out x28_2 p343 q343
           cases e343
           replace hx343_0 := (HB.out.cell (World.block_lt_of_cell? w _ hx343_0)).trans hx343_0
           replace hx343_1 := (HB.out.cell (World.block_lt_of_cell? w _ hx343_1)).trans hx343_1
           replace hx343_2 := (HB.out.cell (World.block_lt_of_cell? w _ hx343_2)).trans hx343_2
           replace hx343_3 := (HB.out.cell (World.block_lt_of_cell? w _ hx343_3)).trans hx343_3
           replace hx343_4 := (HB.out.cell (World.block_lt_of_cell? w _ hx343_4)).trans hx343_4
           have HR343_2 := Aside0.mk hi343_2
           have HC343_2 := Aside0.mk hl343_2
           clear hi343_2 hl343_2
           replace p343 := eq_true p343
           replace q343 := eq_true q343
           go_wp2_with (first | ((with_reducible refine gate_dst (N := 11) rfl ?_); refine box_event ?hg (N := 11) ?hd (cs := #[.int .i64 0, .int .i64 0, .slice none 0 0, .int .i64 0, .int .i64 0]) (t := 48) ?hr ?_; (case hd => rfl); (case hg => rfl); (case hr => first | (go_simp; done) | (go_simp; rfl)); intro gb344 hg w36 hbox hb; have n0_ := Aside0.mk (Kd.R_below (rU HO_342002.out) hb); have n1_ := Aside0.mk (blk_below (bU BK334.out) hb); have n2_ := Aside0.mk (blk_below (bU BK341.out) hb); have n3_ := Aside0.mk (below_step (by repeat (first | (with_reducible first | exact HB.out | apply below_alloc | apply pw_below_drewN | apply below_drew1 | refine below_set ?_ GE334.out | refine below_set ?_ GE341.out) | exact HB.out)) hb); have n4_ := Aside0.mk (hbox); have n5_ := Aside0.mk ((by rw [hg]; exact (below_size (by repeat (first | (with_reducible first | exact HB.out | apply below_alloc | apply pw_below_drewN | apply below_drew1 | refine below_set ?_ GE334.out | refine below_set ?_ GE341.out) | exact HB.out))) : w.heap.size ≤ gb344)); have n6_ := Aside0.mk ((by rw [hg]; exact (below_size (by repeat (first | (with_reducible first | exact HB.out | apply below_alloc | apply pw_below_drewN | apply below_drew1 | refine below_set ?_ GE334.out | refine below_set ?_ GE341.out) | exact HB.out))) : w.heap.size ≤ gb344)); have n7_ := Aside0.mk ((by rw [hg]; exact Nat.ne_of_lt (blk_lt (bU BK334.out)) : gb334 ≠ gb344)); have n8_ := Aside0.mk ((by rw [hg]; exact Nat.ne_of_gt (blk_lt (bU BK334.out)) : gb344 ≠ gb334)); have n9_ := Aside0.mk ((by rw [hg]; exact Nat.ne_of_lt (blk_lt (bU BK341.out)) : gb341 ≠ gb344)); have n10_ := Aside0.mk ((by rw [hg]; exact Nat.ne_of_gt (blk_lt (bU BK341.out)) : gb344 ≠ gb341)); clear HO_342002; clear BK334; clear BK341; clear HB; have HO_342002 := n0_; have BK334 := n1_; have BK341 := n2_; have HB := n3_; have BK344 := n4_; have GW344 := n5_; have GE344 := n6_; have NB334_344 := n7_; have NB344_334 := n8_; have NB341_344 := n9_; have NB344_341 := n10_; clear n0_ n1_ n2_ n3_ n4_ n5_ n6_ n7_ n8_ n9_ n10_; clear hb hbox hg; have hnb37 := NB344_334.out; have hnc37 := NB334_344.out; have hnb38 := NB344_341.out; have hnc38 := NB341_344.out; have hcz39_0 : w36.cell? ⟨gb344, 0, none⟩ = some (.int .i64 0) := (blk_cell BK344.out 0).trans rfl; have hcz39_1 : w36.cell? ⟨gb344, 1, none⟩ = some (.int .i64 0) := (blk_cell BK344.out 1).trans rfl; have hcz39_2 : w36.cell? ⟨gb344, 2, none⟩ = some (.slice none 0 0) := (blk_cell BK344.out 2).trans rfl; have hcz39_3 : w36.cell? ⟨gb344, 3, none⟩ = some (.int .i64 0) := (blk_cell BK344.out 3).trans rfl; have hcz39_4 : w36.cell? ⟨gb344, 4, none⟩ = some (.int .i64 0) := (blk_cell BK344.out 4).trans rfl; have hfz39_0 := blk_frozen BK344.out 0; have hfz39_1 := blk_frozen BK344.out 1; have hfz39_2 := blk_frozen BK344.out 2; have hfz39_3 := blk_frozen BK344.out 3; have hfz39_4 := blk_frozen BK344.out 4) | ((with_reducible refine gate_callee (f := 56) rfl ?_); refine goesL_ (some 34) rfl rfl Try.func56 (by kernel_rfl) rfl #[.int .i64 ((rd_T48 l2 x28_2).f1)] rfl (by (try simp only [List.map_toArray, List.map_cons, List.map_nil]); first | done | rfl | (simp only [List.length_drop, List.length_take]; rfl)) ?_; (with_reducible refine (shape_near.calls ((rd_T48 l2 x28_2).f1) true _ A21.out).mono ?_); rintro e w' ⟨rfl, ⟨nd, rfl⟩⟩; refine ⟨_, rfl, ?_⟩) | (go_at_call 56; (with_reducible refine (shape_near.calls ((rd_T48 l2 x28_2).f2) false _ A23.out).mono ?_); rintro e w' ⟨rfl, ⟨nd, rfl⟩⟩; have hnb40 := NB334_341.out; have hnc40 := NB341_334.out; have hcz41_0 : w36.cell? ⟨gb334, 0, none⟩ = some (.int .i64 x335000_2) := (blk_cell BK334.out 0).trans rfl; have hcz41_1 : w36.cell? ⟨gb334, 1, none⟩ = some (.int .i64 x335001_2) := (blk_cell BK334.out 1).trans rfl; have hcz41_2 : w36.cell? ⟨gb334, 2, none⟩ = some (.slice none 0 0) := (blk_cell BK334.out 2).trans rfl; have hfz41_0 := blk_frozen BK334.out 0; have hfz41_1 := blk_frozen BK334.out 1; have hfz41_2 := blk_frozen BK334.out 2))
           refine bodyPost_ret (results_ct rfl _ _ gb334 24 #[.int .i64 0, .int .i64 0, .slice none 0 0] (0, 0) _ rfl (by (with_reducible repeat (first | refine blk_drewN ?_ _ | refine blk_drew ?_ | refine blk_alloc ?_ _)); refine blk_put (cs := #[.int .i64 0, .int .i64 0, .slice none 0 0]) ?_ 2 _ rfl; (with_reducible repeat (first | refine blk_drewN ?_ _ | refine blk_drew ?_ | refine blk_alloc ?_ _)); refine blk_put (cs := #[.int .i64 0, .int .i64 x335001_2, .slice none 0 0]) ?_ 1 _ rfl; (with_reducible repeat (first | refine blk_drewN ?_ _ | refine blk_drew ?_ | refine blk_alloc ?_ _)); refine blk_put (cs := #[.int .i64 x335000_2, .int .i64 x335001_2, .slice none 0 0]) ?_ 0 _ rfl; refine bF ?_ ?_; exact NB334_344.out; refine bF ?_ ?_; exact NB334_344.out; refine bF ?_ ?_; exact NB334_344.out; refine bF ?_ ?_; exact NB334_344.out; refine bF ?_ ?_; exact NB334_344.out; exact bU BK334.out) Try.underlying24 rfl (by kernel_rfl)) rfl ?_
           exact ⟨_, by first | rfl | (simp [errW_none, errW_some] <;> rfl) | (simp [*, errW_none, errW_some] <;> rfl), by first | exact Kd.R_nil _ _ _ _ _ | exact Kd.N_nil _ _ _ _ _ | exact Kd.V_nil _ _ _ _ _ | exact Kd.Q_nil _ _ _ _ _ | exact Kd.S_nil _ _ _ _ _, by repeat (first | (with_reducible first | exact HB.out | apply below_alloc | apply pw_below_drewN | apply below_drew1 | refine below_set ?_ GE334.out | refine below_set ?_ GE341.out | refine below_set ?_ GE344.out) | exact HB.out)⟩
         ·replace c22 := Bool.eq_false_iff.mpr c22
          subst c22
          have H1 : (some (0, 0, ([] : List Int), 2)) = some (r1, r2, r3, r4) := by rw [if_neg (show ¬ (false = true) by decide)] at H; exact H
          clear H
          have H := H1
          clear H1
          simp only [Option.some.injEq, Prod.mk.injEq] at H
          obtain ⟨rfl, rfl, rfl, rfl⟩ := H
          have p343 : 0 ≤ (x28_2 : Int) := of_decide_eq_true (by first | (with_reducible assumption) | assumption)
          have q343 : x28_2 < (l2.length : Int) := of_decide_eq_true (by first | (with_reducible assumption) | assumption)
          obtain ⟨ad343, A343_2, c343_2, e343, hx343_0, hx343_1, hx343_2, hx343_3, hx343_4, hl343_2, hi343_2⟩ := at_T48 HR2.out x28_2 p343 q343
          cases e343
          replace hx343_0 := (HB.out.cell (World.block_lt_of_cell? w _ hx343_0)).trans hx343_0
          replace hx343_1 := (HB.out.cell (World.block_lt_of_cell? w _ hx343_1)).trans hx343_1
          replace hx343_2 := (HB.out.cell (World.block_lt_of_cell? w _ hx343_2)).trans hx343_2
          replace hx343_3 := (HB.out.cell (World.block_lt_of_cell? w _ hx343_3)).trans hx343_3
          replace hx343_4 := (HB.out.cell (World.block_lt_of_cell? w _ hx343_4)).trans hx343_4
          have HR343_2 := Aside0.mk hi343_2
          have HC343_2 := Aside0.mk hl343_2
          clear hi343_2 hl343_2
          replace p343 := eq_true p343
          replace q343 := eq_true q343
          go_wp2_with (first | ((with_reducible refine gate_dst (N := 11) rfl ?_); refine box_event ?hg (N := 11) ?hd (cs := #[.int .i64 0, .int .i64 0, .slice none 0 0, .int .i64 0, .int .i64 0]) (t := 48) ?hr ?_; (case hd => rfl); (case hg => rfl); (case hr => first | (go_simp; done) | (go_simp; rfl)); intro gb344 hg w42 hbox hb; have n0_ := Aside0.mk (Kd.R_below (rU HO_342002.out) hb); have n1_ := Aside0.mk (blk_below (bU BK334.out) hb); have n2_ := Aside0.mk (blk_below (bU BK341.out) hb); have n3_ := Aside0.mk (below_step (by repeat (first | (with_reducible first | exact HB.out | apply below_alloc | apply pw_below_drewN | apply below_drew1 | refine below_set ?_ GE334.out | refine below_set ?_ GE341.out) | exact HB.out)) hb); have n4_ := Aside0.mk (hbox); have n5_ := Aside0.mk ((by rw [hg]; exact (below_size (by repeat (first | (with_reducible first | exact HB.out | apply below_alloc | apply pw_below_drewN | apply below_drew1 | refine below_set ?_ GE334.out | refine below_set ?_ GE341.out) | exact HB.out))) : w.heap.size ≤ gb344)); have n6_ := Aside0.mk ((by rw [hg]; exact (below_size (by repeat (first | (with_reducible first | exact HB.out | apply below_alloc | apply pw_below_drewN | apply below_drew1 | refine below_set ?_ GE334.out | refine below_set ?_ GE341.out) | exact HB.out))) : w.heap.size ≤ gb344)); have n7_ := Aside0.mk ((by rw [hg]; exact Nat.ne_of_lt (blk_lt (bU BK334.out)) : gb334 ≠ gb344)); have n8_ := Aside0.mk ((by rw [hg]; exact Nat.ne_of_gt (blk_lt (bU BK334.out)) : gb344 ≠ gb334)); have n9_ := Aside0.mk ((by rw [hg]; exact Nat.ne_of_lt (blk_lt (bU BK341.out)) : gb341 ≠ gb344)); have n10_ := Aside0.mk ((by rw [hg]; exact Nat.ne_of_gt (blk_lt (bU BK341.out)) : gb344 ≠ gb341)); clear HO_342002; clear BK334; clear BK341; clear HB; have HO_342002 := n0_; have BK334 := n1_; have BK341 := n2_; have HB := n3_; have BK344 := n4_; have GW344 := n5_; have GE344 := n6_; have NB334_344 := n7_; have NB344_334 := n8_; have NB341_344 := n9_; have NB344_341 := n10_; clear n0_ n1_ n2_ n3_ n4_ n5_ n6_ n7_ n8_ n9_ n10_; clear hb hbox hg; have hnb43 := NB344_334.out; have hnc43 := NB334_344.out; have hnb44 := NB344_341.out; have hnc44 := NB341_344.out; have hcz45_0 : w42.cell? ⟨gb344, 0, none⟩ = some (.int .i64 0) := (blk_cell BK344.out 0).trans rfl; have hcz45_1 : w42.cell? ⟨gb344, 1, none⟩ = some (.int .i64 0) := (blk_cell BK344.out 1).trans rfl; have hcz45_2 : w42.cell? ⟨gb344, 2, none⟩ = some (.slice none 0 0) := (blk_cell BK344.out 2).trans rfl; have hcz45_3 : w42.cell? ⟨gb344, 3, none⟩ = some (.int .i64 0) := (blk_cell BK344.out 3).trans rfl; have hcz45_4 : w42.cell? ⟨gb344, 4, none⟩ = some (.int .i64 0) := (blk_cell BK344.out 4).trans rfl; have hfz45_0 := blk_frozen BK344.out 0; have hfz45_1 := blk_frozen BK344.out 1; have hfz45_2 := blk_frozen BK344.out 2; have hfz45_3 := blk_frozen BK344.out 3; have hfz45_4 := blk_frozen BK344.out 4) | ((with_reducible refine gate_callee (f := 56) rfl ?_); refine goesL_ (some 34) rfl rfl Try.func56 (by kernel_rfl) rfl #[.int .i64 ((rd_T48 l2 x28_2).f1)] rfl (by (try simp only [List.map_toArray, List.map_cons, List.map_nil]); first | done | rfl | (simp only [List.length_drop, List.length_take]; rfl)) ?_; (with_reducible refine (shape_near.calls ((rd_T48 l2 x28_2).f1) false _ A21.out).mono ?_); rintro e w' ⟨rfl, ⟨nd, rfl⟩⟩; refine ⟨_, rfl, ?_⟩; have hnb46 := NB334_341.out; have hnc46 := NB341_334.out; have hcz47_0 : w42.cell? ⟨gb334, 0, none⟩ = some (.int .i64 x335000_2) := (blk_cell BK334.out 0).trans rfl; have hcz47_1 : w42.cell? ⟨gb334, 1, none⟩ = some (.int .i64 x335001_2) := (blk_cell BK334.out 1).trans rfl; have hcz47_2 : w42.cell? ⟨gb334, 2, none⟩ = some (.slice none 0 0) := (blk_cell BK334.out 2).trans rfl; have hfz47_0 := blk_frozen BK334.out 0; have hfz47_1 := blk_frozen BK334.out 1; have hfz47_2 := blk_frozen BK334.out 2))
          refine bodyPost_ret (results_ct rfl _ _ gb334 24 #[.int .i64 0, .int .i64 0, .slice none 0 0] (0, 0) _ rfl (by (with_reducible repeat (first | refine blk_drewN ?_ _ | refine blk_drew ?_ | refine blk_alloc ?_ _)); refine blk_put (cs := #[.int .i64 0, .int .i64 0, .slice none 0 0]) ?_ 2 _ rfl; (with_reducible repeat (first | refine blk_drewN ?_ _ | refine blk_drew ?_ | refine blk_alloc ?_ _)); refine blk_put (cs := #[.int .i64 0, .int .i64 x335001_2, .slice none 0 0]) ?_ 1 _ rfl; (with_reducible repeat (first | refine blk_drewN ?_ _ | refine blk_drew ?_ | refine blk_alloc ?_ _)); refine blk_put (cs := #[.int .i64 x335000_2, .int .i64 x335001_2, .slice none 0 0]) ?_ 0 _ rfl; refine bF ?_ ?_; exact NB334_344.out; refine bF ?_ ?_; exact NB334_344.out; refine bF ?_ ?_; exact NB334_344.out; refine bF ?_ ?_; exact NB334_344.out; refine bF ?_ ?_; exact NB334_344.out; exact bU BK334.out) Try.underlying24 rfl (by kernel_rfl)) rfl ?_
          exact ⟨_, by first | rfl | (simp [errW_none, errW_some] <;> rfl) | (simp [*, errW_none, errW_some] <;> rfl), by first | exact Kd.R_nil _ _ _ _ _ | exact Kd.N_nil _ _ _ _ _ | exact Kd.V_nil _ _ _ _ _ | exact Kd.Q_nil _ _ _ _ _ | exact Kd.S_nil _ _ _ _ _, by repeat (first | (with_reducible first | exact HB.out | apply below_alloc | apply pw_below_drewN | apply below_drew1 | refine below_set ?_ GE334.out | refine below_set ?_ GE341.out | refine below_set ?_ GE344.out) | exact HB.out)⟩
        ·rw [if_neg c20] at H
         exact absurd H (by simp)
       ·rw [if_neg c19] at H
        exact absurd H (by simp)
      ·rw [if_neg c18] at H
       have c18b0 : decide (x28_2 < (l2.length : Int)) = false := decide_eq_false c18
       clear c18
       simp only [Option.some.injEq, Prod.mk.injEq] at H
       obtain ⟨rfl, rfl, rfl, rfl⟩ := H
       have hnb48 := NB341_334.out
       have hnc48 := NB334_341.out
       have hcz49_0 : wr.cell? ⟨gb341, 0, none⟩ = some (.int .i64 x342000_2) := (blk_cell BK341.out 0).trans rfl
       have hcz49_1 : wr.cell? ⟨gb341, 1, none⟩ = some (.int .i64 x342001_2) := (blk_cell BK341.out 1).trans rfl
       have hcz49_2 : wr.cell? ⟨gb341, 2, none⟩ = some (u342002) := (blk_cell BK341.out 2).trans rfl
       have hfz49_0 := blk_frozen BK341.out 0
       have hfz49_1 := blk_frozen BK341.out 1
       have hfz49_2 := blk_frozen BK341.out 2
       have hcz50_0 : wr.cell? ⟨gb334, 0, none⟩ = some (.int .i64 x335000_2) := (blk_cell BK334.out 0).trans rfl
       have hcz50_1 : wr.cell? ⟨gb334, 1, none⟩ = some (.int .i64 x335001_2) := (blk_cell BK334.out 1).trans rfl
       have hcz50_2 : wr.cell? ⟨gb334, 2, none⟩ = some (.slice none 0 0) := (blk_cell BK334.out 2).trans rfl
       have hfz50_0 := blk_frozen BK334.out 0
       have hfz50_1 := blk_frozen BK334.out 1
       have hfz50_2 := blk_frozen BK334.out 2
       obtain ⟨Ao51, co51, eo51⟩ := Kd.R_slice HO_342002.out
       subst eo51
       go_wp2
       refine bodyPost_ret (results_ct rfl _ _ gb334 24 #[.int .i64 x342000_2, .int .i64 x342001_2, .slice Ao51 x342002_2.length co51] (0, 0) _ rfl (by (with_reducible repeat (first | refine blk_drewN ?_ _ | refine blk_drew ?_ | refine blk_alloc ?_ _)); refine blk_put (cs := #[.int .i64 x342000_2, .int .i64 x342001_2, .slice none 0 0]) ?_ 2 _ rfl; (with_reducible repeat (first | refine blk_drewN ?_ _ | refine blk_drew ?_ | refine blk_alloc ?_ _)); refine blk_put (cs := #[.int .i64 x342000_2, .int .i64 x335001_2, .slice none 0 0]) ?_ 1 _ rfl; (with_reducible repeat (first | refine blk_drewN ?_ _ | refine blk_drew ?_ | refine blk_alloc ?_ _)); refine blk_put (cs := #[.int .i64 x335000_2, .int .i64 x335001_2, .slice none 0 0]) ?_ 0 _ rfl; exact bU BK334.out) Try.underlying24 rfl (by kernel_rfl)) rfl ?_
       exact ⟨_, by first | rfl | (simp [errW_none, errW_some] <;> rfl) | (simp [*, errW_none, errW_some] <;> rfl), by (with_reducible repeat (first | apply Kd.R_alloc | apply Kd.R_drewN | apply Kd.R_drew)); exact Kd.R_mono (Kd.R_far (p := ⟨gb334, 2, none⟩) (Kd.R_far (p := ⟨gb334, 1, none⟩) (Kd.R_far (p := ⟨gb334, 0, none⟩) (Kd.R_types HO_342002.out BK334.out (by decide)) (fun _ hk => hk.2) (.int .i64 x342000_2)) (fun _ hk => hk.2) (.int .i64 x342001_2)) (fun _ hk => hk.2) (.slice Ao51 x342002_2.length co51)) (fun _ hk => trivial), by repeat (first | (with_reducible first | exact HB.out | apply below_alloc | apply pw_below_drewN | apply below_drew1 | refine below_set ?_ GE334.out | refine below_set ?_ GE341.out) | exact HB.out)⟩

/-! ### incunableref05_Blacks: function 26 -/
def incunableref05_Blacks.l0 : Nat → Int → Int → Int → Int → List Int → Option (Int)
 | 0, _, _, _, _, _ => none
 | k + 1, x3, x4, x354000, x354001, x354002 => if x4 < (x354002.length : Int) then (if 0 ≤ x4 then (incunableref05_Blacks.l0 k (wrap64 (x3 + (wrap64 (rd x354002 x4)))) (wrap64 (x4 + 1)) x354000 x354001 x354002) else (none)) else (some x3)
def incunableref05_Blacks.f (k : Nat) (a0_0 : Int) (a0_1 : Int) (l0_2 : List Int) : Option (Int) := incunableref05_Blacks.l0 k 0 0 a0_0 a0_1 l0_2
theorem incunableref05_Blacks.mono_l : ∀ k, (∀ y0 y1 y2 y3 y4, LeO (incunableref05_Blacks.l0 k y0 y1 y2 y3 y4) (incunableref05_Blacks.l0 (k + 1) y0 y1 y2 y3 y4))
 | 0 => fun _ _ _ _ _ r h => by simp [incunableref05_Blacks.l0] at h
 | k + 1 => by
  have ih0 := incunableref05_Blacks.mono_l k
  ·intro y0 y1 y2 y3 y4
   unfold incunableref05_Blacks.l0
   repeat' first
   | (with_reducible exact ih0 _ _ _ _ _)
   | (with_reducible exact LeO.refl _)
   | (with_reducible exact LeO.none _)
   | (with_reducible refine LeO.ite ?_ ?_)
   | (with_reducible refine LeO.bind ?_ (fun _ => ?_))
   | exact ih0 _ _ _ _ _
   | exact LeO.none _
   | refine LeO.ite ?_ ?_
   | refine LeO.bind ?_ (fun _ => ?_)
theorem incunableref05_Blacks.mono : ∀ a0 a1 a2 k, LeO (incunableref05_Blacks.f k a0 a1 a2) (incunableref05_Blacks.f (k + 1) a0 a1 a2) := by
 intro a0 a1 a2 k
 have ih0 := incunableref05_Blacks.mono_l k
 unfold incunableref05_Blacks.f
 repeat' first
   | (with_reducible exact ih0 _ _ _ _ _)
   | (with_reducible exact LeO.refl _)
   | (with_reducible exact LeO.none _)
   | (with_reducible refine LeO.ite ?_ ?_)
   | (with_reducible refine LeO.bind ?_ (fun _ => ?_))
   | exact ih0 _ _ _ _ _
   | exact LeO.none _
   | refine LeO.ite ?_ ?_
   | refine LeO.bind ?_ (fun _ => ?_)
set_option maxHeartbeats 8000000 in
set_option maxRecDepth 100000 in
theorem incunableref05_Blacks.calls (k : Nat) (a0_0 : Int) (a0_1 : Int) (A0_2 : Option Addr) (c0_2 : Nat) (l0_2 : List Int) (r : Int) (w : World) (hr0_2 : Kd.C (Kd.int .u8) w A0_2 l0_2.length l0_2) (hc0_2 : l0_2.length ≤ c0_2) (h : incunableref05_Blacks.f k a0_0 a0_1 l0_2 = some r) :
  Calls Try.prog 26 #[.agg #[.int .i64 a0_0, .int .i64 a0_1, .slice A0_2 l0_2.length c0_2]] w fun e w' => e = .returned (.int .i64 r) ∧ Below w.heap.size w w' := by
 have hu24 := Try.underlying24
 have HR0_2 := Aside0.mk hr0_2
 have HC0_2 := Aside0.mk hc0_2
 clear hr0_2 hc0_2
 have HB := Aside0.mk (Below.refl w.heap.size w)
 have H : (incunableref05_Blacks.l0 k 0 0 a0_0 a0_1 l0_2) = some r := h
 clear h
 have H' := Aside0.mk H
 clear H
 go_enter Try.func26, Try.ntmps26
 go_wp2_with (first | ((with_reducible refine gate_dst (N := 1) rfl ?_); refine box_event ?hg (N := 1) ?hd (cs := #[.int .i64 a0_0, .int .i64 a0_1, .slice A0_2 l0_2.length c0_2]) (t := 24) ?hr ?_; (case hd => rfl); (case hg => rfl); (case hr => first | (go_simp; done) | (go_simp; rfl)); intro gb353 hg w2 hbox hb; have n0_ := Aside0.mk (below_step (by repeat (first | (with_reducible first | exact HB.out | apply below_alloc | apply pw_below_drewN | apply below_drew1) | exact HB.out)) hb); have n1_ := Aside0.mk (hbox); have n2_ := Aside0.mk ((by rw [hg]; exact (below_size (by repeat (first | (with_reducible first | exact HB.out | apply below_alloc | apply pw_below_drewN | apply below_drew1) | exact HB.out))) : w.heap.size ≤ gb353)); have n3_ := Aside0.mk ((by rw [hg]; exact (below_size (by repeat (first | (with_reducible first | exact HB.out | apply below_alloc | apply pw_below_drewN | apply below_drew1) | exact HB.out))) : w.heap.size ≤ gb353)); clear HB; have HB := n0_; have BK353 := n1_; have GW353 := n2_; have GE353 := n3_; clear n0_ n1_ n2_ n3_; clear hb hbox hg))
 go_loopg [3, 4] k (fun kq v3 v4 w' => ∃ (x3_1 : Int) (x4_1 : Int), v3 = .int .i64 x3_1 ∧ v4 = .int .i64 x4_1 ∧ Aside0 (incunableref05_Blacks.l0 kq x3_1 x4_1 a0_0 a0_1 l0_2 = some r) ∧ Aside0 (kq ≤ k) ∧ Aside0 (w'.heap[gb353]? = some (.cells #[.int .i64 a0_0, .int .i64 a0_1, (.slice A0_2 l0_2.length c0_2)] 24 (0, 0))) ∧ Aside0 (Below w.heap.size w w'))
 case atStart => exact ⟨(0), (0), (by first | rfl | (simp; done) | (simp [*]; done)), (by first | rfl | (simp; done) | (simp [*]; done)), H', ⟨Nat.le_refl _⟩, ⟨by exact bU BK353.out⟩, ⟨by repeat (first | (with_reducible first | exact HB.out | apply below_alloc | apply pw_below_drewN | apply below_drew1 | refine below_set ?_ GE353.out) | exact HB.out)⟩⟩
 case round =>
  clear H'
  try clear c2
  try clear p2
  obtain ⟨x3_1, x4_1, rfl, rfl, HA, HK1, BK353, HB⟩ := hrel
  cases gk with
  | zero => exact absurd HA.out (by simp [incunableref05_Blacks.l0])
  | succ k1 =>
   have H := HA.out
   clear HA
   simp only [incunableref05_Blacks.l0] at H
   by_cases c3 : x4_1 < (l0_2.length : Int)
   ·rw [if_pos c3] at H
    have c3b0 : decide (x4_1 < (l0_2.length : Int)) = true := decide_eq_true c3
    clear c3
    by_cases c4 : 0 ≤ x4_1
    ·rw [if_pos c4] at H
     have c4b0 : decide (0 ≤ x4_1) = true := decide_eq_true c4
     clear c4
     have H' := Aside0.mk H
     clear H
     have hcz5_0 : wr.cell? ⟨gb353, 0, none⟩ = some (.int .i64 a0_0) := (blk_cell BK353.out 0).trans rfl
     have hcz5_1 : wr.cell? ⟨gb353, 1, none⟩ = some (.int .i64 a0_1) := (blk_cell BK353.out 1).trans rfl
     have hcz5_2 : wr.cell? ⟨gb353, 2, none⟩ = some (.slice A0_2 l0_2.length c0_2) := (blk_cell BK353.out 2).trans rfl
     have hfz5_0 := blk_frozen BK353.out 0
     have hfz5_1 := blk_frozen BK353.out 1
     have hfz5_2 := blk_frozen BK353.out 2
     have p354 : 0 ≤ (x4_1 : Int) := of_decide_eq_true (by first | (with_reducible assumption) | assumption)
     have q354 : x4_1 < (l0_2.length : Int) := of_decide_eq_true (by first | (with_reducible assumption) | assumption)
     obtain ⟨ad354, e354, hx354_0⟩ := Kd.at_int HR0_2.out x4_1 p354 q354
     cases e354
     replace hx354_0 := (HB.out.cell (World.block_lt_of_cell? w _ hx354_0)).trans hx354_0
     replace p354 := eq_true p354
     replace q354 := eq_true q354
     go_wp2
     go_roundg k1
     case measure => have := HK1.out; omega
     case rel => exact ⟨(wrap64 (x3_1 + (wrap64 (rd l0_2 x4_1)))), (wrap64 (x4_1 + 1)), (by first | rfl | (simp; done) | (simp [*]; done)), (by first | rfl | (simp; done) | (simp [*]; done)), H', ⟨by have := HK1.out; omega⟩, ⟨by exact bU BK353.out⟩, ⟨by repeat (first | (with_reducible first | exact HB.out | apply below_alloc | apply pw_below_drewN | apply below_drew1 | refine below_set ?_ GE353.out) | exact HB.out)⟩⟩
    ·rw [if_neg c4] at H
     exact absurd H (by simp)
   ·rw [if_neg c3] at H
    have c3b0 : decide (x4_1 < (l0_2.length : Int)) = false := decide_eq_false c3
    clear c3
    obtain rfl := Option.some.inj H
    have hcz6_0 : wr.cell? ⟨gb353, 0, none⟩ = some (.int .i64 a0_0) := (blk_cell BK353.out 0).trans rfl
    have hcz6_1 : wr.cell? ⟨gb353, 1, none⟩ = some (.int .i64 a0_1) := (blk_cell BK353.out 1).trans rfl
    have hcz6_2 : wr.cell? ⟨gb353, 2, none⟩ = some (.slice A0_2 l0_2.length c0_2) := (blk_cell BK353.out 2).trans rfl
    have hfz6_0 := blk_frozen BK353.out 0
    have hfz6_1 := blk_frozen BK353.out 1
    have hfz6_2 := blk_frozen BK353.out 2
    go_wp2
    go_ret
    exact ⟨by first | rfl | (simp [errW_none, errW_some] <;> rfl) | (simp [*, errW_none, errW_some] <;> rfl), by repeat (first | (with_reducible first | exact HB.out | apply below_alloc | apply pw_below_drewN | apply below_drew1 | refine below_set ?_ GE353.out) | exact HB.out)⟩

end Go.Proofs.Ytaflekobfbgedaa.PShapeComponents
