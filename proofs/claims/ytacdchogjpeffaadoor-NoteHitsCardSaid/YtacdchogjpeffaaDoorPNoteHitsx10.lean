-- printed (wip/tools/myprint.py)
import Derived.Test.YtacdchogjpeffaaDoorPNoteHitsx0
namespace Go.Proofs.YtacdchogjpeffaaDoor.PNoteHits
open Go.RowKit Go.Proofs.YtacdchogjpeffaaDoorW.PrintWords Go.Proofs.YtacdchogjpeffaaDoorW.PrintLast Go.Proofs.YtacdchogjpeffaaDoorW.PrintMore
attribute [local go_sem] max2_int min2_int max_two min_two max_three min_three max_four min_four
set_option linter.unusedVariables false
set_option linter.unusedSimpArgs false
mutual
def incunableref25_shape.j0 : Nat → Bool → Int → ByteArray → Int → List (S33) → Option (Int × Int × Int × Int × Bool × Bool)
 | 0, _, _, _, _, _ => none
 | k + 1, x39, x203000, x203001, x203002, x203003 => if x39 = true then (some (0, 0, 0, 0, false, false)) else (incunableref25_shape.l0 k 1 x203000 x203001 x203002 x203003)
def incunableref25_shape.l0 : Nat → Int → Int → ByteArray → Int → List (S33) → Option (Int × Int × Int × Int × Bool × Bool)
 | 0, _, _, _, _, _ => none
 | k + 1, x5, x203000, x203001, x203002, x203003 => if x5 < 5 then (if 0 ≤ x5 then (if x5 < (x203003.length : Int) then (if ((rd_T33 x203003 x5).f0) = 2 then (incunableref25_shape.l0 k (wrap64 (x5 + 1)) x203000 x203001 x203002 x203003) else (some (0, 0, 0, 0, false, false))) else (none)) else (none)) else (if 1 < (x203003.length : Int) then (if 2 < (x203003.length : Int) then (if 3 < (x203003.length : Int) then (if 4 < (x203003.length : Int) then (if 0 < (x203003.length : Int) then (if ((rd_T33 x203003 3).f2) ≥ 1 then (if ((rd_T33 x203003 4).f2) ≥ 1 then (if ((rd_T33 x203003 3).f2) ≤ 30000 then (some ((rd_T33 x203003 1).f2, (rd_T33 x203003 2).f2, (rd_T33 x203003 3).f2, (rd_T33 x203003 4).f2, (((rd_T33 x203003 0).f1).toList == ([111, 118, 97, 108] : List UInt8)), decide (((rd_T33 x203003 4).f2) ≤ 30000))) else (some ((rd_T33 x203003 1).f2, (rd_T33 x203003 2).f2, (rd_T33 x203003 3).f2, (rd_T33 x203003 4).f2, (((rd_T33 x203003 0).f1).toList == ([111, 118, 97, 108] : List UInt8)), false))) else (some ((rd_T33 x203003 1).f2, (rd_T33 x203003 2).f2, (rd_T33 x203003 3).f2, (rd_T33 x203003 4).f2, (((rd_T33 x203003 0).f1).toList == ([111, 118, 97, 108] : List UInt8)), false))) else (some ((rd_T33 x203003 1).f2, (rd_T33 x203003 2).f2, (rd_T33 x203003 3).f2, (rd_T33 x203003 4).f2, (((rd_T33 x203003 0).f1).toList == ([111, 118, 97, 108] : List UInt8)), false))) else (none)) else (none)) else (none)) else (none)) else (none))
end
def incunableref25_shape.f (k : Nat) (a0_0 : Int) (a0_1 : ByteArray) (a0_2 : Int) (l0_3 : List (S33)) : Option (Int × Int × Int × Int × Bool × Bool) := if a0_0 = 0 then (if (l0_3.length : Int) = 5 then (if 0 < (l0_3.length : Int) then (if ((rd_T33 l0_3 0).f0) = 1 then (if ((rd_T33 l0_3 0).f1).toList = ([114, 101, 99, 116] : List UInt8) then (incunableref25_shape.j0 k false a0_0 a0_1 a0_2 l0_3) else (incunableref25_shape.j0 k (((rd_T33 l0_3 0).f1).toList != ([111, 118, 97, 108] : List UInt8)) a0_0 a0_1 a0_2 l0_3)) else (incunableref25_shape.j0 k true a0_0 a0_1 a0_2 l0_3)) else (none)) else (incunableref25_shape.j0 k true a0_0 a0_1 a0_2 l0_3)) else (incunableref25_shape.j0 k true a0_0 a0_1 a0_2 l0_3)
theorem incunableref25_shape.mono_l : ∀ k, (∀ y0 y1 y2 y3 y4, LeO (incunableref25_shape.j0 k y0 y1 y2 y3 y4) (incunableref25_shape.j0 (k + 1) y0 y1 y2 y3 y4)) ∧ (∀ y0 y1 y2 y3 y4, LeO (incunableref25_shape.l0 k y0 y1 y2 y3 y4) (incunableref25_shape.l0 (k + 1) y0 y1 y2 y3 y4))
 | 0 => ⟨fun _ _ _ _ _ r h => by simp [incunableref25_shape.j0] at h, fun _ _ _ _ _ r h => by simp [incunableref25_shape.l0] at h⟩
 | k + 1 => by
  obtain ⟨ih0, ih1⟩ := incunableref25_shape.mono_l k
  refine ⟨?_, ?_⟩
  ·intro y0 y1 y2 y3 y4
   unfold incunableref25_shape.j0
   repeat' first
   | (with_reducible exact ih0 _ _ _ _ _)
   | (with_reducible exact ih1 _ _ _ _ _)
   | (with_reducible first | exact LeO.refl _ | exact LeO.none _ | refine LeO.ite ?_ ?_ | refine LeO.bind ?_ (fun _ => ?_))
  ·intro y0 y1 y2 y3 y4
   unfold incunableref25_shape.l0
   repeat' first
   | (with_reducible exact ih0 _ _ _ _ _)
   | (with_reducible exact ih1 _ _ _ _ _)
   | (with_reducible first | exact LeO.refl _ | exact LeO.none _ | refine LeO.ite ?_ ?_ | refine LeO.bind ?_ (fun _ => ?_))
theorem incunableref25_shape.mono : ∀ a0 a1 a2 a3 k, LeO (incunableref25_shape.f k a0 a1 a2 a3) (incunableref25_shape.f (k + 1) a0 a1 a2 a3) := by
 intro a0 a1 a2 a3 k
 obtain ⟨ih0, ih1⟩ := incunableref25_shape.mono_l k
 unfold incunableref25_shape.f
 repeat' first
   | (with_reducible exact ih0 _ _ _ _ _)
   | (with_reducible exact ih1 _ _ _ _ _)
   | (with_reducible first | exact LeO.refl _ | exact LeO.none _ | refine LeO.ite ?_ ?_ | refine LeO.bind ?_ (fun _ => ?_))
def incunableref25_shape.T8 : Bool × List (List Nat × List Nat) := (true, [([], []), ([0], [0]), ([1], [1]), ([2], [2]), ([3], [3]), ([], []), ([5], [5]), ([6], [6]), ([7], [7]), ([8], [8]), ([], []), ([10], [10]), ([11], [11]), ([12], [12]), ([13], [13]), ([], []), ([15], [15]), ([16], [16]), ([17], [17]), ([18], [18]), ([4, 9, 14, 19], [4, 9, 14, 19]), ([], []), ([21, 20, 0, 1, 2, 3, 4, 5, 6, 7, 8, 9, 10, 11, 12, 13, 14, 15, 16, 17, 18, 19, 20, 21], [20, 21])])
def incunableref25_shape.B8 : List Nat := [0, 1, 3, 7, 15, 0, 32, 96, 224, 480, 0, 1024, 3072, 7168, 15360, 0, 32768, 98304, 229376, 491520, 1048575, 0, 4194303]
theorem incunableref25_shape.tab8 : rtab .any (opsOf Tryd.f43 8) = incunableref25_shape.T8 := by kernel_rfl
theorem incunableref25_shape.bits8 : waitsOk incunableref25_shape.T8.2 incunableref25_shape.B8 = true := by kernel_rfl
def incunableref25_shape.T9 : Bool × List (List Nat × List Nat) := (true, [([], []), ([], []), ([1], [1]), ([2], [2]), ([3], [3]), ([4], [4]), ([5], [5]), ([], []), ([7], [7]), ([8], [8]), ([9], [9]), ([10], [10]), ([11, 10], [10, 11]), ([12, 10], [10, 12]), ([10, 13], [10, 13]), ([14, 10], [14]), ([15], [15]), ([16, 15], [15, 16]), ([17, 15], [15, 17]), ([15, 18], [15, 18]), ([19, 15], [19]), ([20], [20]), ([21, 20], [20, 21]), ([22, 20], [20, 22]), ([20, 23], [20, 23]), ([0, 20, 0], [0]), ([6, 25, 0, 1, 2, 3, 4, 5, 6, 25], [6]), ([24, 26, 0, 1, 2, 3, 4, 5, 6, 7, 8, 9, 10, 11, 12, 13, 14, 15, 16, 17, 18, 19, 20, 21, 22, 23, 24, 25, 26], [24])])
def incunableref25_shape.B9 : List Nat := [0, 0, 2, 6, 14, 30, 62, 0, 128, 384, 896, 1920, 3968, 8064, 16256, 32640, 65408, 130944, 262016, 524160, 1048448, 2097024, 4194176, 8388480, 16777088, 2097025, 35651583, 134217727]
theorem incunableref25_shape.tab9 : rtab .any (opsOf Tryd.f43 9) = incunableref25_shape.T9 := by kernel_rfl
theorem incunableref25_shape.bits9 : waitsOk incunableref25_shape.T9.2 incunableref25_shape.B9 = true := by kernel_rfl
set_option maxHeartbeats 8000000 in
set_option maxRecDepth 100000 in
theorem incunableref25_shape.calls (k : Nat) (a0_0 : Int) (a0_1 : ByteArray) (a0_2 : Int) (A0_3 : Option Addr) (c0_3 : Nat) (l0_3 : List (S33)) (r1 : Int) (r2 : Int) (r3 : Int) (r4 : Int) (r5 : Bool) (r6 : Bool) (w : World) (hr0_3 : Kd.C k33 w A0_3 l0_3.length l0_3) (hc0_3 : l0_3.length ≤ c0_3) (h : incunableref25_shape.f k a0_0 a0_1 a0_2 l0_3 = some (r1, r2, r3, r4, r5, r6)) :
  Calls Tryd.prog 43 #[.agg #[.int .i64 a0_0, .string a0_1, .int .i64 a0_2, .slice A0_3 l0_3.length c0_3]] w fun e w' => e = .returned (.tuple #[.agg #[.int .i64 r1, .int .i64 r2, .int .i64 r3, .int .i64 r4], .bool r5, .bool r6]) ∧ Below w.heap.size w w' := by
 have hu33 := Tryd.underlying33
 have hu39 := Tryd.underlying39
 have HR0_3 := Aside0.mk hr0_3
 have HC0_3 := Aside0.mk hc0_3
 clear hr0_3 hc0_3
 have HB := Aside0.mk (Below.refl w.heap.size w)
 have H := h
 unfold incunableref25_shape.f at H
 clear h
 have HC2 := Aside0.mk H
 clear H
 go_enter Tryd.func43, Tryd.ntmps43
 go_upto_region 1 with (first | ((with_reducible refine gd 1 rfl ?_); (try (refine gate_guard (by rfl) ?_; dsimp only)); refine bx 1 #[.int .i64 a0_0, .string a0_1, .int .i64 a0_2, .slice A0_3 l0_3.length c0_3] 33 rfl rfl ?_; intro gb202 hg w3 hbox hb; have n_ := aC (bs hb) (aC hbox (aC (gz hg) (aE (gz hg)))); clear HB; obtain ⟨HB, BK202, GW202, GE202⟩ := n_; clear hb hbox hg) | ((with_reducible refine gd 2 rfl ?_); (try (refine gate_guard (by rfl) ?_; dsimp only)); refine bx 2 #[.int .i64 0, .int .i64 0, .int .i64 0, .int .i64 0] 39 rfl rfl ?_; intro gb203 hg w4 hbox hb; have n_ := aC (blk_below (bU BK202.out) hb) (aC (bs hb) (aC hbox (aC (gz hg) (aC (gz hg) (aC (gn hg (bU BK202.out)) (aE (gm hg (bU BK202.out)))))))); clear BK202 HB; obtain ⟨BK202, HB, BK203, GW203, GE203, NB202_203, NB203_202⟩ := n_; clear hb hbox hg))
 (try simp only [Act.put, List.setIfInBounds_toArray, List.set_cons_zero, List.set_cons_succ])
 go_cut [39] (fun v39 wc => ∃ (kq : Nat) (x39_1 : Bool), v39 = .bool x39_1 ∧ Aside0 (incunableref25_shape.j0 kq x39_1 a0_0 a0_1 a0_2 l0_3 = some (r1, r2, r3, r4, r5, r6)) ∧ Aside0 (kq ≤ k) ∧ Aside0 (wc.heap[gb202]? = some (.cells #[.int .i64 a0_0, .string a0_1, .int .i64 a0_2, (.slice A0_3 l0_3.length c0_3)] 33 (0, 0))) ∧ Aside0 (wc.heap[gb203]? = some (.cells #[.int .i64 0, .int .i64 0, .int .i64 0, .int .i64 0] 39 (0, 0))) ∧ Aside0 (Below w.heap.size w wc))
 case first =>
  have H := HC2.out
  clear HC2
  rcases iE H with H1 | H1 <;> clear H <;> obtain ⟨H, c5b0, c5b1, c5⟩ := H1
  ·(first | rw [c5b0] | (simp only [i64_w, i32_w]; rw [c5b0]) | skip)
   rcases iE H with H1 | H1 <;> clear H <;> obtain ⟨H, c6b0, c6b1, c6⟩ := H1
   ·by_cases c7 : 0 < (l0_3.length : Int)
    ·rw [if_pos c7] at H
     have c7b0 := decide_eq_true c7
     have c7b1 : decide (0 < l0_3.length) = true := decide_eq_true (by omega)
     clear c7
     rcases iE H with H1 | H1 <;> clear H <;> obtain ⟨H, c8b0, c8b1, c8⟩ := H1
     ·rcases iE H with H1 | H1 <;> clear H <;> obtain ⟨H, c9b0, c9b1, c9⟩ := H1
      ·have H' := Aside0.mk H
       clear H
       have hnb10 := NB202_203.out
       have hnc10 := NB203_202.out
       obtain ⟨hcz11_0, hcz11_1, hcz11_2, hcz11_3, hfz11_0, hfz11_1, hfz11_2, hfz11_3⟩ := cz4f BK202.out
       have p204 : 0 ≤ (0 : Int) := (by omega)
       have q204 : 0 < (l0_3.length : Int) := dt
       obtain ⟨ad204, A204_3, c204_3, e204, hx204_0, hx204_1, hx204_2, hx204_3, hl204_3, hi204_3⟩ := at_T33 HR0_3.out 0 p204 q204
       cases e204
       have qi204 : (0 < l0_3.length) = True := eq_true (by omega)
       (try rw [show ((0 : Int)).toNat = 0 from rfl] at hx204_0)
       (try rw [show 0 * 4 = 0 from rfl] at hx204_0)
       (try rw [Addr.add_zero'] at hx204_0)
       (try rw [show ((0 : Int)).toNat = 0 from rfl] at hx204_1)
       (try rw [show 0 * 4 = 0 from rfl] at hx204_1)
       (try rw [Addr.add_zero'] at hx204_1)
       (try rw [show ((0 : Int)).toNat = 0 from rfl] at hx204_2)
       (try rw [show 0 * 4 = 0 from rfl] at hx204_2)
       (try rw [Addr.add_zero'] at hx204_2)
       (try rw [show ((0 : Int)).toNat = 0 from rfl] at hx204_3)
       (try rw [show 0 * 4 = 0 from rfl] at hx204_3)
       (try rw [Addr.add_zero'] at hx204_3)
       replace hx204_0 := hcB HB.out hx204_0
       replace hx204_1 := hcB HB.out hx204_1
       replace hx204_2 := hcB HB.out hx204_2
       replace hx204_3 := hcB HB.out hx204_3
       have HR204_3 := Aside0.mk hi204_3
       have HC204_3 := Aside0.mk hl204_3
       clear hi204_3 hl204_3
       replace p204 := eq_true p204
       replace q204 := eq_true q204
       have p205 : 0 ≤ (0 : Int) := (by omega)
       have q205 : 0 < (l0_3.length : Int) := dt
       obtain ⟨ad205, A205_3, c205_3, e205, hx205_0, hx205_1, hx205_2, hx205_3, hl205_3, hi205_3⟩ := at_T33 HR0_3.out 0 p205 q205
       obtain rfl : ad204 = ad205 := (by injection e205)
       have qi205 : (0 < l0_3.length) = True := eq_true (by omega)
       (try rw [show ((0 : Int)).toNat = 0 from rfl] at hx205_0)
       (try rw [show 0 * 4 = 0 from rfl] at hx205_0)
       (try rw [Addr.add_zero'] at hx205_0)
       (try rw [show ((0 : Int)).toNat = 0 from rfl] at hx205_1)
       (try rw [show 0 * 4 = 0 from rfl] at hx205_1)
       (try rw [Addr.add_zero'] at hx205_1)
       (try rw [show ((0 : Int)).toNat = 0 from rfl] at hx205_2)
       (try rw [show 0 * 4 = 0 from rfl] at hx205_2)
       (try rw [Addr.add_zero'] at hx205_2)
       (try rw [show ((0 : Int)).toNat = 0 from rfl] at hx205_3)
       (try rw [show 0 * 4 = 0 from rfl] at hx205_3)
       (try rw [Addr.add_zero'] at hx205_3)
       replace hx205_0 := hcB HB.out hx205_0
       replace hx205_1 := hcB HB.out hx205_1
       replace hx205_2 := hcB HB.out hx205_2
       replace hx205_3 := hcB HB.out hx205_3
       have HR205_3 := Aside0.mk hi205_3
       have HC205_3 := Aside0.mk hl205_3
       clear hi205_3 hl205_3
       replace p205 := eq_true p205
       replace q205 := eq_true q205
       have ea_ := Option.some.inj (hx204_3.symm.trans hx205_3)
       injection ea_ with ea_ en_ ec_
       subst ea_
       subst ec_
       clear en_
       go_wp2
       go_meet
       case rel => exact ⟨_, (false), rq, H', ⟨by first | omega | exact Nat.le_refl _⟩, ⟨bU BK202.out⟩, ⟨bU BK203.out⟩, ⟨bl⟩⟩
      ·have H' := Aside0.mk H
       clear H
       have hnb12 := NB202_203.out
       have hnc12 := NB203_202.out
       obtain ⟨hcz13_0, hcz13_1, hcz13_2, hcz13_3, hfz13_0, hfz13_1, hfz13_2, hfz13_3⟩ := cz4f BK202.out
       have p204 : 0 ≤ (0 : Int) := (by omega)
       have q204 : 0 < (l0_3.length : Int) := dt
       obtain ⟨ad204, A204_3, c204_3, e204, hx204_0, hx204_1, hx204_2, hx204_3, hl204_3, hi204_3⟩ := at_T33 HR0_3.out 0 p204 q204
       cases e204
       have qi204 : (0 < l0_3.length) = True := eq_true (by omega)
       (try rw [show ((0 : Int)).toNat = 0 from rfl] at hx204_0)
       (try rw [show 0 * 4 = 0 from rfl] at hx204_0)
       (try rw [Addr.add_zero'] at hx204_0)
       (try rw [show ((0 : Int)).toNat = 0 from rfl] at hx204_1)
       (try rw [show 0 * 4 = 0 from rfl] at hx204_1)
       (try rw [Addr.add_zero'] at hx204_1)
       (try rw [show ((0 : Int)).toNat = 0 from rfl] at hx204_2)
       (try rw [show 0 * 4 = 0 from rfl] at hx204_2)
       (try rw [Addr.add_zero'] at hx204_2)
       (try rw [show ((0 : Int)).toNat = 0 from rfl] at hx204_3)
       (try rw [show 0 * 4 = 0 from rfl] at hx204_3)
       (try rw [Addr.add_zero'] at hx204_3)
       replace hx204_0 := hcB HB.out hx204_0
       replace hx204_1 := hcB HB.out hx204_1
       replace hx204_2 := hcB HB.out hx204_2
       replace hx204_3 := hcB HB.out hx204_3
       have HR204_3 := Aside0.mk hi204_3
       have HC204_3 := Aside0.mk hl204_3
       clear hi204_3 hl204_3
       replace p204 := eq_true p204
       replace q204 := eq_true q204
       have p205 : 0 ≤ (0 : Int) := (by omega)
       have q205 : 0 < (l0_3.length : Int) := dt
       obtain ⟨ad205, A205_3, c205_3, e205, hx205_0, hx205_1, hx205_2, hx205_3, hl205_3, hi205_3⟩ := at_T33 HR0_3.out 0 p205 q205
       obtain rfl : ad204 = ad205 := (by injection e205)
       have qi205 : (0 < l0_3.length) = True := eq_true (by omega)
       (try rw [show ((0 : Int)).toNat = 0 from rfl] at hx205_0)
       (try rw [show 0 * 4 = 0 from rfl] at hx205_0)
       (try rw [Addr.add_zero'] at hx205_0)
       (try rw [show ((0 : Int)).toNat = 0 from rfl] at hx205_1)
       (try rw [show 0 * 4 = 0 from rfl] at hx205_1)
       (try rw [Addr.add_zero'] at hx205_1)
       (try rw [show ((0 : Int)).toNat = 0 from rfl] at hx205_2)
       (try rw [show 0 * 4 = 0 from rfl] at hx205_2)
       (try rw [Addr.add_zero'] at hx205_2)
       (try rw [show ((0 : Int)).toNat = 0 from rfl] at hx205_3)
       (try rw [show 0 * 4 = 0 from rfl] at hx205_3)
       (try rw [Addr.add_zero'] at hx205_3)
       replace hx205_0 := hcB HB.out hx205_0
       replace hx205_1 := hcB HB.out hx205_1
       replace hx205_2 := hcB HB.out hx205_2
       replace hx205_3 := hcB HB.out hx205_3
       have HR205_3 := Aside0.mk hi205_3
       have HC205_3 := Aside0.mk hl205_3
       clear hi205_3 hl205_3
       replace p205 := eq_true p205
       replace q205 := eq_true q205
       have ea_ := Option.some.inj (hx204_3.symm.trans hx205_3)
       injection ea_ with ea_ en_ ec_
       subst ea_
       subst ec_
       clear en_
       have p206 : 0 ≤ (0 : Int) := (by omega)
       have q206 : 0 < (l0_3.length : Int) := dt
       obtain ⟨ad206, A206_3, c206_3, e206, hx206_0, hx206_1, hx206_2, hx206_3, hl206_3, hi206_3⟩ := at_T33 HR0_3.out 0 p206 q206
       obtain rfl : ad204 = ad206 := (by injection e206)
       have qi206 : (0 < l0_3.length) = True := eq_true (by omega)
       (try rw [show ((0 : Int)).toNat = 0 from rfl] at hx206_0)
       (try rw [show 0 * 4 = 0 from rfl] at hx206_0)
       (try rw [Addr.add_zero'] at hx206_0)
       (try rw [show ((0 : Int)).toNat = 0 from rfl] at hx206_1)
       (try rw [show 0 * 4 = 0 from rfl] at hx206_1)
       (try rw [Addr.add_zero'] at hx206_1)
       (try rw [show ((0 : Int)).toNat = 0 from rfl] at hx206_2)
       (try rw [show 0 * 4 = 0 from rfl] at hx206_2)
       (try rw [Addr.add_zero'] at hx206_2)
       (try rw [show ((0 : Int)).toNat = 0 from rfl] at hx206_3)
       (try rw [show 0 * 4 = 0 from rfl] at hx206_3)
       (try rw [Addr.add_zero'] at hx206_3)
       replace hx206_0 := hcB HB.out hx206_0
       replace hx206_1 := hcB HB.out hx206_1
       replace hx206_2 := hcB HB.out hx206_2
       replace hx206_3 := hcB HB.out hx206_3
       have HR206_3 := Aside0.mk hi206_3
       have HC206_3 := Aside0.mk hl206_3
       clear hi206_3 hl206_3
       replace p206 := eq_true p206
       replace q206 := eq_true q206
       have ea_ := Option.some.inj (hx204_3.symm.trans hx206_3)
       injection ea_ with ea_ en_ ec_
       subst ea_
       subst ec_
       clear en_
       go_wp2
       go_meet
       case rel => exact ⟨_, ((((rd_T33 l0_3 0).f1).toList != ([111, 118, 97, 108] : List UInt8))), rq, H', ⟨by first | omega | exact Nat.le_refl _⟩, ⟨bU BK202.out⟩, ⟨bU BK203.out⟩, ⟨bl⟩⟩
     ·have H' := Aside0.mk H
      clear H
      have hnb14 := NB202_203.out
      have hnc14 := NB203_202.out
      obtain ⟨hcz15_0, hcz15_1, hcz15_2, hcz15_3, hfz15_0, hfz15_1, hfz15_2, hfz15_3⟩ := cz4f BK202.out
      have p204 : 0 ≤ (0 : Int) := (by omega)
      have q204 : 0 < (l0_3.length : Int) := dt
      obtain ⟨ad204, A204_3, c204_3, e204, hx204_0, hx204_1, hx204_2, hx204_3, hl204_3, hi204_3⟩ := at_T33 HR0_3.out 0 p204 q204
      cases e204
      have qi204 : (0 < l0_3.length) = True := eq_true (by omega)
      (try rw [show ((0 : Int)).toNat = 0 from rfl] at hx204_0)
      (try rw [show 0 * 4 = 0 from rfl] at hx204_0)
      (try rw [Addr.add_zero'] at hx204_0)
      (try rw [show ((0 : Int)).toNat = 0 from rfl] at hx204_1)
      (try rw [show 0 * 4 = 0 from rfl] at hx204_1)
      (try rw [Addr.add_zero'] at hx204_1)
      (try rw [show ((0 : Int)).toNat = 0 from rfl] at hx204_2)
      (try rw [show 0 * 4 = 0 from rfl] at hx204_2)
      (try rw [Addr.add_zero'] at hx204_2)
      (try rw [show ((0 : Int)).toNat = 0 from rfl] at hx204_3)
      (try rw [show 0 * 4 = 0 from rfl] at hx204_3)
      (try rw [Addr.add_zero'] at hx204_3)
      replace hx204_0 := hcB HB.out hx204_0
      replace hx204_1 := hcB HB.out hx204_1
      replace hx204_2 := hcB HB.out hx204_2
      replace hx204_3 := hcB HB.out hx204_3
      have HR204_3 := Aside0.mk hi204_3
      have HC204_3 := Aside0.mk hl204_3
      clear hi204_3 hl204_3
      replace p204 := eq_true p204
      replace q204 := eq_true q204
      go_wp2
      go_meet
      case rel => exact ⟨_, (true), rq, H', ⟨by first | omega | exact Nat.le_refl _⟩, ⟨bU BK202.out⟩, ⟨bU BK203.out⟩, ⟨bl⟩⟩
    ·rw [if_neg c7] at H
     exact absurd H (by simp)
   ·have H' := Aside0.mk H
    clear H
    have hnb16 := NB202_203.out
    have hnc16 := NB203_202.out
    obtain ⟨hcz17_0, hcz17_1, hcz17_2, hcz17_3, hfz17_0, hfz17_1, hfz17_2, hfz17_3⟩ := cz4f BK202.out
    go_wp2
    go_meet
    case rel => exact ⟨_, (true), rq, H', ⟨by first | omega | exact Nat.le_refl _⟩, ⟨bU BK202.out⟩, ⟨bU BK203.out⟩, ⟨bl⟩⟩
  ·(first | rw [c5b0] | (simp only [i64_w, i32_w]; rw [c5b0]) | skip)
   have H' := Aside0.mk H
   clear H
   have hnb18 := NB202_203.out
   have hnc18 := NB203_202.out
   obtain ⟨hcz19_0, hcz19_1, hcz19_2, hcz19_3, hfz19_0, hfz19_1, hfz19_2, hfz19_3⟩ := cz4f BK202.out
   go_wp2
   go_meet
   case rel => exact ⟨_, (true), rq, H', ⟨by first | omega | exact Nat.le_refl _⟩, ⟨bU BK202.out⟩, ⟨bU BK203.out⟩, ⟨bl⟩⟩
 case rest =>
  clear HC2
  obtain ⟨kq, x39_1, rfl, HA, HJ1, BK202, BK203, HB⟩ := hcut
  cases kq with
  | zero => exact absurd HA.out (by simp [incunableref25_shape.j0])
  | succ kj1 =>
   have H := HA.out
   clear HA
   simp only [incunableref25_shape.j0] at H
   by_cases c20 : x39_1 = true
   ·subst c20
    rw [if_pos rfl] at H
    simp only [Option.some.injEq, Prod.mk.injEq] at H
    obtain ⟨rfl, rfl, rfl, rfl, rfl, rfl⟩ := H
    have hnb21 := NB203_202.out
    have hnc21 := NB202_203.out
    obtain ⟨hcz22_0, hcz22_1, hcz22_2, hcz22_3, hfz22_0, hfz22_1, hfz22_2, hfz22_3⟩ := cz4f BK203.out
    go_wp2
    refine bodyPost_ret (results_ctt rfl _ _ gb203 39 #[.int .i64 0, .int .i64 0, .int .i64 0, .int .i64 0] (0, 0) _ rfl (by (with_reducible repeat (first | refine blk_drewN ?_ _ | refine blk_drew ?_ | refine blk_alloc ?_ _)); refine blk_put (cs := #[.int .i64 0, .int .i64 0, .int .i64 0, .int .i64 0]) ?_ 3 _ rfl; (with_reducible repeat (first | refine blk_drewN ?_ _ | refine blk_drew ?_ | refine blk_alloc ?_ _)); refine blk_put (cs := #[.int .i64 0, .int .i64 0, .int .i64 0, .int .i64 0]) ?_ 2 _ rfl; (with_reducible repeat (first | refine blk_drewN ?_ _ | refine blk_drew ?_ | refine blk_alloc ?_ _)); refine blk_put (cs := #[.int .i64 0, .int .i64 0, .int .i64 0, .int .i64 0]) ?_ 1 _ rfl; (with_reducible repeat (first | refine blk_drewN ?_ _ | refine blk_drew ?_ | refine blk_alloc ?_ _)); refine blk_put (cs := #[.int .i64 0, .int .i64 0, .int .i64 0, .int .i64 0]) ?_ 0 _ rfl; (with_reducible repeat (first | refine blk_drewN ?_ _ | refine blk_drew ?_ | refine blk_alloc ?_ _)); exact BK203.out) Tryd.underlying39 rfl (by kernel_rfl)) rfl ?_
    exact ⟨re, bl⟩
   ·replace c20 := Bool.eq_false_iff.mpr c20
    subst c20
    rw [if_neg Bool.false_ne_true] at H
    have H' := Aside0.mk H
    clear H
    go_wp2
    go_loopg [5] kj1 (fun kq v5 w' => ∃ (x5_2 : Int) (x204000_2 : Int) (x204001_2 : Int) (x204002_2 : Int) (x204003_2 : Int), v5 = .int .i64 x5_2 ∧ Aside0 (incunableref25_shape.l0 kq x5_2 a0_0 a0_1 a0_2 l0_3 = some (r1, r2, r3, r4, r5, r6)) ∧ Aside0 (kq ≤ kj1) ∧ Aside0 (w'.heap[gb202]? = some (.cells #[.int .i64 a0_0, .string a0_1, .int .i64 a0_2, (.slice A0_3 l0_3.length c0_3)] 33 (0, 0))) ∧ Aside0 (w'.heap[gb203]? = some (.cells #[.int .i64 x204000_2, .int .i64 x204001_2, .int .i64 x204002_2, .int .i64 x204003_2] 39 (0, 0))) ∧ Aside0 (Below w.heap.size w w'))
    case atStart => exact ⟨(1), (0), (0), (0), (0), rq, H', ⟨Nat.le_refl _⟩, ⟨bU BK202.out⟩, ⟨bU BK203.out⟩, ⟨bl⟩⟩
    case round =>
     clear H'
     obtain ⟨x5_2, x204000_2, x204001_2, x204002_2, x204003_2, rfl, HA, HK2, BK202, BK203, HB⟩ := hrel
     cases gk with
     | zero => exact absurd HA.out (by simp [incunableref25_shape.l0])
     | succ k2 =>
      have H := HA.out
      clear HA
      simp only [incunableref25_shape.l0] at H
      rcases iL H with H1 | H1 <;> clear H <;> obtain ⟨H, c23b0⟩ := H1
      ·by_cases c24 : 0 ≤ x5_2
       ·rw [if_pos c24] at H
        have c24b0 := decide_eq_true c24
        clear c24
        by_cases c25 : x5_2 < (l0_3.length : Int)
        ·rw [if_pos c25] at H
         have c25b0 := decide_eq_true c25
         clear c25
         rcases iE H with H1 | H1 <;> clear H <;> obtain ⟨H, c26b0, c26b1, c26⟩ := H1
         ·have H' := Aside0.mk H
          clear H
          have hnb27 := NB202_203.out
          have hnc27 := NB203_202.out
          obtain ⟨hcz28_0, hcz28_1, hcz28_2, hcz28_3, hfz28_0, hfz28_1, hfz28_2, hfz28_3⟩ := cz4f BK202.out
          have p207 : 0 ≤ (x5_2 : Int) := dt
          have q207 : x5_2 < (l0_3.length : Int) := dt
          obtain ⟨ad207, A207_3, c207_3, e207, hx207_0, hx207_1, hx207_2, hx207_3, hl207_3, hi207_3⟩ := at_T33 HR0_3.out x5_2 p207 q207
          cases e207
          replace hx207_0 := hcB HB.out hx207_0
          replace hx207_1 := hcB HB.out hx207_1
          replace hx207_2 := hcB HB.out hx207_2
          replace hx207_3 := hcB HB.out hx207_3
          have HR207_3 := Aside0.mk hi207_3
          have HC207_3 := Aside0.mk hl207_3
          clear hi207_3 hl207_3
          replace p207 := eq_true p207
          replace q207 := eq_true q207
          go_wp2
          go_roundg k2
          case measure => have := HJ1.out; have := HK2.out; omega
          case rel => exact ⟨(wrap64 (x5_2 + 1)), (x204000_2), (x204001_2), (x204002_2), (x204003_2), rq, H', ⟨by have := HJ1.out; have := HK2.out; omega⟩, ⟨bU BK202.out⟩, ⟨bU BK203.out⟩, ⟨bl⟩⟩
         ·simp only [Option.some.injEq, Prod.mk.injEq] at H
          obtain ⟨rfl, rfl, rfl, rfl, rfl, rfl⟩ := H
          have hnb29 := NB202_203.out
          have hnc29 := NB203_202.out
          obtain ⟨hcz30_0, hcz30_1, hcz30_2, hcz30_3, hfz30_0, hfz30_1, hfz30_2, hfz30_3⟩ := cz4f BK202.out
          have p207 : 0 ≤ (x5_2 : Int) := dt
          have q207 : x5_2 < (l0_3.length : Int) := dt
          obtain ⟨ad207, A207_3, c207_3, e207, hx207_0, hx207_1, hx207_2, hx207_3, hl207_3, hi207_3⟩ := at_T33 HR0_3.out x5_2 p207 q207
          cases e207
          replace hx207_0 := hcB HB.out hx207_0
          replace hx207_1 := hcB HB.out hx207_1
          replace hx207_2 := hcB HB.out hx207_2
          replace hx207_3 := hcB HB.out hx207_3
          have HR207_3 := Aside0.mk hi207_3
          have HC207_3 := Aside0.mk hl207_3
          clear hi207_3 hl207_3
          replace p207 := eq_true p207
          replace q207 := eq_true q207
          obtain ⟨hcz31_0, hcz31_1, hcz31_2, hcz31_3, hfz31_0, hfz31_1, hfz31_2, hfz31_3⟩ := cz4f BK203.out
          go_wp2
          refine bodyPost_ret (results_ctt rfl _ _ gb203 39 #[.int .i64 0, .int .i64 0, .int .i64 0, .int .i64 0] (0, 0) _ rfl (by (with_reducible repeat (first | refine blk_drewN ?_ _ | refine blk_drew ?_ | refine blk_alloc ?_ _)); refine blk_put (cs := #[.int .i64 0, .int .i64 0, .int .i64 0, .int .i64 x204003_2]) ?_ 3 _ rfl; (with_reducible repeat (first | refine blk_drewN ?_ _ | refine blk_drew ?_ | refine blk_alloc ?_ _)); refine blk_put (cs := #[.int .i64 0, .int .i64 0, .int .i64 x204002_2, .int .i64 x204003_2]) ?_ 2 _ rfl; (with_reducible repeat (first | refine blk_drewN ?_ _ | refine blk_drew ?_ | refine blk_alloc ?_ _)); refine blk_put (cs := #[.int .i64 0, .int .i64 x204001_2, .int .i64 x204002_2, .int .i64 x204003_2]) ?_ 1 _ rfl; (with_reducible repeat (first | refine blk_drewN ?_ _ | refine blk_drew ?_ | refine blk_alloc ?_ _)); refine blk_put (cs := #[.int .i64 x204000_2, .int .i64 x204001_2, .int .i64 x204002_2, .int .i64 x204003_2]) ?_ 0 _ rfl; (with_reducible repeat (first | refine blk_drewN ?_ _ | refine blk_drew ?_ | refine blk_alloc ?_ _)); exact BK203.out) Tryd.underlying39 rfl (by kernel_rfl)) rfl ?_
          exact ⟨re, bl⟩
        ·rw [if_neg c25] at H
         exact absurd H (by simp)
       ·rw [if_neg c24] at H
        exact absurd H (by simp)
      ·by_cases c32 : 1 < (l0_3.length : Int)
       ·rw [if_pos c32] at H
        have c32b0 := decide_eq_true c32
        have c32b1 : decide (1 < l0_3.length) = true := decide_eq_true (by omega)
        clear c32
        by_cases c33 : 2 < (l0_3.length : Int)
        ·rw [if_pos c33] at H
         have c33b0 := decide_eq_true c33
         have c33b1 : decide (2 < l0_3.length) = true := decide_eq_true (by omega)
         clear c33
         by_cases c34 : 3 < (l0_3.length : Int)
         ·rw [if_pos c34] at H
          have c34b0 := decide_eq_true c34
          have c34b1 : decide (3 < l0_3.length) = true := decide_eq_true (by omega)
          clear c34
          by_cases c35 : 4 < (l0_3.length : Int)
          ·rw [if_pos c35] at H
           have c35b0 := decide_eq_true c35
           have c35b1 : decide (4 < l0_3.length) = true := decide_eq_true (by omega)
           clear c35
           by_cases c36 : 0 < (l0_3.length : Int)
           ·rw [if_pos c36] at H
            have c36b0 := decide_eq_true c36
            have c36b1 : decide (0 < l0_3.length) = true := decide_eq_true (by omega)
            clear c36
            have HLATE := Aside0.mk H
            clear H
            try go_wp2
            have n_ := aC (blk_drew BK202.out) (aC (blk_drew BK203.out) (aE (below_drew1 HB.out)))
            clear BK202 BK203 HB
            obtain ⟨BK202, BK203, HB⟩ := n_
            have p208 : 0 ≤ (1 : Int) := (by omega)
            have q208 : 1 < (l0_3.length : Int) := dt
            obtain ⟨ad208, A208_3, c208_3, e208, hx208_0, hx208_1, hx208_2, hx208_3, hl208_3, hi208_3⟩ := at_T33 HR0_3.out 1 p208 q208
            have hw208_3 := hx208_3
            (try rw [show ((1 : Int)).toNat = 1 from rfl] at hw208_3)
            (try rw [show 1 * 4 = 4 from rfl] at hw208_3)
            (try simp only [Nat.reduceMul, Nat.reduceEqDiff, Go.Addr.add, ↓reduceIte] at hw208_3)
            have hw208_2 := hx208_2
            (try rw [show ((1 : Int)).toNat = 1 from rfl] at hw208_2)
            (try rw [show 1 * 4 = 4 from rfl] at hw208_2)
            (try simp only [Nat.reduceMul, Nat.reduceEqDiff, Go.Addr.add, ↓reduceIte] at hw208_2)
            have hw208_1 := hx208_1
            (try rw [show ((1 : Int)).toNat = 1 from rfl] at hw208_1)
            (try rw [show 1 * 4 = 4 from rfl] at hw208_1)
            (try simp only [Nat.reduceMul, Nat.reduceEqDiff, Go.Addr.add, ↓reduceIte] at hw208_1)
            have hw208_0 := hx208_0
            (try rw [show ((1 : Int)).toNat = 1 from rfl] at hw208_0)
            (try rw [show 1 * 4 = 4 from rfl] at hw208_0)
            (try simp only [Nat.reduceMul, Nat.reduceEqDiff, Go.Addr.add, ↓reduceIte] at hw208_0)
            cases e208
            (try simp only [show (1 : Int).toNat = 1 from rfl, Nat.reduceMul, Nat.reduceEqDiff, Go.Addr.add, ↓reduceIte] at hx208_0)
            (try simp only [show (1 : Int).toNat = 1 from rfl, Nat.reduceMul, Nat.reduceEqDiff, Go.Addr.add, ↓reduceIte] at hx208_1)
            (try simp only [show (1 : Int).toNat = 1 from rfl, Nat.reduceMul, Nat.reduceEqDiff, Go.Addr.add, ↓reduceIte] at hx208_2)
            (try simp only [show (1 : Int).toNat = 1 from rfl, Nat.reduceMul, Nat.reduceEqDiff, Go.Addr.add, ↓reduceIte] at hx208_3)
            have qi208 : (1 < l0_3.length) = True := eq_true (by omega)
            (try rw [show ((1 : Int)).toNat = 1 from rfl] at hx208_0)
            (try rw [show 1 * 4 = 4 from rfl] at hx208_0)
            (try rw [show ((1 : Int)).toNat = 1 from rfl] at hx208_1)
            (try rw [show 1 * 4 = 4 from rfl] at hx208_1)
            (try rw [show ((1 : Int)).toNat = 1 from rfl] at hx208_2)
            (try rw [show 1 * 4 = 4 from rfl] at hx208_2)
            (try rw [show ((1 : Int)).toNat = 1 from rfl] at hx208_3)
            (try rw [show 1 * 4 = 4 from rfl] at hx208_3)
            replace hx208_0 := hcB HB.out hx208_0
            replace hx208_1 := hcB HB.out hx208_1
            replace hx208_2 := hcB HB.out hx208_2
            replace hx208_3 := hcB HB.out hx208_3
            have HR208_3 := Aside0.mk hi208_3
            have HC208_3 := Aside0.mk hl208_3
            clear hi208_3 hl208_3
            replace p208 := eq_true p208
            replace q208 := eq_true q208
            have p209 : 0 ≤ (2 : Int) := (by omega)
            have q209 : 2 < (l0_3.length : Int) := dt
            obtain ⟨ad209, A209_3, c209_3, e209, hx209_0, hx209_1, hx209_2, hx209_3, hl209_3, hi209_3⟩ := at_T33 HR0_3.out 2 p209 q209
            have hw209_3 := hx209_3
            (try rw [show ((2 : Int)).toNat = 2 from rfl] at hw209_3)
            (try rw [show 2 * 4 = 8 from rfl] at hw209_3)
            (try simp only [Nat.reduceMul, Nat.reduceEqDiff, Go.Addr.add, ↓reduceIte] at hw209_3)
            have hw209_2 := hx209_2
            (try rw [show ((2 : Int)).toNat = 2 from rfl] at hw209_2)
            (try rw [show 2 * 4 = 8 from rfl] at hw209_2)
            (try simp only [Nat.reduceMul, Nat.reduceEqDiff, Go.Addr.add, ↓reduceIte] at hw209_2)
            have hw209_1 := hx209_1
            (try rw [show ((2 : Int)).toNat = 2 from rfl] at hw209_1)
            (try rw [show 2 * 4 = 8 from rfl] at hw209_1)
            (try simp only [Nat.reduceMul, Nat.reduceEqDiff, Go.Addr.add, ↓reduceIte] at hw209_1)
            have hw209_0 := hx209_0
            (try rw [show ((2 : Int)).toNat = 2 from rfl] at hw209_0)
            (try rw [show 2 * 4 = 8 from rfl] at hw209_0)
            (try simp only [Nat.reduceMul, Nat.reduceEqDiff, Go.Addr.add, ↓reduceIte] at hw209_0)
            obtain rfl : ad208 = ad209 := (by injection e209)
            (try simp only [show (2 : Int).toNat = 2 from rfl, Nat.reduceMul, Nat.reduceEqDiff, Go.Addr.add, ↓reduceIte] at hx209_0)
            (try simp only [show (2 : Int).toNat = 2 from rfl, Nat.reduceMul, Nat.reduceEqDiff, Go.Addr.add, ↓reduceIte] at hx209_1)
            (try simp only [show (2 : Int).toNat = 2 from rfl, Nat.reduceMul, Nat.reduceEqDiff, Go.Addr.add, ↓reduceIte] at hx209_2)
            (try simp only [show (2 : Int).toNat = 2 from rfl, Nat.reduceMul, Nat.reduceEqDiff, Go.Addr.add, ↓reduceIte] at hx209_3)
            have qi209 : (2 < l0_3.length) = True := eq_true (by omega)
            (try rw [show ((2 : Int)).toNat = 2 from rfl] at hx209_0)
            (try rw [show 2 * 4 = 8 from rfl] at hx209_0)
            (try rw [show ((2 : Int)).toNat = 2 from rfl] at hx209_1)
            (try rw [show 2 * 4 = 8 from rfl] at hx209_1)
            (try rw [show ((2 : Int)).toNat = 2 from rfl] at hx209_2)
            (try rw [show 2 * 4 = 8 from rfl] at hx209_2)
            (try rw [show ((2 : Int)).toNat = 2 from rfl] at hx209_3)
            (try rw [show 2 * 4 = 8 from rfl] at hx209_3)
            replace hx209_0 := hcB HB.out hx209_0
            replace hx209_1 := hcB HB.out hx209_1
            replace hx209_2 := hcB HB.out hx209_2
            replace hx209_3 := hcB HB.out hx209_3
            have HR209_3 := Aside0.mk hi209_3
            have HC209_3 := Aside0.mk hl209_3
            clear hi209_3 hl209_3
            replace p209 := eq_true p209
            replace q209 := eq_true q209
            have p210 : 0 ≤ (3 : Int) := (by omega)
            have q210 : 3 < (l0_3.length : Int) := dt
            obtain ⟨ad210, A210_3, c210_3, e210, hx210_0, hx210_1, hx210_2, hx210_3, hl210_3, hi210_3⟩ := at_T33 HR0_3.out 3 p210 q210
            have hw210_3 := hx210_3
            (try rw [show ((3 : Int)).toNat = 3 from rfl] at hw210_3)
            (try rw [show 3 * 4 = 12 from rfl] at hw210_3)
            (try simp only [Nat.reduceMul, Nat.reduceEqDiff, Go.Addr.add, ↓reduceIte] at hw210_3)
            have hw210_2 := hx210_2
            (try rw [show ((3 : Int)).toNat = 3 from rfl] at hw210_2)
            (try rw [show 3 * 4 = 12 from rfl] at hw210_2)
            (try simp only [Nat.reduceMul, Nat.reduceEqDiff, Go.Addr.add, ↓reduceIte] at hw210_2)
            have hw210_1 := hx210_1
            (try rw [show ((3 : Int)).toNat = 3 from rfl] at hw210_1)
            (try rw [show 3 * 4 = 12 from rfl] at hw210_1)
            (try simp only [Nat.reduceMul, Nat.reduceEqDiff, Go.Addr.add, ↓reduceIte] at hw210_1)
            have hw210_0 := hx210_0
            (try rw [show ((3 : Int)).toNat = 3 from rfl] at hw210_0)
            (try rw [show 3 * 4 = 12 from rfl] at hw210_0)
            (try simp only [Nat.reduceMul, Nat.reduceEqDiff, Go.Addr.add, ↓reduceIte] at hw210_0)
            obtain rfl : ad208 = ad210 := (by injection e210)
            (try simp only [show (3 : Int).toNat = 3 from rfl, Nat.reduceMul, Nat.reduceEqDiff, Go.Addr.add, ↓reduceIte] at hx210_0)
            (try simp only [show (3 : Int).toNat = 3 from rfl, Nat.reduceMul, Nat.reduceEqDiff, Go.Addr.add, ↓reduceIte] at hx210_1)
            (try simp only [show (3 : Int).toNat = 3 from rfl, Nat.reduceMul, Nat.reduceEqDiff, Go.Addr.add, ↓reduceIte] at hx210_2)
            (try simp only [show (3 : Int).toNat = 3 from rfl, Nat.reduceMul, Nat.reduceEqDiff, Go.Addr.add, ↓reduceIte] at hx210_3)
            have qi210 : (3 < l0_3.length) = True := eq_true (by omega)
            (try rw [show ((3 : Int)).toNat = 3 from rfl] at hx210_0)
            (try rw [show 3 * 4 = 12 from rfl] at hx210_0)
            (try rw [show ((3 : Int)).toNat = 3 from rfl] at hx210_1)
            (try rw [show 3 * 4 = 12 from rfl] at hx210_1)
            (try rw [show ((3 : Int)).toNat = 3 from rfl] at hx210_2)
            (try rw [show 3 * 4 = 12 from rfl] at hx210_2)
            (try rw [show ((3 : Int)).toNat = 3 from rfl] at hx210_3)
            (try rw [show 3 * 4 = 12 from rfl] at hx210_3)
            replace hx210_0 := hcB HB.out hx210_0
            replace hx210_1 := hcB HB.out hx210_1
            replace hx210_2 := hcB HB.out hx210_2
            replace hx210_3 := hcB HB.out hx210_3
            have HR210_3 := Aside0.mk hi210_3
            have HC210_3 := Aside0.mk hl210_3
            clear hi210_3 hl210_3
            replace p210 := eq_true p210
            replace q210 := eq_true q210
            have p211 : 0 ≤ (4 : Int) := (by omega)
            have q211 : 4 < (l0_3.length : Int) := dt
            obtain ⟨ad211, A211_3, c211_3, e211, hx211_0, hx211_1, hx211_2, hx211_3, hl211_3, hi211_3⟩ := at_T33 HR0_3.out 4 p211 q211
            have hw211_3 := hx211_3
            (try rw [show ((4 : Int)).toNat = 4 from rfl] at hw211_3)
            (try rw [show 4 * 4 = 16 from rfl] at hw211_3)
            (try simp only [Nat.reduceMul, Nat.reduceEqDiff, Go.Addr.add, ↓reduceIte] at hw211_3)
            have hw211_2 := hx211_2
            (try rw [show ((4 : Int)).toNat = 4 from rfl] at hw211_2)
            (try rw [show 4 * 4 = 16 from rfl] at hw211_2)
            (try simp only [Nat.reduceMul, Nat.reduceEqDiff, Go.Addr.add, ↓reduceIte] at hw211_2)
            have hw211_1 := hx211_1
            (try rw [show ((4 : Int)).toNat = 4 from rfl] at hw211_1)
            (try rw [show 4 * 4 = 16 from rfl] at hw211_1)
            (try simp only [Nat.reduceMul, Nat.reduceEqDiff, Go.Addr.add, ↓reduceIte] at hw211_1)
            have hw211_0 := hx211_0
            (try rw [show ((4 : Int)).toNat = 4 from rfl] at hw211_0)
            (try rw [show 4 * 4 = 16 from rfl] at hw211_0)
            (try simp only [Nat.reduceMul, Nat.reduceEqDiff, Go.Addr.add, ↓reduceIte] at hw211_0)
            obtain rfl : ad208 = ad211 := (by injection e211)
            (try simp only [show (4 : Int).toNat = 4 from rfl, Nat.reduceMul, Nat.reduceEqDiff, Go.Addr.add, ↓reduceIte] at hx211_0)
            (try simp only [show (4 : Int).toNat = 4 from rfl, Nat.reduceMul, Nat.reduceEqDiff, Go.Addr.add, ↓reduceIte] at hx211_1)
            (try simp only [show (4 : Int).toNat = 4 from rfl, Nat.reduceMul, Nat.reduceEqDiff, Go.Addr.add, ↓reduceIte] at hx211_2)
            (try simp only [show (4 : Int).toNat = 4 from rfl, Nat.reduceMul, Nat.reduceEqDiff, Go.Addr.add, ↓reduceIte] at hx211_3)
            have qi211 : (4 < l0_3.length) = True := eq_true (by omega)
            (try rw [show ((4 : Int)).toNat = 4 from rfl] at hx211_0)
            (try rw [show 4 * 4 = 16 from rfl] at hx211_0)
            (try rw [show ((4 : Int)).toNat = 4 from rfl] at hx211_1)
            (try rw [show 4 * 4 = 16 from rfl] at hx211_1)
            (try rw [show ((4 : Int)).toNat = 4 from rfl] at hx211_2)
            (try rw [show 4 * 4 = 16 from rfl] at hx211_2)
            (try rw [show ((4 : Int)).toNat = 4 from rfl] at hx211_3)
            (try rw [show 4 * 4 = 16 from rfl] at hx211_3)
            replace hx211_0 := hcB HB.out hx211_0
            replace hx211_1 := hcB HB.out hx211_1
            replace hx211_2 := hcB HB.out hx211_2
            replace hx211_3 := hcB HB.out hx211_3
            have HR211_3 := Aside0.mk hi211_3
            have HC211_3 := Aside0.mk hl211_3
            clear hi211_3 hl211_3
            replace p211 := eq_true p211
            replace q211 := eq_true q211
            refine st 23 (fun w' => w'.cell? ⟨gb202, 0, none⟩ = some (.int .i64 a0_0) ∧ w'.cell? ⟨gb202, 1, none⟩ = some (.string a0_1) ∧ w'.cell? ⟨gb202, 2, none⟩ = some (.int .i64 a0_2) ∧ w'.cell? ⟨gb202, 3, none⟩ = some (.slice (some ad208) l0_3.length c0_3) ∧ w'.cell? ⟨ad208.block, ad208.off + 4, none⟩ = some (.int .i64 ((rd_T33 l0_3 1).f0)) ∧ w'.cell? ⟨ad208.block, ad208.off + 4 + 1, none⟩ = some (.string ((rd_T33 l0_3 1).f1)) ∧ w'.cell? ⟨ad208.block, ad208.off + 4 + 2, none⟩ = some (.int .i64 ((rd_T33 l0_3 1).f2)) ∧ w'.cell? ⟨ad208.block, ad208.off + 4 + 3, none⟩ = some (.slice A208_3 ((rd_T33 l0_3 1).f3).length c208_3) ∧ w'.cell? ⟨ad208.block, ad208.off + 8, none⟩ = some (.int .i64 ((rd_T33 l0_3 2).f0)) ∧ w'.cell? ⟨ad208.block, ad208.off + 8 + 1, none⟩ = some (.string ((rd_T33 l0_3 2).f1)) ∧ w'.cell? ⟨ad208.block, ad208.off + 8 + 2, none⟩ = some (.int .i64 ((rd_T33 l0_3 2).f2)) ∧ w'.cell? ⟨ad208.block, ad208.off + 8 + 3, none⟩ = some (.slice A209_3 ((rd_T33 l0_3 2).f3).length c209_3) ∧ w'.cell? ⟨ad208.block, ad208.off + 12, none⟩ = some (.int .i64 ((rd_T33 l0_3 3).f0)) ∧ w'.cell? ⟨ad208.block, ad208.off + 12 + 1, none⟩ = some (.string ((rd_T33 l0_3 3).f1)) ∧ w'.cell? ⟨ad208.block, ad208.off + 12 + 2, none⟩ = some (.int .i64 ((rd_T33 l0_3 3).f2)) ∧ w'.cell? ⟨ad208.block, ad208.off + 12 + 3, none⟩ = some (.slice A210_3 ((rd_T33 l0_3 3).f3).length c210_3) ∧ w'.cell? ⟨ad208.block, ad208.off + 16, none⟩ = some (.int .i64 ((rd_T33 l0_3 4).f0)) ∧ w'.cell? ⟨ad208.block, ad208.off + 16 + 1, none⟩ = some (.string ((rd_T33 l0_3 4).f1)) ∧ w'.cell? ⟨ad208.block, ad208.off + 16 + 2, none⟩ = some (.int .i64 ((rd_T33 l0_3 4).f2)) ∧ w'.cell? ⟨ad208.block, ad208.off + 16 + 3, none⟩ = some (.slice A211_3 ((rd_T33 l0_3 4).f3).length c211_3)) [] (bv 23 0) incunableref25_shape.tab8 incunableref25_shape.bits8 ⟨kc0 BK202.out, kc1 BK202.out, kc2 BK202.out, kc3 BK202.out, (hcB HB.out hw208_0), (hcB HB.out hw208_1), (hcB HB.out hw208_2), (hcB HB.out hw208_3), (hcB HB.out hw209_0), (hcB HB.out hw209_1), (hcB HB.out hw209_2), (hcB HB.out hw209_3), (hcB HB.out hw210_0), (hcB HB.out hw210_1), (hcB HB.out hw210_2), (hcB HB.out hw210_3), (hcB HB.out hw211_0), (hcB HB.out hw211_1), (hcB HB.out hw211_2), (hcB HB.out hw211_3)⟩ (fun hHeld HT_ HW_ => ?_)
            generalize wr.drew = w40 at BK202 BK203 HB HR208_3 HR209_3 HR210_3 HR211_3 hx208_0 hx208_1 hx208_2 hx208_3 hx209_0 hx209_1 hx209_2 hx209_3 hx210_0 hx210_1 hx210_2 hx210_3 hx211_0 hx211_1 hx211_2 hx211_3 hHeld ⊢
            refine pu 0 53 (bv 23 1) HT_ rfl rfl ?_
            refine pu 5 58 (bv 23 33) HT_ rfl rfl ?_
            refine pu 10 63 (bv 23 1057) HT_ rfl rfl ?_
            refine pu 15 68 (bv 23 33825) HT_ rfl rfl ?_
            refine tk 1 54 (bv 23 33827) HT_ HW_ hHeld rfl rfl (by rintro w' ⟨s0, s1, s2, s3, s4, s5, s6, s7, s8, s9, s10, s11, s12, s13, s14, s15, s16, s17, s18, s19⟩; exact yl) ?_
            refine pu 2 55 (bv 23 33831) HT_ rfl rfl ?_
            refine pu 3 56 (bv 23 33839) HT_ rfl rfl ?_
            refine tk 4 57 (bv 23 33855) HT_ HW_ hHeld rfl rfl (by rintro w' ⟨s0, s1, s2, s3, s4, s5, s6, s7, s8, s9, s10, s11, s12, s13, s14, s15, s16, s17, s18, s19⟩; exact yl) ?_
            refine tk 6 59 (bv 23 33919) HT_ HW_ hHeld rfl rfl (by rintro w' ⟨s0, s1, s2, s3, s4, s5, s6, s7, s8, s9, s10, s11, s12, s13, s14, s15, s16, s17, s18, s19⟩; exact yl) ?_
            refine pu 7 60 (bv 23 34047) HT_ rfl rfl ?_
            refine pu 8 61 (bv 23 34303) HT_ rfl rfl ?_
            refine tk 9 62 (bv 23 34815) HT_ HW_ hHeld rfl rfl (by rintro w' ⟨s0, s1, s2, s3, s4, s5, s6, s7, s8, s9, s10, s11, s12, s13, s14, s15, s16, s17, s18, s19⟩; exact yl) ?_
            refine tk 11 64 (bv 23 36863) HT_ HW_ hHeld rfl rfl (by rintro w' ⟨s0, s1, s2, s3, s4, s5, s6, s7, s8, s9, s10, s11, s12, s13, s14, s15, s16, s17, s18, s19⟩; exact yl) ?_
            refine pu 12 65 (bv 23 40959) HT_ rfl rfl ?_
            refine pu 13 66 (bv 23 49151) HT_ rfl rfl ?_
            refine tk 14 67 (bv 23 65535) HT_ HW_ hHeld rfl rfl (by rintro w' ⟨s0, s1, s2, s3, s4, s5, s6, s7, s8, s9, s10, s11, s12, s13, s14, s15, s16, s17, s18, s19⟩; exact yl) ?_
            refine tk 16 69 (bv 23 131071) HT_ HW_ hHeld rfl rfl (by rintro w' ⟨s0, s1, s2, s3, s4, s5, s6, s7, s8, s9, s10, s11, s12, s13, s14, s15, s16, s17, s18, s19⟩; exact yl) ?_
            refine pu 17 70 (bv 23 262143) HT_ rfl rfl ?_
            refine pu 18 71 (bv 23 524287) HT_ rfl rfl ?_
            refine tk 19 72 (bv 23 1048575) HT_ HW_ hHeld rfl rfl (by rintro w' ⟨s0, s1, s2, s3, s4, s5, s6, s7, s8, s9, s10, s11, s12, s13, s14, s15, s16, s17, s18, s19⟩; exact yl) ?_
            refine pu 20 73 (bv 23 2097151) HT_ rfl rfl ?_
            refine one_ (i := 21) (N := some 6) (bv 23 4194303) rfl rfl (one_of HT_.out (by kernel_rfl)) (by decide) (fun K hK => ?_)
            refine box_step ?hg (N := 6) ?hd (cs := #[.int .i64 0, .int .i64 0, .int .i64 0, .int .i64 0]) (t := 39) ?hr ?_; (case hd => rfl); (case hg => rfl); (case hr => first | (go_simp; done) | (go_simp; rfl))
            intro gb212 hg w41 hbox hb
            have n_ := aC (blk_below (bU BK202.out) hb) (aC (blk_below (bU BK203.out) hb) (aC (bs hb) (aC hbox (aC (gz hg) (aC (gz hg) (aC (gn hg (bU BK202.out)) (aC (gm hg (bU BK202.out)) (aC (gn hg (bU BK203.out)) (aE (gm hg (bU BK203.out)))))))))))
            clear BK202 BK203 HB
            obtain ⟨BK202, BK203, HB, BK212, GW212, GE212, NB202_212, NB212_202, NB203_212, NB212_203⟩ := n_
            clear hb hbox hg
            refine hK.out _ _ ⟨kc0 BK202.out, kc1 BK202.out, kc2 BK202.out, kc3 BK202.out, (hcB HB.out hw208_0), (hcB HB.out hw208_1), (hcB HB.out hw208_2), (hcB HB.out hw208_3), (hcB HB.out hw209_0), (hcB HB.out hw209_1), (hcB HB.out hw209_2), (hcB HB.out hw209_3), (hcB HB.out hw210_0), (hcB HB.out hw210_1), (hcB HB.out hw210_2), (hcB HB.out hw210_3), (hcB HB.out hw211_0), (hcB HB.out hw211_1), (hcB HB.out hw211_2), (hcB HB.out hw211_3)⟩ (fun hHeld => ?_)
            clear hK K
            refine nm (some 6) ?_
            refine one_ (i := 22) (N := none) (bv 23 8388607) rfl rfl (one_of HT_.out (by kernel_rfl)) (by decide) (fun K hK => ?_)
            have hs42 : w41.cell? ⟨gb212, 0, none⟩ = some (.int .i64 0) := (blk_cell BK212.out 0).trans rfl
            have hfs42 := blk_frozen BK212.out 0
            have hns42_0 := NB202_212.out
            have hns42_1 := NB203_212.out
            have hms42_0 := NB212_202.out
            have hms42_1 := NB212_203.out
            have hs43 : w41.cell? ⟨gb212, 1, none⟩ = some (.int .i64 0) := (blk_cell BK212.out 1).trans rfl
            have hfs43 := blk_frozen BK212.out 1
            have hns43_0 := NB202_212.out
            have hns43_1 := NB203_212.out
            have hms43_0 := NB212_202.out
            have hms43_1 := NB212_203.out
            have hs44 : w41.cell? ⟨gb212, 2, none⟩ = some (.int .i64 0) := (blk_cell BK212.out 2).trans rfl
            have hfs44 := blk_frozen BK212.out 2
            have hns44_0 := NB202_212.out
            have hns44_1 := NB203_212.out
            have hms44_0 := NB212_202.out
            have hms44_1 := NB212_203.out
            have hs45 : w41.cell? ⟨gb212, 3, none⟩ = some (.int .i64 0) := (blk_cell BK212.out 3).trans rfl
            have hfs45 := blk_frozen BK212.out 3
            have hns45_0 := NB202_212.out
            have hns45_1 := NB203_212.out
            have hms45_0 := NB212_202.out
            have hms45_1 := NB212_203.out
            refine skip_ (w1 := ?_) (by rfl) rfl ?_ ?_
            rotate_left
            ·go_simp
             rfl
            refine hK.out _ _ ⟨((cell_far (p := ⟨gb212, _, none⟩) NB202_212.out _).trans (((cell_far (p := ⟨gb212, _, none⟩) NB202_212.out _).trans (((cell_far (p := ⟨gb212, _, none⟩) NB202_212.out _).trans (((cell_far (p := ⟨gb212, _, none⟩) NB202_212.out _).trans (hHeld.1)))))))), ((cell_far (p := ⟨gb212, _, none⟩) NB202_212.out _).trans (((cell_far (p := ⟨gb212, _, none⟩) NB202_212.out _).trans (((cell_far (p := ⟨gb212, _, none⟩) NB202_212.out _).trans (((cell_far (p := ⟨gb212, _, none⟩) NB202_212.out _).trans (hHeld.2.1)))))))), ((cell_far (p := ⟨gb212, _, none⟩) NB202_212.out _).trans (((cell_far (p := ⟨gb212, _, none⟩) NB202_212.out _).trans (((cell_far (p := ⟨gb212, _, none⟩) NB202_212.out _).trans (((cell_far (p := ⟨gb212, _, none⟩) NB202_212.out _).trans (hHeld.2.2.1)))))))), ((cell_far (p := ⟨gb212, _, none⟩) NB202_212.out _).trans (((cell_far (p := ⟨gb212, _, none⟩) NB202_212.out _).trans (((cell_far (p := ⟨gb212, _, none⟩) NB202_212.out _).trans (((cell_far (p := ⟨gb212, _, none⟩) NB202_212.out _).trans (hHeld.2.2.2.1)))))))), ((cell_far (p := ⟨gb212, _, none⟩) (by first | exact Nat.ne_of_lt (Nat.lt_of_lt_of_le (by have := World.block_lt_of_cell? _ _ hw208_0; first | rwa [add_block] at this | exact this) GW212.out) | (rw [add_block]; exact Nat.ne_of_lt (Nat.lt_of_lt_of_le (by have := World.block_lt_of_cell? _ _ hw208_0; first | rwa [add_block] at this | exact this) GW212.out)) | (show (Addr.add _ _).block ≠ _; rw [add_block]; exact Nat.ne_of_lt (Nat.lt_of_lt_of_le (by have := World.block_lt_of_cell? _ _ hw208_0; first | rwa [add_block] at this | exact this) GW212.out)) | (dsimp only; exact Nat.ne_of_lt (Nat.lt_of_lt_of_le (by have := World.block_lt_of_cell? _ _ hw208_0; first | rwa [add_block] at this | exact this) GW212.out))) _).trans (((cell_far (p := ⟨gb212, _, none⟩) (by first | exact Nat.ne_of_lt (Nat.lt_of_lt_of_le (by have := World.block_lt_of_cell? _ _ hw208_0; first | rwa [add_block] at this | exact this) GW212.out) | (rw [add_block]; exact Nat.ne_of_lt (Nat.lt_of_lt_of_le (by have := World.block_lt_of_cell? _ _ hw208_0; first | rwa [add_block] at this | exact this) GW212.out)) | (show (Addr.add _ _).block ≠ _; rw [add_block]; exact Nat.ne_of_lt (Nat.lt_of_lt_of_le (by have := World.block_lt_of_cell? _ _ hw208_0; first | rwa [add_block] at this | exact this) GW212.out)) | (dsimp only; exact Nat.ne_of_lt (Nat.lt_of_lt_of_le (by have := World.block_lt_of_cell? _ _ hw208_0; first | rwa [add_block] at this | exact this) GW212.out))) _).trans (((cell_far (p := ⟨gb212, _, none⟩) (by first | exact Nat.ne_of_lt (Nat.lt_of_lt_of_le (by have := World.block_lt_of_cell? _ _ hw208_0; first | rwa [add_block] at this | exact this) GW212.out) | (rw [add_block]; exact Nat.ne_of_lt (Nat.lt_of_lt_of_le (by have := World.block_lt_of_cell? _ _ hw208_0; first | rwa [add_block] at this | exact this) GW212.out)) | (show (Addr.add _ _).block ≠ _; rw [add_block]; exact Nat.ne_of_lt (Nat.lt_of_lt_of_le (by have := World.block_lt_of_cell? _ _ hw208_0; first | rwa [add_block] at this | exact this) GW212.out)) | (dsimp only; exact Nat.ne_of_lt (Nat.lt_of_lt_of_le (by have := World.block_lt_of_cell? _ _ hw208_0; first | rwa [add_block] at this | exact this) GW212.out))) _).trans (((cell_far (p := ⟨gb212, _, none⟩) (by first | exact Nat.ne_of_lt (Nat.lt_of_lt_of_le (by have := World.block_lt_of_cell? _ _ hw208_0; first | rwa [add_block] at this | exact this) GW212.out) | (rw [add_block]; exact Nat.ne_of_lt (Nat.lt_of_lt_of_le (by have := World.block_lt_of_cell? _ _ hw208_0; first | rwa [add_block] at this | exact this) GW212.out)) | (show (Addr.add _ _).block ≠ _; rw [add_block]; exact Nat.ne_of_lt (Nat.lt_of_lt_of_le (by have := World.block_lt_of_cell? _ _ hw208_0; first | rwa [add_block] at this | exact this) GW212.out)) | (dsimp only; exact Nat.ne_of_lt (Nat.lt_of_lt_of_le (by have := World.block_lt_of_cell? _ _ hw208_0; first | rwa [add_block] at this | exact this) GW212.out))) _).trans (hHeld.2.2.2.2.1)))))))), ((cell_far (p := ⟨gb212, _, none⟩) (by first | exact Nat.ne_of_lt (Nat.lt_of_lt_of_le (by have := World.block_lt_of_cell? _ _ hw208_1; first | rwa [add_block] at this | exact this) GW212.out) | (rw [add_block]; exact Nat.ne_of_lt (Nat.lt_of_lt_of_le (by have := World.block_lt_of_cell? _ _ hw208_1; first | rwa [add_block] at this | exact this) GW212.out)) | (show (Addr.add _ _).block ≠ _; rw [add_block]; exact Nat.ne_of_lt (Nat.lt_of_lt_of_le (by have := World.block_lt_of_cell? _ _ hw208_1; first | rwa [add_block] at this | exact this) GW212.out)) | (dsimp only; exact Nat.ne_of_lt (Nat.lt_of_lt_of_le (by have := World.block_lt_of_cell? _ _ hw208_1; first | rwa [add_block] at this | exact this) GW212.out))) _).trans (((cell_far (p := ⟨gb212, _, none⟩) (by first | exact Nat.ne_of_lt (Nat.lt_of_lt_of_le (by have := World.block_lt_of_cell? _ _ hw208_1; first | rwa [add_block] at this | exact this) GW212.out) | (rw [add_block]; exact Nat.ne_of_lt (Nat.lt_of_lt_of_le (by have := World.block_lt_of_cell? _ _ hw208_1; first | rwa [add_block] at this | exact this) GW212.out)) | (show (Addr.add _ _).block ≠ _; rw [add_block]; exact Nat.ne_of_lt (Nat.lt_of_lt_of_le (by have := World.block_lt_of_cell? _ _ hw208_1; first | rwa [add_block] at this | exact this) GW212.out)) | (dsimp only; exact Nat.ne_of_lt (Nat.lt_of_lt_of_le (by have := World.block_lt_of_cell? _ _ hw208_1; first | rwa [add_block] at this | exact this) GW212.out))) _).trans (((cell_far (p := ⟨gb212, _, none⟩) (by first | exact Nat.ne_of_lt (Nat.lt_of_lt_of_le (by have := World.block_lt_of_cell? _ _ hw208_1; first | rwa [add_block] at this | exact this) GW212.out) | (rw [add_block]; exact Nat.ne_of_lt (Nat.lt_of_lt_of_le (by have := World.block_lt_of_cell? _ _ hw208_1; first | rwa [add_block] at this | exact this) GW212.out)) | (show (Addr.add _ _).block ≠ _; rw [add_block]; exact Nat.ne_of_lt (Nat.lt_of_lt_of_le (by have := World.block_lt_of_cell? _ _ hw208_1; first | rwa [add_block] at this | exact this) GW212.out)) | (dsimp only; exact Nat.ne_of_lt (Nat.lt_of_lt_of_le (by have := World.block_lt_of_cell? _ _ hw208_1; first | rwa [add_block] at this | exact this) GW212.out))) _).trans (((cell_far (p := ⟨gb212, _, none⟩) (by first | exact Nat.ne_of_lt (Nat.lt_of_lt_of_le (by have := World.block_lt_of_cell? _ _ hw208_1; first | rwa [add_block] at this | exact this) GW212.out) | (rw [add_block]; exact Nat.ne_of_lt (Nat.lt_of_lt_of_le (by have := World.block_lt_of_cell? _ _ hw208_1; first | rwa [add_block] at this | exact this) GW212.out)) | (show (Addr.add _ _).block ≠ _; rw [add_block]; exact Nat.ne_of_lt (Nat.lt_of_lt_of_le (by have := World.block_lt_of_cell? _ _ hw208_1; first | rwa [add_block] at this | exact this) GW212.out)) | (dsimp only; exact Nat.ne_of_lt (Nat.lt_of_lt_of_le (by have := World.block_lt_of_cell? _ _ hw208_1; first | rwa [add_block] at this | exact this) GW212.out))) _).trans (hHeld.2.2.2.2.2.1)))))))), ((cell_far (p := ⟨gb212, _, none⟩) (by first | exact Nat.ne_of_lt (Nat.lt_of_lt_of_le (by have := World.block_lt_of_cell? _ _ hw208_2; first | rwa [add_block] at this | exact this) GW212.out) | (rw [add_block]; exact Nat.ne_of_lt (Nat.lt_of_lt_of_le (by have := World.block_lt_of_cell? _ _ hw208_2; first | rwa [add_block] at this | exact this) GW212.out)) | (show (Addr.add _ _).block ≠ _; rw [add_block]; exact Nat.ne_of_lt (Nat.lt_of_lt_of_le (by have := World.block_lt_of_cell? _ _ hw208_2; first | rwa [add_block] at this | exact this) GW212.out)) | (dsimp only; exact Nat.ne_of_lt (Nat.lt_of_lt_of_le (by have := World.block_lt_of_cell? _ _ hw208_2; first | rwa [add_block] at this | exact this) GW212.out))) _).trans (((cell_far (p := ⟨gb212, _, none⟩) (by first | exact Nat.ne_of_lt (Nat.lt_of_lt_of_le (by have := World.block_lt_of_cell? _ _ hw208_2; first | rwa [add_block] at this | exact this) GW212.out) | (rw [add_block]; exact Nat.ne_of_lt (Nat.lt_of_lt_of_le (by have := World.block_lt_of_cell? _ _ hw208_2; first | rwa [add_block] at this | exact this) GW212.out)) | (show (Addr.add _ _).block ≠ _; rw [add_block]; exact Nat.ne_of_lt (Nat.lt_of_lt_of_le (by have := World.block_lt_of_cell? _ _ hw208_2; first | rwa [add_block] at this | exact this) GW212.out)) | (dsimp only; exact Nat.ne_of_lt (Nat.lt_of_lt_of_le (by have := World.block_lt_of_cell? _ _ hw208_2; first | rwa [add_block] at this | exact this) GW212.out))) _).trans (((cell_far (p := ⟨gb212, _, none⟩) (by first | exact Nat.ne_of_lt (Nat.lt_of_lt_of_le (by have := World.block_lt_of_cell? _ _ hw208_2; first | rwa [add_block] at this | exact this) GW212.out) | (rw [add_block]; exact Nat.ne_of_lt (Nat.lt_of_lt_of_le (by have := World.block_lt_of_cell? _ _ hw208_2; first | rwa [add_block] at this | exact this) GW212.out)) | (show (Addr.add _ _).block ≠ _; rw [add_block]; exact Nat.ne_of_lt (Nat.lt_of_lt_of_le (by have := World.block_lt_of_cell? _ _ hw208_2; first | rwa [add_block] at this | exact this) GW212.out)) | (dsimp only; exact Nat.ne_of_lt (Nat.lt_of_lt_of_le (by have := World.block_lt_of_cell? _ _ hw208_2; first | rwa [add_block] at this | exact this) GW212.out))) _).trans (((cell_far (p := ⟨gb212, _, none⟩) (by first | exact Nat.ne_of_lt (Nat.lt_of_lt_of_le (by have := World.block_lt_of_cell? _ _ hw208_2; first | rwa [add_block] at this | exact this) GW212.out) | (rw [add_block]; exact Nat.ne_of_lt (Nat.lt_of_lt_of_le (by have := World.block_lt_of_cell? _ _ hw208_2; first | rwa [add_block] at this | exact this) GW212.out)) | (show (Addr.add _ _).block ≠ _; rw [add_block]; exact Nat.ne_of_lt (Nat.lt_of_lt_of_le (by have := World.block_lt_of_cell? _ _ hw208_2; first | rwa [add_block] at this | exact this) GW212.out)) | (dsimp only; exact Nat.ne_of_lt (Nat.lt_of_lt_of_le (by have := World.block_lt_of_cell? _ _ hw208_2; first | rwa [add_block] at this | exact this) GW212.out))) _).trans (hHeld.2.2.2.2.2.2.1)))))))), ((cell_far (p := ⟨gb212, _, none⟩) (by first | exact Nat.ne_of_lt (Nat.lt_of_lt_of_le (by have := World.block_lt_of_cell? _ _ hw208_3; first | rwa [add_block] at this | exact this) GW212.out) | (rw [add_block]; exact Nat.ne_of_lt (Nat.lt_of_lt_of_le (by have := World.block_lt_of_cell? _ _ hw208_3; first | rwa [add_block] at this | exact this) GW212.out)) | (show (Addr.add _ _).block ≠ _; rw [add_block]; exact Nat.ne_of_lt (Nat.lt_of_lt_of_le (by have := World.block_lt_of_cell? _ _ hw208_3; first | rwa [add_block] at this | exact this) GW212.out)) | (dsimp only; exact Nat.ne_of_lt (Nat.lt_of_lt_of_le (by have := World.block_lt_of_cell? _ _ hw208_3; first | rwa [add_block] at this | exact this) GW212.out))) _).trans (((cell_far (p := ⟨gb212, _, none⟩) (by first | exact Nat.ne_of_lt (Nat.lt_of_lt_of_le (by have := World.block_lt_of_cell? _ _ hw208_3; first | rwa [add_block] at this | exact this) GW212.out) | (rw [add_block]; exact Nat.ne_of_lt (Nat.lt_of_lt_of_le (by have := World.block_lt_of_cell? _ _ hw208_3; first | rwa [add_block] at this | exact this) GW212.out)) | (show (Addr.add _ _).block ≠ _; rw [add_block]; exact Nat.ne_of_lt (Nat.lt_of_lt_of_le (by have := World.block_lt_of_cell? _ _ hw208_3; first | rwa [add_block] at this | exact this) GW212.out)) | (dsimp only; exact Nat.ne_of_lt (Nat.lt_of_lt_of_le (by have := World.block_lt_of_cell? _ _ hw208_3; first | rwa [add_block] at this | exact this) GW212.out))) _).trans (((cell_far (p := ⟨gb212, _, none⟩) (by first | exact Nat.ne_of_lt (Nat.lt_of_lt_of_le (by have := World.block_lt_of_cell? _ _ hw208_3; first | rwa [add_block] at this | exact this) GW212.out) | (rw [add_block]; exact Nat.ne_of_lt (Nat.lt_of_lt_of_le (by have := World.block_lt_of_cell? _ _ hw208_3; first | rwa [add_block] at this | exact this) GW212.out)) | (show (Addr.add _ _).block ≠ _; rw [add_block]; exact Nat.ne_of_lt (Nat.lt_of_lt_of_le (by have := World.block_lt_of_cell? _ _ hw208_3; first | rwa [add_block] at this | exact this) GW212.out)) | (dsimp only; exact Nat.ne_of_lt (Nat.lt_of_lt_of_le (by have := World.block_lt_of_cell? _ _ hw208_3; first | rwa [add_block] at this | exact this) GW212.out))) _).trans (((cell_far (p := ⟨gb212, _, none⟩) (by first | exact Nat.ne_of_lt (Nat.lt_of_lt_of_le (by have := World.block_lt_of_cell? _ _ hw208_3; first | rwa [add_block] at this | exact this) GW212.out) | (rw [add_block]; exact Nat.ne_of_lt (Nat.lt_of_lt_of_le (by have := World.block_lt_of_cell? _ _ hw208_3; first | rwa [add_block] at this | exact this) GW212.out)) | (show (Addr.add _ _).block ≠ _; rw [add_block]; exact Nat.ne_of_lt (Nat.lt_of_lt_of_le (by have := World.block_lt_of_cell? _ _ hw208_3; first | rwa [add_block] at this | exact this) GW212.out)) | (dsimp only; exact Nat.ne_of_lt (Nat.lt_of_lt_of_le (by have := World.block_lt_of_cell? _ _ hw208_3; first | rwa [add_block] at this | exact this) GW212.out))) _).trans (hHeld.2.2.2.2.2.2.2.1)))))))), ((cell_far (p := ⟨gb212, _, none⟩) (by first | exact Nat.ne_of_lt (Nat.lt_of_lt_of_le (by have := World.block_lt_of_cell? _ _ hw209_0; first | rwa [add_block] at this | exact this) GW212.out) | (rw [add_block]; exact Nat.ne_of_lt (Nat.lt_of_lt_of_le (by have := World.block_lt_of_cell? _ _ hw209_0; first | rwa [add_block] at this | exact this) GW212.out)) | (show (Addr.add _ _).block ≠ _; rw [add_block]; exact Nat.ne_of_lt (Nat.lt_of_lt_of_le (by have := World.block_lt_of_cell? _ _ hw209_0; first | rwa [add_block] at this | exact this) GW212.out)) | (dsimp only; exact Nat.ne_of_lt (Nat.lt_of_lt_of_le (by have := World.block_lt_of_cell? _ _ hw209_0; first | rwa [add_block] at this | exact this) GW212.out))) _).trans (((cell_far (p := ⟨gb212, _, none⟩) (by first | exact Nat.ne_of_lt (Nat.lt_of_lt_of_le (by have := World.block_lt_of_cell? _ _ hw209_0; first | rwa [add_block] at this | exact this) GW212.out) | (rw [add_block]; exact Nat.ne_of_lt (Nat.lt_of_lt_of_le (by have := World.block_lt_of_cell? _ _ hw209_0; first | rwa [add_block] at this | exact this) GW212.out)) | (show (Addr.add _ _).block ≠ _; rw [add_block]; exact Nat.ne_of_lt (Nat.lt_of_lt_of_le (by have := World.block_lt_of_cell? _ _ hw209_0; first | rwa [add_block] at this | exact this) GW212.out)) | (dsimp only; exact Nat.ne_of_lt (Nat.lt_of_lt_of_le (by have := World.block_lt_of_cell? _ _ hw209_0; first | rwa [add_block] at this | exact this) GW212.out))) _).trans (((cell_far (p := ⟨gb212, _, none⟩) (by first | exact Nat.ne_of_lt (Nat.lt_of_lt_of_le (by have := World.block_lt_of_cell? _ _ hw209_0; first | rwa [add_block] at this | exact this) GW212.out) | (rw [add_block]; exact Nat.ne_of_lt (Nat.lt_of_lt_of_le (by have := World.block_lt_of_cell? _ _ hw209_0; first | rwa [add_block] at this | exact this) GW212.out)) | (show (Addr.add _ _).block ≠ _; rw [add_block]; exact Nat.ne_of_lt (Nat.lt_of_lt_of_le (by have := World.block_lt_of_cell? _ _ hw209_0; first | rwa [add_block] at this | exact this) GW212.out)) | (dsimp only; exact Nat.ne_of_lt (Nat.lt_of_lt_of_le (by have := World.block_lt_of_cell? _ _ hw209_0; first | rwa [add_block] at this | exact this) GW212.out))) _).trans (((cell_far (p := ⟨gb212, _, none⟩) (by first | exact Nat.ne_of_lt (Nat.lt_of_lt_of_le (by have := World.block_lt_of_cell? _ _ hw209_0; first | rwa [add_block] at this | exact this) GW212.out) | (rw [add_block]; exact Nat.ne_of_lt (Nat.lt_of_lt_of_le (by have := World.block_lt_of_cell? _ _ hw209_0; first | rwa [add_block] at this | exact this) GW212.out)) | (show (Addr.add _ _).block ≠ _; rw [add_block]; exact Nat.ne_of_lt (Nat.lt_of_lt_of_le (by have := World.block_lt_of_cell? _ _ hw209_0; first | rwa [add_block] at this | exact this) GW212.out)) | (dsimp only; exact Nat.ne_of_lt (Nat.lt_of_lt_of_le (by have := World.block_lt_of_cell? _ _ hw209_0; first | rwa [add_block] at this | exact this) GW212.out))) _).trans (hHeld.2.2.2.2.2.2.2.2.1)))))))), ((cell_far (p := ⟨gb212, _, none⟩) (by first | exact Nat.ne_of_lt (Nat.lt_of_lt_of_le (by have := World.block_lt_of_cell? _ _ hw209_1; first | rwa [add_block] at this | exact this) GW212.out) | (rw [add_block]; exact Nat.ne_of_lt (Nat.lt_of_lt_of_le (by have := World.block_lt_of_cell? _ _ hw209_1; first | rwa [add_block] at this | exact this) GW212.out)) | (show (Addr.add _ _).block ≠ _; rw [add_block]; exact Nat.ne_of_lt (Nat.lt_of_lt_of_le (by have := World.block_lt_of_cell? _ _ hw209_1; first | rwa [add_block] at this | exact this) GW212.out)) | (dsimp only; exact Nat.ne_of_lt (Nat.lt_of_lt_of_le (by have := World.block_lt_of_cell? _ _ hw209_1; first | rwa [add_block] at this | exact this) GW212.out))) _).trans (((cell_far (p := ⟨gb212, _, none⟩) (by first | exact Nat.ne_of_lt (Nat.lt_of_lt_of_le (by have := World.block_lt_of_cell? _ _ hw209_1; first | rwa [add_block] at this | exact this) GW212.out) | (rw [add_block]; exact Nat.ne_of_lt (Nat.lt_of_lt_of_le (by have := World.block_lt_of_cell? _ _ hw209_1; first | rwa [add_block] at this | exact this) GW212.out)) | (show (Addr.add _ _).block ≠ _; rw [add_block]; exact Nat.ne_of_lt (Nat.lt_of_lt_of_le (by have := World.block_lt_of_cell? _ _ hw209_1; first | rwa [add_block] at this | exact this) GW212.out)) | (dsimp only; exact Nat.ne_of_lt (Nat.lt_of_lt_of_le (by have := World.block_lt_of_cell? _ _ hw209_1; first | rwa [add_block] at this | exact this) GW212.out))) _).trans (((cell_far (p := ⟨gb212, _, none⟩) (by first | exact Nat.ne_of_lt (Nat.lt_of_lt_of_le (by have := World.block_lt_of_cell? _ _ hw209_1; first | rwa [add_block] at this | exact this) GW212.out) | (rw [add_block]; exact Nat.ne_of_lt (Nat.lt_of_lt_of_le (by have := World.block_lt_of_cell? _ _ hw209_1; first | rwa [add_block] at this | exact this) GW212.out)) | (show (Addr.add _ _).block ≠ _; rw [add_block]; exact Nat.ne_of_lt (Nat.lt_of_lt_of_le (by have := World.block_lt_of_cell? _ _ hw209_1; first | rwa [add_block] at this | exact this) GW212.out)) | (dsimp only; exact Nat.ne_of_lt (Nat.lt_of_lt_of_le (by have := World.block_lt_of_cell? _ _ hw209_1; first | rwa [add_block] at this | exact this) GW212.out))) _).trans (((cell_far (p := ⟨gb212, _, none⟩) (by first | exact Nat.ne_of_lt (Nat.lt_of_lt_of_le (by have := World.block_lt_of_cell? _ _ hw209_1; first | rwa [add_block] at this | exact this) GW212.out) | (rw [add_block]; exact Nat.ne_of_lt (Nat.lt_of_lt_of_le (by have := World.block_lt_of_cell? _ _ hw209_1; first | rwa [add_block] at this | exact this) GW212.out)) | (show (Addr.add _ _).block ≠ _; rw [add_block]; exact Nat.ne_of_lt (Nat.lt_of_lt_of_le (by have := World.block_lt_of_cell? _ _ hw209_1; first | rwa [add_block] at this | exact this) GW212.out)) | (dsimp only; exact Nat.ne_of_lt (Nat.lt_of_lt_of_le (by have := World.block_lt_of_cell? _ _ hw209_1; first | rwa [add_block] at this | exact this) GW212.out))) _).trans (hHeld.2.2.2.2.2.2.2.2.2.1)))))))), ((cell_far (p := ⟨gb212, _, none⟩) (by first | exact Nat.ne_of_lt (Nat.lt_of_lt_of_le (by have := World.block_lt_of_cell? _ _ hw209_2; first | rwa [add_block] at this | exact this) GW212.out) | (rw [add_block]; exact Nat.ne_of_lt (Nat.lt_of_lt_of_le (by have := World.block_lt_of_cell? _ _ hw209_2; first | rwa [add_block] at this | exact this) GW212.out)) | (show (Addr.add _ _).block ≠ _; rw [add_block]; exact Nat.ne_of_lt (Nat.lt_of_lt_of_le (by have := World.block_lt_of_cell? _ _ hw209_2; first | rwa [add_block] at this | exact this) GW212.out)) | (dsimp only; exact Nat.ne_of_lt (Nat.lt_of_lt_of_le (by have := World.block_lt_of_cell? _ _ hw209_2; first | rwa [add_block] at this | exact this) GW212.out))) _).trans (((cell_far (p := ⟨gb212, _, none⟩) (by first | exact Nat.ne_of_lt (Nat.lt_of_lt_of_le (by have := World.block_lt_of_cell? _ _ hw209_2; first | rwa [add_block] at this | exact this) GW212.out) | (rw [add_block]; exact Nat.ne_of_lt (Nat.lt_of_lt_of_le (by have := World.block_lt_of_cell? _ _ hw209_2; first | rwa [add_block] at this | exact this) GW212.out)) | (show (Addr.add _ _).block ≠ _; rw [add_block]; exact Nat.ne_of_lt (Nat.lt_of_lt_of_le (by have := World.block_lt_of_cell? _ _ hw209_2; first | rwa [add_block] at this | exact this) GW212.out)) | (dsimp only; exact Nat.ne_of_lt (Nat.lt_of_lt_of_le (by have := World.block_lt_of_cell? _ _ hw209_2; first | rwa [add_block] at this | exact this) GW212.out))) _).trans (((cell_far (p := ⟨gb212, _, none⟩) (by first | exact Nat.ne_of_lt (Nat.lt_of_lt_of_le (by have := World.block_lt_of_cell? _ _ hw209_2; first | rwa [add_block] at this | exact this) GW212.out) | (rw [add_block]; exact Nat.ne_of_lt (Nat.lt_of_lt_of_le (by have := World.block_lt_of_cell? _ _ hw209_2; first | rwa [add_block] at this | exact this) GW212.out)) | (show (Addr.add _ _).block ≠ _; rw [add_block]; exact Nat.ne_of_lt (Nat.lt_of_lt_of_le (by have := World.block_lt_of_cell? _ _ hw209_2; first | rwa [add_block] at this | exact this) GW212.out)) | (dsimp only; exact Nat.ne_of_lt (Nat.lt_of_lt_of_le (by have := World.block_lt_of_cell? _ _ hw209_2; first | rwa [add_block] at this | exact this) GW212.out))) _).trans (((cell_far (p := ⟨gb212, _, none⟩) (by first | exact Nat.ne_of_lt (Nat.lt_of_lt_of_le (by have := World.block_lt_of_cell? _ _ hw209_2; first | rwa [add_block] at this | exact this) GW212.out) | (rw [add_block]; exact Nat.ne_of_lt (Nat.lt_of_lt_of_le (by have := World.block_lt_of_cell? _ _ hw209_2; first | rwa [add_block] at this | exact this) GW212.out)) | (show (Addr.add _ _).block ≠ _; rw [add_block]; exact Nat.ne_of_lt (Nat.lt_of_lt_of_le (by have := World.block_lt_of_cell? _ _ hw209_2; first | rwa [add_block] at this | exact this) GW212.out)) | (dsimp only; exact Nat.ne_of_lt (Nat.lt_of_lt_of_le (by have := World.block_lt_of_cell? _ _ hw209_2; first | rwa [add_block] at this | exact this) GW212.out))) _).trans (hHeld.2.2.2.2.2.2.2.2.2.2.1)))))))), ((cell_far (p := ⟨gb212, _, none⟩) (by first | exact Nat.ne_of_lt (Nat.lt_of_lt_of_le (by have := World.block_lt_of_cell? _ _ hw209_3; first | rwa [add_block] at this | exact this) GW212.out) | (rw [add_block]; exact Nat.ne_of_lt (Nat.lt_of_lt_of_le (by have := World.block_lt_of_cell? _ _ hw209_3; first | rwa [add_block] at this | exact this) GW212.out)) | (show (Addr.add _ _).block ≠ _; rw [add_block]; exact Nat.ne_of_lt (Nat.lt_of_lt_of_le (by have := World.block_lt_of_cell? _ _ hw209_3; first | rwa [add_block] at this | exact this) GW212.out)) | (dsimp only; exact Nat.ne_of_lt (Nat.lt_of_lt_of_le (by have := World.block_lt_of_cell? _ _ hw209_3; first | rwa [add_block] at this | exact this) GW212.out))) _).trans (((cell_far (p := ⟨gb212, _, none⟩) (by first | exact Nat.ne_of_lt (Nat.lt_of_lt_of_le (by have := World.block_lt_of_cell? _ _ hw209_3; first | rwa [add_block] at this | exact this) GW212.out) | (rw [add_block]; exact Nat.ne_of_lt (Nat.lt_of_lt_of_le (by have := World.block_lt_of_cell? _ _ hw209_3; first | rwa [add_block] at this | exact this) GW212.out)) | (show (Addr.add _ _).block ≠ _; rw [add_block]; exact Nat.ne_of_lt (Nat.lt_of_lt_of_le (by have := World.block_lt_of_cell? _ _ hw209_3; first | rwa [add_block] at this | exact this) GW212.out)) | (dsimp only; exact Nat.ne_of_lt (Nat.lt_of_lt_of_le (by have := World.block_lt_of_cell? _ _ hw209_3; first | rwa [add_block] at this | exact this) GW212.out))) _).trans (((cell_far (p := ⟨gb212, _, none⟩) (by first | exact Nat.ne_of_lt (Nat.lt_of_lt_of_le (by have := World.block_lt_of_cell? _ _ hw209_3; first | rwa [add_block] at this | exact this) GW212.out) | (rw [add_block]; exact Nat.ne_of_lt (Nat.lt_of_lt_of_le (by have := World.block_lt_of_cell? _ _ hw209_3; first | rwa [add_block] at this | exact this) GW212.out)) | (show (Addr.add _ _).block ≠ _; rw [add_block]; exact Nat.ne_of_lt (Nat.lt_of_lt_of_le (by have := World.block_lt_of_cell? _ _ hw209_3; first | rwa [add_block] at this | exact this) GW212.out)) | (dsimp only; exact Nat.ne_of_lt (Nat.lt_of_lt_of_le (by have := World.block_lt_of_cell? _ _ hw209_3; first | rwa [add_block] at this | exact this) GW212.out))) _).trans (((cell_far (p := ⟨gb212, _, none⟩) (by first | exact Nat.ne_of_lt (Nat.lt_of_lt_of_le (by have := World.block_lt_of_cell? _ _ hw209_3; first | rwa [add_block] at this | exact this) GW212.out) | (rw [add_block]; exact Nat.ne_of_lt (Nat.lt_of_lt_of_le (by have := World.block_lt_of_cell? _ _ hw209_3; first | rwa [add_block] at this | exact this) GW212.out)) | (show (Addr.add _ _).block ≠ _; rw [add_block]; exact Nat.ne_of_lt (Nat.lt_of_lt_of_le (by have := World.block_lt_of_cell? _ _ hw209_3; first | rwa [add_block] at this | exact this) GW212.out)) | (dsimp only; exact Nat.ne_of_lt (Nat.lt_of_lt_of_le (by have := World.block_lt_of_cell? _ _ hw209_3; first | rwa [add_block] at this | exact this) GW212.out))) _).trans (hHeld.2.2.2.2.2.2.2.2.2.2.2.1)))))))), ((cell_far (p := ⟨gb212, _, none⟩) (by first | exact Nat.ne_of_lt (Nat.lt_of_lt_of_le (by have := World.block_lt_of_cell? _ _ hw210_0; first | rwa [add_block] at this | exact this) GW212.out) | (rw [add_block]; exact Nat.ne_of_lt (Nat.lt_of_lt_of_le (by have := World.block_lt_of_cell? _ _ hw210_0; first | rwa [add_block] at this | exact this) GW212.out)) | (show (Addr.add _ _).block ≠ _; rw [add_block]; exact Nat.ne_of_lt (Nat.lt_of_lt_of_le (by have := World.block_lt_of_cell? _ _ hw210_0; first | rwa [add_block] at this | exact this) GW212.out)) | (dsimp only; exact Nat.ne_of_lt (Nat.lt_of_lt_of_le (by have := World.block_lt_of_cell? _ _ hw210_0; first | rwa [add_block] at this | exact this) GW212.out))) _).trans (((cell_far (p := ⟨gb212, _, none⟩) (by first | exact Nat.ne_of_lt (Nat.lt_of_lt_of_le (by have := World.block_lt_of_cell? _ _ hw210_0; first | rwa [add_block] at this | exact this) GW212.out) | (rw [add_block]; exact Nat.ne_of_lt (Nat.lt_of_lt_of_le (by have := World.block_lt_of_cell? _ _ hw210_0; first | rwa [add_block] at this | exact this) GW212.out)) | (show (Addr.add _ _).block ≠ _; rw [add_block]; exact Nat.ne_of_lt (Nat.lt_of_lt_of_le (by have := World.block_lt_of_cell? _ _ hw210_0; first | rwa [add_block] at this | exact this) GW212.out)) | (dsimp only; exact Nat.ne_of_lt (Nat.lt_of_lt_of_le (by have := World.block_lt_of_cell? _ _ hw210_0; first | rwa [add_block] at this | exact this) GW212.out))) _).trans (((cell_far (p := ⟨gb212, _, none⟩) (by first | exact Nat.ne_of_lt (Nat.lt_of_lt_of_le (by have := World.block_lt_of_cell? _ _ hw210_0; first | rwa [add_block] at this | exact this) GW212.out) | (rw [add_block]; exact Nat.ne_of_lt (Nat.lt_of_lt_of_le (by have := World.block_lt_of_cell? _ _ hw210_0; first | rwa [add_block] at this | exact this) GW212.out)) | (show (Addr.add _ _).block ≠ _; rw [add_block]; exact Nat.ne_of_lt (Nat.lt_of_lt_of_le (by have := World.block_lt_of_cell? _ _ hw210_0; first | rwa [add_block] at this | exact this) GW212.out)) | (dsimp only; exact Nat.ne_of_lt (Nat.lt_of_lt_of_le (by have := World.block_lt_of_cell? _ _ hw210_0; first | rwa [add_block] at this | exact this) GW212.out))) _).trans (((cell_far (p := ⟨gb212, _, none⟩) (by first | exact Nat.ne_of_lt (Nat.lt_of_lt_of_le (by have := World.block_lt_of_cell? _ _ hw210_0; first | rwa [add_block] at this | exact this) GW212.out) | (rw [add_block]; exact Nat.ne_of_lt (Nat.lt_of_lt_of_le (by have := World.block_lt_of_cell? _ _ hw210_0; first | rwa [add_block] at this | exact this) GW212.out)) | (show (Addr.add _ _).block ≠ _; rw [add_block]; exact Nat.ne_of_lt (Nat.lt_of_lt_of_le (by have := World.block_lt_of_cell? _ _ hw210_0; first | rwa [add_block] at this | exact this) GW212.out)) | (dsimp only; exact Nat.ne_of_lt (Nat.lt_of_lt_of_le (by have := World.block_lt_of_cell? _ _ hw210_0; first | rwa [add_block] at this | exact this) GW212.out))) _).trans (hHeld.2.2.2.2.2.2.2.2.2.2.2.2.1)))))))), ((cell_far (p := ⟨gb212, _, none⟩) (by first | exact Nat.ne_of_lt (Nat.lt_of_lt_of_le (by have := World.block_lt_of_cell? _ _ hw210_1; first | rwa [add_block] at this | exact this) GW212.out) | (rw [add_block]; exact Nat.ne_of_lt (Nat.lt_of_lt_of_le (by have := World.block_lt_of_cell? _ _ hw210_1; first | rwa [add_block] at this | exact this) GW212.out)) | (show (Addr.add _ _).block ≠ _; rw [add_block]; exact Nat.ne_of_lt (Nat.lt_of_lt_of_le (by have := World.block_lt_of_cell? _ _ hw210_1; first | rwa [add_block] at this | exact this) GW212.out)) | (dsimp only; exact Nat.ne_of_lt (Nat.lt_of_lt_of_le (by have := World.block_lt_of_cell? _ _ hw210_1; first | rwa [add_block] at this | exact this) GW212.out))) _).trans (((cell_far (p := ⟨gb212, _, none⟩) (by first | exact Nat.ne_of_lt (Nat.lt_of_lt_of_le (by have := World.block_lt_of_cell? _ _ hw210_1; first | rwa [add_block] at this | exact this) GW212.out) | (rw [add_block]; exact Nat.ne_of_lt (Nat.lt_of_lt_of_le (by have := World.block_lt_of_cell? _ _ hw210_1; first | rwa [add_block] at this | exact this) GW212.out)) | (show (Addr.add _ _).block ≠ _; rw [add_block]; exact Nat.ne_of_lt (Nat.lt_of_lt_of_le (by have := World.block_lt_of_cell? _ _ hw210_1; first | rwa [add_block] at this | exact this) GW212.out)) | (dsimp only; exact Nat.ne_of_lt (Nat.lt_of_lt_of_le (by have := World.block_lt_of_cell? _ _ hw210_1; first | rwa [add_block] at this | exact this) GW212.out))) _).trans (((cell_far (p := ⟨gb212, _, none⟩) (by first | exact Nat.ne_of_lt (Nat.lt_of_lt_of_le (by have := World.block_lt_of_cell? _ _ hw210_1; first | rwa [add_block] at this | exact this) GW212.out) | (rw [add_block]; exact Nat.ne_of_lt (Nat.lt_of_lt_of_le (by have := World.block_lt_of_cell? _ _ hw210_1; first | rwa [add_block] at this | exact this) GW212.out)) | (show (Addr.add _ _).block ≠ _; rw [add_block]; exact Nat.ne_of_lt (Nat.lt_of_lt_of_le (by have := World.block_lt_of_cell? _ _ hw210_1; first | rwa [add_block] at this | exact this) GW212.out)) | (dsimp only; exact Nat.ne_of_lt (Nat.lt_of_lt_of_le (by have := World.block_lt_of_cell? _ _ hw210_1; first | rwa [add_block] at this | exact this) GW212.out))) _).trans (((cell_far (p := ⟨gb212, _, none⟩) (by first | exact Nat.ne_of_lt (Nat.lt_of_lt_of_le (by have := World.block_lt_of_cell? _ _ hw210_1; first | rwa [add_block] at this | exact this) GW212.out) | (rw [add_block]; exact Nat.ne_of_lt (Nat.lt_of_lt_of_le (by have := World.block_lt_of_cell? _ _ hw210_1; first | rwa [add_block] at this | exact this) GW212.out)) | (show (Addr.add _ _).block ≠ _; rw [add_block]; exact Nat.ne_of_lt (Nat.lt_of_lt_of_le (by have := World.block_lt_of_cell? _ _ hw210_1; first | rwa [add_block] at this | exact this) GW212.out)) | (dsimp only; exact Nat.ne_of_lt (Nat.lt_of_lt_of_le (by have := World.block_lt_of_cell? _ _ hw210_1; first | rwa [add_block] at this | exact this) GW212.out))) _).trans (hHeld.2.2.2.2.2.2.2.2.2.2.2.2.2.1)))))))), ((cell_far (p := ⟨gb212, _, none⟩) (by first | exact Nat.ne_of_lt (Nat.lt_of_lt_of_le (by have := World.block_lt_of_cell? _ _ hw210_2; first | rwa [add_block] at this | exact this) GW212.out) | (rw [add_block]; exact Nat.ne_of_lt (Nat.lt_of_lt_of_le (by have := World.block_lt_of_cell? _ _ hw210_2; first | rwa [add_block] at this | exact this) GW212.out)) | (show (Addr.add _ _).block ≠ _; rw [add_block]; exact Nat.ne_of_lt (Nat.lt_of_lt_of_le (by have := World.block_lt_of_cell? _ _ hw210_2; first | rwa [add_block] at this | exact this) GW212.out)) | (dsimp only; exact Nat.ne_of_lt (Nat.lt_of_lt_of_le (by have := World.block_lt_of_cell? _ _ hw210_2; first | rwa [add_block] at this | exact this) GW212.out))) _).trans (((cell_far (p := ⟨gb212, _, none⟩) (by first | exact Nat.ne_of_lt (Nat.lt_of_lt_of_le (by have := World.block_lt_of_cell? _ _ hw210_2; first | rwa [add_block] at this | exact this) GW212.out) | (rw [add_block]; exact Nat.ne_of_lt (Nat.lt_of_lt_of_le (by have := World.block_lt_of_cell? _ _ hw210_2; first | rwa [add_block] at this | exact this) GW212.out)) | (show (Addr.add _ _).block ≠ _; rw [add_block]; exact Nat.ne_of_lt (Nat.lt_of_lt_of_le (by have := World.block_lt_of_cell? _ _ hw210_2; first | rwa [add_block] at this | exact this) GW212.out)) | (dsimp only; exact Nat.ne_of_lt (Nat.lt_of_lt_of_le (by have := World.block_lt_of_cell? _ _ hw210_2; first | rwa [add_block] at this | exact this) GW212.out))) _).trans (((cell_far (p := ⟨gb212, _, none⟩) (by first | exact Nat.ne_of_lt (Nat.lt_of_lt_of_le (by have := World.block_lt_of_cell? _ _ hw210_2; first | rwa [add_block] at this | exact this) GW212.out) | (rw [add_block]; exact Nat.ne_of_lt (Nat.lt_of_lt_of_le (by have := World.block_lt_of_cell? _ _ hw210_2; first | rwa [add_block] at this | exact this) GW212.out)) | (show (Addr.add _ _).block ≠ _; rw [add_block]; exact Nat.ne_of_lt (Nat.lt_of_lt_of_le (by have := World.block_lt_of_cell? _ _ hw210_2; first | rwa [add_block] at this | exact this) GW212.out)) | (dsimp only; exact Nat.ne_of_lt (Nat.lt_of_lt_of_le (by have := World.block_lt_of_cell? _ _ hw210_2; first | rwa [add_block] at this | exact this) GW212.out))) _).trans (((cell_far (p := ⟨gb212, _, none⟩) (by first | exact Nat.ne_of_lt (Nat.lt_of_lt_of_le (by have := World.block_lt_of_cell? _ _ hw210_2; first | rwa [add_block] at this | exact this) GW212.out) | (rw [add_block]; exact Nat.ne_of_lt (Nat.lt_of_lt_of_le (by have := World.block_lt_of_cell? _ _ hw210_2; first | rwa [add_block] at this | exact this) GW212.out)) | (show (Addr.add _ _).block ≠ _; rw [add_block]; exact Nat.ne_of_lt (Nat.lt_of_lt_of_le (by have := World.block_lt_of_cell? _ _ hw210_2; first | rwa [add_block] at this | exact this) GW212.out)) | (dsimp only; exact Nat.ne_of_lt (Nat.lt_of_lt_of_le (by have := World.block_lt_of_cell? _ _ hw210_2; first | rwa [add_block] at this | exact this) GW212.out))) _).trans (hHeld.2.2.2.2.2.2.2.2.2.2.2.2.2.2.1)))))))), ((cell_far (p := ⟨gb212, _, none⟩) (by first | exact Nat.ne_of_lt (Nat.lt_of_lt_of_le (by have := World.block_lt_of_cell? _ _ hw210_3; first | rwa [add_block] at this | exact this) GW212.out) | (rw [add_block]; exact Nat.ne_of_lt (Nat.lt_of_lt_of_le (by have := World.block_lt_of_cell? _ _ hw210_3; first | rwa [add_block] at this | exact this) GW212.out)) | (show (Addr.add _ _).block ≠ _; rw [add_block]; exact Nat.ne_of_lt (Nat.lt_of_lt_of_le (by have := World.block_lt_of_cell? _ _ hw210_3; first | rwa [add_block] at this | exact this) GW212.out)) | (dsimp only; exact Nat.ne_of_lt (Nat.lt_of_lt_of_le (by have := World.block_lt_of_cell? _ _ hw210_3; first | rwa [add_block] at this | exact this) GW212.out))) _).trans (((cell_far (p := ⟨gb212, _, none⟩) (by first | exact Nat.ne_of_lt (Nat.lt_of_lt_of_le (by have := World.block_lt_of_cell? _ _ hw210_3; first | rwa [add_block] at this | exact this) GW212.out) | (rw [add_block]; exact Nat.ne_of_lt (Nat.lt_of_lt_of_le (by have := World.block_lt_of_cell? _ _ hw210_3; first | rwa [add_block] at this | exact this) GW212.out)) | (show (Addr.add _ _).block ≠ _; rw [add_block]; exact Nat.ne_of_lt (Nat.lt_of_lt_of_le (by have := World.block_lt_of_cell? _ _ hw210_3; first | rwa [add_block] at this | exact this) GW212.out)) | (dsimp only; exact Nat.ne_of_lt (Nat.lt_of_lt_of_le (by have := World.block_lt_of_cell? _ _ hw210_3; first | rwa [add_block] at this | exact this) GW212.out))) _).trans (((cell_far (p := ⟨gb212, _, none⟩) (by first | exact Nat.ne_of_lt (Nat.lt_of_lt_of_le (by have := World.block_lt_of_cell? _ _ hw210_3; first | rwa [add_block] at this | exact this) GW212.out) | (rw [add_block]; exact Nat.ne_of_lt (Nat.lt_of_lt_of_le (by have := World.block_lt_of_cell? _ _ hw210_3; first | rwa [add_block] at this | exact this) GW212.out)) | (show (Addr.add _ _).block ≠ _; rw [add_block]; exact Nat.ne_of_lt (Nat.lt_of_lt_of_le (by have := World.block_lt_of_cell? _ _ hw210_3; first | rwa [add_block] at this | exact this) GW212.out)) | (dsimp only; exact Nat.ne_of_lt (Nat.lt_of_lt_of_le (by have := World.block_lt_of_cell? _ _ hw210_3; first | rwa [add_block] at this | exact this) GW212.out))) _).trans (((cell_far (p := ⟨gb212, _, none⟩) (by first | exact Nat.ne_of_lt (Nat.lt_of_lt_of_le (by have := World.block_lt_of_cell? _ _ hw210_3; first | rwa [add_block] at this | exact this) GW212.out) | (rw [add_block]; exact Nat.ne_of_lt (Nat.lt_of_lt_of_le (by have := World.block_lt_of_cell? _ _ hw210_3; first | rwa [add_block] at this | exact this) GW212.out)) | (show (Addr.add _ _).block ≠ _; rw [add_block]; exact Nat.ne_of_lt (Nat.lt_of_lt_of_le (by have := World.block_lt_of_cell? _ _ hw210_3; first | rwa [add_block] at this | exact this) GW212.out)) | (dsimp only; exact Nat.ne_of_lt (Nat.lt_of_lt_of_le (by have := World.block_lt_of_cell? _ _ hw210_3; first | rwa [add_block] at this | exact this) GW212.out))) _).trans (hHeld.2.2.2.2.2.2.2.2.2.2.2.2.2.2.2.1)))))))), ((cell_far (p := ⟨gb212, _, none⟩) (by first | exact Nat.ne_of_lt (Nat.lt_of_lt_of_le (by have := World.block_lt_of_cell? _ _ hw211_0; first | rwa [add_block] at this | exact this) GW212.out) | (rw [add_block]; exact Nat.ne_of_lt (Nat.lt_of_lt_of_le (by have := World.block_lt_of_cell? _ _ hw211_0; first | rwa [add_block] at this | exact this) GW212.out)) | (show (Addr.add _ _).block ≠ _; rw [add_block]; exact Nat.ne_of_lt (Nat.lt_of_lt_of_le (by have := World.block_lt_of_cell? _ _ hw211_0; first | rwa [add_block] at this | exact this) GW212.out)) | (dsimp only; exact Nat.ne_of_lt (Nat.lt_of_lt_of_le (by have := World.block_lt_of_cell? _ _ hw211_0; first | rwa [add_block] at this | exact this) GW212.out))) _).trans (((cell_far (p := ⟨gb212, _, none⟩) (by first | exact Nat.ne_of_lt (Nat.lt_of_lt_of_le (by have := World.block_lt_of_cell? _ _ hw211_0; first | rwa [add_block] at this | exact this) GW212.out) | (rw [add_block]; exact Nat.ne_of_lt (Nat.lt_of_lt_of_le (by have := World.block_lt_of_cell? _ _ hw211_0; first | rwa [add_block] at this | exact this) GW212.out)) | (show (Addr.add _ _).block ≠ _; rw [add_block]; exact Nat.ne_of_lt (Nat.lt_of_lt_of_le (by have := World.block_lt_of_cell? _ _ hw211_0; first | rwa [add_block] at this | exact this) GW212.out)) | (dsimp only; exact Nat.ne_of_lt (Nat.lt_of_lt_of_le (by have := World.block_lt_of_cell? _ _ hw211_0; first | rwa [add_block] at this | exact this) GW212.out))) _).trans (((cell_far (p := ⟨gb212, _, none⟩) (by first | exact Nat.ne_of_lt (Nat.lt_of_lt_of_le (by have := World.block_lt_of_cell? _ _ hw211_0; first | rwa [add_block] at this | exact this) GW212.out) | (rw [add_block]; exact Nat.ne_of_lt (Nat.lt_of_lt_of_le (by have := World.block_lt_of_cell? _ _ hw211_0; first | rwa [add_block] at this | exact this) GW212.out)) | (show (Addr.add _ _).block ≠ _; rw [add_block]; exact Nat.ne_of_lt (Nat.lt_of_lt_of_le (by have := World.block_lt_of_cell? _ _ hw211_0; first | rwa [add_block] at this | exact this) GW212.out)) | (dsimp only; exact Nat.ne_of_lt (Nat.lt_of_lt_of_le (by have := World.block_lt_of_cell? _ _ hw211_0; first | rwa [add_block] at this | exact this) GW212.out))) _).trans (((cell_far (p := ⟨gb212, _, none⟩) (by first | exact Nat.ne_of_lt (Nat.lt_of_lt_of_le (by have := World.block_lt_of_cell? _ _ hw211_0; first | rwa [add_block] at this | exact this) GW212.out) | (rw [add_block]; exact Nat.ne_of_lt (Nat.lt_of_lt_of_le (by have := World.block_lt_of_cell? _ _ hw211_0; first | rwa [add_block] at this | exact this) GW212.out)) | (show (Addr.add _ _).block ≠ _; rw [add_block]; exact Nat.ne_of_lt (Nat.lt_of_lt_of_le (by have := World.block_lt_of_cell? _ _ hw211_0; first | rwa [add_block] at this | exact this) GW212.out)) | (dsimp only; exact Nat.ne_of_lt (Nat.lt_of_lt_of_le (by have := World.block_lt_of_cell? _ _ hw211_0; first | rwa [add_block] at this | exact this) GW212.out))) _).trans (hHeld.2.2.2.2.2.2.2.2.2.2.2.2.2.2.2.2.1)))))))), ((cell_far (p := ⟨gb212, _, none⟩) (by first | exact Nat.ne_of_lt (Nat.lt_of_lt_of_le (by have := World.block_lt_of_cell? _ _ hw211_1; first | rwa [add_block] at this | exact this) GW212.out) | (rw [add_block]; exact Nat.ne_of_lt (Nat.lt_of_lt_of_le (by have := World.block_lt_of_cell? _ _ hw211_1; first | rwa [add_block] at this | exact this) GW212.out)) | (show (Addr.add _ _).block ≠ _; rw [add_block]; exact Nat.ne_of_lt (Nat.lt_of_lt_of_le (by have := World.block_lt_of_cell? _ _ hw211_1; first | rwa [add_block] at this | exact this) GW212.out)) | (dsimp only; exact Nat.ne_of_lt (Nat.lt_of_lt_of_le (by have := World.block_lt_of_cell? _ _ hw211_1; first | rwa [add_block] at this | exact this) GW212.out))) _).trans (((cell_far (p := ⟨gb212, _, none⟩) (by first | exact Nat.ne_of_lt (Nat.lt_of_lt_of_le (by have := World.block_lt_of_cell? _ _ hw211_1; first | rwa [add_block] at this | exact this) GW212.out) | (rw [add_block]; exact Nat.ne_of_lt (Nat.lt_of_lt_of_le (by have := World.block_lt_of_cell? _ _ hw211_1; first | rwa [add_block] at this | exact this) GW212.out)) | (show (Addr.add _ _).block ≠ _; rw [add_block]; exact Nat.ne_of_lt (Nat.lt_of_lt_of_le (by have := World.block_lt_of_cell? _ _ hw211_1; first | rwa [add_block] at this | exact this) GW212.out)) | (dsimp only; exact Nat.ne_of_lt (Nat.lt_of_lt_of_le (by have := World.block_lt_of_cell? _ _ hw211_1; first | rwa [add_block] at this | exact this) GW212.out))) _).trans (((cell_far (p := ⟨gb212, _, none⟩) (by first | exact Nat.ne_of_lt (Nat.lt_of_lt_of_le (by have := World.block_lt_of_cell? _ _ hw211_1; first | rwa [add_block] at this | exact this) GW212.out) | (rw [add_block]; exact Nat.ne_of_lt (Nat.lt_of_lt_of_le (by have := World.block_lt_of_cell? _ _ hw211_1; first | rwa [add_block] at this | exact this) GW212.out)) | (show (Addr.add _ _).block ≠ _; rw [add_block]; exact Nat.ne_of_lt (Nat.lt_of_lt_of_le (by have := World.block_lt_of_cell? _ _ hw211_1; first | rwa [add_block] at this | exact this) GW212.out)) | (dsimp only; exact Nat.ne_of_lt (Nat.lt_of_lt_of_le (by have := World.block_lt_of_cell? _ _ hw211_1; first | rwa [add_block] at this | exact this) GW212.out))) _).trans (((cell_far (p := ⟨gb212, _, none⟩) (by first | exact Nat.ne_of_lt (Nat.lt_of_lt_of_le (by have := World.block_lt_of_cell? _ _ hw211_1; first | rwa [add_block] at this | exact this) GW212.out) | (rw [add_block]; exact Nat.ne_of_lt (Nat.lt_of_lt_of_le (by have := World.block_lt_of_cell? _ _ hw211_1; first | rwa [add_block] at this | exact this) GW212.out)) | (show (Addr.add _ _).block ≠ _; rw [add_block]; exact Nat.ne_of_lt (Nat.lt_of_lt_of_le (by have := World.block_lt_of_cell? _ _ hw211_1; first | rwa [add_block] at this | exact this) GW212.out)) | (dsimp only; exact Nat.ne_of_lt (Nat.lt_of_lt_of_le (by have := World.block_lt_of_cell? _ _ hw211_1; first | rwa [add_block] at this | exact this) GW212.out))) _).trans (hHeld.2.2.2.2.2.2.2.2.2.2.2.2.2.2.2.2.2.1)))))))), ((cell_far (p := ⟨gb212, _, none⟩) (by first | exact Nat.ne_of_lt (Nat.lt_of_lt_of_le (by have := World.block_lt_of_cell? _ _ hw211_2; first | rwa [add_block] at this | exact this) GW212.out) | (rw [add_block]; exact Nat.ne_of_lt (Nat.lt_of_lt_of_le (by have := World.block_lt_of_cell? _ _ hw211_2; first | rwa [add_block] at this | exact this) GW212.out)) | (show (Addr.add _ _).block ≠ _; rw [add_block]; exact Nat.ne_of_lt (Nat.lt_of_lt_of_le (by have := World.block_lt_of_cell? _ _ hw211_2; first | rwa [add_block] at this | exact this) GW212.out)) | (dsimp only; exact Nat.ne_of_lt (Nat.lt_of_lt_of_le (by have := World.block_lt_of_cell? _ _ hw211_2; first | rwa [add_block] at this | exact this) GW212.out))) _).trans (((cell_far (p := ⟨gb212, _, none⟩) (by first | exact Nat.ne_of_lt (Nat.lt_of_lt_of_le (by have := World.block_lt_of_cell? _ _ hw211_2; first | rwa [add_block] at this | exact this) GW212.out) | (rw [add_block]; exact Nat.ne_of_lt (Nat.lt_of_lt_of_le (by have := World.block_lt_of_cell? _ _ hw211_2; first | rwa [add_block] at this | exact this) GW212.out)) | (show (Addr.add _ _).block ≠ _; rw [add_block]; exact Nat.ne_of_lt (Nat.lt_of_lt_of_le (by have := World.block_lt_of_cell? _ _ hw211_2; first | rwa [add_block] at this | exact this) GW212.out)) | (dsimp only; exact Nat.ne_of_lt (Nat.lt_of_lt_of_le (by have := World.block_lt_of_cell? _ _ hw211_2; first | rwa [add_block] at this | exact this) GW212.out))) _).trans (((cell_far (p := ⟨gb212, _, none⟩) (by first | exact Nat.ne_of_lt (Nat.lt_of_lt_of_le (by have := World.block_lt_of_cell? _ _ hw211_2; first | rwa [add_block] at this | exact this) GW212.out) | (rw [add_block]; exact Nat.ne_of_lt (Nat.lt_of_lt_of_le (by have := World.block_lt_of_cell? _ _ hw211_2; first | rwa [add_block] at this | exact this) GW212.out)) | (show (Addr.add _ _).block ≠ _; rw [add_block]; exact Nat.ne_of_lt (Nat.lt_of_lt_of_le (by have := World.block_lt_of_cell? _ _ hw211_2; first | rwa [add_block] at this | exact this) GW212.out)) | (dsimp only; exact Nat.ne_of_lt (Nat.lt_of_lt_of_le (by have := World.block_lt_of_cell? _ _ hw211_2; first | rwa [add_block] at this | exact this) GW212.out))) _).trans (((cell_far (p := ⟨gb212, _, none⟩) (by first | exact Nat.ne_of_lt (Nat.lt_of_lt_of_le (by have := World.block_lt_of_cell? _ _ hw211_2; first | rwa [add_block] at this | exact this) GW212.out) | (rw [add_block]; exact Nat.ne_of_lt (Nat.lt_of_lt_of_le (by have := World.block_lt_of_cell? _ _ hw211_2; first | rwa [add_block] at this | exact this) GW212.out)) | (show (Addr.add _ _).block ≠ _; rw [add_block]; exact Nat.ne_of_lt (Nat.lt_of_lt_of_le (by have := World.block_lt_of_cell? _ _ hw211_2; first | rwa [add_block] at this | exact this) GW212.out)) | (dsimp only; exact Nat.ne_of_lt (Nat.lt_of_lt_of_le (by have := World.block_lt_of_cell? _ _ hw211_2; first | rwa [add_block] at this | exact this) GW212.out))) _).trans (hHeld.2.2.2.2.2.2.2.2.2.2.2.2.2.2.2.2.2.2.1)))))))), ((cell_far (p := ⟨gb212, _, none⟩) (by first | exact Nat.ne_of_lt (Nat.lt_of_lt_of_le (by have := World.block_lt_of_cell? _ _ hw211_3; first | rwa [add_block] at this | exact this) GW212.out) | (rw [add_block]; exact Nat.ne_of_lt (Nat.lt_of_lt_of_le (by have := World.block_lt_of_cell? _ _ hw211_3; first | rwa [add_block] at this | exact this) GW212.out)) | (show (Addr.add _ _).block ≠ _; rw [add_block]; exact Nat.ne_of_lt (Nat.lt_of_lt_of_le (by have := World.block_lt_of_cell? _ _ hw211_3; first | rwa [add_block] at this | exact this) GW212.out)) | (dsimp only; exact Nat.ne_of_lt (Nat.lt_of_lt_of_le (by have := World.block_lt_of_cell? _ _ hw211_3; first | rwa [add_block] at this | exact this) GW212.out))) _).trans (((cell_far (p := ⟨gb212, _, none⟩) (by first | exact Nat.ne_of_lt (Nat.lt_of_lt_of_le (by have := World.block_lt_of_cell? _ _ hw211_3; first | rwa [add_block] at this | exact this) GW212.out) | (rw [add_block]; exact Nat.ne_of_lt (Nat.lt_of_lt_of_le (by have := World.block_lt_of_cell? _ _ hw211_3; first | rwa [add_block] at this | exact this) GW212.out)) | (show (Addr.add _ _).block ≠ _; rw [add_block]; exact Nat.ne_of_lt (Nat.lt_of_lt_of_le (by have := World.block_lt_of_cell? _ _ hw211_3; first | rwa [add_block] at this | exact this) GW212.out)) | (dsimp only; exact Nat.ne_of_lt (Nat.lt_of_lt_of_le (by have := World.block_lt_of_cell? _ _ hw211_3; first | rwa [add_block] at this | exact this) GW212.out))) _).trans (((cell_far (p := ⟨gb212, _, none⟩) (by first | exact Nat.ne_of_lt (Nat.lt_of_lt_of_le (by have := World.block_lt_of_cell? _ _ hw211_3; first | rwa [add_block] at this | exact this) GW212.out) | (rw [add_block]; exact Nat.ne_of_lt (Nat.lt_of_lt_of_le (by have := World.block_lt_of_cell? _ _ hw211_3; first | rwa [add_block] at this | exact this) GW212.out)) | (show (Addr.add _ _).block ≠ _; rw [add_block]; exact Nat.ne_of_lt (Nat.lt_of_lt_of_le (by have := World.block_lt_of_cell? _ _ hw211_3; first | rwa [add_block] at this | exact this) GW212.out)) | (dsimp only; exact Nat.ne_of_lt (Nat.lt_of_lt_of_le (by have := World.block_lt_of_cell? _ _ hw211_3; first | rwa [add_block] at this | exact this) GW212.out))) _).trans (((cell_far (p := ⟨gb212, _, none⟩) (by first | exact Nat.ne_of_lt (Nat.lt_of_lt_of_le (by have := World.block_lt_of_cell? _ _ hw211_3; first | rwa [add_block] at this | exact this) GW212.out) | (rw [add_block]; exact Nat.ne_of_lt (Nat.lt_of_lt_of_le (by have := World.block_lt_of_cell? _ _ hw211_3; first | rwa [add_block] at this | exact this) GW212.out)) | (show (Addr.add _ _).block ≠ _; rw [add_block]; exact Nat.ne_of_lt (Nat.lt_of_lt_of_le (by have := World.block_lt_of_cell? _ _ hw211_3; first | rwa [add_block] at this | exact this) GW212.out)) | (dsimp only; exact Nat.ne_of_lt (Nat.lt_of_lt_of_le (by have := World.block_lt_of_cell? _ _ hw211_3; first | rwa [add_block] at this | exact this) GW212.out))) _).trans (hHeld.2.2.2.2.2.2.2.2.2.2.2.2.2.2.2.2.2.2.2))))))))⟩ (fun hHeld => ?_)
            clear hK K
            refine done_ (done_of HT_.out (by kernel_rfl)) ?_
            try go_wp2
            have n0_ : Aside0 (((((w41.setCell ⟨gb212, 0, none⟩ (.int .i64 ((rd_T33 l0_3 1).f2))).setCell ⟨gb212, 1, none⟩ (.int .i64 ((rd_T33 l0_3 2).f2))).setCell ⟨gb212, 2, none⟩ (.int .i64 ((rd_T33 l0_3 3).f2))).setCell ⟨gb212, 3, none⟩ (.int .i64 ((rd_T33 l0_3 4).f2))).heap[gb202]? = some (.cells #[.int .i64 a0_0, .string a0_1, .int .i64 a0_2, .slice (some ad208) l0_3.length c0_3] 33 (0, 0))) := ⟨by (with_reducible repeat (first | refine blk_drewN ?_ _ | refine blk_drew ?_ | refine blk_alloc ?_ _)); refine blk_far ?_ NB202_212.out _; (with_reducible repeat (first | refine blk_drewN ?_ _ | refine blk_drew ?_ | refine blk_alloc ?_ _)); refine blk_far ?_ NB202_212.out _; (with_reducible repeat (first | refine blk_drewN ?_ _ | refine blk_drew ?_ | refine blk_alloc ?_ _)); refine blk_far ?_ NB202_212.out _; (with_reducible repeat (first | refine blk_drewN ?_ _ | refine blk_drew ?_ | refine blk_alloc ?_ _)); refine blk_far ?_ NB202_212.out _; (with_reducible repeat (first | refine blk_drewN ?_ _ | refine blk_drew ?_ | refine blk_alloc ?_ _)); exact BK202.out⟩
            have n1_ : Aside0 (((((w41.setCell ⟨gb212, 0, none⟩ (.int .i64 ((rd_T33 l0_3 1).f2))).setCell ⟨gb212, 1, none⟩ (.int .i64 ((rd_T33 l0_3 2).f2))).setCell ⟨gb212, 2, none⟩ (.int .i64 ((rd_T33 l0_3 3).f2))).setCell ⟨gb212, 3, none⟩ (.int .i64 ((rd_T33 l0_3 4).f2))).heap[gb203]? = some (.cells #[.int .i64 x204000_2, .int .i64 x204001_2, .int .i64 x204002_2, .int .i64 x204003_2] 39 (0, 0))) := ⟨by (with_reducible repeat (first | refine blk_drewN ?_ _ | refine blk_drew ?_ | refine blk_alloc ?_ _)); refine blk_far ?_ NB203_212.out _; (with_reducible repeat (first | refine blk_drewN ?_ _ | refine blk_drew ?_ | refine blk_alloc ?_ _)); refine blk_far ?_ NB203_212.out _; (with_reducible repeat (first | refine blk_drewN ?_ _ | refine blk_drew ?_ | refine blk_alloc ?_ _)); refine blk_far ?_ NB203_212.out _; (with_reducible repeat (first | refine blk_drewN ?_ _ | refine blk_drew ?_ | refine blk_alloc ?_ _)); refine blk_far ?_ NB203_212.out _; (with_reducible repeat (first | refine blk_drewN ?_ _ | refine blk_drew ?_ | refine blk_alloc ?_ _)); exact BK203.out⟩
            have n2_ : Aside0 (((((w41.setCell ⟨gb212, 0, none⟩ (.int .i64 ((rd_T33 l0_3 1).f2))).setCell ⟨gb212, 1, none⟩ (.int .i64 ((rd_T33 l0_3 2).f2))).setCell ⟨gb212, 2, none⟩ (.int .i64 ((rd_T33 l0_3 3).f2))).setCell ⟨gb212, 3, none⟩ (.int .i64 ((rd_T33 l0_3 4).f2))).heap[gb212]? = some (.cells #[.int .i64 ((rd_T33 l0_3 1).f2), .int .i64 ((rd_T33 l0_3 2).f2), .int .i64 ((rd_T33 l0_3 3).f2), .int .i64 ((rd_T33 l0_3 4).f2)] 39 (0, 0))) := ⟨by (with_reducible repeat (first | refine blk_drewN ?_ _ | refine blk_drew ?_ | refine blk_alloc ?_ _)); refine blk_put (cs := #[.int .i64 ((rd_T33 l0_3 1).f2), .int .i64 ((rd_T33 l0_3 2).f2), .int .i64 ((rd_T33 l0_3 3).f2), .int .i64 0]) ?_ 3 _ rfl; (with_reducible repeat (first | refine blk_drewN ?_ _ | refine blk_drew ?_ | refine blk_alloc ?_ _)); refine blk_put (cs := #[.int .i64 ((rd_T33 l0_3 1).f2), .int .i64 ((rd_T33 l0_3 2).f2), .int .i64 0, .int .i64 0]) ?_ 2 _ rfl; (with_reducible repeat (first | refine blk_drewN ?_ _ | refine blk_drew ?_ | refine blk_alloc ?_ _)); refine blk_put (cs := #[.int .i64 ((rd_T33 l0_3 1).f2), .int .i64 0, .int .i64 0, .int .i64 0]) ?_ 1 _ rfl; (with_reducible repeat (first | refine blk_drewN ?_ _ | refine blk_drew ?_ | refine blk_alloc ?_ _)); refine blk_put (cs := #[.int .i64 0, .int .i64 0, .int .i64 0, .int .i64 0]) ?_ 0 _ rfl; (with_reducible repeat (first | refine blk_drewN ?_ _ | refine blk_drew ?_ | refine blk_alloc ?_ _)); exact BK212.out⟩
            have n3_ : Aside0 (Below w.heap.size w ((((w41.setCell ⟨gb212, 0, none⟩ (.int .i64 ((rd_T33 l0_3 1).f2))).setCell ⟨gb212, 1, none⟩ (.int .i64 ((rd_T33 l0_3 2).f2))).setCell ⟨gb212, 2, none⟩ (.int .i64 ((rd_T33 l0_3 3).f2))).setCell ⟨gb212, 3, none⟩ (.int .i64 ((rd_T33 l0_3 4).f2)))) := ⟨bl⟩
            (try clear BK202)
            (try clear BK203)
            (try clear BK212)
            (try clear HB)
            generalize ((((w41.setCell ⟨gb212, 0, none⟩ (.int .i64 ((rd_T33 l0_3 1).f2))).setCell ⟨gb212, 1, none⟩ (.int .i64 ((rd_T33 l0_3 2).f2))).setCell ⟨gb212, 2, none⟩ (.int .i64 ((rd_T33 l0_3 3).f2))).setCell ⟨gb212, 3, none⟩ (.int .i64 ((rd_T33 l0_3 4).f2))) = w46 at n0_ n1_ n2_ n3_ ⊢
            have BK202 := n0_
            have BK203 := n1_
            have BK212 := n2_
            have HB := n3_
            clear n0_ n1_ n2_ n3_
            have n_ := aC (blk_drew BK202.out) (aC (blk_drew BK203.out) (aC (blk_drew BK212.out) (aE (below_drew1 HB.out))))
            clear BK202 BK203 BK212 HB
            obtain ⟨BK202, BK203, BK212, HB⟩ := n_
            have p213 : 0 ≤ (0 : Int) := (by omega)
            have q213 : 0 < (l0_3.length : Int) := dt
            obtain ⟨ad213, A213_3, c213_3, e213, hx213_0, hx213_1, hx213_2, hx213_3, hl213_3, hi213_3⟩ := at_T33 HR0_3.out 0 p213 q213
            have hw213_3 := hx213_3
            (try rw [show ((0 : Int)).toNat = 0 from rfl] at hw213_3)
            (try rw [show 0 * 4 = 0 from rfl] at hw213_3)
            (try rw [Addr.add_zero'] at hw213_3)
            have hw213_2 := hx213_2
            (try rw [show ((0 : Int)).toNat = 0 from rfl] at hw213_2)
            (try rw [show 0 * 4 = 0 from rfl] at hw213_2)
            (try rw [Addr.add_zero'] at hw213_2)
            have hw213_1 := hx213_1
            (try rw [show ((0 : Int)).toNat = 0 from rfl] at hw213_1)
            (try rw [show 0 * 4 = 0 from rfl] at hw213_1)
            (try rw [Addr.add_zero'] at hw213_1)
            have hw213_0 := hx213_0
            (try rw [show ((0 : Int)).toNat = 0 from rfl] at hw213_0)
            (try rw [show 0 * 4 = 0 from rfl] at hw213_0)
            (try rw [Addr.add_zero'] at hw213_0)
            obtain rfl : ad208 = ad213 := (by injection e213)
            have qi213 : (0 < l0_3.length) = True := eq_true (by omega)
            (try rw [show ((0 : Int)).toNat = 0 from rfl] at hx213_0)
            (try rw [show 0 * 4 = 0 from rfl] at hx213_0)
            (try rw [Addr.add_zero'] at hx213_0)
            (try rw [show ((0 : Int)).toNat = 0 from rfl] at hx213_1)
            (try rw [show 0 * 4 = 0 from rfl] at hx213_1)
            (try rw [Addr.add_zero'] at hx213_1)
            (try rw [show ((0 : Int)).toNat = 0 from rfl] at hx213_2)
            (try rw [show 0 * 4 = 0 from rfl] at hx213_2)
            (try rw [Addr.add_zero'] at hx213_2)
            (try rw [show ((0 : Int)).toNat = 0 from rfl] at hx213_3)
            (try rw [show 0 * 4 = 0 from rfl] at hx213_3)
            (try rw [Addr.add_zero'] at hx213_3)
            replace hx213_0 := hcB HB.out hx213_0
            replace hx213_1 := hcB HB.out hx213_1
            replace hx213_2 := hcB HB.out hx213_2
            replace hx213_3 := hcB HB.out hx213_3
            have HR213_3 := Aside0.mk hi213_3
            have HC213_3 := Aside0.mk hl213_3
            clear hi213_3 hl213_3
            replace p213 := eq_true p213
            replace q213 := eq_true q213
            refine st 28 (fun w' => w'.cell? ⟨gb212, 0, none⟩ = some (.int .i64 ((rd_T33 l0_3 1).f2)) ∧ w'.cell? ⟨gb212, 1, none⟩ = some (.int .i64 ((rd_T33 l0_3 2).f2)) ∧ w'.cell? ⟨gb212, 2, none⟩ = some (.int .i64 ((rd_T33 l0_3 3).f2)) ∧ w'.cell? ⟨gb212, 3, none⟩ = some (.int .i64 ((rd_T33 l0_3 4).f2)) ∧ w'.cell? ⟨gb202, 0, none⟩ = some (.int .i64 a0_0) ∧ w'.cell? ⟨gb202, 1, none⟩ = some (.string a0_1) ∧ w'.cell? ⟨gb202, 2, none⟩ = some (.int .i64 a0_2) ∧ w'.cell? ⟨gb202, 3, none⟩ = some (.slice (some ad208) l0_3.length c0_3) ∧ w'.cell? ad208 = some (.int .i64 ((rd_T33 l0_3 0).f0)) ∧ w'.cell? ⟨ad208.block, ad208.off + 1, none⟩ = some (.string ((rd_T33 l0_3 0).f1)) ∧ w'.cell? ⟨ad208.block, ad208.off + 2, none⟩ = some (.int .i64 ((rd_T33 l0_3 0).f2)) ∧ w'.cell? ⟨ad208.block, ad208.off + 3, none⟩ = some (.slice A213_3 ((rd_T33 l0_3 0).f3).length c213_3)) [] (bv 28 0) incunableref25_shape.tab9 incunableref25_shape.bits9 ⟨kc0 BK212.out, kc1 BK212.out, kc2 BK212.out, kc3 BK212.out, kc0 BK202.out, kc1 BK202.out, kc2 BK202.out, kc3 BK202.out, (hcB HB.out hw213_0), (hcB HB.out hw213_1), (hcB HB.out hw213_2), (hcB HB.out hw213_3)⟩ (fun hHeld HT_ HW_ => ?_)
            generalize w46.drew = w47 at BK202 BK203 BK212 HB HR213_3 hx213_0 hx213_1 hx213_2 hx213_3 hHeld ⊢
            refine pu 1 75 (bv 28 2) HT_ rfl rfl ?_
            refine pu 7 81 (bv 28 130) HT_ rfl rfl ?_
            refine tk 0 74 (bv 28 131) HT_ HW_ hHeld rfl rfl (by rintro w' ⟨s0, s1, s2, s3, s4, s5, s6, s7, s8, s9, s10, s11⟩; exact yl) ?_
            refine tk 2 76 (bv 28 135) HT_ HW_ hHeld rfl rfl (by rintro w' ⟨s0, s1, s2, s3, s4, s5, s6, s7, s8, s9, s10, s11⟩; exact yl) ?_
            refine pu 3 77 (bv 28 143) HT_ rfl rfl ?_
            refine pu 4 78 (bv 28 159) HT_ rfl rfl ?_
            refine tk 5 79 (bv 28 191) HT_ HW_ hHeld rfl rfl (by rintro w' ⟨s0, s1, s2, s3, s4, s5, s6, s7, s8, s9, s10, s11⟩; exact yl) ?_
            refine pu 6 80 (bv 28 255) HT_ rfl rfl ?_
            refine tk 8 82 (bv 28 511) HT_ HW_ hHeld rfl rfl (by rintro w' ⟨s0, s1, s2, s3, s4, s5, s6, s7, s8, s9, s10, s11⟩; exact yl) ?_
            refine pu 9 83 (bv 28 1023) HT_ rfl rfl ?_
            refine pu 10 84 (bv 28 2047) HT_ rfl rfl ?_
            have H := HLATE.out
            clear HLATE
            rcases iL H with H1 | H1 <;> clear H <;> obtain ⟨H, c37b0⟩ := H1
            ·rcases iL H with H1 | H1 <;> clear H <;> obtain ⟨H, c38b0⟩ := H1
             ·rcases iL H with H1 | H1 <;> clear H <;> obtain ⟨H, c39b0⟩ := H1
              ·simp only [Option.some.injEq, Prod.mk.injEq] at H
               obtain ⟨rfl, rfl, rfl, rfl, rfl, rfl⟩ := H
               try rw [c37b0]
               try rw [c38b0]
               try rw [c39b0]
               refine pu 11 85 (bv 28 4095) HT_ rfl rfl ?_
               refine tk 12 86 (bv 28 8191) HT_ HW_ hHeld rfl rfl (by rintro w' ⟨s0, s1, s2, s3, s4, s5, s6, s7, s8, s9, s10, s11⟩; exact yl) ?_
               refine pu 13 87 (bv 28 16383) HT_ rfl rfl ?_
               refine pu 14 88 (bv 28 32767) HT_ rfl rfl ?_
               refine pu 15 89 (bv 28 65535) HT_ rfl rfl ?_
               refine pu 16 90 (bv 28 131071) HT_ rfl rfl ?_
               refine tk 17 91 (bv 28 262143) HT_ HW_ hHeld rfl rfl (by rintro w' ⟨s0, s1, s2, s3, s4, s5, s6, s7, s8, s9, s10, s11⟩; exact yl) ?_
               refine pu 18 92 (bv 28 524287) HT_ rfl rfl ?_
               refine pu 19 93 (bv 28 1048575) HT_ rfl rfl ?_
               refine pu 20 94 (bv 28 2097151) HT_ rfl rfl ?_
               refine pu 21 95 (bv 28 4194303) HT_ rfl rfl ?_
               refine tk 22 96 (bv 28 8388607) HT_ HW_ hHeld rfl rfl (by rintro w' ⟨s0, s1, s2, s3, s4, s5, s6, s7, s8, s9, s10, s11⟩; exact yl) ?_
               refine pu 23 97 (bv 28 16777215) HT_ rfl rfl ?_
               refine pu 24 98 (bv 28 33554431) HT_ rfl rfl ?_
               refine one_ (i := 25) (N := none) (bv 28 67108863) rfl rfl (one_of HT_.out (by kernel_rfl)) (by decide) (fun K hK => ?_)
               have hs48 : w47.cell? ⟨gb203, 0, none⟩ = some (.int .i64 x204000_2) := (blk_cell BK203.out 0).trans rfl
               have hfs48 := blk_frozen BK203.out 0
               have hns48_0 := NB202_203.out
               have hns48_2 := NB212_203.out
               have hms48_0 := NB203_202.out
               have hms48_2 := NB203_212.out
               have hs49 : w47.cell? ⟨gb203, 1, none⟩ = some (.int .i64 x204001_2) := (blk_cell BK203.out 1).trans rfl
               have hfs49 := blk_frozen BK203.out 1
               have hns49_0 := NB202_203.out
               have hns49_2 := NB212_203.out
               have hms49_0 := NB203_202.out
               have hms49_2 := NB203_212.out
               have hs50 : w47.cell? ⟨gb203, 2, none⟩ = some (.int .i64 x204002_2) := (blk_cell BK203.out 2).trans rfl
               have hfs50 := blk_frozen BK203.out 2
               have hns50_0 := NB202_203.out
               have hns50_2 := NB212_203.out
               have hms50_0 := NB203_202.out
               have hms50_2 := NB203_212.out
               have hs51 : w47.cell? ⟨gb203, 3, none⟩ = some (.int .i64 x204003_2) := (blk_cell BK203.out 3).trans rfl
               have hfs51 := blk_frozen BK203.out 3
               have hns51_0 := NB202_203.out
               have hns51_2 := NB212_203.out
               have hms51_0 := NB203_202.out
               have hms51_2 := NB203_212.out
               refine skip_ (w1 := ?_) (by rfl) rfl ?_ ?_
               rotate_left
               ·go_simp
                rfl
               refine hK.out _ _ ⟨((cell_far (p := ⟨gb203, _, none⟩) NB212_203.out _).trans (((cell_far (p := ⟨gb203, _, none⟩) NB212_203.out _).trans (((cell_far (p := ⟨gb203, _, none⟩) NB212_203.out _).trans (((cell_far (p := ⟨gb203, _, none⟩) NB212_203.out _).trans (hHeld.1)))))))), ((cell_far (p := ⟨gb203, _, none⟩) NB212_203.out _).trans (((cell_far (p := ⟨gb203, _, none⟩) NB212_203.out _).trans (((cell_far (p := ⟨gb203, _, none⟩) NB212_203.out _).trans (((cell_far (p := ⟨gb203, _, none⟩) NB212_203.out _).trans (hHeld.2.1)))))))), ((cell_far (p := ⟨gb203, _, none⟩) NB212_203.out _).trans (((cell_far (p := ⟨gb203, _, none⟩) NB212_203.out _).trans (((cell_far (p := ⟨gb203, _, none⟩) NB212_203.out _).trans (((cell_far (p := ⟨gb203, _, none⟩) NB212_203.out _).trans (hHeld.2.2.1)))))))), ((cell_far (p := ⟨gb203, _, none⟩) NB212_203.out _).trans (((cell_far (p := ⟨gb203, _, none⟩) NB212_203.out _).trans (((cell_far (p := ⟨gb203, _, none⟩) NB212_203.out _).trans (((cell_far (p := ⟨gb203, _, none⟩) NB212_203.out _).trans (hHeld.2.2.2.1)))))))), ((cell_far (p := ⟨gb203, _, none⟩) NB202_203.out _).trans (((cell_far (p := ⟨gb203, _, none⟩) NB202_203.out _).trans (((cell_far (p := ⟨gb203, _, none⟩) NB202_203.out _).trans (((cell_far (p := ⟨gb203, _, none⟩) NB202_203.out _).trans (hHeld.2.2.2.2.1)))))))), ((cell_far (p := ⟨gb203, _, none⟩) NB202_203.out _).trans (((cell_far (p := ⟨gb203, _, none⟩) NB202_203.out _).trans (((cell_far (p := ⟨gb203, _, none⟩) NB202_203.out _).trans (((cell_far (p := ⟨gb203, _, none⟩) NB202_203.out _).trans (hHeld.2.2.2.2.2.1)))))))), ((cell_far (p := ⟨gb203, _, none⟩) NB202_203.out _).trans (((cell_far (p := ⟨gb203, _, none⟩) NB202_203.out _).trans (((cell_far (p := ⟨gb203, _, none⟩) NB202_203.out _).trans (((cell_far (p := ⟨gb203, _, none⟩) NB202_203.out _).trans (hHeld.2.2.2.2.2.2.1)))))))), ((cell_far (p := ⟨gb203, _, none⟩) NB202_203.out _).trans (((cell_far (p := ⟨gb203, _, none⟩) NB202_203.out _).trans (((cell_far (p := ⟨gb203, _, none⟩) NB202_203.out _).trans (((cell_far (p := ⟨gb203, _, none⟩) NB202_203.out _).trans (hHeld.2.2.2.2.2.2.2.1)))))))), ((cell_far (p := ⟨gb203, _, none⟩) (by first | exact Nat.ne_of_lt (Nat.lt_of_lt_of_le (by have := World.block_lt_of_cell? _ _ hw213_0; first | rwa [add_block] at this | exact this) GW203.out) | (rw [add_block]; exact Nat.ne_of_lt (Nat.lt_of_lt_of_le (by have := World.block_lt_of_cell? _ _ hw213_0; first | rwa [add_block] at this | exact this) GW203.out)) | (show (Addr.add _ _).block ≠ _; rw [add_block]; exact Nat.ne_of_lt (Nat.lt_of_lt_of_le (by have := World.block_lt_of_cell? _ _ hw213_0; first | rwa [add_block] at this | exact this) GW203.out)) | (dsimp only; exact Nat.ne_of_lt (Nat.lt_of_lt_of_le (by have := World.block_lt_of_cell? _ _ hw213_0; first | rwa [add_block] at this | exact this) GW203.out))) _).trans (((cell_far (p := ⟨gb203, _, none⟩) (by first | exact Nat.ne_of_lt (Nat.lt_of_lt_of_le (by have := World.block_lt_of_cell? _ _ hw213_0; first | rwa [add_block] at this | exact this) GW203.out) | (rw [add_block]; exact Nat.ne_of_lt (Nat.lt_of_lt_of_le (by have := World.block_lt_of_cell? _ _ hw213_0; first | rwa [add_block] at this | exact this) GW203.out)) | (show (Addr.add _ _).block ≠ _; rw [add_block]; exact Nat.ne_of_lt (Nat.lt_of_lt_of_le (by have := World.block_lt_of_cell? _ _ hw213_0; first | rwa [add_block] at this | exact this) GW203.out)) | (dsimp only; exact Nat.ne_of_lt (Nat.lt_of_lt_of_le (by have := World.block_lt_of_cell? _ _ hw213_0; first | rwa [add_block] at this | exact this) GW203.out))) _).trans (((cell_far (p := ⟨gb203, _, none⟩) (by first | exact Nat.ne_of_lt (Nat.lt_of_lt_of_le (by have := World.block_lt_of_cell? _ _ hw213_0; first | rwa [add_block] at this | exact this) GW203.out) | (rw [add_block]; exact Nat.ne_of_lt (Nat.lt_of_lt_of_le (by have := World.block_lt_of_cell? _ _ hw213_0; first | rwa [add_block] at this | exact this) GW203.out)) | (show (Addr.add _ _).block ≠ _; rw [add_block]; exact Nat.ne_of_lt (Nat.lt_of_lt_of_le (by have := World.block_lt_of_cell? _ _ hw213_0; first | rwa [add_block] at this | exact this) GW203.out)) | (dsimp only; exact Nat.ne_of_lt (Nat.lt_of_lt_of_le (by have := World.block_lt_of_cell? _ _ hw213_0; first | rwa [add_block] at this | exact this) GW203.out))) _).trans (((cell_far (p := ⟨gb203, _, none⟩) (by first | exact Nat.ne_of_lt (Nat.lt_of_lt_of_le (by have := World.block_lt_of_cell? _ _ hw213_0; first | rwa [add_block] at this | exact this) GW203.out) | (rw [add_block]; exact Nat.ne_of_lt (Nat.lt_of_lt_of_le (by have := World.block_lt_of_cell? _ _ hw213_0; first | rwa [add_block] at this | exact this) GW203.out)) | (show (Addr.add _ _).block ≠ _; rw [add_block]; exact Nat.ne_of_lt (Nat.lt_of_lt_of_le (by have := World.block_lt_of_cell? _ _ hw213_0; first | rwa [add_block] at this | exact this) GW203.out)) | (dsimp only; exact Nat.ne_of_lt (Nat.lt_of_lt_of_le (by have := World.block_lt_of_cell? _ _ hw213_0; first | rwa [add_block] at this | exact this) GW203.out))) _).trans (hHeld.2.2.2.2.2.2.2.2.1)))))))), ((cell_far (p := ⟨gb203, _, none⟩) (by first | exact Nat.ne_of_lt (Nat.lt_of_lt_of_le (by have := World.block_lt_of_cell? _ _ hw213_1; first | rwa [add_block] at this | exact this) GW203.out) | (rw [add_block]; exact Nat.ne_of_lt (Nat.lt_of_lt_of_le (by have := World.block_lt_of_cell? _ _ hw213_1; first | rwa [add_block] at this | exact this) GW203.out)) | (show (Addr.add _ _).block ≠ _; rw [add_block]; exact Nat.ne_of_lt (Nat.lt_of_lt_of_le (by have := World.block_lt_of_cell? _ _ hw213_1; first | rwa [add_block] at this | exact this) GW203.out)) | (dsimp only; exact Nat.ne_of_lt (Nat.lt_of_lt_of_le (by have := World.block_lt_of_cell? _ _ hw213_1; first | rwa [add_block] at this | exact this) GW203.out))) _).trans (((cell_far (p := ⟨gb203, _, none⟩) (by first | exact Nat.ne_of_lt (Nat.lt_of_lt_of_le (by have := World.block_lt_of_cell? _ _ hw213_1; first | rwa [add_block] at this | exact this) GW203.out) | (rw [add_block]; exact Nat.ne_of_lt (Nat.lt_of_lt_of_le (by have := World.block_lt_of_cell? _ _ hw213_1; first | rwa [add_block] at this | exact this) GW203.out)) | (show (Addr.add _ _).block ≠ _; rw [add_block]; exact Nat.ne_of_lt (Nat.lt_of_lt_of_le (by have := World.block_lt_of_cell? _ _ hw213_1; first | rwa [add_block] at this | exact this) GW203.out)) | (dsimp only; exact Nat.ne_of_lt (Nat.lt_of_lt_of_le (by have := World.block_lt_of_cell? _ _ hw213_1; first | rwa [add_block] at this | exact this) GW203.out))) _).trans (((cell_far (p := ⟨gb203, _, none⟩) (by first | exact Nat.ne_of_lt (Nat.lt_of_lt_of_le (by have := World.block_lt_of_cell? _ _ hw213_1; first | rwa [add_block] at this | exact this) GW203.out) | (rw [add_block]; exact Nat.ne_of_lt (Nat.lt_of_lt_of_le (by have := World.block_lt_of_cell? _ _ hw213_1; first | rwa [add_block] at this | exact this) GW203.out)) | (show (Addr.add _ _).block ≠ _; rw [add_block]; exact Nat.ne_of_lt (Nat.lt_of_lt_of_le (by have := World.block_lt_of_cell? _ _ hw213_1; first | rwa [add_block] at this | exact this) GW203.out)) | (dsimp only; exact Nat.ne_of_lt (Nat.lt_of_lt_of_le (by have := World.block_lt_of_cell? _ _ hw213_1; first | rwa [add_block] at this | exact this) GW203.out))) _).trans (((cell_far (p := ⟨gb203, _, none⟩) (by first | exact Nat.ne_of_lt (Nat.lt_of_lt_of_le (by have := World.block_lt_of_cell? _ _ hw213_1; first | rwa [add_block] at this | exact this) GW203.out) | (rw [add_block]; exact Nat.ne_of_lt (Nat.lt_of_lt_of_le (by have := World.block_lt_of_cell? _ _ hw213_1; first | rwa [add_block] at this | exact this) GW203.out)) | (show (Addr.add _ _).block ≠ _; rw [add_block]; exact Nat.ne_of_lt (Nat.lt_of_lt_of_le (by have := World.block_lt_of_cell? _ _ hw213_1; first | rwa [add_block] at this | exact this) GW203.out)) | (dsimp only; exact Nat.ne_of_lt (Nat.lt_of_lt_of_le (by have := World.block_lt_of_cell? _ _ hw213_1; first | rwa [add_block] at this | exact this) GW203.out))) _).trans (hHeld.2.2.2.2.2.2.2.2.2.1)))))))), ((cell_far (p := ⟨gb203, _, none⟩) (by first | exact Nat.ne_of_lt (Nat.lt_of_lt_of_le (by have := World.block_lt_of_cell? _ _ hw213_2; first | rwa [add_block] at this | exact this) GW203.out) | (rw [add_block]; exact Nat.ne_of_lt (Nat.lt_of_lt_of_le (by have := World.block_lt_of_cell? _ _ hw213_2; first | rwa [add_block] at this | exact this) GW203.out)) | (show (Addr.add _ _).block ≠ _; rw [add_block]; exact Nat.ne_of_lt (Nat.lt_of_lt_of_le (by have := World.block_lt_of_cell? _ _ hw213_2; first | rwa [add_block] at this | exact this) GW203.out)) | (dsimp only; exact Nat.ne_of_lt (Nat.lt_of_lt_of_le (by have := World.block_lt_of_cell? _ _ hw213_2; first | rwa [add_block] at this | exact this) GW203.out))) _).trans (((cell_far (p := ⟨gb203, _, none⟩) (by first | exact Nat.ne_of_lt (Nat.lt_of_lt_of_le (by have := World.block_lt_of_cell? _ _ hw213_2; first | rwa [add_block] at this | exact this) GW203.out) | (rw [add_block]; exact Nat.ne_of_lt (Nat.lt_of_lt_of_le (by have := World.block_lt_of_cell? _ _ hw213_2; first | rwa [add_block] at this | exact this) GW203.out)) | (show (Addr.add _ _).block ≠ _; rw [add_block]; exact Nat.ne_of_lt (Nat.lt_of_lt_of_le (by have := World.block_lt_of_cell? _ _ hw213_2; first | rwa [add_block] at this | exact this) GW203.out)) | (dsimp only; exact Nat.ne_of_lt (Nat.lt_of_lt_of_le (by have := World.block_lt_of_cell? _ _ hw213_2; first | rwa [add_block] at this | exact this) GW203.out))) _).trans (((cell_far (p := ⟨gb203, _, none⟩) (by first | exact Nat.ne_of_lt (Nat.lt_of_lt_of_le (by have := World.block_lt_of_cell? _ _ hw213_2; first | rwa [add_block] at this | exact this) GW203.out) | (rw [add_block]; exact Nat.ne_of_lt (Nat.lt_of_lt_of_le (by have := World.block_lt_of_cell? _ _ hw213_2; first | rwa [add_block] at this | exact this) GW203.out)) | (show (Addr.add _ _).block ≠ _; rw [add_block]; exact Nat.ne_of_lt (Nat.lt_of_lt_of_le (by have := World.block_lt_of_cell? _ _ hw213_2; first | rwa [add_block] at this | exact this) GW203.out)) | (dsimp only; exact Nat.ne_of_lt (Nat.lt_of_lt_of_le (by have := World.block_lt_of_cell? _ _ hw213_2; first | rwa [add_block] at this | exact this) GW203.out))) _).trans (((cell_far (p := ⟨gb203, _, none⟩) (by first | exact Nat.ne_of_lt (Nat.lt_of_lt_of_le (by have := World.block_lt_of_cell? _ _ hw213_2; first | rwa [add_block] at this | exact this) GW203.out) | (rw [add_block]; exact Nat.ne_of_lt (Nat.lt_of_lt_of_le (by have := World.block_lt_of_cell? _ _ hw213_2; first | rwa [add_block] at this | exact this) GW203.out)) | (show (Addr.add _ _).block ≠ _; rw [add_block]; exact Nat.ne_of_lt (Nat.lt_of_lt_of_le (by have := World.block_lt_of_cell? _ _ hw213_2; first | rwa [add_block] at this | exact this) GW203.out)) | (dsimp only; exact Nat.ne_of_lt (Nat.lt_of_lt_of_le (by have := World.block_lt_of_cell? _ _ hw213_2; first | rwa [add_block] at this | exact this) GW203.out))) _).trans (hHeld.2.2.2.2.2.2.2.2.2.2.1)))))))), ((cell_far (p := ⟨gb203, _, none⟩) (by first | exact Nat.ne_of_lt (Nat.lt_of_lt_of_le (by have := World.block_lt_of_cell? _ _ hw213_3; first | rwa [add_block] at this | exact this) GW203.out) | (rw [add_block]; exact Nat.ne_of_lt (Nat.lt_of_lt_of_le (by have := World.block_lt_of_cell? _ _ hw213_3; first | rwa [add_block] at this | exact this) GW203.out)) | (show (Addr.add _ _).block ≠ _; rw [add_block]; exact Nat.ne_of_lt (Nat.lt_of_lt_of_le (by have := World.block_lt_of_cell? _ _ hw213_3; first | rwa [add_block] at this | exact this) GW203.out)) | (dsimp only; exact Nat.ne_of_lt (Nat.lt_of_lt_of_le (by have := World.block_lt_of_cell? _ _ hw213_3; first | rwa [add_block] at this | exact this) GW203.out))) _).trans (((cell_far (p := ⟨gb203, _, none⟩) (by first | exact Nat.ne_of_lt (Nat.lt_of_lt_of_le (by have := World.block_lt_of_cell? _ _ hw213_3; first | rwa [add_block] at this | exact this) GW203.out) | (rw [add_block]; exact Nat.ne_of_lt (Nat.lt_of_lt_of_le (by have := World.block_lt_of_cell? _ _ hw213_3; first | rwa [add_block] at this | exact this) GW203.out)) | (show (Addr.add _ _).block ≠ _; rw [add_block]; exact Nat.ne_of_lt (Nat.lt_of_lt_of_le (by have := World.block_lt_of_cell? _ _ hw213_3; first | rwa [add_block] at this | exact this) GW203.out)) | (dsimp only; exact Nat.ne_of_lt (Nat.lt_of_lt_of_le (by have := World.block_lt_of_cell? _ _ hw213_3; first | rwa [add_block] at this | exact this) GW203.out))) _).trans (((cell_far (p := ⟨gb203, _, none⟩) (by first | exact Nat.ne_of_lt (Nat.lt_of_lt_of_le (by have := World.block_lt_of_cell? _ _ hw213_3; first | rwa [add_block] at this | exact this) GW203.out) | (rw [add_block]; exact Nat.ne_of_lt (Nat.lt_of_lt_of_le (by have := World.block_lt_of_cell? _ _ hw213_3; first | rwa [add_block] at this | exact this) GW203.out)) | (show (Addr.add _ _).block ≠ _; rw [add_block]; exact Nat.ne_of_lt (Nat.lt_of_lt_of_le (by have := World.block_lt_of_cell? _ _ hw213_3; first | rwa [add_block] at this | exact this) GW203.out)) | (dsimp only; exact Nat.ne_of_lt (Nat.lt_of_lt_of_le (by have := World.block_lt_of_cell? _ _ hw213_3; first | rwa [add_block] at this | exact this) GW203.out))) _).trans (((cell_far (p := ⟨gb203, _, none⟩) (by first | exact Nat.ne_of_lt (Nat.lt_of_lt_of_le (by have := World.block_lt_of_cell? _ _ hw213_3; first | rwa [add_block] at this | exact this) GW203.out) | (rw [add_block]; exact Nat.ne_of_lt (Nat.lt_of_lt_of_le (by have := World.block_lt_of_cell? _ _ hw213_3; first | rwa [add_block] at this | exact this) GW203.out)) | (show (Addr.add _ _).block ≠ _; rw [add_block]; exact Nat.ne_of_lt (Nat.lt_of_lt_of_le (by have := World.block_lt_of_cell? _ _ hw213_3; first | rwa [add_block] at this | exact this) GW203.out)) | (dsimp only; exact Nat.ne_of_lt (Nat.lt_of_lt_of_le (by have := World.block_lt_of_cell? _ _ hw213_3; first | rwa [add_block] at this | exact this) GW203.out))) _).trans (hHeld.2.2.2.2.2.2.2.2.2.2.2))))))))⟩ (fun hHeld => ?_)
               clear hK K
               refine pu 26 3 (bv 28 134217727) HT_ rfl rfl ?_
               refine pu 27 4 (bv 28 268435455) HT_ rfl rfl ?_
               refine done_ (done_of HT_.out (by kernel_rfl)) ?_
               try go_wp2
               refine bodyPost_ret (results_ctt rfl _ _ gb203 39 #[.int .i64 ((rd_T33 l0_3 1).f2), .int .i64 ((rd_T33 l0_3 2).f2), .int .i64 ((rd_T33 l0_3 3).f2), .int .i64 ((rd_T33 l0_3 4).f2)] (0, 0) _ rfl (by (with_reducible repeat (first | refine blk_drewN ?_ _ | refine blk_drew ?_ | refine blk_alloc ?_ _)); refine blk_put (cs := #[.int .i64 ((rd_T33 l0_3 1).f2), .int .i64 ((rd_T33 l0_3 2).f2), .int .i64 ((rd_T33 l0_3 3).f2), .int .i64 x204003_2]) ?_ 3 _ rfl; (with_reducible repeat (first | refine blk_drewN ?_ _ | refine blk_drew ?_ | refine blk_alloc ?_ _)); refine blk_put (cs := #[.int .i64 ((rd_T33 l0_3 1).f2), .int .i64 ((rd_T33 l0_3 2).f2), .int .i64 x204002_2, .int .i64 x204003_2]) ?_ 2 _ rfl; (with_reducible repeat (first | refine blk_drewN ?_ _ | refine blk_drew ?_ | refine blk_alloc ?_ _)); refine blk_put (cs := #[.int .i64 ((rd_T33 l0_3 1).f2), .int .i64 x204001_2, .int .i64 x204002_2, .int .i64 x204003_2]) ?_ 1 _ rfl; (with_reducible repeat (first | refine blk_drewN ?_ _ | refine blk_drew ?_ | refine blk_alloc ?_ _)); refine blk_put (cs := #[.int .i64 x204000_2, .int .i64 x204001_2, .int .i64 x204002_2, .int .i64 x204003_2]) ?_ 0 _ rfl; (with_reducible repeat (first | refine blk_drewN ?_ _ | refine blk_drew ?_ | refine blk_alloc ?_ _)); exact BK203.out) Tryd.underlying39 rfl (by kernel_rfl)) rfl ?_
               exact ⟨re, bl⟩
              ·simp only [Option.some.injEq, Prod.mk.injEq] at H
               obtain ⟨rfl, rfl, rfl, rfl, rfl, rfl⟩ := H
               try rw [c37b0]
               try rw [c38b0]
               try rw [c39b0]
               refine pu 11 85 (bv 28 4095) HT_ rfl rfl ?_
               refine tk 12 86 (bv 28 8191) HT_ HW_ hHeld rfl rfl (by rintro w' ⟨s0, s1, s2, s3, s4, s5, s6, s7, s8, s9, s10, s11⟩; exact yl) ?_
               refine pu 13 87 (bv 28 16383) HT_ rfl rfl ?_
               refine pu 14 88 (bv 28 32767) HT_ rfl rfl ?_
               refine pu 15 89 (bv 28 65535) HT_ rfl rfl ?_
               refine pu 16 90 (bv 28 131071) HT_ rfl rfl ?_
               refine tk 17 91 (bv 28 262143) HT_ HW_ hHeld rfl rfl (by rintro w' ⟨s0, s1, s2, s3, s4, s5, s6, s7, s8, s9, s10, s11⟩; exact yl) ?_
               refine pu 18 92 (bv 28 524287) HT_ rfl rfl ?_
               refine pu 19 93 (bv 28 1048575) HT_ rfl rfl ?_
               refine pu 20 94 (bv 28 2097151) HT_ rfl rfl ?_
               refine pn 21 95 (bv 28 4194303) HT_ rfl rfl ?_
               refine pn 22 96 (bv 28 8388607) HT_ rfl rfl ?_
               refine pn 23 97 (bv 28 16777215) HT_ rfl rfl ?_
               refine pu 24 98 (bv 28 33554431) HT_ rfl rfl ?_
               refine one_ (i := 25) (N := none) (bv 28 67108863) rfl rfl (one_of HT_.out (by kernel_rfl)) (by decide) (fun K hK => ?_)
               have hs48 : w47.cell? ⟨gb203, 0, none⟩ = some (.int .i64 x204000_2) := (blk_cell BK203.out 0).trans rfl
               have hfs48 := blk_frozen BK203.out 0
               have hns48_0 := NB202_203.out
               have hns48_2 := NB212_203.out
               have hms48_0 := NB203_202.out
               have hms48_2 := NB203_212.out
               have hs49 : w47.cell? ⟨gb203, 1, none⟩ = some (.int .i64 x204001_2) := (blk_cell BK203.out 1).trans rfl
               have hfs49 := blk_frozen BK203.out 1
               have hns49_0 := NB202_203.out
               have hns49_2 := NB212_203.out
               have hms49_0 := NB203_202.out
               have hms49_2 := NB203_212.out
               have hs50 : w47.cell? ⟨gb203, 2, none⟩ = some (.int .i64 x204002_2) := (blk_cell BK203.out 2).trans rfl
               have hfs50 := blk_frozen BK203.out 2
               have hns50_0 := NB202_203.out
               have hns50_2 := NB212_203.out
               have hms50_0 := NB203_202.out
               have hms50_2 := NB203_212.out
               have hs51 : w47.cell? ⟨gb203, 3, none⟩ = some (.int .i64 x204003_2) := (blk_cell BK203.out 3).trans rfl
               have hfs51 := blk_frozen BK203.out 3
               have hns51_0 := NB202_203.out
               have hns51_2 := NB212_203.out
               have hms51_0 := NB203_202.out
               have hms51_2 := NB203_212.out
               refine skip_ (w1 := ?_) (by rfl) rfl ?_ ?_
               rotate_left
               ·go_simp
                rfl
               refine hK.out _ _ ⟨((cell_far (p := ⟨gb203, _, none⟩) NB212_203.out _).trans (((cell_far (p := ⟨gb203, _, none⟩) NB212_203.out _).trans (((cell_far (p := ⟨gb203, _, none⟩) NB212_203.out _).trans (((cell_far (p := ⟨gb203, _, none⟩) NB212_203.out _).trans (hHeld.1)))))))), ((cell_far (p := ⟨gb203, _, none⟩) NB212_203.out _).trans (((cell_far (p := ⟨gb203, _, none⟩) NB212_203.out _).trans (((cell_far (p := ⟨gb203, _, none⟩) NB212_203.out _).trans (((cell_far (p := ⟨gb203, _, none⟩) NB212_203.out _).trans (hHeld.2.1)))))))), ((cell_far (p := ⟨gb203, _, none⟩) NB212_203.out _).trans (((cell_far (p := ⟨gb203, _, none⟩) NB212_203.out _).trans (((cell_far (p := ⟨gb203, _, none⟩) NB212_203.out _).trans (((cell_far (p := ⟨gb203, _, none⟩) NB212_203.out _).trans (hHeld.2.2.1)))))))), ((cell_far (p := ⟨gb203, _, none⟩) NB212_203.out _).trans (((cell_far (p := ⟨gb203, _, none⟩) NB212_203.out _).trans (((cell_far (p := ⟨gb203, _, none⟩) NB212_203.out _).trans (((cell_far (p := ⟨gb203, _, none⟩) NB212_203.out _).trans (hHeld.2.2.2.1)))))))), ((cell_far (p := ⟨gb203, _, none⟩) NB202_203.out _).trans (((cell_far (p := ⟨gb203, _, none⟩) NB202_203.out _).trans (((cell_far (p := ⟨gb203, _, none⟩) NB202_203.out _).trans (((cell_far (p := ⟨gb203, _, none⟩) NB202_203.out _).trans (hHeld.2.2.2.2.1)))))))), ((cell_far (p := ⟨gb203, _, none⟩) NB202_203.out _).trans (((cell_far (p := ⟨gb203, _, none⟩) NB202_203.out _).trans (((cell_far (p := ⟨gb203, _, none⟩) NB202_203.out _).trans (((cell_far (p := ⟨gb203, _, none⟩) NB202_203.out _).trans (hHeld.2.2.2.2.2.1)))))))), ((cell_far (p := ⟨gb203, _, none⟩) NB202_203.out _).trans (((cell_far (p := ⟨gb203, _, none⟩) NB202_203.out _).trans (((cell_far (p := ⟨gb203, _, none⟩) NB202_203.out _).trans (((cell_far (p := ⟨gb203, _, none⟩) NB202_203.out _).trans (hHeld.2.2.2.2.2.2.1)))))))), ((cell_far (p := ⟨gb203, _, none⟩) NB202_203.out _).trans (((cell_far (p := ⟨gb203, _, none⟩) NB202_203.out _).trans (((cell_far (p := ⟨gb203, _, none⟩) NB202_203.out _).trans (((cell_far (p := ⟨gb203, _, none⟩) NB202_203.out _).trans (hHeld.2.2.2.2.2.2.2.1)))))))), ((cell_far (p := ⟨gb203, _, none⟩) (by first | exact Nat.ne_of_lt (Nat.lt_of_lt_of_le (by have := World.block_lt_of_cell? _ _ hw213_0; first | rwa [add_block] at this | exact this) GW203.out) | (rw [add_block]; exact Nat.ne_of_lt (Nat.lt_of_lt_of_le (by have := World.block_lt_of_cell? _ _ hw213_0; first | rwa [add_block] at this | exact this) GW203.out)) | (show (Addr.add _ _).block ≠ _; rw [add_block]; exact Nat.ne_of_lt (Nat.lt_of_lt_of_le (by have := World.block_lt_of_cell? _ _ hw213_0; first | rwa [add_block] at this | exact this) GW203.out)) | (dsimp only; exact Nat.ne_of_lt (Nat.lt_of_lt_of_le (by have := World.block_lt_of_cell? _ _ hw213_0; first | rwa [add_block] at this | exact this) GW203.out))) _).trans (((cell_far (p := ⟨gb203, _, none⟩) (by first | exact Nat.ne_of_lt (Nat.lt_of_lt_of_le (by have := World.block_lt_of_cell? _ _ hw213_0; first | rwa [add_block] at this | exact this) GW203.out) | (rw [add_block]; exact Nat.ne_of_lt (Nat.lt_of_lt_of_le (by have := World.block_lt_of_cell? _ _ hw213_0; first | rwa [add_block] at this | exact this) GW203.out)) | (show (Addr.add _ _).block ≠ _; rw [add_block]; exact Nat.ne_of_lt (Nat.lt_of_lt_of_le (by have := World.block_lt_of_cell? _ _ hw213_0; first | rwa [add_block] at this | exact this) GW203.out)) | (dsimp only; exact Nat.ne_of_lt (Nat.lt_of_lt_of_le (by have := World.block_lt_of_cell? _ _ hw213_0; first | rwa [add_block] at this | exact this) GW203.out))) _).trans (((cell_far (p := ⟨gb203, _, none⟩) (by first | exact Nat.ne_of_lt (Nat.lt_of_lt_of_le (by have := World.block_lt_of_cell? _ _ hw213_0; first | rwa [add_block] at this | exact this) GW203.out) | (rw [add_block]; exact Nat.ne_of_lt (Nat.lt_of_lt_of_le (by have := World.block_lt_of_cell? _ _ hw213_0; first | rwa [add_block] at this | exact this) GW203.out)) | (show (Addr.add _ _).block ≠ _; rw [add_block]; exact Nat.ne_of_lt (Nat.lt_of_lt_of_le (by have := World.block_lt_of_cell? _ _ hw213_0; first | rwa [add_block] at this | exact this) GW203.out)) | (dsimp only; exact Nat.ne_of_lt (Nat.lt_of_lt_of_le (by have := World.block_lt_of_cell? _ _ hw213_0; first | rwa [add_block] at this | exact this) GW203.out))) _).trans (((cell_far (p := ⟨gb203, _, none⟩) (by first | exact Nat.ne_of_lt (Nat.lt_of_lt_of_le (by have := World.block_lt_of_cell? _ _ hw213_0; first | rwa [add_block] at this | exact this) GW203.out) | (rw [add_block]; exact Nat.ne_of_lt (Nat.lt_of_lt_of_le (by have := World.block_lt_of_cell? _ _ hw213_0; first | rwa [add_block] at this | exact this) GW203.out)) | (show (Addr.add _ _).block ≠ _; rw [add_block]; exact Nat.ne_of_lt (Nat.lt_of_lt_of_le (by have := World.block_lt_of_cell? _ _ hw213_0; first | rwa [add_block] at this | exact this) GW203.out)) | (dsimp only; exact Nat.ne_of_lt (Nat.lt_of_lt_of_le (by have := World.block_lt_of_cell? _ _ hw213_0; first | rwa [add_block] at this | exact this) GW203.out))) _).trans (hHeld.2.2.2.2.2.2.2.2.1)))))))), ((cell_far (p := ⟨gb203, _, none⟩) (by first | exact Nat.ne_of_lt (Nat.lt_of_lt_of_le (by have := World.block_lt_of_cell? _ _ hw213_1; first | rwa [add_block] at this | exact this) GW203.out) | (rw [add_block]; exact Nat.ne_of_lt (Nat.lt_of_lt_of_le (by have := World.block_lt_of_cell? _ _ hw213_1; first | rwa [add_block] at this | exact this) GW203.out)) | (show (Addr.add _ _).block ≠ _; rw [add_block]; exact Nat.ne_of_lt (Nat.lt_of_lt_of_le (by have := World.block_lt_of_cell? _ _ hw213_1; first | rwa [add_block] at this | exact this) GW203.out)) | (dsimp only; exact Nat.ne_of_lt (Nat.lt_of_lt_of_le (by have := World.block_lt_of_cell? _ _ hw213_1; first | rwa [add_block] at this | exact this) GW203.out))) _).trans (((cell_far (p := ⟨gb203, _, none⟩) (by first | exact Nat.ne_of_lt (Nat.lt_of_lt_of_le (by have := World.block_lt_of_cell? _ _ hw213_1; first | rwa [add_block] at this | exact this) GW203.out) | (rw [add_block]; exact Nat.ne_of_lt (Nat.lt_of_lt_of_le (by have := World.block_lt_of_cell? _ _ hw213_1; first | rwa [add_block] at this | exact this) GW203.out)) | (show (Addr.add _ _).block ≠ _; rw [add_block]; exact Nat.ne_of_lt (Nat.lt_of_lt_of_le (by have := World.block_lt_of_cell? _ _ hw213_1; first | rwa [add_block] at this | exact this) GW203.out)) | (dsimp only; exact Nat.ne_of_lt (Nat.lt_of_lt_of_le (by have := World.block_lt_of_cell? _ _ hw213_1; first | rwa [add_block] at this | exact this) GW203.out))) _).trans (((cell_far (p := ⟨gb203, _, none⟩) (by first | exact Nat.ne_of_lt (Nat.lt_of_lt_of_le (by have := World.block_lt_of_cell? _ _ hw213_1; first | rwa [add_block] at this | exact this) GW203.out) | (rw [add_block]; exact Nat.ne_of_lt (Nat.lt_of_lt_of_le (by have := World.block_lt_of_cell? _ _ hw213_1; first | rwa [add_block] at this | exact this) GW203.out)) | (show (Addr.add _ _).block ≠ _; rw [add_block]; exact Nat.ne_of_lt (Nat.lt_of_lt_of_le (by have := World.block_lt_of_cell? _ _ hw213_1; first | rwa [add_block] at this | exact this) GW203.out)) | (dsimp only; exact Nat.ne_of_lt (Nat.lt_of_lt_of_le (by have := World.block_lt_of_cell? _ _ hw213_1; first | rwa [add_block] at this | exact this) GW203.out))) _).trans (((cell_far (p := ⟨gb203, _, none⟩) (by first | exact Nat.ne_of_lt (Nat.lt_of_lt_of_le (by have := World.block_lt_of_cell? _ _ hw213_1; first | rwa [add_block] at this | exact this) GW203.out) | (rw [add_block]; exact Nat.ne_of_lt (Nat.lt_of_lt_of_le (by have := World.block_lt_of_cell? _ _ hw213_1; first | rwa [add_block] at this | exact this) GW203.out)) | (show (Addr.add _ _).block ≠ _; rw [add_block]; exact Nat.ne_of_lt (Nat.lt_of_lt_of_le (by have := World.block_lt_of_cell? _ _ hw213_1; first | rwa [add_block] at this | exact this) GW203.out)) | (dsimp only; exact Nat.ne_of_lt (Nat.lt_of_lt_of_le (by have := World.block_lt_of_cell? _ _ hw213_1; first | rwa [add_block] at this | exact this) GW203.out))) _).trans (hHeld.2.2.2.2.2.2.2.2.2.1)))))))), ((cell_far (p := ⟨gb203, _, none⟩) (by first | exact Nat.ne_of_lt (Nat.lt_of_lt_of_le (by have := World.block_lt_of_cell? _ _ hw213_2; first | rwa [add_block] at this | exact this) GW203.out) | (rw [add_block]; exact Nat.ne_of_lt (Nat.lt_of_lt_of_le (by have := World.block_lt_of_cell? _ _ hw213_2; first | rwa [add_block] at this | exact this) GW203.out)) | (show (Addr.add _ _).block ≠ _; rw [add_block]; exact Nat.ne_of_lt (Nat.lt_of_lt_of_le (by have := World.block_lt_of_cell? _ _ hw213_2; first | rwa [add_block] at this | exact this) GW203.out)) | (dsimp only; exact Nat.ne_of_lt (Nat.lt_of_lt_of_le (by have := World.block_lt_of_cell? _ _ hw213_2; first | rwa [add_block] at this | exact this) GW203.out))) _).trans (((cell_far (p := ⟨gb203, _, none⟩) (by first | exact Nat.ne_of_lt (Nat.lt_of_lt_of_le (by have := World.block_lt_of_cell? _ _ hw213_2; first | rwa [add_block] at this | exact this) GW203.out) | (rw [add_block]; exact Nat.ne_of_lt (Nat.lt_of_lt_of_le (by have := World.block_lt_of_cell? _ _ hw213_2; first | rwa [add_block] at this | exact this) GW203.out)) | (show (Addr.add _ _).block ≠ _; rw [add_block]; exact Nat.ne_of_lt (Nat.lt_of_lt_of_le (by have := World.block_lt_of_cell? _ _ hw213_2; first | rwa [add_block] at this | exact this) GW203.out)) | (dsimp only; exact Nat.ne_of_lt (Nat.lt_of_lt_of_le (by have := World.block_lt_of_cell? _ _ hw213_2; first | rwa [add_block] at this | exact this) GW203.out))) _).trans (((cell_far (p := ⟨gb203, _, none⟩) (by first | exact Nat.ne_of_lt (Nat.lt_of_lt_of_le (by have := World.block_lt_of_cell? _ _ hw213_2; first | rwa [add_block] at this | exact this) GW203.out) | (rw [add_block]; exact Nat.ne_of_lt (Nat.lt_of_lt_of_le (by have := World.block_lt_of_cell? _ _ hw213_2; first | rwa [add_block] at this | exact this) GW203.out)) | (show (Addr.add _ _).block ≠ _; rw [add_block]; exact Nat.ne_of_lt (Nat.lt_of_lt_of_le (by have := World.block_lt_of_cell? _ _ hw213_2; first | rwa [add_block] at this | exact this) GW203.out)) | (dsimp only; exact Nat.ne_of_lt (Nat.lt_of_lt_of_le (by have := World.block_lt_of_cell? _ _ hw213_2; first | rwa [add_block] at this | exact this) GW203.out))) _).trans (((cell_far (p := ⟨gb203, _, none⟩) (by first | exact Nat.ne_of_lt (Nat.lt_of_lt_of_le (by have := World.block_lt_of_cell? _ _ hw213_2; first | rwa [add_block] at this | exact this) GW203.out) | (rw [add_block]; exact Nat.ne_of_lt (Nat.lt_of_lt_of_le (by have := World.block_lt_of_cell? _ _ hw213_2; first | rwa [add_block] at this | exact this) GW203.out)) | (show (Addr.add _ _).block ≠ _; rw [add_block]; exact Nat.ne_of_lt (Nat.lt_of_lt_of_le (by have := World.block_lt_of_cell? _ _ hw213_2; first | rwa [add_block] at this | exact this) GW203.out)) | (dsimp only; exact Nat.ne_of_lt (Nat.lt_of_lt_of_le (by have := World.block_lt_of_cell? _ _ hw213_2; first | rwa [add_block] at this | exact this) GW203.out))) _).trans (hHeld.2.2.2.2.2.2.2.2.2.2.1)))))))), ((cell_far (p := ⟨gb203, _, none⟩) (by first | exact Nat.ne_of_lt (Nat.lt_of_lt_of_le (by have := World.block_lt_of_cell? _ _ hw213_3; first | rwa [add_block] at this | exact this) GW203.out) | (rw [add_block]; exact Nat.ne_of_lt (Nat.lt_of_lt_of_le (by have := World.block_lt_of_cell? _ _ hw213_3; first | rwa [add_block] at this | exact this) GW203.out)) | (show (Addr.add _ _).block ≠ _; rw [add_block]; exact Nat.ne_of_lt (Nat.lt_of_lt_of_le (by have := World.block_lt_of_cell? _ _ hw213_3; first | rwa [add_block] at this | exact this) GW203.out)) | (dsimp only; exact Nat.ne_of_lt (Nat.lt_of_lt_of_le (by have := World.block_lt_of_cell? _ _ hw213_3; first | rwa [add_block] at this | exact this) GW203.out))) _).trans (((cell_far (p := ⟨gb203, _, none⟩) (by first | exact Nat.ne_of_lt (Nat.lt_of_lt_of_le (by have := World.block_lt_of_cell? _ _ hw213_3; first | rwa [add_block] at this | exact this) GW203.out) | (rw [add_block]; exact Nat.ne_of_lt (Nat.lt_of_lt_of_le (by have := World.block_lt_of_cell? _ _ hw213_3; first | rwa [add_block] at this | exact this) GW203.out)) | (show (Addr.add _ _).block ≠ _; rw [add_block]; exact Nat.ne_of_lt (Nat.lt_of_lt_of_le (by have := World.block_lt_of_cell? _ _ hw213_3; first | rwa [add_block] at this | exact this) GW203.out)) | (dsimp only; exact Nat.ne_of_lt (Nat.lt_of_lt_of_le (by have := World.block_lt_of_cell? _ _ hw213_3; first | rwa [add_block] at this | exact this) GW203.out))) _).trans (((cell_far (p := ⟨gb203, _, none⟩) (by first | exact Nat.ne_of_lt (Nat.lt_of_lt_of_le (by have := World.block_lt_of_cell? _ _ hw213_3; first | rwa [add_block] at this | exact this) GW203.out) | (rw [add_block]; exact Nat.ne_of_lt (Nat.lt_of_lt_of_le (by have := World.block_lt_of_cell? _ _ hw213_3; first | rwa [add_block] at this | exact this) GW203.out)) | (show (Addr.add _ _).block ≠ _; rw [add_block]; exact Nat.ne_of_lt (Nat.lt_of_lt_of_le (by have := World.block_lt_of_cell? _ _ hw213_3; first | rwa [add_block] at this | exact this) GW203.out)) | (dsimp only; exact Nat.ne_of_lt (Nat.lt_of_lt_of_le (by have := World.block_lt_of_cell? _ _ hw213_3; first | rwa [add_block] at this | exact this) GW203.out))) _).trans (((cell_far (p := ⟨gb203, _, none⟩) (by first | exact Nat.ne_of_lt (Nat.lt_of_lt_of_le (by have := World.block_lt_of_cell? _ _ hw213_3; first | rwa [add_block] at this | exact this) GW203.out) | (rw [add_block]; exact Nat.ne_of_lt (Nat.lt_of_lt_of_le (by have := World.block_lt_of_cell? _ _ hw213_3; first | rwa [add_block] at this | exact this) GW203.out)) | (show (Addr.add _ _).block ≠ _; rw [add_block]; exact Nat.ne_of_lt (Nat.lt_of_lt_of_le (by have := World.block_lt_of_cell? _ _ hw213_3; first | rwa [add_block] at this | exact this) GW203.out)) | (dsimp only; exact Nat.ne_of_lt (Nat.lt_of_lt_of_le (by have := World.block_lt_of_cell? _ _ hw213_3; first | rwa [add_block] at this | exact this) GW203.out))) _).trans (hHeld.2.2.2.2.2.2.2.2.2.2.2))))))))⟩ (fun hHeld => ?_)
               clear hK K
               refine pu 26 3 (bv 28 134217727) HT_ rfl rfl ?_
               refine pu 27 4 (bv 28 268435455) HT_ rfl rfl ?_
               refine done_ (done_of HT_.out (by kernel_rfl)) ?_
               try go_wp2
               refine bodyPost_ret (results_ctt rfl _ _ gb203 39 #[.int .i64 ((rd_T33 l0_3 1).f2), .int .i64 ((rd_T33 l0_3 2).f2), .int .i64 ((rd_T33 l0_3 3).f2), .int .i64 ((rd_T33 l0_3 4).f2)] (0, 0) _ rfl (by (with_reducible repeat (first | refine blk_drewN ?_ _ | refine blk_drew ?_ | refine blk_alloc ?_ _)); refine blk_put (cs := #[.int .i64 ((rd_T33 l0_3 1).f2), .int .i64 ((rd_T33 l0_3 2).f2), .int .i64 ((rd_T33 l0_3 3).f2), .int .i64 x204003_2]) ?_ 3 _ rfl; (with_reducible repeat (first | refine blk_drewN ?_ _ | refine blk_drew ?_ | refine blk_alloc ?_ _)); refine blk_put (cs := #[.int .i64 ((rd_T33 l0_3 1).f2), .int .i64 ((rd_T33 l0_3 2).f2), .int .i64 x204002_2, .int .i64 x204003_2]) ?_ 2 _ rfl; (with_reducible repeat (first | refine blk_drewN ?_ _ | refine blk_drew ?_ | refine blk_alloc ?_ _)); refine blk_put (cs := #[.int .i64 ((rd_T33 l0_3 1).f2), .int .i64 x204001_2, .int .i64 x204002_2, .int .i64 x204003_2]) ?_ 1 _ rfl; (with_reducible repeat (first | refine blk_drewN ?_ _ | refine blk_drew ?_ | refine blk_alloc ?_ _)); refine blk_put (cs := #[.int .i64 x204000_2, .int .i64 x204001_2, .int .i64 x204002_2, .int .i64 x204003_2]) ?_ 0 _ rfl; (with_reducible repeat (first | refine blk_drewN ?_ _ | refine blk_drew ?_ | refine blk_alloc ?_ _)); exact BK203.out) Tryd.underlying39 rfl (by kernel_rfl)) rfl ?_
               exact ⟨re, bl⟩
             ·simp only [Option.some.injEq, Prod.mk.injEq] at H
              obtain ⟨rfl, rfl, rfl, rfl, rfl, rfl⟩ := H
              try rw [c37b0]
              try rw [c38b0]
              refine pu 11 85 (bv 28 4095) HT_ rfl rfl ?_
              refine tk 12 86 (bv 28 8191) HT_ HW_ hHeld rfl rfl (by rintro w' ⟨s0, s1, s2, s3, s4, s5, s6, s7, s8, s9, s10, s11⟩; exact yl) ?_
              refine pu 13 87 (bv 28 16383) HT_ rfl rfl ?_
              refine pu 14 88 (bv 28 32767) HT_ rfl rfl ?_
              refine pu 15 89 (bv 28 65535) HT_ rfl rfl ?_
              refine pn 16 90 (bv 28 131071) HT_ rfl rfl ?_
              refine pn 17 91 (bv 28 262143) HT_ rfl rfl ?_
              refine pn 18 92 (bv 28 524287) HT_ rfl rfl ?_
              refine pu 19 93 (bv 28 1048575) HT_ rfl rfl ?_
              refine pu 20 94 (bv 28 2097151) HT_ rfl rfl ?_
              refine pn 21 95 (bv 28 4194303) HT_ rfl rfl ?_
              refine pn 22 96 (bv 28 8388607) HT_ rfl rfl ?_
              refine pn 23 97 (bv 28 16777215) HT_ rfl rfl ?_
              refine pu 24 98 (bv 28 33554431) HT_ rfl rfl ?_
              refine one_ (i := 25) (N := none) (bv 28 67108863) rfl rfl (one_of HT_.out (by kernel_rfl)) (by decide) (fun K hK => ?_)
              have hs48 : w47.cell? ⟨gb203, 0, none⟩ = some (.int .i64 x204000_2) := (blk_cell BK203.out 0).trans rfl
              have hfs48 := blk_frozen BK203.out 0
              have hns48_0 := NB202_203.out
              have hns48_2 := NB212_203.out
              have hms48_0 := NB203_202.out
              have hms48_2 := NB203_212.out
              have hs49 : w47.cell? ⟨gb203, 1, none⟩ = some (.int .i64 x204001_2) := (blk_cell BK203.out 1).trans rfl
              have hfs49 := blk_frozen BK203.out 1
              have hns49_0 := NB202_203.out
              have hns49_2 := NB212_203.out
              have hms49_0 := NB203_202.out
              have hms49_2 := NB203_212.out
              have hs50 : w47.cell? ⟨gb203, 2, none⟩ = some (.int .i64 x204002_2) := (blk_cell BK203.out 2).trans rfl
              have hfs50 := blk_frozen BK203.out 2
              have hns50_0 := NB202_203.out
              have hns50_2 := NB212_203.out
              have hms50_0 := NB203_202.out
              have hms50_2 := NB203_212.out
              have hs51 : w47.cell? ⟨gb203, 3, none⟩ = some (.int .i64 x204003_2) := (blk_cell BK203.out 3).trans rfl
              have hfs51 := blk_frozen BK203.out 3
              have hns51_0 := NB202_203.out
              have hns51_2 := NB212_203.out
              have hms51_0 := NB203_202.out
              have hms51_2 := NB203_212.out
              refine skip_ (w1 := ?_) (by rfl) rfl ?_ ?_
              rotate_left
              ·go_simp
               rfl
              refine hK.out _ _ ⟨((cell_far (p := ⟨gb203, _, none⟩) NB212_203.out _).trans (((cell_far (p := ⟨gb203, _, none⟩) NB212_203.out _).trans (((cell_far (p := ⟨gb203, _, none⟩) NB212_203.out _).trans (((cell_far (p := ⟨gb203, _, none⟩) NB212_203.out _).trans (hHeld.1)))))))), ((cell_far (p := ⟨gb203, _, none⟩) NB212_203.out _).trans (((cell_far (p := ⟨gb203, _, none⟩) NB212_203.out _).trans (((cell_far (p := ⟨gb203, _, none⟩) NB212_203.out _).trans (((cell_far (p := ⟨gb203, _, none⟩) NB212_203.out _).trans (hHeld.2.1)))))))), ((cell_far (p := ⟨gb203, _, none⟩) NB212_203.out _).trans (((cell_far (p := ⟨gb203, _, none⟩) NB212_203.out _).trans (((cell_far (p := ⟨gb203, _, none⟩) NB212_203.out _).trans (((cell_far (p := ⟨gb203, _, none⟩) NB212_203.out _).trans (hHeld.2.2.1)))))))), ((cell_far (p := ⟨gb203, _, none⟩) NB212_203.out _).trans (((cell_far (p := ⟨gb203, _, none⟩) NB212_203.out _).trans (((cell_far (p := ⟨gb203, _, none⟩) NB212_203.out _).trans (((cell_far (p := ⟨gb203, _, none⟩) NB212_203.out _).trans (hHeld.2.2.2.1)))))))), ((cell_far (p := ⟨gb203, _, none⟩) NB202_203.out _).trans (((cell_far (p := ⟨gb203, _, none⟩) NB202_203.out _).trans (((cell_far (p := ⟨gb203, _, none⟩) NB202_203.out _).trans (((cell_far (p := ⟨gb203, _, none⟩) NB202_203.out _).trans (hHeld.2.2.2.2.1)))))))), ((cell_far (p := ⟨gb203, _, none⟩) NB202_203.out _).trans (((cell_far (p := ⟨gb203, _, none⟩) NB202_203.out _).trans (((cell_far (p := ⟨gb203, _, none⟩) NB202_203.out _).trans (((cell_far (p := ⟨gb203, _, none⟩) NB202_203.out _).trans (hHeld.2.2.2.2.2.1)))))))), ((cell_far (p := ⟨gb203, _, none⟩) NB202_203.out _).trans (((cell_far (p := ⟨gb203, _, none⟩) NB202_203.out _).trans (((cell_far (p := ⟨gb203, _, none⟩) NB202_203.out _).trans (((cell_far (p := ⟨gb203, _, none⟩) NB202_203.out _).trans (hHeld.2.2.2.2.2.2.1)))))))), ((cell_far (p := ⟨gb203, _, none⟩) NB202_203.out _).trans (((cell_far (p := ⟨gb203, _, none⟩) NB202_203.out _).trans (((cell_far (p := ⟨gb203, _, none⟩) NB202_203.out _).trans (((cell_far (p := ⟨gb203, _, none⟩) NB202_203.out _).trans (hHeld.2.2.2.2.2.2.2.1)))))))), ((cell_far (p := ⟨gb203, _, none⟩) (by first | exact Nat.ne_of_lt (Nat.lt_of_lt_of_le (by have := World.block_lt_of_cell? _ _ hw213_0; first | rwa [add_block] at this | exact this) GW203.out) | (rw [add_block]; exact Nat.ne_of_lt (Nat.lt_of_lt_of_le (by have := World.block_lt_of_cell? _ _ hw213_0; first | rwa [add_block] at this | exact this) GW203.out)) | (show (Addr.add _ _).block ≠ _; rw [add_block]; exact Nat.ne_of_lt (Nat.lt_of_lt_of_le (by have := World.block_lt_of_cell? _ _ hw213_0; first | rwa [add_block] at this | exact this) GW203.out)) | (dsimp only; exact Nat.ne_of_lt (Nat.lt_of_lt_of_le (by have := World.block_lt_of_cell? _ _ hw213_0; first | rwa [add_block] at this | exact this) GW203.out))) _).trans (((cell_far (p := ⟨gb203, _, none⟩) (by first | exact Nat.ne_of_lt (Nat.lt_of_lt_of_le (by have := World.block_lt_of_cell? _ _ hw213_0; first | rwa [add_block] at this | exact this) GW203.out) | (rw [add_block]; exact Nat.ne_of_lt (Nat.lt_of_lt_of_le (by have := World.block_lt_of_cell? _ _ hw213_0; first | rwa [add_block] at this | exact this) GW203.out)) | (show (Addr.add _ _).block ≠ _; rw [add_block]; exact Nat.ne_of_lt (Nat.lt_of_lt_of_le (by have := World.block_lt_of_cell? _ _ hw213_0; first | rwa [add_block] at this | exact this) GW203.out)) | (dsimp only; exact Nat.ne_of_lt (Nat.lt_of_lt_of_le (by have := World.block_lt_of_cell? _ _ hw213_0; first | rwa [add_block] at this | exact this) GW203.out))) _).trans (((cell_far (p := ⟨gb203, _, none⟩) (by first | exact Nat.ne_of_lt (Nat.lt_of_lt_of_le (by have := World.block_lt_of_cell? _ _ hw213_0; first | rwa [add_block] at this | exact this) GW203.out) | (rw [add_block]; exact Nat.ne_of_lt (Nat.lt_of_lt_of_le (by have := World.block_lt_of_cell? _ _ hw213_0; first | rwa [add_block] at this | exact this) GW203.out)) | (show (Addr.add _ _).block ≠ _; rw [add_block]; exact Nat.ne_of_lt (Nat.lt_of_lt_of_le (by have := World.block_lt_of_cell? _ _ hw213_0; first | rwa [add_block] at this | exact this) GW203.out)) | (dsimp only; exact Nat.ne_of_lt (Nat.lt_of_lt_of_le (by have := World.block_lt_of_cell? _ _ hw213_0; first | rwa [add_block] at this | exact this) GW203.out))) _).trans (((cell_far (p := ⟨gb203, _, none⟩) (by first | exact Nat.ne_of_lt (Nat.lt_of_lt_of_le (by have := World.block_lt_of_cell? _ _ hw213_0; first | rwa [add_block] at this | exact this) GW203.out) | (rw [add_block]; exact Nat.ne_of_lt (Nat.lt_of_lt_of_le (by have := World.block_lt_of_cell? _ _ hw213_0; first | rwa [add_block] at this | exact this) GW203.out)) | (show (Addr.add _ _).block ≠ _; rw [add_block]; exact Nat.ne_of_lt (Nat.lt_of_lt_of_le (by have := World.block_lt_of_cell? _ _ hw213_0; first | rwa [add_block] at this | exact this) GW203.out)) | (dsimp only; exact Nat.ne_of_lt (Nat.lt_of_lt_of_le (by have := World.block_lt_of_cell? _ _ hw213_0; first | rwa [add_block] at this | exact this) GW203.out))) _).trans (hHeld.2.2.2.2.2.2.2.2.1)))))))), ((cell_far (p := ⟨gb203, _, none⟩) (by first | exact Nat.ne_of_lt (Nat.lt_of_lt_of_le (by have := World.block_lt_of_cell? _ _ hw213_1; first | rwa [add_block] at this | exact this) GW203.out) | (rw [add_block]; exact Nat.ne_of_lt (Nat.lt_of_lt_of_le (by have := World.block_lt_of_cell? _ _ hw213_1; first | rwa [add_block] at this | exact this) GW203.out)) | (show (Addr.add _ _).block ≠ _; rw [add_block]; exact Nat.ne_of_lt (Nat.lt_of_lt_of_le (by have := World.block_lt_of_cell? _ _ hw213_1; first | rwa [add_block] at this | exact this) GW203.out)) | (dsimp only; exact Nat.ne_of_lt (Nat.lt_of_lt_of_le (by have := World.block_lt_of_cell? _ _ hw213_1; first | rwa [add_block] at this | exact this) GW203.out))) _).trans (((cell_far (p := ⟨gb203, _, none⟩) (by first | exact Nat.ne_of_lt (Nat.lt_of_lt_of_le (by have := World.block_lt_of_cell? _ _ hw213_1; first | rwa [add_block] at this | exact this) GW203.out) | (rw [add_block]; exact Nat.ne_of_lt (Nat.lt_of_lt_of_le (by have := World.block_lt_of_cell? _ _ hw213_1; first | rwa [add_block] at this | exact this) GW203.out)) | (show (Addr.add _ _).block ≠ _; rw [add_block]; exact Nat.ne_of_lt (Nat.lt_of_lt_of_le (by have := World.block_lt_of_cell? _ _ hw213_1; first | rwa [add_block] at this | exact this) GW203.out)) | (dsimp only; exact Nat.ne_of_lt (Nat.lt_of_lt_of_le (by have := World.block_lt_of_cell? _ _ hw213_1; first | rwa [add_block] at this | exact this) GW203.out))) _).trans (((cell_far (p := ⟨gb203, _, none⟩) (by first | exact Nat.ne_of_lt (Nat.lt_of_lt_of_le (by have := World.block_lt_of_cell? _ _ hw213_1; first | rwa [add_block] at this | exact this) GW203.out) | (rw [add_block]; exact Nat.ne_of_lt (Nat.lt_of_lt_of_le (by have := World.block_lt_of_cell? _ _ hw213_1; first | rwa [add_block] at this | exact this) GW203.out)) | (show (Addr.add _ _).block ≠ _; rw [add_block]; exact Nat.ne_of_lt (Nat.lt_of_lt_of_le (by have := World.block_lt_of_cell? _ _ hw213_1; first | rwa [add_block] at this | exact this) GW203.out)) | (dsimp only; exact Nat.ne_of_lt (Nat.lt_of_lt_of_le (by have := World.block_lt_of_cell? _ _ hw213_1; first | rwa [add_block] at this | exact this) GW203.out))) _).trans (((cell_far (p := ⟨gb203, _, none⟩) (by first | exact Nat.ne_of_lt (Nat.lt_of_lt_of_le (by have := World.block_lt_of_cell? _ _ hw213_1; first | rwa [add_block] at this | exact this) GW203.out) | (rw [add_block]; exact Nat.ne_of_lt (Nat.lt_of_lt_of_le (by have := World.block_lt_of_cell? _ _ hw213_1; first | rwa [add_block] at this | exact this) GW203.out)) | (show (Addr.add _ _).block ≠ _; rw [add_block]; exact Nat.ne_of_lt (Nat.lt_of_lt_of_le (by have := World.block_lt_of_cell? _ _ hw213_1; first | rwa [add_block] at this | exact this) GW203.out)) | (dsimp only; exact Nat.ne_of_lt (Nat.lt_of_lt_of_le (by have := World.block_lt_of_cell? _ _ hw213_1; first | rwa [add_block] at this | exact this) GW203.out))) _).trans (hHeld.2.2.2.2.2.2.2.2.2.1)))))))), ((cell_far (p := ⟨gb203, _, none⟩) (by first | exact Nat.ne_of_lt (Nat.lt_of_lt_of_le (by have := World.block_lt_of_cell? _ _ hw213_2; first | rwa [add_block] at this | exact this) GW203.out) | (rw [add_block]; exact Nat.ne_of_lt (Nat.lt_of_lt_of_le (by have := World.block_lt_of_cell? _ _ hw213_2; first | rwa [add_block] at this | exact this) GW203.out)) | (show (Addr.add _ _).block ≠ _; rw [add_block]; exact Nat.ne_of_lt (Nat.lt_of_lt_of_le (by have := World.block_lt_of_cell? _ _ hw213_2; first | rwa [add_block] at this | exact this) GW203.out)) | (dsimp only; exact Nat.ne_of_lt (Nat.lt_of_lt_of_le (by have := World.block_lt_of_cell? _ _ hw213_2; first | rwa [add_block] at this | exact this) GW203.out))) _).trans (((cell_far (p := ⟨gb203, _, none⟩) (by first | exact Nat.ne_of_lt (Nat.lt_of_lt_of_le (by have := World.block_lt_of_cell? _ _ hw213_2; first | rwa [add_block] at this | exact this) GW203.out) | (rw [add_block]; exact Nat.ne_of_lt (Nat.lt_of_lt_of_le (by have := World.block_lt_of_cell? _ _ hw213_2; first | rwa [add_block] at this | exact this) GW203.out)) | (show (Addr.add _ _).block ≠ _; rw [add_block]; exact Nat.ne_of_lt (Nat.lt_of_lt_of_le (by have := World.block_lt_of_cell? _ _ hw213_2; first | rwa [add_block] at this | exact this) GW203.out)) | (dsimp only; exact Nat.ne_of_lt (Nat.lt_of_lt_of_le (by have := World.block_lt_of_cell? _ _ hw213_2; first | rwa [add_block] at this | exact this) GW203.out))) _).trans (((cell_far (p := ⟨gb203, _, none⟩) (by first | exact Nat.ne_of_lt (Nat.lt_of_lt_of_le (by have := World.block_lt_of_cell? _ _ hw213_2; first | rwa [add_block] at this | exact this) GW203.out) | (rw [add_block]; exact Nat.ne_of_lt (Nat.lt_of_lt_of_le (by have := World.block_lt_of_cell? _ _ hw213_2; first | rwa [add_block] at this | exact this) GW203.out)) | (show (Addr.add _ _).block ≠ _; rw [add_block]; exact Nat.ne_of_lt (Nat.lt_of_lt_of_le (by have := World.block_lt_of_cell? _ _ hw213_2; first | rwa [add_block] at this | exact this) GW203.out)) | (dsimp only; exact Nat.ne_of_lt (Nat.lt_of_lt_of_le (by have := World.block_lt_of_cell? _ _ hw213_2; first | rwa [add_block] at this | exact this) GW203.out))) _).trans (((cell_far (p := ⟨gb203, _, none⟩) (by first | exact Nat.ne_of_lt (Nat.lt_of_lt_of_le (by have := World.block_lt_of_cell? _ _ hw213_2; first | rwa [add_block] at this | exact this) GW203.out) | (rw [add_block]; exact Nat.ne_of_lt (Nat.lt_of_lt_of_le (by have := World.block_lt_of_cell? _ _ hw213_2; first | rwa [add_block] at this | exact this) GW203.out)) | (show (Addr.add _ _).block ≠ _; rw [add_block]; exact Nat.ne_of_lt (Nat.lt_of_lt_of_le (by have := World.block_lt_of_cell? _ _ hw213_2; first | rwa [add_block] at this | exact this) GW203.out)) | (dsimp only; exact Nat.ne_of_lt (Nat.lt_of_lt_of_le (by have := World.block_lt_of_cell? _ _ hw213_2; first | rwa [add_block] at this | exact this) GW203.out))) _).trans (hHeld.2.2.2.2.2.2.2.2.2.2.1)))))))), ((cell_far (p := ⟨gb203, _, none⟩) (by first | exact Nat.ne_of_lt (Nat.lt_of_lt_of_le (by have := World.block_lt_of_cell? _ _ hw213_3; first | rwa [add_block] at this | exact this) GW203.out) | (rw [add_block]; exact Nat.ne_of_lt (Nat.lt_of_lt_of_le (by have := World.block_lt_of_cell? _ _ hw213_3; first | rwa [add_block] at this | exact this) GW203.out)) | (show (Addr.add _ _).block ≠ _; rw [add_block]; exact Nat.ne_of_lt (Nat.lt_of_lt_of_le (by have := World.block_lt_of_cell? _ _ hw213_3; first | rwa [add_block] at this | exact this) GW203.out)) | (dsimp only; exact Nat.ne_of_lt (Nat.lt_of_lt_of_le (by have := World.block_lt_of_cell? _ _ hw213_3; first | rwa [add_block] at this | exact this) GW203.out))) _).trans (((cell_far (p := ⟨gb203, _, none⟩) (by first | exact Nat.ne_of_lt (Nat.lt_of_lt_of_le (by have := World.block_lt_of_cell? _ _ hw213_3; first | rwa [add_block] at this | exact this) GW203.out) | (rw [add_block]; exact Nat.ne_of_lt (Nat.lt_of_lt_of_le (by have := World.block_lt_of_cell? _ _ hw213_3; first | rwa [add_block] at this | exact this) GW203.out)) | (show (Addr.add _ _).block ≠ _; rw [add_block]; exact Nat.ne_of_lt (Nat.lt_of_lt_of_le (by have := World.block_lt_of_cell? _ _ hw213_3; first | rwa [add_block] at this | exact this) GW203.out)) | (dsimp only; exact Nat.ne_of_lt (Nat.lt_of_lt_of_le (by have := World.block_lt_of_cell? _ _ hw213_3; first | rwa [add_block] at this | exact this) GW203.out))) _).trans (((cell_far (p := ⟨gb203, _, none⟩) (by first | exact Nat.ne_of_lt (Nat.lt_of_lt_of_le (by have := World.block_lt_of_cell? _ _ hw213_3; first | rwa [add_block] at this | exact this) GW203.out) | (rw [add_block]; exact Nat.ne_of_lt (Nat.lt_of_lt_of_le (by have := World.block_lt_of_cell? _ _ hw213_3; first | rwa [add_block] at this | exact this) GW203.out)) | (show (Addr.add _ _).block ≠ _; rw [add_block]; exact Nat.ne_of_lt (Nat.lt_of_lt_of_le (by have := World.block_lt_of_cell? _ _ hw213_3; first | rwa [add_block] at this | exact this) GW203.out)) | (dsimp only; exact Nat.ne_of_lt (Nat.lt_of_lt_of_le (by have := World.block_lt_of_cell? _ _ hw213_3; first | rwa [add_block] at this | exact this) GW203.out))) _).trans (((cell_far (p := ⟨gb203, _, none⟩) (by first | exact Nat.ne_of_lt (Nat.lt_of_lt_of_le (by have := World.block_lt_of_cell? _ _ hw213_3; first | rwa [add_block] at this | exact this) GW203.out) | (rw [add_block]; exact Nat.ne_of_lt (Nat.lt_of_lt_of_le (by have := World.block_lt_of_cell? _ _ hw213_3; first | rwa [add_block] at this | exact this) GW203.out)) | (show (Addr.add _ _).block ≠ _; rw [add_block]; exact Nat.ne_of_lt (Nat.lt_of_lt_of_le (by have := World.block_lt_of_cell? _ _ hw213_3; first | rwa [add_block] at this | exact this) GW203.out)) | (dsimp only; exact Nat.ne_of_lt (Nat.lt_of_lt_of_le (by have := World.block_lt_of_cell? _ _ hw213_3; first | rwa [add_block] at this | exact this) GW203.out))) _).trans (hHeld.2.2.2.2.2.2.2.2.2.2.2))))))))⟩ (fun hHeld => ?_)
              clear hK K
              refine pu 26 3 (bv 28 134217727) HT_ rfl rfl ?_
              refine pu 27 4 (bv 28 268435455) HT_ rfl rfl ?_
              refine done_ (done_of HT_.out (by kernel_rfl)) ?_
              try go_wp2
              refine bodyPost_ret (results_ctt rfl _ _ gb203 39 #[.int .i64 ((rd_T33 l0_3 1).f2), .int .i64 ((rd_T33 l0_3 2).f2), .int .i64 ((rd_T33 l0_3 3).f2), .int .i64 ((rd_T33 l0_3 4).f2)] (0, 0) _ rfl (by (with_reducible repeat (first | refine blk_drewN ?_ _ | refine blk_drew ?_ | refine blk_alloc ?_ _)); refine blk_put (cs := #[.int .i64 ((rd_T33 l0_3 1).f2), .int .i64 ((rd_T33 l0_3 2).f2), .int .i64 ((rd_T33 l0_3 3).f2), .int .i64 x204003_2]) ?_ 3 _ rfl; (with_reducible repeat (first | refine blk_drewN ?_ _ | refine blk_drew ?_ | refine blk_alloc ?_ _)); refine blk_put (cs := #[.int .i64 ((rd_T33 l0_3 1).f2), .int .i64 ((rd_T33 l0_3 2).f2), .int .i64 x204002_2, .int .i64 x204003_2]) ?_ 2 _ rfl; (with_reducible repeat (first | refine blk_drewN ?_ _ | refine blk_drew ?_ | refine blk_alloc ?_ _)); refine blk_put (cs := #[.int .i64 ((rd_T33 l0_3 1).f2), .int .i64 x204001_2, .int .i64 x204002_2, .int .i64 x204003_2]) ?_ 1 _ rfl; (with_reducible repeat (first | refine blk_drewN ?_ _ | refine blk_drew ?_ | refine blk_alloc ?_ _)); refine blk_put (cs := #[.int .i64 x204000_2, .int .i64 x204001_2, .int .i64 x204002_2, .int .i64 x204003_2]) ?_ 0 _ rfl; (with_reducible repeat (first | refine blk_drewN ?_ _ | refine blk_drew ?_ | refine blk_alloc ?_ _)); exact BK203.out) Tryd.underlying39 rfl (by kernel_rfl)) rfl ?_
              exact ⟨re, bl⟩
            ·simp only [Option.some.injEq, Prod.mk.injEq] at H
             obtain ⟨rfl, rfl, rfl, rfl, rfl, rfl⟩ := H
             try rw [c37b0]
             refine pn 11 85 (bv 28 4095) HT_ rfl rfl ?_
             refine pn 12 86 (bv 28 8191) HT_ rfl rfl ?_
             refine pn 13 87 (bv 28 16383) HT_ rfl rfl ?_
             refine pu 14 88 (bv 28 32767) HT_ rfl rfl ?_
             refine pu 15 89 (bv 28 65535) HT_ rfl rfl ?_
             refine pn 16 90 (bv 28 131071) HT_ rfl rfl ?_
             refine pn 17 91 (bv 28 262143) HT_ rfl rfl ?_
             refine pn 18 92 (bv 28 524287) HT_ rfl rfl ?_
             refine pu 19 93 (bv 28 1048575) HT_ rfl rfl ?_
             refine pu 20 94 (bv 28 2097151) HT_ rfl rfl ?_
             refine pn 21 95 (bv 28 4194303) HT_ rfl rfl ?_
             refine pn 22 96 (bv 28 8388607) HT_ rfl rfl ?_
             refine pn 23 97 (bv 28 16777215) HT_ rfl rfl ?_
             refine pu 24 98 (bv 28 33554431) HT_ rfl rfl ?_
             refine one_ (i := 25) (N := none) (bv 28 67108863) rfl rfl (one_of HT_.out (by kernel_rfl)) (by decide) (fun K hK => ?_)
             have hs48 : w47.cell? ⟨gb203, 0, none⟩ = some (.int .i64 x204000_2) := (blk_cell BK203.out 0).trans rfl
             have hfs48 := blk_frozen BK203.out 0
             have hns48_0 := NB202_203.out
             have hns48_2 := NB212_203.out
             have hms48_0 := NB203_202.out
             have hms48_2 := NB203_212.out
             have hs49 : w47.cell? ⟨gb203, 1, none⟩ = some (.int .i64 x204001_2) := (blk_cell BK203.out 1).trans rfl
             have hfs49 := blk_frozen BK203.out 1
             have hns49_0 := NB202_203.out
             have hns49_2 := NB212_203.out
             have hms49_0 := NB203_202.out
             have hms49_2 := NB203_212.out
             have hs50 : w47.cell? ⟨gb203, 2, none⟩ = some (.int .i64 x204002_2) := (blk_cell BK203.out 2).trans rfl
             have hfs50 := blk_frozen BK203.out 2
             have hns50_0 := NB202_203.out
             have hns50_2 := NB212_203.out
             have hms50_0 := NB203_202.out
             have hms50_2 := NB203_212.out
             have hs51 : w47.cell? ⟨gb203, 3, none⟩ = some (.int .i64 x204003_2) := (blk_cell BK203.out 3).trans rfl
             have hfs51 := blk_frozen BK203.out 3
             have hns51_0 := NB202_203.out
             have hns51_2 := NB212_203.out
             have hms51_0 := NB203_202.out
             have hms51_2 := NB203_212.out
             refine skip_ (w1 := ?_) (by rfl) rfl ?_ ?_
             rotate_left
             ·go_simp
              rfl
             refine hK.out _ _ ⟨((cell_far (p := ⟨gb203, _, none⟩) NB212_203.out _).trans (((cell_far (p := ⟨gb203, _, none⟩) NB212_203.out _).trans (((cell_far (p := ⟨gb203, _, none⟩) NB212_203.out _).trans (((cell_far (p := ⟨gb203, _, none⟩) NB212_203.out _).trans (hHeld.1)))))))), ((cell_far (p := ⟨gb203, _, none⟩) NB212_203.out _).trans (((cell_far (p := ⟨gb203, _, none⟩) NB212_203.out _).trans (((cell_far (p := ⟨gb203, _, none⟩) NB212_203.out _).trans (((cell_far (p := ⟨gb203, _, none⟩) NB212_203.out _).trans (hHeld.2.1)))))))), ((cell_far (p := ⟨gb203, _, none⟩) NB212_203.out _).trans (((cell_far (p := ⟨gb203, _, none⟩) NB212_203.out _).trans (((cell_far (p := ⟨gb203, _, none⟩) NB212_203.out _).trans (((cell_far (p := ⟨gb203, _, none⟩) NB212_203.out _).trans (hHeld.2.2.1)))))))), ((cell_far (p := ⟨gb203, _, none⟩) NB212_203.out _).trans (((cell_far (p := ⟨gb203, _, none⟩) NB212_203.out _).trans (((cell_far (p := ⟨gb203, _, none⟩) NB212_203.out _).trans (((cell_far (p := ⟨gb203, _, none⟩) NB212_203.out _).trans (hHeld.2.2.2.1)))))))), ((cell_far (p := ⟨gb203, _, none⟩) NB202_203.out _).trans (((cell_far (p := ⟨gb203, _, none⟩) NB202_203.out _).trans (((cell_far (p := ⟨gb203, _, none⟩) NB202_203.out _).trans (((cell_far (p := ⟨gb203, _, none⟩) NB202_203.out _).trans (hHeld.2.2.2.2.1)))))))), ((cell_far (p := ⟨gb203, _, none⟩) NB202_203.out _).trans (((cell_far (p := ⟨gb203, _, none⟩) NB202_203.out _).trans (((cell_far (p := ⟨gb203, _, none⟩) NB202_203.out _).trans (((cell_far (p := ⟨gb203, _, none⟩) NB202_203.out _).trans (hHeld.2.2.2.2.2.1)))))))), ((cell_far (p := ⟨gb203, _, none⟩) NB202_203.out _).trans (((cell_far (p := ⟨gb203, _, none⟩) NB202_203.out _).trans (((cell_far (p := ⟨gb203, _, none⟩) NB202_203.out _).trans (((cell_far (p := ⟨gb203, _, none⟩) NB202_203.out _).trans (hHeld.2.2.2.2.2.2.1)))))))), ((cell_far (p := ⟨gb203, _, none⟩) NB202_203.out _).trans (((cell_far (p := ⟨gb203, _, none⟩) NB202_203.out _).trans (((cell_far (p := ⟨gb203, _, none⟩) NB202_203.out _).trans (((cell_far (p := ⟨gb203, _, none⟩) NB202_203.out _).trans (hHeld.2.2.2.2.2.2.2.1)))))))), ((cell_far (p := ⟨gb203, _, none⟩) (by first | exact Nat.ne_of_lt (Nat.lt_of_lt_of_le (by have := World.block_lt_of_cell? _ _ hw213_0; first | rwa [add_block] at this | exact this) GW203.out) | (rw [add_block]; exact Nat.ne_of_lt (Nat.lt_of_lt_of_le (by have := World.block_lt_of_cell? _ _ hw213_0; first | rwa [add_block] at this | exact this) GW203.out)) | (show (Addr.add _ _).block ≠ _; rw [add_block]; exact Nat.ne_of_lt (Nat.lt_of_lt_of_le (by have := World.block_lt_of_cell? _ _ hw213_0; first | rwa [add_block] at this | exact this) GW203.out)) | (dsimp only; exact Nat.ne_of_lt (Nat.lt_of_lt_of_le (by have := World.block_lt_of_cell? _ _ hw213_0; first | rwa [add_block] at this | exact this) GW203.out))) _).trans (((cell_far (p := ⟨gb203, _, none⟩) (by first | exact Nat.ne_of_lt (Nat.lt_of_lt_of_le (by have := World.block_lt_of_cell? _ _ hw213_0; first | rwa [add_block] at this | exact this) GW203.out) | (rw [add_block]; exact Nat.ne_of_lt (Nat.lt_of_lt_of_le (by have := World.block_lt_of_cell? _ _ hw213_0; first | rwa [add_block] at this | exact this) GW203.out)) | (show (Addr.add _ _).block ≠ _; rw [add_block]; exact Nat.ne_of_lt (Nat.lt_of_lt_of_le (by have := World.block_lt_of_cell? _ _ hw213_0; first | rwa [add_block] at this | exact this) GW203.out)) | (dsimp only; exact Nat.ne_of_lt (Nat.lt_of_lt_of_le (by have := World.block_lt_of_cell? _ _ hw213_0; first | rwa [add_block] at this | exact this) GW203.out))) _).trans (((cell_far (p := ⟨gb203, _, none⟩) (by first | exact Nat.ne_of_lt (Nat.lt_of_lt_of_le (by have := World.block_lt_of_cell? _ _ hw213_0; first | rwa [add_block] at this | exact this) GW203.out) | (rw [add_block]; exact Nat.ne_of_lt (Nat.lt_of_lt_of_le (by have := World.block_lt_of_cell? _ _ hw213_0; first | rwa [add_block] at this | exact this) GW203.out)) | (show (Addr.add _ _).block ≠ _; rw [add_block]; exact Nat.ne_of_lt (Nat.lt_of_lt_of_le (by have := World.block_lt_of_cell? _ _ hw213_0; first | rwa [add_block] at this | exact this) GW203.out)) | (dsimp only; exact Nat.ne_of_lt (Nat.lt_of_lt_of_le (by have := World.block_lt_of_cell? _ _ hw213_0; first | rwa [add_block] at this | exact this) GW203.out))) _).trans (((cell_far (p := ⟨gb203, _, none⟩) (by first | exact Nat.ne_of_lt (Nat.lt_of_lt_of_le (by have := World.block_lt_of_cell? _ _ hw213_0; first | rwa [add_block] at this | exact this) GW203.out) | (rw [add_block]; exact Nat.ne_of_lt (Nat.lt_of_lt_of_le (by have := World.block_lt_of_cell? _ _ hw213_0; first | rwa [add_block] at this | exact this) GW203.out)) | (show (Addr.add _ _).block ≠ _; rw [add_block]; exact Nat.ne_of_lt (Nat.lt_of_lt_of_le (by have := World.block_lt_of_cell? _ _ hw213_0; first | rwa [add_block] at this | exact this) GW203.out)) | (dsimp only; exact Nat.ne_of_lt (Nat.lt_of_lt_of_le (by have := World.block_lt_of_cell? _ _ hw213_0; first | rwa [add_block] at this | exact this) GW203.out))) _).trans (hHeld.2.2.2.2.2.2.2.2.1)))))))), ((cell_far (p := ⟨gb203, _, none⟩) (by first | exact Nat.ne_of_lt (Nat.lt_of_lt_of_le (by have := World.block_lt_of_cell? _ _ hw213_1; first | rwa [add_block] at this | exact this) GW203.out) | (rw [add_block]; exact Nat.ne_of_lt (Nat.lt_of_lt_of_le (by have := World.block_lt_of_cell? _ _ hw213_1; first | rwa [add_block] at this | exact this) GW203.out)) | (show (Addr.add _ _).block ≠ _; rw [add_block]; exact Nat.ne_of_lt (Nat.lt_of_lt_of_le (by have := World.block_lt_of_cell? _ _ hw213_1; first | rwa [add_block] at this | exact this) GW203.out)) | (dsimp only; exact Nat.ne_of_lt (Nat.lt_of_lt_of_le (by have := World.block_lt_of_cell? _ _ hw213_1; first | rwa [add_block] at this | exact this) GW203.out))) _).trans (((cell_far (p := ⟨gb203, _, none⟩) (by first | exact Nat.ne_of_lt (Nat.lt_of_lt_of_le (by have := World.block_lt_of_cell? _ _ hw213_1; first | rwa [add_block] at this | exact this) GW203.out) | (rw [add_block]; exact Nat.ne_of_lt (Nat.lt_of_lt_of_le (by have := World.block_lt_of_cell? _ _ hw213_1; first | rwa [add_block] at this | exact this) GW203.out)) | (show (Addr.add _ _).block ≠ _; rw [add_block]; exact Nat.ne_of_lt (Nat.lt_of_lt_of_le (by have := World.block_lt_of_cell? _ _ hw213_1; first | rwa [add_block] at this | exact this) GW203.out)) | (dsimp only; exact Nat.ne_of_lt (Nat.lt_of_lt_of_le (by have := World.block_lt_of_cell? _ _ hw213_1; first | rwa [add_block] at this | exact this) GW203.out))) _).trans (((cell_far (p := ⟨gb203, _, none⟩) (by first | exact Nat.ne_of_lt (Nat.lt_of_lt_of_le (by have := World.block_lt_of_cell? _ _ hw213_1; first | rwa [add_block] at this | exact this) GW203.out) | (rw [add_block]; exact Nat.ne_of_lt (Nat.lt_of_lt_of_le (by have := World.block_lt_of_cell? _ _ hw213_1; first | rwa [add_block] at this | exact this) GW203.out)) | (show (Addr.add _ _).block ≠ _; rw [add_block]; exact Nat.ne_of_lt (Nat.lt_of_lt_of_le (by have := World.block_lt_of_cell? _ _ hw213_1; first | rwa [add_block] at this | exact this) GW203.out)) | (dsimp only; exact Nat.ne_of_lt (Nat.lt_of_lt_of_le (by have := World.block_lt_of_cell? _ _ hw213_1; first | rwa [add_block] at this | exact this) GW203.out))) _).trans (((cell_far (p := ⟨gb203, _, none⟩) (by first | exact Nat.ne_of_lt (Nat.lt_of_lt_of_le (by have := World.block_lt_of_cell? _ _ hw213_1; first | rwa [add_block] at this | exact this) GW203.out) | (rw [add_block]; exact Nat.ne_of_lt (Nat.lt_of_lt_of_le (by have := World.block_lt_of_cell? _ _ hw213_1; first | rwa [add_block] at this | exact this) GW203.out)) | (show (Addr.add _ _).block ≠ _; rw [add_block]; exact Nat.ne_of_lt (Nat.lt_of_lt_of_le (by have := World.block_lt_of_cell? _ _ hw213_1; first | rwa [add_block] at this | exact this) GW203.out)) | (dsimp only; exact Nat.ne_of_lt (Nat.lt_of_lt_of_le (by have := World.block_lt_of_cell? _ _ hw213_1; first | rwa [add_block] at this | exact this) GW203.out))) _).trans (hHeld.2.2.2.2.2.2.2.2.2.1)))))))), ((cell_far (p := ⟨gb203, _, none⟩) (by first | exact Nat.ne_of_lt (Nat.lt_of_lt_of_le (by have := World.block_lt_of_cell? _ _ hw213_2; first | rwa [add_block] at this | exact this) GW203.out) | (rw [add_block]; exact Nat.ne_of_lt (Nat.lt_of_lt_of_le (by have := World.block_lt_of_cell? _ _ hw213_2; first | rwa [add_block] at this | exact this) GW203.out)) | (show (Addr.add _ _).block ≠ _; rw [add_block]; exact Nat.ne_of_lt (Nat.lt_of_lt_of_le (by have := World.block_lt_of_cell? _ _ hw213_2; first | rwa [add_block] at this | exact this) GW203.out)) | (dsimp only; exact Nat.ne_of_lt (Nat.lt_of_lt_of_le (by have := World.block_lt_of_cell? _ _ hw213_2; first | rwa [add_block] at this | exact this) GW203.out))) _).trans (((cell_far (p := ⟨gb203, _, none⟩) (by first | exact Nat.ne_of_lt (Nat.lt_of_lt_of_le (by have := World.block_lt_of_cell? _ _ hw213_2; first | rwa [add_block] at this | exact this) GW203.out) | (rw [add_block]; exact Nat.ne_of_lt (Nat.lt_of_lt_of_le (by have := World.block_lt_of_cell? _ _ hw213_2; first | rwa [add_block] at this | exact this) GW203.out)) | (show (Addr.add _ _).block ≠ _; rw [add_block]; exact Nat.ne_of_lt (Nat.lt_of_lt_of_le (by have := World.block_lt_of_cell? _ _ hw213_2; first | rwa [add_block] at this | exact this) GW203.out)) | (dsimp only; exact Nat.ne_of_lt (Nat.lt_of_lt_of_le (by have := World.block_lt_of_cell? _ _ hw213_2; first | rwa [add_block] at this | exact this) GW203.out))) _).trans (((cell_far (p := ⟨gb203, _, none⟩) (by first | exact Nat.ne_of_lt (Nat.lt_of_lt_of_le (by have := World.block_lt_of_cell? _ _ hw213_2; first | rwa [add_block] at this | exact this) GW203.out) | (rw [add_block]; exact Nat.ne_of_lt (Nat.lt_of_lt_of_le (by have := World.block_lt_of_cell? _ _ hw213_2; first | rwa [add_block] at this | exact this) GW203.out)) | (show (Addr.add _ _).block ≠ _; rw [add_block]; exact Nat.ne_of_lt (Nat.lt_of_lt_of_le (by have := World.block_lt_of_cell? _ _ hw213_2; first | rwa [add_block] at this | exact this) GW203.out)) | (dsimp only; exact Nat.ne_of_lt (Nat.lt_of_lt_of_le (by have := World.block_lt_of_cell? _ _ hw213_2; first | rwa [add_block] at this | exact this) GW203.out))) _).trans (((cell_far (p := ⟨gb203, _, none⟩) (by first | exact Nat.ne_of_lt (Nat.lt_of_lt_of_le (by have := World.block_lt_of_cell? _ _ hw213_2; first | rwa [add_block] at this | exact this) GW203.out) | (rw [add_block]; exact Nat.ne_of_lt (Nat.lt_of_lt_of_le (by have := World.block_lt_of_cell? _ _ hw213_2; first | rwa [add_block] at this | exact this) GW203.out)) | (show (Addr.add _ _).block ≠ _; rw [add_block]; exact Nat.ne_of_lt (Nat.lt_of_lt_of_le (by have := World.block_lt_of_cell? _ _ hw213_2; first | rwa [add_block] at this | exact this) GW203.out)) | (dsimp only; exact Nat.ne_of_lt (Nat.lt_of_lt_of_le (by have := World.block_lt_of_cell? _ _ hw213_2; first | rwa [add_block] at this | exact this) GW203.out))) _).trans (hHeld.2.2.2.2.2.2.2.2.2.2.1)))))))), ((cell_far (p := ⟨gb203, _, none⟩) (by first | exact Nat.ne_of_lt (Nat.lt_of_lt_of_le (by have := World.block_lt_of_cell? _ _ hw213_3; first | rwa [add_block] at this | exact this) GW203.out) | (rw [add_block]; exact Nat.ne_of_lt (Nat.lt_of_lt_of_le (by have := World.block_lt_of_cell? _ _ hw213_3; first | rwa [add_block] at this | exact this) GW203.out)) | (show (Addr.add _ _).block ≠ _; rw [add_block]; exact Nat.ne_of_lt (Nat.lt_of_lt_of_le (by have := World.block_lt_of_cell? _ _ hw213_3; first | rwa [add_block] at this | exact this) GW203.out)) | (dsimp only; exact Nat.ne_of_lt (Nat.lt_of_lt_of_le (by have := World.block_lt_of_cell? _ _ hw213_3; first | rwa [add_block] at this | exact this) GW203.out))) _).trans (((cell_far (p := ⟨gb203, _, none⟩) (by first | exact Nat.ne_of_lt (Nat.lt_of_lt_of_le (by have := World.block_lt_of_cell? _ _ hw213_3; first | rwa [add_block] at this | exact this) GW203.out) | (rw [add_block]; exact Nat.ne_of_lt (Nat.lt_of_lt_of_le (by have := World.block_lt_of_cell? _ _ hw213_3; first | rwa [add_block] at this | exact this) GW203.out)) | (show (Addr.add _ _).block ≠ _; rw [add_block]; exact Nat.ne_of_lt (Nat.lt_of_lt_of_le (by have := World.block_lt_of_cell? _ _ hw213_3; first | rwa [add_block] at this | exact this) GW203.out)) | (dsimp only; exact Nat.ne_of_lt (Nat.lt_of_lt_of_le (by have := World.block_lt_of_cell? _ _ hw213_3; first | rwa [add_block] at this | exact this) GW203.out))) _).trans (((cell_far (p := ⟨gb203, _, none⟩) (by first | exact Nat.ne_of_lt (Nat.lt_of_lt_of_le (by have := World.block_lt_of_cell? _ _ hw213_3; first | rwa [add_block] at this | exact this) GW203.out) | (rw [add_block]; exact Nat.ne_of_lt (Nat.lt_of_lt_of_le (by have := World.block_lt_of_cell? _ _ hw213_3; first | rwa [add_block] at this | exact this) GW203.out)) | (show (Addr.add _ _).block ≠ _; rw [add_block]; exact Nat.ne_of_lt (Nat.lt_of_lt_of_le (by have := World.block_lt_of_cell? _ _ hw213_3; first | rwa [add_block] at this | exact this) GW203.out)) | (dsimp only; exact Nat.ne_of_lt (Nat.lt_of_lt_of_le (by have := World.block_lt_of_cell? _ _ hw213_3; first | rwa [add_block] at this | exact this) GW203.out))) _).trans (((cell_far (p := ⟨gb203, _, none⟩) (by first | exact Nat.ne_of_lt (Nat.lt_of_lt_of_le (by have := World.block_lt_of_cell? _ _ hw213_3; first | rwa [add_block] at this | exact this) GW203.out) | (rw [add_block]; exact Nat.ne_of_lt (Nat.lt_of_lt_of_le (by have := World.block_lt_of_cell? _ _ hw213_3; first | rwa [add_block] at this | exact this) GW203.out)) | (show (Addr.add _ _).block ≠ _; rw [add_block]; exact Nat.ne_of_lt (Nat.lt_of_lt_of_le (by have := World.block_lt_of_cell? _ _ hw213_3; first | rwa [add_block] at this | exact this) GW203.out)) | (dsimp only; exact Nat.ne_of_lt (Nat.lt_of_lt_of_le (by have := World.block_lt_of_cell? _ _ hw213_3; first | rwa [add_block] at this | exact this) GW203.out))) _).trans (hHeld.2.2.2.2.2.2.2.2.2.2.2))))))))⟩ (fun hHeld => ?_)
             clear hK K
             refine pu 26 3 (bv 28 134217727) HT_ rfl rfl ?_
             refine pu 27 4 (bv 28 268435455) HT_ rfl rfl ?_
             refine done_ (done_of HT_.out (by kernel_rfl)) ?_
             try go_wp2
             refine bodyPost_ret (results_ctt rfl _ _ gb203 39 #[.int .i64 ((rd_T33 l0_3 1).f2), .int .i64 ((rd_T33 l0_3 2).f2), .int .i64 ((rd_T33 l0_3 3).f2), .int .i64 ((rd_T33 l0_3 4).f2)] (0, 0) _ rfl (by (with_reducible repeat (first | refine blk_drewN ?_ _ | refine blk_drew ?_ | refine blk_alloc ?_ _)); refine blk_put (cs := #[.int .i64 ((rd_T33 l0_3 1).f2), .int .i64 ((rd_T33 l0_3 2).f2), .int .i64 ((rd_T33 l0_3 3).f2), .int .i64 x204003_2]) ?_ 3 _ rfl; (with_reducible repeat (first | refine blk_drewN ?_ _ | refine blk_drew ?_ | refine blk_alloc ?_ _)); refine blk_put (cs := #[.int .i64 ((rd_T33 l0_3 1).f2), .int .i64 ((rd_T33 l0_3 2).f2), .int .i64 x204002_2, .int .i64 x204003_2]) ?_ 2 _ rfl; (with_reducible repeat (first | refine blk_drewN ?_ _ | refine blk_drew ?_ | refine blk_alloc ?_ _)); refine blk_put (cs := #[.int .i64 ((rd_T33 l0_3 1).f2), .int .i64 x204001_2, .int .i64 x204002_2, .int .i64 x204003_2]) ?_ 1 _ rfl; (with_reducible repeat (first | refine blk_drewN ?_ _ | refine blk_drew ?_ | refine blk_alloc ?_ _)); refine blk_put (cs := #[.int .i64 x204000_2, .int .i64 x204001_2, .int .i64 x204002_2, .int .i64 x204003_2]) ?_ 0 _ rfl; (with_reducible repeat (first | refine blk_drewN ?_ _ | refine blk_drew ?_ | refine blk_alloc ?_ _)); exact BK203.out) Tryd.underlying39 rfl (by kernel_rfl)) rfl ?_
             exact ⟨re, bl⟩
           ·rw [if_neg c36] at H
            exact absurd H (by simp)
          ·rw [if_neg c35] at H
           exact absurd H (by simp)
         ·rw [if_neg c34] at H
          exact absurd H (by simp)
        ·rw [if_neg c33] at H
         exact absurd H (by simp)
       ·rw [if_neg c32] at H
        exact absurd H (by simp)
end Go.Proofs.YtacdchogjpeffaaDoor.PNoteHits
