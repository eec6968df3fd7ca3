-- Written by a program of this session (wip/tools/myprint.py) over the kit's print. Not trusted: Lean checks it.
import Derived.Test.YtknclbodinfbeaaDoorPRunsModesx0
import Derived.Test.YtknclbodinfbeaaDoorPRunsModesx7
import Derived.Test.YtknclbodinfbeaaDoorPRunsModesx8
namespace Go.Proofs.YtknclbodinfbeaaDoor.PRunsModes
open Go.RowKit Go.Proofs.YtknclbodinfbeaaDoorW.PrintWords Go.Proofs.YtknclbodinfbeaaDoorW.PrintLast Go.Proofs.YtknclbodinfbeaaDoorW.PrintMore
attribute [local go_sem] max2_int min2_int max_two min_two max_three min_three max_four min_four   -- for this text's walks alone
set_option linter.unusedVariables false
set_option linter.unusedSimpArgs false

/-! ### incunableref04_Bits: function 37 -/
def incunableref04_Bits.l0 : Nat → List (S87) → Int → List (S87) → Int → Int → Bool → Int → Option (List Int × Bool)
 | 0, _, _, _, _, _, _, _ => none
 | k + 1, x0, x6, x13, x14, x15, x289000, x289001 => if x15 < x14 then (if 0 ≤ x15 then (if x15 < (x13.length : Int) then ((incunableref04_Place.f k ((rd_T87 x13 x15).f0) ((rd_T87 x13 x15).f1) ((rd_T87 x13 x15).f2) ((rd_T87 x13 x15).f3) x289000 x289001).bind fun bt291 => ((incunableref04_used.f ((rd_T87 x13 x15).f0) ((rd_T87 x13 x15).f1) ((rd_T87 x13 x15).f2) ((rd_T87 x13 x15).f3)).bind fun t293 => (if t293 = true then (if bt291.2 = true then (if x6 < 0 then (incunableref04_Bits.l0 k x0 x15 x13 x14 (wrap64 (x15 + 1)) x289000 x289001) else (if 0 ≤ x6 then (if x6 < (x0.length : Int) then (if (wrap64 (((rd_T87 x13 x15).f0) + ((rd_T87 x13 x15).f1))) < (wrap64 (((rd_T87 x0 x6).f0) + ((rd_T87 x0 x6).f1))) then (incunableref04_Bits.l0 k x0 x15 x13 x14 (wrap64 (x15 + 1)) x289000 x289001) else (incunableref04_Bits.l0 k x0 x6 x13 x14 (wrap64 (x15 + 1)) x289000 x289001)) else (none)) else (none))) else (incunableref04_Bits.l0 k x0 x6 x13 x14 (wrap64 (x15 + 1)) x289000 x289001)) else (incunableref04_Bits.l0 k x0 x6 x13 x14 (wrap64 (x15 + 1)) x289000 x289001)))) else (none)) else (none)) else (if x6 < 0 then (some (([] : List Int), false)) else (if 0 ≤ x6 then (if x6 < (x0.length : Int) then ((incunableref04_Place.f k ((rd_T87 x0 x6).f0) ((rd_T87 x0 x6).f1) ((rd_T87 x0 x6).f2) ((rd_T87 x0 x6).f3) x289000 x289001).bind fun bt297 => ((incunableref04_Code.f k x0 x6).bind fun t299 => ((incunableref04_digits.f k bt297.1 ((rd_T87 x0 x6).f1)).bind fun t303 => (if t299.length + t303.length < 140737488355328 then (some ((t299 ++ t303), true)) else (none))))) else (none)) else (none)))
def incunableref04_Bits.f (k : Nat) (l0 : List (S87)) (a1_0 : Bool) (a1_1 : Int) : Option (List Int × Bool) := incunableref04_Bits.l0 k l0 (-1) l0 (l0.length : Int) 0 a1_0 a1_1
theorem incunableref04_Bits.mono_l : ∀ k, (∀ y0 y1 y2 y3 y4 y5 y6, LeO (incunableref04_Bits.l0 k y0 y1 y2 y3 y4 y5 y6) (incunableref04_Bits.l0 (k + 1) y0 y1 y2 y3 y4 y5 y6))
 | 0 => fun _ _ _ _ _ _ _ r h => by simp [incunableref04_Bits.l0] at h
 | k + 1 => by
  have ih0 := incunableref04_Bits.mono_l k
  ·intro y0 y1 y2 y3 y4 y5 y6
   unfold incunableref04_Bits.l0
   repeat' first
   | (with_reducible exact ih0 _ _ _ _ _ _ _)
   | (with_reducible exact incunableref04_Code.mono _ _ _)
   | (with_reducible exact incunableref04_Place.mono _ _ _ _ _ _ _)
   | (with_reducible exact incunableref04_digits.mono _ _ _)
   | (with_reducible first | exact LeO.refl _ | exact LeO.none _ | refine LeO.ite ?_ ?_ | refine LeO.bind ?_ (fun _ => ?_))
   | exact ih0 _ _ _ _ _ _ _
   | exact incunableref04_Code.mono _ _ _
   | exact incunableref04_Place.mono _ _ _ _ _ _ _
   | exact incunableref04_digits.mono _ _ _
   | exact LeO.none _ | refine LeO.ite ?_ ?_ | refine LeO.bind ?_ (fun _ => ?_)
theorem incunableref04_Bits.mono : ∀ a0 a1 a2 k, LeO (incunableref04_Bits.f k a0 a1 a2) (incunableref04_Bits.f (k + 1) a0 a1 a2) := by
 intro a0 a1 a2 k
 have ih0 := incunableref04_Bits.mono_l k
 unfold incunableref04_Bits.f
 repeat' first
   | (with_reducible exact ih0 _ _ _ _ _ _ _)
   | (with_reducible exact incunableref04_Code.mono _ _ _)
   | (with_reducible exact incunableref04_Place.mono _ _ _ _ _ _ _)
   | (with_reducible exact incunableref04_digits.mono _ _ _)
   | (with_reducible first | exact LeO.refl _ | exact LeO.none _ | refine LeO.ite ?_ ?_ | refine LeO.bind ?_ (fun _ => ?_))
   | exact ih0 _ _ _ _ _ _ _
   | exact incunableref04_Code.mono _ _ _
   | exact incunableref04_Place.mono _ _ _ _ _ _ _
   | exact incunableref04_digits.mono _ _ _
   | exact LeO.none _ | refine LeO.ite ?_ ?_ | refine LeO.bind ?_ (fun _ => ?_)
def incunableref04_Bits.T6 : Bool × List (List Nat × List Nat) := (true, [([], []), ([0], [0]), ([1, 1], [1]), ([2], [2]), ([2, 3], [2, 3]), ([4, 2], [4]), ([5], [5]), ([6, 5], [5, 6]), ([7, 5, 5], [5, 7]), ([8], [8]), ([9, 8], [8, 9]), ([8], [8]), ([11, 8], [8, 11]), ([10, 12, 8], [8, 10, 12]), ([8], [8]), ([8], [8]), ([14, 15, 8], [8, 14, 15]), ([16, 8], [8, 16]), ([17, 8], [8, 17]), ([8], [8]), ([8], [8]), ([19, 20, 8], [8, 19, 20]), ([21, 8], [8, 21]), ([22, 8], [8, 22]), ([18, 23, 8], [8, 18, 23]), ([13, 24, 8], [8, 13, 24]), ([8, 25, 5], [5, 8, 25]), ([5, 26], [5, 26])])
def incunableref04_Bits.B6 : List Nat := [0, 1, 3, 7, 15, 31, 63, 127, 255, 511, 1023, 511, 2559, 8191, 511, 511, 49663, 115199, 246271, 511, 511, 1573375, 3670527, 7864831, 16761343, 33554431, 67108863, 134217727]
theorem incunableref04_Bits.tab6 : rtab .any (opsOf Tryd.f37 6) = incunableref04_Bits.T6 := by kernel_rfl
theorem incunableref04_Bits.bits6 : waitsOk incunableref04_Bits.T6.2 incunableref04_Bits.B6 = true := by kernel_rfl
def incunableref04_Bits.T11 : Bool × List (List Nat × List Nat) := (true, [([], []), ([], []), ([0, 1], [0, 1]), ([2], [2]), ([], []), ([3, 4], [3, 4]), ([5], [5]), ([6], [6]), ([6], [6]), ([7, 5, 0, 1, 2, 3, 4, 5, 6, 7], [7]), ([8, 9, 0, 1, 2, 3, 4, 5, 6, 7, 8, 9], [8])])
def incunableref04_Bits.B11 : List Nat := [0, 0, 3, 7, 0, 31, 63, 127, 127, 255, 1023]
theorem incunableref04_Bits.tab11 : rtab .any (opsOf Tryd.f37 11) = incunableref04_Bits.T11 := by kernel_rfl
theorem incunableref04_Bits.bits11 : waitsOk incunableref04_Bits.T11.2 incunableref04_Bits.B11 = true := by kernel_rfl
def incunableref04_Bits.T12 : Bool × List (List Nat × List Nat) := (true, [([], []), ([], []), ([0, 1], [0, 1]), ([], []), ([], []), ([], []), ([4, 5], [4, 5]), ([6], [6]), ([7], [7]), ([3, 8, 2], [3, 8]), ([2, 9, 9], [2, 9]), ([10, 10, 0, 1, 2, 3, 4, 5, 6, 7, 8, 9, 10], [10]), ([11, 0, 1, 2, 3, 4, 5, 6, 7, 8, 9, 10, 11], [])])
def incunableref04_Bits.B12 : List Nat := [0, 0, 3, 0, 0, 0, 48, 112, 240, 511, 1023, 2047, 4095]
theorem incunableref04_Bits.tab12 : rtab .any (opsOf Tryd.f37 12) = incunableref04_Bits.T12 := by kernel_rfl
theorem incunableref04_Bits.bits12 : waitsOk incunableref04_Bits.T12.2 incunableref04_Bits.B12 = true := by kernel_rfl
set_option maxHeartbeats 8000000 in
set_option maxRecDepth 100000 in
theorem incunableref04_Bits.calls (k : Nat) (A0 : Option Addr) (c0 : Nat) (l0 : List (S87)) (a1_0 : Bool) (a1_1 : Int) (r1 : List Int) (r2 : Bool) (w : World) (hr0 : Kd.C k87 w A0 l0.length l0) (hc0 : l0.length ≤ c0) (h : incunableref04_Bits.f k l0 a1_0 a1_1 = some (r1, r2)) :
  Calls Tryd.prog 37 #[.slice A0 l0.length c0, .agg #[.bool a1_0, .int .i64 a1_1]] w fun e w' => ∃ v0_ : Value, e = .returned (.tuple #[v0_, .bool r2]) ∧ Kd.R (Kd.int .u8) 5 w' w.heap.size (fun _ => True) v0_ r1 ∧ Below w.heap.size w w' := by
 have hu64 := Tryd.underlying64
 have hu87 := Tryd.underlying87
 have HR0 := Aside0.mk hr0
 have HC0 := Aside0.mk hc0
 clear hr0 hc0
 have HB := Aside0.mk (Below.refl w.heap.size w)
 have H : (incunableref04_Bits.l0 k l0 (-1) l0 (l0.length : Int) 0 a1_0 a1_1) = some (r1, r2) := h
 clear h
 have H' := Aside0.mk H
 clear H
 go_enter Tryd.func37, Tryd.ntmps37
 go_wp2_with (first | ((with_reducible refine gd 3 rfl ?_); refine bx 3 #[.bool a1_0, .int .i64 a1_1] 64 rfl rfl ?_; intro gb288 hg w3 hbox hb; have n_ := aC (bs hb) (aC hbox (aC (gz hg) (aE (gz hg)))); clear HB; obtain ⟨HB, BK288, GW288, GE288⟩ := n_; clear hb hbox hg))
 go_loopg [6, 15] k (fun kq v6 v15 w' => ∃ (x6_1 : Int) (x15_1 : Int), v6 = .int .i64 x6_1 ∧ v15 = .int .i64 x15_1 ∧ Aside0 (incunableref04_Bits.l0 kq l0 x6_1 l0 (l0.length : Int) x15_1 a1_0 a1_1 = some (r1, r2)) ∧ Aside0 (kq ≤ k) ∧ Aside0 (w'.heap[gb288]? = some (.cells #[.bool a1_0, .int .i64 a1_1] 64 (0, 0))) ∧ Aside0 (Below w.heap.size w w'))
 case atStart => exact ⟨((-1)), (0), rq, rq, H', ⟨Nat.le_refl _⟩, ⟨bU BK288.out⟩, ⟨bl⟩⟩
 case round =>
  clear H'
  obtain ⟨x6_1, x15_1, rfl, rfl, HA, HK1, BK288, HB⟩ := hrel
  cases gk with
  | zero => exact absurd HA.out (by simp [incunableref04_Bits.l0])
  | succ k1 =>
   have H := HA.out
   clear HA
   simp only [incunableref04_Bits.l0] at H
   by_cases c4 : x15_1 < (l0.length : Int)
   ·rw [if_pos c4] at H
    have c4b0 := decide_eq_true c4
    clear c4
    by_cases c5 : 0 ≤ x15_1
    ·rw [if_pos c5] at H
     have c5b0 := decide_eq_true c5
     clear c5
     by_cases c6 : x15_1 < (l0.length : Int)
     ·rw [if_pos c6] at H
      have c6b0 := decide_eq_true c6
      clear c6
      replace H := Option.bind_eq_some_iff.mp H
      obtain ⟨⟨t291, t292⟩, A70, H⟩ := H
      replace H : ((incunableref04_used.f ((rd_T87 l0 x15_1).f0) ((rd_T87 l0 x15_1).f1) ((rd_T87 l0 x15_1).f2) ((rd_T87 l0 x15_1).f3)).bind fun t293 => (if t293 = true then (if t292 = true then (if x6_1 < 0 then (incunableref04_Bits.l0 k1 l0 x15_1 l0 (l0.length : Int) (wrap64 (x15_1 + 1)) a1_0 a1_1) else (if 0 ≤ x6_1 then (if x6_1 < (l0.length : Int) then (if (wrap64 (((rd_T87 l0 x15_1).f0) + ((rd_T87 l0 x15_1).f1))) < (wrap64 (((rd_T87 l0 x6_1).f0) + ((rd_T87 l0 x6_1).f1))) then (incunableref04_Bits.l0 k1 l0 x15_1 l0 (l0.length : Int) (wrap64 (x15_1 + 1)) a1_0 a1_1) else (incunableref04_Bits.l0 k1 l0 x6_1 l0 (l0.length : Int) (wrap64 (x15_1 + 1)) a1_0 a1_1)) else (none)) else (none))) else (incunableref04_Bits.l0 k1 l0 x6_1 l0 (l0.length : Int) (wrap64 (x15_1 + 1)) a1_0 a1_1)) else (incunableref04_Bits.l0 k1 l0 x6_1 l0 (l0.length : Int) (wrap64 (x15_1 + 1)) a1_0 a1_1))) = some (r1, r2) := H
      have A7 := Aside0.mk A70
      clear A70
      replace H := Option.bind_eq_some_iff.mp H
      obtain ⟨t293, A80, H⟩ := H
      replace H : (if t293 = true then (if t292 = true then (if x6_1 < 0 then (incunableref04_Bits.l0 k1 l0 x15_1 l0 (l0.length : Int) (wrap64 (x15_1 + 1)) a1_0 a1_1) else (if 0 ≤ x6_1 then (if x6_1 < (l0.length : Int) then (if (wrap64 (((rd_T87 l0 x15_1).f0) + ((rd_T87 l0 x15_1).f1))) < (wrap64 (((rd_T87 l0 x6_1).f0) + ((rd_T87 l0 x6_1).f1))) then (incunableref04_Bits.l0 k1 l0 x15_1 l0 (l0.length : Int) (wrap64 (x15_1 + 1)) a1_0 a1_1) else (incunableref04_Bits.l0 k1 l0 x6_1 l0 (l0.length : Int) (wrap64 (x15_1 + 1)) a1_0 a1_1)) else (none)) else (none))) else (incunableref04_Bits.l0 k1 l0 x6_1 l0 (l0.length : Int) (wrap64 (x15_1 + 1)) a1_0 a1_1)) else (incunableref04_Bits.l0 k1 l0 x6_1 l0 (l0.length : Int) (wrap64 (x15_1 + 1)) a1_0 a1_1)) = some (r1, r2) := H
      have A8 := Aside0.mk A80
      clear A80
      by_cases c9 : t293 = true
      ·subst c9
       have H1 : (if t292 = true then (if x6_1 < 0 then (incunableref04_Bits.l0 k1 l0 x15_1 l0 (l0.length : Int) (wrap64 (x15_1 + 1)) a1_0 a1_1) else (if 0 ≤ x6_1 then (if x6_1 < (l0.length : Int) then (if (wrap64 (((rd_T87 l0 x15_1).f0) + ((rd_T87 l0 x15_1).f1))) < (wrap64 (((rd_T87 l0 x6_1).f0) + ((rd_T87 l0 x6_1).f1))) then (incunableref04_Bits.l0 k1 l0 x15_1 l0 (l0.length : Int) (wrap64 (x15_1 + 1)) a1_0 a1_1) else (incunableref04_Bits.l0 k1 l0 x6_1 l0 (l0.length : Int) (wrap64 (x15_1 + 1)) a1_0 a1_1)) else (none)) else (none))) else (incunableref04_Bits.l0 k1 l0 x6_1 l0 (l0.length : Int) (wrap64 (x15_1 + 1)) a1_0 a1_1)) = some (r1, r2) := by rw [if_pos rfl] at H; exact H
       clear H
       have H := H1
       clear H1
       by_cases c10 : t292 = true
       ·subst c10
        have H1 : (if x6_1 < 0 then (incunableref04_Bits.l0 k1 l0 x15_1 l0 (l0.length : Int) (wrap64 (x15_1 + 1)) a1_0 a1_1) else (if 0 ≤ x6_1 then (if x6_1 < (l0.length : Int) then (if (wrap64 (((rd_T87 l0 x15_1).f0) + ((rd_T87 l0 x15_1).f1))) < (wrap64 (((rd_T87 l0 x6_1).f0) + ((rd_T87 l0 x6_1).f1))) then (incunableref04_Bits.l0 k1 l0 x15_1 l0 (l0.length : Int) (wrap64 (x15_1 + 1)) a1_0 a1_1) else (incunableref04_Bits.l0 k1 l0 x6_1 l0 (l0.length : Int) (wrap64 (x15_1 + 1)) a1_0 a1_1)) else (none)) else (none))) = some (r1, r2) := by rw [if_pos rfl] at H; exact H
        clear H
        have H := H1
        clear H1
        by_cases c11 : x6_1 < 0
        ·rw [if_pos c11] at H
         have c11b0 := decide_eq_true c11
         clear c11
         have H' := Aside0.mk H
         clear H
         have p289 : 0 ≤ (x15_1 : Int) := dt
         have q289 : x15_1 < (l0.length : Int) := dt
         obtain ⟨ad289, e289, hx289_0, hx289_1, hx289_2, hx289_3⟩ := at_T87 HR0.out x15_1 p289 q289
         cases e289
         replace hx289_0 := hcB HB.out hx289_0
         replace hx289_1 := hcB HB.out hx289_1
         replace hx289_2 := hcB HB.out hx289_2
         replace hx289_3 := hcB HB.out hx289_3
         replace p289 := eq_true p289
         replace q289 := eq_true q289
         try go_wp2_with (first | ((with_reducible refine gd 8 rfl ?_); refine bx 8 #[.int .i64 0, .int .i64 0, .int .i64 0, .int .i64 0] 87 rfl rfl ?_; intro gb290 hg w12 hbox hb; have n_ := aC (blk_below (bU BK288.out) hb) (aC (bs hb) (aC hbox (aC (gz hg) (aC (gz hg) (aC (gn hg (bU BK288.out)) (aE (gm hg (bU BK288.out)))))))); clear BK288 HB; obtain ⟨BK288, HB, BK290, GW290, GE290, NB288_290, NB290_288⟩ := n_; clear hb hbox hg; have hnb13 := NB290_288.out; have hnc13 := NB288_290.out; obtain ⟨hcz14_0, hcz14_1, hcz14_2, hcz14_3, hfz14_0, hfz14_1, hfz14_2, hfz14_3⟩ := cz4f BK290.out; obtain ⟨hcz15_0, hcz15_1, hfz15_0, hfz15_1⟩ := cz2f BK288.out) | ((with_reducible refine gf 60 rfl ?_); refine gL (some 23) rfl rfl Tryd.func60 rfl #[.agg #[.int .i64 ((rd_T87 l0 x15_1).f0), .int .i64 ((rd_T87 l0 x15_1).f1), .int .i64 ((rd_T87 l0 x15_1).f2), .int .i64 ((rd_T87 l0 x15_1).f3)], .agg #[.bool a1_0, .int .i64 a1_1]] rfl ?_; (with_reducible refine (incunableref04_Place.calls k1 ((rd_T87 l0 x15_1).f0) ((rd_T87 l0 x15_1).f1) ((rd_T87 l0 x15_1).f2) ((rd_T87 l0 x15_1).f3) a1_0 a1_1 t291 true _ A7.out).mono ?_); rintro e w16 ⟨rfl, hb⟩; refine ⟨_, rfl, ?_⟩; have n_ := aC (blk_below (g := gb288) (o := .cells #[.bool a1_0, .int .i64 a1_1] 64 (0, 0)) (by (with_reducible repeat (first | refine blk_drewN ?_ _ | refine blk_drew ?_ | refine blk_alloc ?_ _)); refine blk_far ?_ NB288_290.out _; (with_reducible repeat (first | refine blk_drewN ?_ _ | refine blk_drew ?_ | refine blk_alloc ?_ _)); refine blk_far ?_ NB288_290.out _; (with_reducible repeat (first | refine blk_drewN ?_ _ | refine blk_drew ?_ | refine blk_alloc ?_ _)); refine blk_far ?_ NB288_290.out _; (with_reducible repeat (first | refine blk_drewN ?_ _ | refine blk_drew ?_ | refine blk_alloc ?_ _)); refine blk_far ?_ NB288_290.out _; (with_reducible repeat (first | refine blk_drewN ?_ _ | refine blk_drew ?_ | refine blk_alloc ?_ _)); exact BK288.out) hb) (aC (blk_below (g := gb290) (o := .cells #[.int .i64 ((rd_T87 l0 x15_1).f0), .int .i64 ((rd_T87 l0 x15_1).f1), .int .i64 ((rd_T87 l0 x15_1).f2), .int .i64 ((rd_T87 l0 x15_1).f3)] 87 (0, 0)) (by (with_reducible repeat (first | refine blk_drewN ?_ _ | refine blk_drew ?_ | refine blk_alloc ?_ _)); refine blk_put (cs := #[.int .i64 ((rd_T87 l0 x15_1).f0), .int .i64 ((rd_T87 l0 x15_1).f1), .int .i64 ((rd_T87 l0 x15_1).f2), .int .i64 0]) ?_ 3 _ rfl; (with_reducible repeat (first | refine blk_drewN ?_ _ | refine blk_drew ?_ | refine blk_alloc ?_ _)); refine blk_put (cs := #[.int .i64 ((rd_T87 l0 x15_1).f0), .int .i64 ((rd_T87 l0 x15_1).f1), .int .i64 0, .int .i64 0]) ?_ 2 _ rfl; (with_reducible repeat (first | refine blk_drewN ?_ _ | refine blk_drew ?_ | refine blk_alloc ?_ _)); refine blk_put (cs := #[.int .i64 ((rd_T87 l0 x15_1).f0), .int .i64 0, .int .i64 0, .int .i64 0]) ?_ 1 _ rfl; (with_reducible repeat (first | refine blk_drewN ?_ _ | refine blk_drew ?_ | refine blk_alloc ?_ _)); refine blk_put (cs := #[.int .i64 0, .int .i64 0, .int .i64 0, .int .i64 0]) ?_ 0 _ rfl; (with_reducible repeat (first | refine blk_drewN ?_ _ | refine blk_drew ?_ | refine blk_alloc ?_ _)); exact BK290.out) hb) (aE (bs hb))); clear BK288 BK290 HB; obtain ⟨BK288, BK290, HB⟩ := n_; (try clear hb)))
         have n_ := aC (blk_drew BK288.out) (aC (blk_drew BK290.out) (aE (below_drew1 HB.out)))
         clear BK288 BK290 HB
         obtain ⟨BK288, BK290, HB⟩ := n_
         refine start_ (n := 28) (S := fun w' => w'.cell? ⟨gb290, 0, none⟩ = some (.int .i64 ((rd_T87 l0 x15_1).f0)) ∧ w'.cell? ⟨gb290, 1, none⟩ = some (.int .i64 ((rd_T87 l0 x15_1).f1)) ∧ w'.cell? ⟨gb290, 2, none⟩ = some (.int .i64 ((rd_T87 l0 x15_1).f2)) ∧ w'.cell? ⟨gb290, 3, none⟩ = some (.int .i64 ((rd_T87 l0 x15_1).f3))) (ds := []) #[false, false, false, false, false, false, false, false, false, false, false, false, false, false, false, false, false, false, false, false, false, false, false, false, false, false, false, false] (by kernel_rfl) rfl rfl ⟨kc0 BK290.out, kc1 BK290.out, kc2 BK290.out, kc3 BK290.out⟩ (fun hHeld => ?_); refine with_tabW incunableref04_Bits.tab6 incunableref04_Bits.bits6 (fun HT_ HW_ => ?_)
         generalize w16.drew = w17 at BK288 BK290 HB hHeld ⊢
         refine tk 0 26 (bv 28 1) HT_ HW_ hHeld rfl rfl (by rintro w' ⟨s0, s1, s2, s3⟩; exact yl) ?_
         refine one_ (i := 1) (N := some 27) (bv 28 3) rfl rfl (one_of HT_.out (by kernel_rfl)) (by decide) (fun K hK => ?_)
         refine gK Tryd.func61 rfl #[.agg #[.int .i64 ((rd_T87 l0 x15_1).f0), .int .i64 ((rd_T87 l0 x15_1).f1), .int .i64 ((rd_T87 l0 x15_1).f2), .int .i64 ((rd_T87 l0 x15_1).f3)]] rfl rfl ?_
         with_reducible refine (incunableref04_used.calls ((rd_T87 l0 x15_1).f0) ((rd_T87 l0 x15_1).f1) ((rd_T87 l0 x15_1).f2) ((rd_T87 l0 x15_1).f3) true _ A8.out).mono ?_
         rintro e w18 ⟨rfl, hb⟩
         refine ⟨_, rfl, ?_⟩
         have n_ := aC (blk_below (bU BK288.out) hb) (aC (blk_below (g := gb290) (o := .cells #[.int .i64 ((rd_T87 l0 x15_1).f0), .int .i64 ((rd_T87 l0 x15_1).f1), .int .i64 ((rd_T87 l0 x15_1).f2), .int .i64 ((rd_T87 l0 x15_1).f3)] 87 (0, 0)) (bU BK290.out) hb) (aE (bs hb)))
         clear BK288 BK290 HB
         obtain ⟨BK288, BK290, HB⟩ := n_
         (try clear hb)
         (try clear hb2)
         (try clear hk)
         (try clear hi)
         refine hK.out _ _ ⟨kc0 BK290.out, kc1 BK290.out, kc2 BK290.out, kc3 BK290.out⟩ (fun hHeld => ?_)
         clear hK K
         refine nm (some 27) ?_
         refine pu 2 28 (bv 28 7) HT_ rfl rfl ?_
         refine pu 3 29 (bv 28 15) HT_ rfl rfl ?_
         refine pu 4 30 (bv 28 31) HT_ rfl rfl ?_
         refine pu 5 31 (bv 28 63) HT_ rfl rfl ?_
         refine pu 6 32 (bv 28 127) HT_ rfl rfl ?_
         refine pu 7 33 (bv 28 255) HT_ rfl rfl ?_
         refine pu 8 34 (bv 28 511) HT_ rfl rfl ?_
         refine pn 9 35 (bv 28 1023) HT_ rfl rfl ?_
         refine pn 10 36 (bv 28 2047) HT_ rfl rfl ?_
         refine pn 11 37 (bv 28 4095) HT_ rfl rfl ?_
         refine pn 12 38 (bv 28 8191) HT_ rfl rfl ?_
         refine pn 13 39 (bv 28 16383) HT_ rfl rfl ?_
         refine pn 14 40 (bv 28 32767) HT_ rfl rfl ?_
         refine pn 15 41 (bv 28 65535) HT_ rfl rfl ?_
         refine pn 16 42 (bv 28 131071) HT_ rfl rfl ?_
         refine pn 17 43 (bv 28 262143) HT_ rfl rfl ?_
         refine pn 18 44 (bv 28 524287) HT_ rfl rfl ?_
         refine pn 19 45 (bv 28 1048575) HT_ rfl rfl ?_
         refine pn 20 46 (bv 28 2097151) HT_ rfl rfl ?_
         refine pn 21 47 (bv 28 4194303) HT_ rfl rfl ?_
         refine pn 22 48 (bv 28 8388607) HT_ rfl rfl ?_
         refine pn 23 49 (bv 28 16777215) HT_ rfl rfl ?_
         refine pn 24 50 (bv 28 33554431) HT_ rfl rfl ?_
         refine pn 25 51 (bv 28 67108863) HT_ rfl rfl ?_
         refine pu 26 52 (bv 28 134217727) HT_ rfl rfl ?_
         refine pu 27 53 (bv 28 268435455) HT_ rfl rfl ?_
         refine done_ (done_of HT_.out (by kernel_rfl)) ?_
         try go_wp2
         go_roundg k1
         case measure => have := HK1.out; omega
         case rel => exact ⟨(x15_1), (wrap64 (x15_1 + 1)), rq, rq, H', ⟨by have := HK1.out; omega⟩, ⟨bU BK288.out⟩, ⟨bl⟩⟩
        ·rw [if_neg c11] at H
         have c11b0 := decide_eq_false c11
         clear c11
         by_cases c19 : 0 ≤ x6_1
         ·rw [if_pos c19] at H
          have c19b0 := decide_eq_true c19
          clear c19
          by_cases c20 : x6_1 < (l0.length : Int)
          ·rw [if_pos c20] at H
           have c20b0 := decide_eq_true c20
           clear c20
           by_cases c21 : (wrap64 (((rd_T87 l0 x15_1).f0) + ((rd_T87 l0 x15_1).f1))) < (wrap64 (((rd_T87 l0 x6_1).f0) + ((rd_T87 l0 x6_1).f1)))
           ·rw [if_pos c21] at H
            have c21b0 := decide_eq_true c21
            clear c21
            have H' := Aside0.mk H
            clear H
            have p289 : 0 ≤ (x15_1 : Int) := dt
            have q289 : x15_1 < (l0.length : Int) := dt
            obtain ⟨ad289, e289, hx289_0, hx289_1, hx289_2, hx289_3⟩ := at_T87 HR0.out x15_1 p289 q289
            cases e289
            replace hx289_0 := hcB HB.out hx289_0
            replace hx289_1 := hcB HB.out hx289_1
            replace hx289_2 := hcB HB.out hx289_2
            replace hx289_3 := hcB HB.out hx289_3
            replace p289 := eq_true p289
            replace q289 := eq_true q289
            try go_wp2_with (first | ((with_reducible refine gd 8 rfl ?_); refine bx 8 #[.int .i64 0, .int .i64 0, .int .i64 0, .int .i64 0] 87 rfl rfl ?_; intro gb290 hg w22 hbox hb; have n_ := aC (blk_below (bU BK288.out) hb) (aC (bs hb) (aC hbox (aC (gz hg) (aC (gz hg) (aC (gn hg (bU BK288.out)) (aE (gm hg (bU BK288.out)))))))); clear BK288 HB; obtain ⟨BK288, HB, BK290, GW290, GE290, NB288_290, NB290_288⟩ := n_; clear hb hbox hg; have hnb23 := NB290_288.out; have hnc23 := NB288_290.out; obtain ⟨hcz24_0, hcz24_1, hcz24_2, hcz24_3, hfz24_0, hfz24_1, hfz24_2, hfz24_3⟩ := cz4f BK290.out; obtain ⟨hcz25_0, hcz25_1, hfz25_0, hfz25_1⟩ := cz2f BK288.out) | ((with_reducible refine gf 60 rfl ?_); refine gL (some 23) rfl rfl Tryd.func60 rfl #[.agg #[.int .i64 ((rd_T87 l0 x15_1).f0), .int .i64 ((rd_T87 l0 x15_1).f1), .int .i64 ((rd_T87 l0 x15_1).f2), .int .i64 ((rd_T87 l0 x15_1).f3)], .agg #[.bool a1_0, .int .i64 a1_1]] rfl ?_; (with_reducible refine (incunableref04_Place.calls k1 ((rd_T87 l0 x15_1).f0) ((rd_T87 l0 x15_1).f1) ((rd_T87 l0 x15_1).f2) ((rd_T87 l0 x15_1).f3) a1_0 a1_1 t291 true _ A7.out).mono ?_); rintro e w26 ⟨rfl, hb⟩; refine ⟨_, rfl, ?_⟩; have n_ := aC (blk_below (g := gb288) (o := .cells #[.bool a1_0, .int .i64 a1_1] 64 (0, 0)) (by (with_reducible repeat (first | refine blk_drewN ?_ _ | refine blk_drew ?_ | refine blk_alloc ?_ _)); refine blk_far ?_ NB288_290.out _; (with_reducible repeat (first | refine blk_drewN ?_ _ | refine blk_drew ?_ | refine blk_alloc ?_ _)); refine blk_far ?_ NB288_290.out _; (with_reducible repeat (first | refine blk_drewN ?_ _ | refine blk_drew ?_ | refine blk_alloc ?_ _)); refine blk_far ?_ NB288_290.out _; (with_reducible repeat (first | refine blk_drewN ?_ _ | refine blk_drew ?_ | refine blk_alloc ?_ _)); refine blk_far ?_ NB288_290.out _; (with_reducible repeat (first | refine blk_drewN ?_ _ | refine blk_drew ?_ | refine blk_alloc ?_ _)); exact BK288.out) hb) (aC (blk_below (g := gb290) (o := .cells #[.int .i64 ((rd_T87 l0 x15_1).f0), .int .i64 ((rd_T87 l0 x15_1).f1), .int .i64 ((rd_T87 l0 x15_1).f2), .int .i64 ((rd_T87 l0 x15_1).f3)] 87 (0, 0)) (by (with_reducible repeat (first | refine blk_drewN ?_ _ | refine blk_drew ?_ | refine blk_alloc ?_ _)); refine blk_put (cs := #[.int .i64 ((rd_T87 l0 x15_1).f0), .int .i64 ((rd_T87 l0 x15_1).f1), .int .i64 ((rd_T87 l0 x15_1).f2), .int .i64 0]) ?_ 3 _ rfl; (with_reducible repeat (first | refine blk_drewN ?_ _ | refine blk_drew ?_ | refine blk_alloc ?_ _)); refine blk_put (cs := #[.int .i64 ((rd_T87 l0 x15_1).f0), .int .i64 ((rd_T87 l0 x15_1).f1), .int .i64 0, .int .i64 0]) ?_ 2 _ rfl; (with_reducible repeat (first | refine blk_drewN ?_ _ | refine blk_drew ?_ | refine blk_alloc ?_ _)); refine blk_put (cs := #[.int .i64 ((rd_T87 l0 x15_1).f0), .int .i64 0, .int .i64 0, .int .i64 0]) ?_ 1 _ rfl; (with_reducible repeat (first | refine blk_drewN ?_ _ | refine blk_drew ?_ | refine blk_alloc ?_ _)); refine blk_put (cs := #[.int .i64 0, .int .i64 0, .int .i64 0, .int .i64 0]) ?_ 0 _ rfl; (with_reducible repeat (first | refine blk_drewN ?_ _ | refine blk_drew ?_ | refine blk_alloc ?_ _)); exact BK290.out) hb) (aE (bs hb))); clear BK288 BK290 HB; obtain ⟨BK288, BK290, HB⟩ := n_; (try clear hb)))
            have n_ := aC (blk_drew BK288.out) (aC (blk_drew BK290.out) (aE (below_drew1 HB.out)))
            clear BK288 BK290 HB
            obtain ⟨BK288, BK290, HB⟩ := n_
            have p294 : 0 ≤ (x6_1 : Int) := dt
            have q294 : x6_1 < (l0.length : Int) := dt
            obtain ⟨ad294, e294, hx294_0, hx294_1, hx294_2, hx294_3⟩ := at_T87 HR0.out x6_1 p294 q294
            have hw294_3 := hx294_3
            have hw294_2 := hx294_2
            have hw294_1 := hx294_1
            have hw294_0 := hx294_0
            obtain rfl : ad289 = ad294 := (by injection e294)
            replace hx294_0 := hcB HB.out hx294_0
            replace hx294_1 := hcB HB.out hx294_1
            replace hx294_2 := hcB HB.out hx294_2
            replace hx294_3 := hcB HB.out hx294_3
            replace p294 := eq_true p294
            replace q294 := eq_true q294
            have p295 : 0 ≤ (x6_1 : Int) := dt
            have q295 : x6_1 < (l0.length : Int) := dt
            obtain ⟨ad295, e295, hx295_0, hx295_1, hx295_2, hx295_3⟩ := at_T87 HR0.out x6_1 p295 q295
            have hw295_3 := hx295_3
            have hw295_2 := hx295_2
            have hw295_1 := hx295_1
            have hw295_0 := hx295_0
            obtain rfl : ad289 = ad295 := (by injection e295)
            replace hx295_0 := hcB HB.out hx295_0
            replace hx295_1 := hcB HB.out hx295_1
            replace hx295_2 := hcB HB.out hx295_2
            replace hx295_3 := hcB HB.out hx295_3
            replace p295 := eq_true p295
            replace q295 := eq_true q295
            refine start_ (n := 28) (S := fun w' => w'.cell? ⟨gb290, 0, none⟩ = some (.int .i64 ((rd_T87 l0 x15_1).f0)) ∧ w'.cell? ⟨gb290, 1, none⟩ = some (.int .i64 ((rd_T87 l0 x15_1).f1)) ∧ w'.cell? ⟨gb290, 2, none⟩ = some (.int .i64 ((rd_T87 l0 x15_1).f2)) ∧ w'.cell? ⟨gb290, 3, none⟩ = some (.int .i64 ((rd_T87 l0 x15_1).f3)) ∧ w'.cell? (ad289.add ((x6_1).toNat * 4)) = some (.int .i64 ((rd_T87 l0 x6_1).f0)) ∧ w'.cell? ⟨(ad289.add ((x6_1).toNat * 4)).block, (ad289.add ((x6_1).toNat * 4)).off + 1, none⟩ = some (.int .i64 ((rd_T87 l0 x6_1).f1)) ∧ w'.cell? ⟨(ad289.add ((x6_1).toNat * 4)).block, (ad289.add ((x6_1).toNat * 4)).off + 2, none⟩ = some (.int .i64 ((rd_T87 l0 x6_1).f2)) ∧ w'.cell? ⟨(ad289.add ((x6_1).toNat * 4)).block, (ad289.add ((x6_1).toNat * 4)).off + 3, none⟩ = some (.int .i64 ((rd_T87 l0 x6_1).f3)) ∧ w'.cell? (ad289.add ((x6_1).toNat * 4)) = some (.int .i64 ((rd_T87 l0 x6_1).f0)) ∧ w'.cell? ⟨(ad289.add ((x6_1).toNat * 4)).block, (ad289.add ((x6_1).toNat * 4)).off + 1, none⟩ = some (.int .i64 ((rd_T87 l0 x6_1).f1)) ∧ w'.cell? ⟨(ad289.add ((x6_1).toNat * 4)).block, (ad289.add ((x6_1).toNat * 4)).off + 2, none⟩ = some (.int .i64 ((rd_T87 l0 x6_1).f2)) ∧ w'.cell? ⟨(ad289.add ((x6_1).toNat * 4)).block, (ad289.add ((x6_1).toNat * 4)).off + 3, none⟩ = some (.int .i64 ((rd_T87 l0 x6_1).f3))) (ds := []) #[false, false, false, false, false, false, false, false, false, false, false, false, false, false, false, false, false, false, false, false, false, false, false, false, false, false, false, false] (by kernel_rfl) rfl rfl ⟨kc0 BK290.out, kc1 BK290.out, kc2 BK290.out, kc3 BK290.out, (hcB HB.out hw294_0), (hcB HB.out hw294_1), (hcB HB.out hw294_2), (hcB HB.out hw294_3), (hcB HB.out hw295_0), (hcB HB.out hw295_1), (hcB HB.out hw295_2), (hcB HB.out hw295_3)⟩ (fun hHeld => ?_); refine with_tabW incunableref04_Bits.tab6 incunableref04_Bits.bits6 (fun HT_ HW_ => ?_)
            generalize w26.drew = w27 at BK288 BK290 HB hx294_0 hx294_1 hx294_2 hx294_3 hx295_0 hx295_1 hx295_2 hx295_3 hHeld ⊢
            refine tk 0 26 (bv 28 1) HT_ HW_ hHeld rfl rfl (by rintro w' ⟨s0, s1, s2, s3, s4, s5, s6, s7, s8, s9, s10, s11⟩; exact yl) ?_
            refine one_ (i := 1) (N := some 27) (bv 28 3) rfl rfl (one_of HT_.out (by kernel_rfl)) (by decide) (fun K hK => ?_)
            refine gK Tryd.func61 rfl #[.agg #[.int .i64 ((rd_T87 l0 x15_1).f0), .int .i64 ((rd_T87 l0 x15_1).f1), .int .i64 ((rd_T87 l0 x15_1).f2), .int .i64 ((rd_T87 l0 x15_1).f3)]] rfl rfl ?_
            with_reducible refine (incunableref04_used.calls ((rd_T87 l0 x15_1).f0) ((rd_T87 l0 x15_1).f1) ((rd_T87 l0 x15_1).f2) ((rd_T87 l0 x15_1).f3) true _ A8.out).mono ?_
            rintro e w28 ⟨rfl, hb⟩
            refine ⟨_, rfl, ?_⟩
            have n_ := aC (blk_below (bU BK288.out) hb) (aC (blk_below (g := gb290) (o := .cells #[.int .i64 ((rd_T87 l0 x15_1).f0), .int .i64 ((rd_T87 l0 x15_1).f1), .int .i64 ((rd_T87 l0 x15_1).f2), .int .i64 ((rd_T87 l0 x15_1).f3)] 87 (0, 0)) (bU BK290.out) hb) (aE (bs hb)))
            clear BK288 BK290 HB
            obtain ⟨BK288, BK290, HB⟩ := n_
            (try clear hb)
            (try clear hb2)
            (try clear hk)
            (try clear hi)
            refine hK.out _ _ ⟨kc0 BK290.out, kc1 BK290.out, kc2 BK290.out, kc3 BK290.out, (hcB HB.out hw294_0), (hcB HB.out hw294_1), (hcB HB.out hw294_2), (hcB HB.out hw294_3), (hcB HB.out hw295_0), (hcB HB.out hw295_1), (hcB HB.out hw295_2), (hcB HB.out hw295_3)⟩ (fun hHeld => ?_)
            clear hK K
            refine nm (some 27) ?_
            refine pu 2 28 (bv 28 7) HT_ rfl rfl ?_
            refine pu 3 29 (bv 28 15) HT_ rfl rfl ?_
            refine pu 4 30 (bv 28 31) HT_ rfl rfl ?_
            refine pu 5 31 (bv 28 63) HT_ rfl rfl ?_
            refine pu 6 32 (bv 28 127) HT_ rfl rfl ?_
            refine pu 7 33 (bv 28 255) HT_ rfl rfl ?_
            refine pu 8 34 (bv 28 511) HT_ rfl rfl ?_
            refine pu 9 35 (bv 28 1023) HT_ rfl rfl ?_
            refine pu 11 37 (bv 28 3071) HT_ rfl rfl ?_
            refine pu 14 40 (bv 28 19455) HT_ rfl rfl ?_
            refine pu 15 41 (bv 28 52223) HT_ rfl rfl ?_
            refine pu 16 42 (bv 28 117759) HT_ rfl rfl ?_
            refine pu 17 43 (bv 28 248831) HT_ rfl rfl ?_
            refine pu 19 45 (bv 28 773119) HT_ rfl rfl ?_
            refine pu 20 46 (bv 28 1821695) HT_ rfl rfl ?_
            refine pu 21 47 (bv 28 3918847) HT_ rfl rfl ?_
            refine pu 22 48 (bv 28 8113151) HT_ rfl rfl ?_
            refine tk 10 36 (bv 28 8114175) HT_ HW_ hHeld rfl rfl (by rintro w' ⟨s0, s1, s2, s3, s4, s5, s6, s7, s8, s9, s10, s11⟩; exact yl) ?_
            refine tk 12 38 (bv 28 8118271) HT_ HW_ hHeld rfl rfl (by rintro w' ⟨s0, s1, s2, s3, s4, s5, s6, s7, s8, s9, s10, s11⟩; exact yl) ?_
            refine pu 13 39 (bv 28 8126463) HT_ rfl rfl ?_
            refine tk 18 44 (bv 28 8388607) HT_ HW_ hHeld rfl rfl (by rintro w' ⟨s0, s1, s2, s3, s4, s5, s6, s7, s8, s9, s10, s11⟩; exact yl) ?_
            refine tk 23 49 (bv 28 16777215) HT_ HW_ hHeld rfl rfl (by rintro w' ⟨s0, s1, s2, s3, s4, s5, s6, s7, s8, s9, s10, s11⟩; exact yl) ?_
            refine pu 24 50 (bv 28 33554431) HT_ rfl rfl ?_
            refine pu 25 51 (bv 28 67108863) HT_ rfl rfl ?_
            refine pu 26 52 (bv 28 134217727) HT_ rfl rfl ?_
            refine pu 27 53 (bv 28 268435455) HT_ rfl rfl ?_
            refine done_ (done_of HT_.out (by kernel_rfl)) ?_
            try go_wp2
            go_roundg k1
            case measure => have := HK1.out; omega
            case rel => exact ⟨(x15_1), (wrap64 (x15_1 + 1)), rq, rq, H', ⟨by have := HK1.out; omega⟩, ⟨bU BK288.out⟩, ⟨bl⟩⟩
           ·rw [if_neg c21] at H
            have c21b0 := decide_eq_false c21
            clear c21
            have H' := Aside0.mk H
            clear H
            have p289 : 0 ≤ (x15_1 : Int) := dt
            have q289 : x15_1 < (l0.length : Int) := dt
            obtain ⟨ad289, e289, hx289_0, hx289_1, hx289_2, hx289_3⟩ := at_T87 HR0.out x15_1 p289 q289
            cases e289
            replace hx289_0 := hcB HB.out hx289_0
            replace hx289_1 := hcB HB.out hx289_1
            replace hx289_2 := hcB HB.out hx289_2
            replace hx289_3 := hcB HB.out hx289_3
            replace p289 := eq_true p289
            replace q289 := eq_true q289
            try go_wp2_with (first | ((with_reducible refine gd 8 rfl ?_); refine bx 8 #[.int .i64 0, .int .i64 0, .int .i64 0, .int .i64 0] 87 rfl rfl ?_; intro gb290 hg w29 hbox hb; have n_ := aC (blk_below (bU BK288.out) hb) (aC (bs hb) (aC hbox (aC (gz hg) (aC (gz hg) (aC (gn hg (bU BK288.out)) (aE (gm hg (bU BK288.out)))))))); clear BK288 HB; obtain ⟨BK288, HB, BK290, GW290, GE290, NB288_290, NB290_288⟩ := n_; clear hb hbox hg; have hnb30 := NB290_288.out; have hnc30 := NB288_290.out; obtain ⟨hcz31_0, hcz31_1, hcz31_2, hcz31_3, hfz31_0, hfz31_1, hfz31_2, hfz31_3⟩ := cz4f BK290.out; obtain ⟨hcz32_0, hcz32_1, hfz32_0, hfz32_1⟩ := cz2f BK288.out) | ((with_reducible refine gf 60 rfl ?_); refine gL (some 23) rfl rfl Tryd.func60 rfl #[.agg #[.int .i64 ((rd_T87 l0 x15_1).f0), .int .i64 ((rd_T87 l0 x15_1).f1), .int .i64 ((rd_T87 l0 x15_1).f2), .int .i64 ((rd_T87 l0 x15_1).f3)], .agg #[.bool a1_0, .int .i64 a1_1]] rfl ?_; (with_reducible refine (incunableref04_Place.calls k1 ((rd_T87 l0 x15_1).f0) ((rd_T87 l0 x15_1).f1) ((rd_T87 l0 x15_1).f2) ((rd_T87 l0 x15_1).f3) a1_0 a1_1 t291 true _ A7.out).mono ?_); rintro e w33 ⟨rfl, hb⟩; refine ⟨_, rfl, ?_⟩; have n_ := aC (blk_below (g := gb288) (o := .cells #[.bool a1_0, .int .i64 a1_1] 64 (0, 0)) (by (with_reducible repeat (first | refine blk_drewN ?_ _ | refine blk_drew ?_ | refine blk_alloc ?_ _)); refine blk_far ?_ NB288_290.out _; (with_reducible repeat (first | refine blk_drewN ?_ _ | refine blk_drew ?_ | refine blk_alloc ?_ _)); refine blk_far ?_ NB288_290.out _; (with_reducible repeat (first | refine blk_drewN ?_ _ | refine blk_drew ?_ | refine blk_alloc ?_ _)); refine blk_far ?_ NB288_290.out _; (with_reducible repeat (first | refine blk_drewN ?_ _ | refine blk_drew ?_ | refine blk_alloc ?_ _)); refine blk_far ?_ NB288_290.out _; (with_reducible repeat (first | refine blk_drewN ?_ _ | refine blk_drew ?_ | refine blk_alloc ?_ _)); exact BK288.out) hb) (aC (blk_below (g := gb290) (o := .cells #[.int .i64 ((rd_T87 l0 x15_1).f0), .int .i64 ((rd_T87 l0 x15_1).f1), .int .i64 ((rd_T87 l0 x15_1).f2), .int .i64 ((rd_T87 l0 x15_1).f3)] 87 (0, 0)) (by (with_reducible repeat (first | refine blk_drewN ?_ _ | refine blk_drew ?_ | refine blk_alloc ?_ _)); refine blk_put (cs := #[.int .i64 ((rd_T87 l0 x15_1).f0), .int .i64 ((rd_T87 l0 x15_1).f1), .int .i64 ((rd_T87 l0 x15_1).f2), .int .i64 0]) ?_ 3 _ rfl; (with_reducible repeat (first | refine blk_drewN ?_ _ | refine blk_drew ?_ | refine blk_alloc ?_ _)); refine blk_put (cs := #[.int .i64 ((rd_T87 l0 x15_1).f0), .int .i64 ((rd_T87 l0 x15_1).f1), .int .i64 0, .int .i64 0]) ?_ 2 _ rfl; (with_reducible repeat (first | refine blk_drewN ?_ _ | refine blk_drew ?_ | refine blk_alloc ?_ _)); refine blk_put (cs := #[.int .i64 ((rd_T87 l0 x15_1).f0), .int .i64 0, .int .i64 0, .int .i64 0]) ?_ 1 _ rfl; (with_reducible repeat (first | refine blk_drewN ?_ _ | refine blk_drew ?_ | refine blk_alloc ?_ _)); refine blk_put (cs := #[.int .i64 0, .int .i64 0, .int .i64 0, .int .i64 0]) ?_ 0 _ rfl; (with_reducible repeat (first | refine blk_drewN ?_ _ | refine blk_drew ?_ | refine blk_alloc ?_ _)); exact BK290.out) hb) (aE (bs hb))); clear BK288 BK290 HB; obtain ⟨BK288, BK290, HB⟩ := n_; (try clear hb)))
            have n_ := aC (blk_drew BK288.out) (aC (blk_drew BK290.out) (aE (below_drew1 HB.out)))
            clear BK288 BK290 HB
            obtain ⟨BK288, BK290, HB⟩ := n_
            have p294 : 0 ≤ (x6_1 : Int) := dt
            have q294 : x6_1 < (l0.length : Int) := dt
            obtain ⟨ad294, e294, hx294_0, hx294_1, hx294_2, hx294_3⟩ := at_T87 HR0.out x6_1 p294 q294
            have hw294_3 := hx294_3
            have hw294_2 := hx294_2
            have hw294_1 := hx294_1
            have hw294_0 := hx294_0
            obtain rfl : ad289 = ad294 := (by injection e294)
            replace hx294_0 := hcB HB.out hx294_0
            replace hx294_1 := hcB HB.out hx294_1
            replace hx294_2 := hcB HB.out hx294_2
            replace hx294_3 := hcB HB.out hx294_3
            replace p294 := eq_true p294
            replace q294 := eq_true q294
            have p295 : 0 ≤ (x6_1 : Int) := dt
            have q295 : x6_1 < (l0.length : Int) := dt
            obtain ⟨ad295, e295, hx295_0, hx295_1, hx295_2, hx295_3⟩ := at_T87 HR0.out x6_1 p295 q295
            have hw295_3 := hx295_3
            have hw295_2 := hx295_2
            have hw295_1 := hx295_1
            have hw295_0 := hx295_0
            obtain rfl : ad289 = ad295 := (by injection e295)
            replace hx295_0 := hcB HB.out hx295_0
            replace hx295_1 := hcB HB.out hx295_1
            replace hx295_2 := hcB HB.out hx295_2
            replace hx295_3 := hcB HB.out hx295_3
            replace p295 := eq_true p295
            replace q295 := eq_true q295
            refine start_ (n := 28) (S := fun w' => w'.cell? ⟨gb290, 0, none⟩ = some (.int .i64 ((rd_T87 l0 x15_1).f0)) ∧ w'.cell? ⟨gb290, 1, none⟩ = some (.int .i64 ((rd_T87 l0 x15_1).f1)) ∧ w'.cell? ⟨gb290, 2, none⟩ = some (.int .i64 ((rd_T87 l0 x15_1).f2)) ∧ w'.cell? ⟨gb290, 3, none⟩ = some (.int .i64 ((rd_T87 l0 x15_1).f3)) ∧ w'.cell? (ad289.add ((x6_1).toNat * 4)) = some (.int .i64 ((rd_T87 l0 x6_1).f0)) ∧ w'.cell? ⟨(ad289.add ((x6_1).toNat * 4)).block, (ad289.add ((x6_1).toNat * 4)).off + 1, none⟩ = some (.int .i64 ((rd_T87 l0 x6_1).f1)) ∧ w'.cell? ⟨(ad289.add ((x6_1).toNat * 4)).block, (ad289.add ((x6_1).toNat * 4)).off + 2, none⟩ = some (.int .i64 ((rd_T87 l0 x6_1).f2)) ∧ w'.cell? ⟨(ad289.add ((x6_1).toNat * 4)).block, (ad289.add ((x6_1).toNat * 4)).off + 3, none⟩ = some (.int .i64 ((rd_T87 l0 x6_1).f3)) ∧ w'.cell? (ad289.add ((x6_1).toNat * 4)) = some (.int .i64 ((rd_T87 l0 x6_1).f0)) ∧ w'.cell? ⟨(ad289.add ((x6_1).toNat * 4)).block, (ad289.add ((x6_1).toNat * 4)).off + 1, none⟩ = some (.int .i64 ((rd_T87 l0 x6_1).f1)) ∧ w'.cell? ⟨(ad289.add ((x6_1).toNat * 4)).block, (ad289.add ((x6_1).toNat * 4)).off + 2, none⟩ = some (.int .i64 ((rd_T87 l0 x6_1).f2)) ∧ w'.cell? ⟨(ad289.add ((x6_1).toNat * 4)).block, (ad289.add ((x6_1).toNat * 4)).off + 3, none⟩ = some (.int .i64 ((rd_T87 l0 x6_1).f3))) (ds := []) #[false, false, false, false, false, false, false, false, false, false, false, false, false, false, false, false, false, false, false, false, false, false, false, false, false, false, false, false] (by kernel_rfl) rfl rfl ⟨kc0 BK290.out, kc1 BK290.out, kc2 BK290.out, kc3 BK290.out, (hcB HB.out hw294_0), (hcB HB.out hw294_1), (hcB HB.out hw294_2), (hcB HB.out hw294_3), (hcB HB.out hw295_0), (hcB HB.out hw295_1), (hcB HB.out hw295_2), (hcB HB.out hw295_3)⟩ (fun hHeld => ?_); refine with_tabW incunableref04_Bits.tab6 incunableref04_Bits.bits6 (fun HT_ HW_ => ?_)
            generalize w33.drew = w34 at BK288 BK290 HB hx294_0 hx294_1 hx294_2 hx294_3 hx295_0 hx295_1 hx295_2 hx295_3 hHeld ⊢
            refine tk 0 26 (bv 28 1) HT_ HW_ hHeld rfl rfl (by rintro w' ⟨s0, s1, s2, s3, s4, s5, s6, s7, s8, s9, s10, s11⟩; exact yl) ?_
            refine one_ (i := 1) (N := some 27) (bv 28 3) rfl rfl (one_of HT_.out (by kernel_rfl)) (by decide) (fun K hK => ?_)
            refine gK Tryd.func61 rfl #[.agg #[.int .i64 ((rd_T87 l0 x15_1).f0), .int .i64 ((rd_T87 l0 x15_1).f1), .int .i64 ((rd_T87 l0 x15_1).f2), .int .i64 ((rd_T87 l0 x15_1).f3)]] rfl rfl ?_
            with_reducible refine (incunableref04_used.calls ((rd_T87 l0 x15_1).f0) ((rd_T87 l0 x15_1).f1) ((rd_T87 l0 x15_1).f2) ((rd_T87 l0 x15_1).f3) true _ A8.out).mono ?_
            rintro e w35 ⟨rfl, hb⟩
            refine ⟨_, rfl, ?_⟩
            have n_ := aC (blk_below (bU BK288.out) hb) (aC (blk_below (g := gb290) (o := .cells #[.int .i64 ((rd_T87 l0 x15_1).f0), .int .i64 ((rd_T87 l0 x15_1).f1), .int .i64 ((rd_T87 l0 x15_1).f2), .int .i64 ((rd_T87 l0 x15_1).f3)] 87 (0, 0)) (bU BK290.out) hb) (aE (bs hb)))
            clear BK288 BK290 HB
            obtain ⟨BK288, BK290, HB⟩ := n_
            (try clear hb)
            (try clear hb2)
            (try clear hk)
            (try clear hi)
            refine hK.out _ _ ⟨kc0 BK290.out, kc1 BK290.out, kc2 BK290.out, kc3 BK290.out, (hcB HB.out hw294_0), (hcB HB.out hw294_1), (hcB HB.out hw294_2), (hcB HB.out hw294_3), (hcB HB.out hw295_0), (hcB HB.out hw295_1), (hcB HB.out hw295_2), (hcB HB.out hw295_3)⟩ (fun hHeld => ?_)
            clear hK K
            refine nm (some 27) ?_
            refine pu 2 28 (bv 28 7) HT_ rfl rfl ?_
            refine pu 3 29 (bv 28 15) HT_ rfl rfl ?_
            refine pu 4 30 (bv 28 31) HT_ rfl rfl ?_
            refine pu 5 31 (bv 28 63) HT_ rfl rfl ?_
            refine pu 6 32 (bv 28 127) HT_ rfl rfl ?_
            refine pu 7 33 (bv 28 255) HT_ rfl rfl ?_
            refine pu 8 34 (bv 28 511) HT_ rfl rfl ?_
            refine pu 9 35 (bv 28 1023) HT_ rfl rfl ?_
            refine pu 11 37 (bv 28 3071) HT_ rfl rfl ?_
            refine pu 14 40 (bv 28 19455) HT_ rfl rfl ?_
            refine pu 15 41 (bv 28 52223) HT_ rfl rfl ?_
            refine pu 16 42 (bv 28 117759) HT_ rfl rfl ?_
            refine pu 17 43 (bv 28 248831) HT_ rfl rfl ?_
            refine pu 19 45 (bv 28 773119) HT_ rfl rfl ?_
            refine pu 20 46 (bv 28 1821695) HT_ rfl rfl ?_
            refine pu 21 47 (bv 28 3918847) HT_ rfl rfl ?_
            refine pu 22 48 (bv 28 8113151) HT_ rfl rfl ?_
            refine tk 10 36 (bv 28 8114175) HT_ HW_ hHeld rfl rfl (by rintro w' ⟨s0, s1, s2, s3, s4, s5, s6, s7, s8, s9, s10, s11⟩; exact yl) ?_
            refine tk 12 38 (bv 28 8118271) HT_ HW_ hHeld rfl rfl (by rintro w' ⟨s0, s1, s2, s3, s4, s5, s6, s7, s8, s9, s10, s11⟩; exact yl) ?_
            refine pu 13 39 (bv 28 8126463) HT_ rfl rfl ?_
            refine tk 18 44 (bv 28 8388607) HT_ HW_ hHeld rfl rfl (by rintro w' ⟨s0, s1, s2, s3, s4, s5, s6, s7, s8, s9, s10, s11⟩; exact yl) ?_
            refine tk 23 49 (bv 28 16777215) HT_ HW_ hHeld rfl rfl (by rintro w' ⟨s0, s1, s2, s3, s4, s5, s6, s7, s8, s9, s10, s11⟩; exact yl) ?_
            refine pu 24 50 (bv 28 33554431) HT_ rfl rfl ?_
            refine pu 25 51 (bv 28 67108863) HT_ rfl rfl ?_
            refine pu 26 52 (bv 28 134217727) HT_ rfl rfl ?_
            refine pu 27 53 (bv 28 268435455) HT_ rfl rfl ?_
            refine done_ (done_of HT_.out (by kernel_rfl)) ?_
            try go_wp2
            go_roundg k1
            case measure => have := HK1.out; omega
            case rel => exact ⟨(x6_1), (wrap64 (x15_1 + 1)), rq, rq, H', ⟨by have := HK1.out; omega⟩, ⟨bU BK288.out⟩, ⟨bl⟩⟩
          ·rw [if_neg c20] at H
           exact absurd H (by simp)
         ·rw [if_neg c19] at H
          exact absurd H (by simp)
       ·replace c10 := Bool.eq_false_iff.mpr c10
        subst c10
        have H1 : (incunableref04_Bits.l0 k1 l0 x6_1 l0 (l0.length : Int) (wrap64 (x15_1 + 1)) a1_0 a1_1) = some (r1, r2) := by rw [if_neg (show ¬ (false = true) by decide)] at H; exact H
        clear H
        have H := H1
        clear H1
        have H' := Aside0.mk H
        clear H
        have p289 : 0 ≤ (x15_1 : Int) := dt
        have q289 : x15_1 < (l0.length : Int) := dt
        obtain ⟨ad289, e289, hx289_0, hx289_1, hx289_2, hx289_3⟩ := at_T87 HR0.out x15_1 p289 q289
        cases e289
        replace hx289_0 := hcB HB.out hx289_0
        replace hx289_1 := hcB HB.out hx289_1
        replace hx289_2 := hcB HB.out hx289_2
        replace hx289_3 := hcB HB.out hx289_3
        replace p289 := eq_true p289
        replace q289 := eq_true q289
        try go_wp2_with (first | ((with_reducible refine gd 8 rfl ?_); refine bx 8 #[.int .i64 0, .int .i64 0, .int .i64 0, .int .i64 0] 87 rfl rfl ?_; intro gb290 hg w36 hbox hb; have n_ := aC (blk_below (bU BK288.out) hb) (aC (bs hb) (aC hbox (aC (gz hg) (aC (gz hg) (aC (gn hg (bU BK288.out)) (aE (gm hg (bU BK288.out)))))))); clear BK288 HB; obtain ⟨BK288, HB, BK290, GW290, GE290, NB288_290, NB290_288⟩ := n_; clear hb hbox hg; have hnb37 := NB290_288.out; have hnc37 := NB288_290.out; obtain ⟨hcz38_0, hcz38_1, hcz38_2, hcz38_3, hfz38_0, hfz38_1, hfz38_2, hfz38_3⟩ := cz4f BK290.out; obtain ⟨hcz39_0, hcz39_1, hfz39_0, hfz39_1⟩ := cz2f BK288.out) | ((with_reducible refine gf 60 rfl ?_); refine gL (some 23) rfl rfl Tryd.func60 rfl #[.agg #[.int .i64 ((rd_T87 l0 x15_1).f0), .int .i64 ((rd_T87 l0 x15_1).f1), .int .i64 ((rd_T87 l0 x15_1).f2), .int .i64 ((rd_T87 l0 x15_1).f3)], .agg #[.bool a1_0, .int .i64 a1_1]] rfl ?_; (with_reducible refine (incunableref04_Place.calls k1 ((rd_T87 l0 x15_1).f0) ((rd_T87 l0 x15_1).f1) ((rd_T87 l0 x15_1).f2) ((rd_T87 l0 x15_1).f3) a1_0 a1_1 t291 false _ A7.out).mono ?_); rintro e w40 ⟨rfl, hb⟩; refine ⟨_, rfl, ?_⟩; have n_ := aC (blk_below (g := gb288) (o := .cells #[.bool a1_0, .int .i64 a1_1] 64 (0, 0)) (by (with_reducible repeat (first | refine blk_drewN ?_ _ | refine blk_drew ?_ | refine blk_alloc ?_ _)); refine blk_far ?_ NB288_290.out _; (with_reducible repeat (first | refine blk_drewN ?_ _ | refine blk_drew ?_ | refine blk_alloc ?_ _)); refine blk_far ?_ NB288_290.out _; (with_reducible repeat (first | refine blk_drewN ?_ _ | refine blk_drew ?_ | refine blk_alloc ?_ _)); refine blk_far ?_ NB288_290.out _; (with_reducible repeat (first | refine blk_drewN ?_ _ | refine blk_drew ?_ | refine blk_alloc ?_ _)); refine blk_far ?_ NB288_290.out _; (with_reducible repeat (first | refine blk_drewN ?_ _ | refine blk_drew ?_ | refine blk_alloc ?_ _)); exact BK288.out) hb) (aC (blk_below (g := gb290) (o := .cells #[.int .i64 ((rd_T87 l0 x15_1).f0), .int .i64 ((rd_T87 l0 x15_1).f1), .int .i64 ((rd_T87 l0 x15_1).f2), .int .i64 ((rd_T87 l0 x15_1).f3)] 87 (0, 0)) (by (with_reducible repeat (first | refine blk_drewN ?_ _ | refine blk_drew ?_ | refine blk_alloc ?_ _)); refine blk_put (cs := #[.int .i64 ((rd_T87 l0 x15_1).f0), .int .i64 ((rd_T87 l0 x15_1).f1), .int .i64 ((rd_T87 l0 x15_1).f2), .int .i64 0]) ?_ 3 _ rfl; (with_reducible repeat (first | refine blk_drewN ?_ _ | refine blk_drew ?_ | refine blk_alloc ?_ _)); refine blk_put (cs := #[.int .i64 ((rd_T87 l0 x15_1).f0), .int .i64 ((rd_T87 l0 x15_1).f1), .int .i64 0, .int .i64 0]) ?_ 2 _ rfl; (with_reducible repeat (first | refine blk_drewN ?_ _ | refine blk_drew ?_ | refine blk_alloc ?_ _)); refine blk_put (cs := #[.int .i64 ((rd_T87 l0 x15_1).f0), .int .i64 0, .int .i64 0, .int .i64 0]) ?_ 1 _ rfl; (with_reducible repeat (first | refine blk_drewN ?_ _ | refine blk_drew ?_ | refine blk_alloc ?_ _)); refine blk_put (cs := #[.int .i64 0, .int .i64 0, .int .i64 0, .int .i64 0]) ?_ 0 _ rfl; (with_reducible repeat (first | refine blk_drewN ?_ _ | refine blk_drew ?_ | refine blk_alloc ?_ _)); exact BK290.out) hb) (aE (bs hb))); clear BK288 BK290 HB; obtain ⟨BK288, BK290, HB⟩ := n_; (try clear hb)))
        have n_ := aC (blk_drew BK288.out) (aC (blk_drew BK290.out) (aE (below_drew1 HB.out)))
        clear BK288 BK290 HB
        obtain ⟨BK288, BK290, HB⟩ := n_
        refine start_ (n := 28) (S := fun w' => w'.cell? ⟨gb290, 0, none⟩ = some (.int .i64 ((rd_T87 l0 x15_1).f0)) ∧ w'.cell? ⟨gb290, 1, none⟩ = some (.int .i64 ((rd_T87 l0 x15_1).f1)) ∧ w'.cell? ⟨gb290, 2, none⟩ = some (.int .i64 ((rd_T87 l0 x15_1).f2)) ∧ w'.cell? ⟨gb290, 3, none⟩ = some (.int .i64 ((rd_T87 l0 x15_1).f3))) (ds := []) #[false, false, false, false, false, false, false, false, false, false, false, false, false, false, false, false, false, false, false, false, false, false, false, false, false, false, false, false] (by kernel_rfl) rfl rfl ⟨kc0 BK290.out, kc1 BK290.out, kc2 BK290.out, kc3 BK290.out⟩ (fun hHeld => ?_); refine with_tabW incunableref04_Bits.tab6 incunableref04_Bits.bits6 (fun HT_ HW_ => ?_)
        generalize w40.drew = w41 at BK288 BK290 HB hHeld ⊢
        refine tk 0 26 (bv 28 1) HT_ HW_ hHeld rfl rfl (by rintro w' ⟨s0, s1, s2, s3⟩; exact yl) ?_
        refine one_ (i := 1) (N := some 27) (bv 28 3) rfl rfl (one_of HT_.out (by kernel_rfl)) (by decide) (fun K hK => ?_)
        refine gK Tryd.func61 rfl #[.agg #[.int .i64 ((rd_T87 l0 x15_1).f0), .int .i64 ((rd_T87 l0 x15_1).f1), .int .i64 ((rd_T87 l0 x15_1).f2), .int .i64 ((rd_T87 l0 x15_1).f3)]] rfl rfl ?_
        with_reducible refine (incunableref04_used.calls ((rd_T87 l0 x15_1).f0) ((rd_T87 l0 x15_1).f1) ((rd_T87 l0 x15_1).f2) ((rd_T87 l0 x15_1).f3) true _ A8.out).mono ?_
        rintro e w42 ⟨rfl, hb⟩
        refine ⟨_, rfl, ?_⟩
        have n_ := aC (blk_below (bU BK288.out) hb) (aC (blk_below (g := gb290) (o := .cells #[.int .i64 ((rd_T87 l0 x15_1).f0), .int .i64 ((rd_T87 l0 x15_1).f1), .int .i64 ((rd_T87 l0 x15_1).f2), .int .i64 ((rd_T87 l0 x15_1).f3)] 87 (0, 0)) (bU BK290.out) hb) (aE (bs hb)))
        clear BK288 BK290 HB
        obtain ⟨BK288, BK290, HB⟩ := n_
        (try clear hb)
        (try clear hb2)
        (try clear hk)
        (try clear hi)
        refine hK.out _ _ ⟨kc0 BK290.out, kc1 BK290.out, kc2 BK290.out, kc3 BK290.out⟩ (fun hHeld => ?_)
        clear hK K
        refine nm (some 27) ?_
        refine pu 2 28 (bv 28 7) HT_ rfl rfl ?_
        refine pu 3 29 (bv 28 15) HT_ rfl rfl ?_
        refine pu 4 30 (bv 28 31) HT_ rfl rfl ?_
        refine pu 5 31 (bv 28 63) HT_ rfl rfl ?_
        refine pn 6 32 (bv 28 127) HT_ rfl rfl ?_
        refine pn 7 33 (bv 28 255) HT_ rfl rfl ?_
        refine pn 8 34 (bv 28 511) HT_ rfl rfl ?_
        refine pn 9 35 (bv 28 1023) HT_ rfl rfl ?_
        refine pn 10 36 (bv 28 2047) HT_ rfl rfl ?_
        refine pn 11 37 (bv 28 4095) HT_ rfl rfl ?_
        refine pn 12 38 (bv 28 8191) HT_ rfl rfl ?_
        refine pn 13 39 (bv 28 16383) HT_ rfl rfl ?_
        refine pn 14 40 (bv 28 32767) HT_ rfl rfl ?_
        refine pn 15 41 (bv 28 65535) HT_ rfl rfl ?_
        refine pn 16 42 (bv 28 131071) HT_ rfl rfl ?_
        refine pn 17 43 (bv 28 262143) HT_ rfl rfl ?_
        refine pn 18 44 (bv 28 524287) HT_ rfl rfl ?_
        refine pn 19 45 (bv 28 1048575) HT_ rfl rfl ?_
        refine pn 20 46 (bv 28 2097151) HT_ rfl rfl ?_
        refine pn 21 47 (bv 28 4194303) HT_ rfl rfl ?_
        refine pn 22 48 (bv 28 8388607) HT_ rfl rfl ?_
        refine pn 23 49 (bv 28 16777215) HT_ rfl rfl ?_
        refine pn 24 50 (bv 28 33554431) HT_ rfl rfl ?_
        refine pn 25 51 (bv 28 67108863) HT_ rfl rfl ?_
        refine pn 26 52 (bv 28 134217727) HT_ rfl rfl ?_
        refine pu 27 53 (bv 28 268435455) HT_ rfl rfl ?_
        refine done_ (done_of HT_.out (by kernel_rfl)) ?_
        try go_wp2
        go_roundg k1
        case measure => have := HK1.out; omega
        case rel => exact ⟨(x6_1), (wrap64 (x15_1 + 1)), rq, rq, H', ⟨by have := HK1.out; omega⟩, ⟨bU BK288.out⟩, ⟨bl⟩⟩
      ·replace c9 := Bool.eq_false_iff.mpr c9
       subst c9
       have H1 : (incunableref04_Bits.l0 k1 l0 x6_1 l0 (l0.length : Int) (wrap64 (x15_1 + 1)) a1_0 a1_1) = some (r1, r2) := by rw [if_neg (show ¬ (false = true) by decide)] at H; exact H
       clear H
       have H := H1
       clear H1
       have H' := Aside0.mk H
       clear H
       have p289 : 0 ≤ (x15_1 : Int) := dt
       have q289 : x15_1 < (l0.length : Int) := dt
       obtain ⟨ad289, e289, hx289_0, hx289_1, hx289_2, hx289_3⟩ := at_T87 HR0.out x15_1 p289 q289
       cases e289
       replace hx289_0 := hcB HB.out hx289_0
       replace hx289_1 := hcB HB.out hx289_1
       replace hx289_2 := hcB HB.out hx289_2
       replace hx289_3 := hcB HB.out hx289_3
       replace p289 := eq_true p289
       replace q289 := eq_true q289
       try go_wp2_with (first | ((with_reducible refine gd 8 rfl ?_); refine bx 8 #[.int .i64 0, .int .i64 0, .int .i64 0, .int .i64 0] 87 rfl rfl ?_; intro gb290 hg w43 hbox hb; have n_ := aC (blk_below (bU BK288.out) hb) (aC (bs hb) (aC hbox (aC (gz hg) (aC (gz hg) (aC (gn hg (bU BK288.out)) (aE (gm hg (bU BK288.out)))))))); clear BK288 HB; obtain ⟨BK288, HB, BK290, GW290, GE290, NB288_290, NB290_288⟩ := n_; clear hb hbox hg; have hnb44 := NB290_288.out; have hnc44 := NB288_290.out; obtain ⟨hcz45_0, hcz45_1, hcz45_2, hcz45_3, hfz45_0, hfz45_1, hfz45_2, hfz45_3⟩ := cz4f BK290.out; obtain ⟨hcz46_0, hcz46_1, hfz46_0, hfz46_1⟩ := cz2f BK288.out) | ((with_reducible refine gf 60 rfl ?_); refine gL (some 23) rfl rfl Tryd.func60 rfl #[.agg #[.int .i64 ((rd_T87 l0 x15_1).f0), .int .i64 ((rd_T87 l0 x15_1).f1), .int .i64 ((rd_T87 l0 x15_1).f2), .int .i64 ((rd_T87 l0 x15_1).f3)], .agg #[.bool a1_0, .int .i64 a1_1]] rfl ?_; (with_reducible refine (incunableref04_Place.calls k1 ((rd_T87 l0 x15_1).f0) ((rd_T87 l0 x15_1).f1) ((rd_T87 l0 x15_1).f2) ((rd_T87 l0 x15_1).f3) a1_0 a1_1 t291 t292 _ A7.out).mono ?_); rintro e w47 ⟨rfl, hb⟩; refine ⟨_, rfl, ?_⟩; have n_ := aC (blk_below (g := gb288) (o := .cells #[.bool a1_0, .int .i64 a1_1] 64 (0, 0)) (by (with_reducible repeat (first | refine blk_drewN ?_ _ | refine blk_drew ?_ | refine blk_alloc ?_ _)); refine blk_far ?_ NB288_290.out _; (with_reducible repeat (first | refine blk_drewN ?_ _ | refine blk_drew ?_ | refine blk_alloc ?_ _)); refine blk_far ?_ NB288_290.out _; (with_reducible repeat (first | refine blk_drewN ?_ _ | refine blk_drew ?_ | refine blk_alloc ?_ _)); refine blk_far ?_ NB288_290.out _; (with_reducible repeat (first | refine blk_drewN ?_ _ | refine blk_drew ?_ | refine blk_alloc ?_ _)); refine blk_far ?_ NB288_290.out _; (with_reducible repeat (first | refine blk_drewN ?_ _ | refine blk_drew ?_ | refine blk_alloc ?_ _)); exact BK288.out) hb) (aC (blk_below (g := gb290) (o := .cells #[.int .i64 ((rd_T87 l0 x15_1).f0), .int .i64 ((rd_T87 l0 x15_1).f1), .int .i64 ((rd_T87 l0 x15_1).f2), .int .i64 ((rd_T87 l0 x15_1).f3)] 87 (0, 0)) (by (with_reducible repeat (first | refine blk_drewN ?_ _ | refine blk_drew ?_ | refine blk_alloc ?_ _)); refine blk_put (cs := #[.int .i64 ((rd_T87 l0 x15_1).f0), .int .i64 ((rd_T87 l0 x15_1).f1), .int .i64 ((rd_T87 l0 x15_1).f2), .int .i64 0]) ?_ 3 _ rfl; (with_reducible repeat (first | refine blk_drewN ?_ _ | refine blk_drew ?_ | refine blk_alloc ?_ _)); refine blk_put (cs := #[.int .i64 ((rd_T87 l0 x15_1).f0), .int .i64 ((rd_T87 l0 x15_1).f1), .int .i64 0, .int .i64 0]) ?_ 2 _ rfl; (with_reducible repeat (first | refine blk_drewN ?_ _ | refine blk_drew ?_ | refine blk_alloc ?_ _)); refine blk_put (cs := #[.int .i64 ((rd_T87 l0 x15_1).f0), .int .i64 0, .int .i64 0, .int .i64 0]) ?_ 1 _ rfl; (with_reducible repeat (first | refine blk_drewN ?_ _ | refine blk_drew ?_ | refine blk_alloc ?_ _)); refine blk_put (cs := #[.int .i64 0, .int .i64 0, .int .i64 0, .int .i64 0]) ?_ 0 _ rfl; (with_reducible repeat (first | refine blk_drewN ?_ _ | refine blk_drew ?_ | refine blk_alloc ?_ _)); exact BK290.out) hb) (aE (bs hb))); clear BK288 BK290 HB; obtain ⟨BK288, BK290, HB⟩ := n_; (try clear hb)))
       have n_ := aC (blk_drew BK288.out) (aC (blk_drew BK290.out) (aE (below_drew1 HB.out)))
       clear BK288 BK290 HB
       obtain ⟨BK288, BK290, HB⟩ := n_
       refine start_ (n := 28) (S := fun w' => w'.cell? ⟨gb290, 0, none⟩ = some (.int .i64 ((rd_T87 l0 x15_1).f0)) ∧ w'.cell? ⟨gb290, 1, none⟩ = some (.int .i64 ((rd_T87 l0 x15_1).f1)) ∧ w'.cell? ⟨gb290, 2, none⟩ = some (.int .i64 ((rd_T87 l0 x15_1).f2)) ∧ w'.cell? ⟨gb290, 3, none⟩ = some (.int .i64 ((rd_T87 l0 x15_1).f3))) (ds := []) #[false, false, false, false, false, false, false, false, false, false, false, false, false, false, false, false, false, false, false, false, false, false, false, false, false, false, false, false] (by kernel_rfl) rfl rfl ⟨kc0 BK290.out, kc1 BK290.out, kc2 BK290.out, kc3 BK290.out⟩ (fun hHeld => ?_); refine with_tabW incunableref04_Bits.tab6 incunableref04_Bits.bits6 (fun HT_ HW_ => ?_)
       generalize w47.drew = w48 at BK288 BK290 HB hHeld ⊢
       refine tk 0 26 (bv 28 1) HT_ HW_ hHeld rfl rfl (by rintro w' ⟨s0, s1, s2, s3⟩; exact yl) ?_
       refine one_ (i := 1) (N := some 27) (bv 28 3) rfl rfl (one_of HT_.out (by kernel_rfl)) (by decide) (fun K hK => ?_)
       refine gK Tryd.func61 rfl #[.agg #[.int .i64 ((rd_T87 l0 x15_1).f0), .int .i64 ((rd_T87 l0 x15_1).f1), .int .i64 ((rd_T87 l0 x15_1).f2), .int .i64 ((rd_T87 l0 x15_1).f3)]] rfl rfl ?_
       with_reducible refine (incunableref04_used.calls ((rd_T87 l0 x15_1).f0) ((rd_T87 l0 x15_1).f1) ((rd_T87 l0 x15_1).f2) ((rd_T87 l0 x15_1).f3) false _ A8.out).mono ?_
       rintro e w49 ⟨rfl, hb⟩
       refine ⟨_, rfl, ?_⟩
       have n_ := aC (blk_below (bU BK288.out) hb) (aC (blk_below (g := gb290) (o := .cells #[.int .i64 ((rd_T87 l0 x15_1).f0), .int .i64 ((rd_T87 l0 x15_1).f1), .int .i64 ((rd_T87 l0 x15_1).f2), .int .i64 ((rd_T87 l0 x15_1).f3)] 87 (0, 0)) (bU BK290.out) hb) (aE (bs hb)))
       clear BK288 BK290 HB
       obtain ⟨BK288, BK290, HB⟩ := n_
       (try clear hb)
       (try clear hb2)
       (try clear hk)
       (try clear hi)
       refine hK.out _ _ ⟨kc0 BK290.out, kc1 BK290.out, kc2 BK290.out, kc3 BK290.out⟩ (fun hHeld => ?_)
       clear hK K
       refine nm (some 27) ?_
       refine pu 2 28 (bv 28 7) HT_ rfl rfl ?_
       refine pn 3 29 (bv 28 15) HT_ rfl rfl ?_
       refine pu 4 30 (bv 28 31) HT_ rfl rfl ?_
       refine pu 5 31 (bv 28 63) HT_ rfl rfl ?_
       refine pn 6 32 (bv 28 127) HT_ rfl rfl ?_
       refine pn 7 33 (bv 28 255) HT_ rfl rfl ?_
       refine pn 8 34 (bv 28 511) HT_ rfl rfl ?_
       refine pn 9 35 (bv 28 1023) HT_ rfl rfl ?_
       refine pn 10 36 (bv 28 2047) HT_ rfl rfl ?_
       refine pn 11 37 (bv 28 4095) HT_ rfl rfl ?_
       refine pn 12 38 (bv 28 8191) HT_ rfl rfl ?_
       refine pn 13 39 (bv 28 16383) HT_ rfl rfl ?_
       refine pn 14 40 (bv 28 32767) HT_ rfl rfl ?_
       refine pn 15 41 (bv 28 65535) HT_ rfl rfl ?_
       refine pn 16 42 (bv 28 131071) HT_ rfl rfl ?_
       refine pn 17 43 (bv 28 262143) HT_ rfl rfl ?_
       refine pn 18 44 (bv 28 524287) HT_ rfl rfl ?_
       refine pn 19 45 (bv 28 1048575) HT_ rfl rfl ?_
       refine pn 20 46 (bv 28 2097151) HT_ rfl rfl ?_
       refine pn 21 47 (bv 28 4194303) HT_ rfl rfl ?_
       refine pn 22 48 (bv 28 8388607) HT_ rfl rfl ?_
       refine pn 23 49 (bv 28 16777215) HT_ rfl rfl ?_
       refine pn 24 50 (bv 28 33554431) HT_ rfl rfl ?_
       refine pn 25 51 (bv 28 67108863) HT_ rfl rfl ?_
       refine pn 26 52 (bv 28 134217727) HT_ rfl rfl ?_
       refine pu 27 53 (bv 28 268435455) HT_ rfl rfl ?_
       refine done_ (done_of HT_.out (by kernel_rfl)) ?_
       try go_wp2
       go_roundg k1
       case measure => have := HK1.out; omega
       case rel => exact ⟨(x6_1), (wrap64 (x15_1 + 1)), rq, rq, H', ⟨by have := HK1.out; omega⟩, ⟨bU BK288.out⟩, ⟨bl⟩⟩
     ·rw [if_neg c6] at H
      exact absurd H (by simp)
    ·rw [if_neg c5] at H
     exact absurd H (by simp)
   ·rw [if_neg c4] at H
    have c4b0 := decide_eq_false c4
    clear c4
    by_cases c50 : x6_1 < 0
    ·rw [if_pos c50] at H
     have c50b0 := decide_eq_true c50
     clear c50
     simp only [Option.some.injEq, Prod.mk.injEq] at H
     obtain ⟨rfl, rfl⟩ := H
     go_wp2
     go_ret2
     exact ⟨_, re, by first | exact Kd.R_nil _ _ _ _ _ | exact Kd.N_nil _ _ _ _ _ | exact Kd.V_nil _ _ _ _ _ | exact Kd.Q_nil _ _ _ _ _ | exact Kd.S_nil _ _ _ _ _, bl⟩
    ·rw [if_neg c50] at H
     have c50b0 := decide_eq_false c50
     clear c50
     by_cases c51 : 0 ≤ x6_1
     ·rw [if_pos c51] at H
      have c51b0 := decide_eq_true c51
      clear c51
      by_cases c52 : x6_1 < (l0.length : Int)
      ·rw [if_pos c52] at H
       have c52b0 := decide_eq_true c52
       clear c52
       replace H := Option.bind_eq_some_iff.mp H
       obtain ⟨⟨t297, t298⟩, A530, H⟩ := H
       replace H : ((incunableref04_Code.f k1 l0 x6_1).bind fun t299 => ((incunableref04_digits.f k1 t297 ((rd_T87 l0 x6_1).f1)).bind fun t303 => (if t299.length + t303.length < 140737488355328 then (some ((t299 ++ t303), true)) else (none)))) = some (r1, r2) := H
       have A53 := Aside0.mk A530
       clear A530
       replace H := Option.bind_eq_some_iff.mp H
       obtain ⟨t299, A540, H⟩ := H
       replace H : ((incunableref04_digits.f k1 t297 ((rd_T87 l0 x6_1).f1)).bind fun t303 => (if t299.length + t303.length < 140737488355328 then (some ((t299 ++ t303), true)) else (none))) = some (r1, r2) := H
       have A54 := Aside0.mk A540
       clear A540
       replace H := Option.bind_eq_some_iff.mp H
       obtain ⟨t303, A550, H⟩ := H
       replace H : (if t299.length + t303.length < 140737488355328 then (some ((t299 ++ t303), true)) else (none)) = some (r1, r2) := H
       have A55 := Aside0.mk A550
       clear A550
       by_cases c56 : t299.length + t303.length < 140737488355328
       ·rw [if_pos c56] at H
        have LMc56 := Aside0.mk c56
        clear c56
        obtain ⟨y306, hy_⟩ : ∃ y_ : List Int, y_ = (t299 ++ t303) := ⟨_, rfl⟩
        replace H : (some (y306, true)) = some (r1, r2) := rh
        have Ny306 := aE hy_
        clear hy_
        simp only [Option.some.injEq, Prod.mk.injEq] at H
        obtain ⟨rfl, rfl⟩ := H
        try go_wp2
        have n_ := aC (blk_drew BK288.out) (aE (below_drew1 HB.out))
        clear BK288 HB
        obtain ⟨BK288, HB⟩ := n_
        have p296 : 0 ≤ (x6_1 : Int) := dt
        have q296 : x6_1 < (l0.length : Int) := dt
        obtain ⟨ad296, e296, hx296_0, hx296_1, hx296_2, hx296_3⟩ := at_T87 HR0.out x6_1 p296 q296
        have hw296_3 := hx296_3
        have hw296_2 := hx296_2
        have hw296_1 := hx296_1
        have hw296_0 := hx296_0
        cases e296
        replace hx296_0 := hcB HB.out hx296_0
        replace hx296_1 := hcB HB.out hx296_1
        replace hx296_2 := hcB HB.out hx296_2
        replace hx296_3 := hcB HB.out hx296_3
        replace p296 := eq_true p296
        replace q296 := eq_true q296
        refine start_ (n := 11) (S := fun w' => w'.cell? ⟨gb288, 0, none⟩ = some (.bool a1_0) ∧ w'.cell? ⟨gb288, 1, none⟩ = some (.int .i64 a1_1) ∧ w'.cell? (ad296.add ((x6_1).toNat * 4)) = some (.int .i64 ((rd_T87 l0 x6_1).f0)) ∧ w'.cell? ⟨(ad296.add ((x6_1).toNat * 4)).block, (ad296.add ((x6_1).toNat * 4)).off + 1, none⟩ = some (.int .i64 ((rd_T87 l0 x6_1).f1)) ∧ w'.cell? ⟨(ad296.add ((x6_1).toNat * 4)).block, (ad296.add ((x6_1).toNat * 4)).off + 2, none⟩ = some (.int .i64 ((rd_T87 l0 x6_1).f2)) ∧ w'.cell? ⟨(ad296.add ((x6_1).toNat * 4)).block, (ad296.add ((x6_1).toNat * 4)).off + 3, none⟩ = some (.int .i64 ((rd_T87 l0 x6_1).f3))) (ds := []) #[false, false, false, false, false, false, false, false, false, false, false] (by kernel_rfl) rfl rfl ⟨kc0 BK288.out, kc1 BK288.out, (hcB HB.out hw296_0), (hcB HB.out hw296_1), (hcB HB.out hw296_2), (hcB HB.out hw296_3)⟩ (fun hHeld => ?_); refine with_tabW incunableref04_Bits.tab11 incunableref04_Bits.bits11 (fun HT_ HW_ => ?_)
        generalize wr.drew = w57 at BK288 HB hx296_0 hx296_1 hx296_2 hx296_3 hHeld ⊢
        refine pu 0 59 (bv 11 1) HT_ rfl rfl ?_
        refine pu 1 60 (bv 11 3) HT_ rfl rfl ?_
        refine pu 2 61 (bv 11 7) HT_ rfl rfl ?_
        refine tk 3 62 (bv 11 15) HT_ HW_ hHeld rfl rfl (by rintro w' ⟨s0, s1, s2, s3, s4, s5⟩; exact yl) ?_
        refine tk 4 63 (bv 11 31) HT_ HW_ hHeld rfl rfl (by rintro w' ⟨s0, s1, s2, s3, s4, s5⟩; exact yl) ?_
        refine one_ (i := 5) (N := some 64) (bv 11 63) rfl rfl (one_of HT_.out (by kernel_rfl)) (by decide) (fun K hK => ?_)
        refine gK Tryd.func60 rfl #[.agg #[.int .i64 ((rd_T87 l0 x6_1).f0), .int .i64 ((rd_T87 l0 x6_1).f1), .int .i64 ((rd_T87 l0 x6_1).f2), .int .i64 ((rd_T87 l0 x6_1).f3)], .agg #[.bool a1_0, .int .i64 a1_1]] rfl rfl ?_
        with_reducible refine (incunableref04_Place.calls k1 ((rd_T87 l0 x6_1).f0) ((rd_T87 l0 x6_1).f1) ((rd_T87 l0 x6_1).f2) ((rd_T87 l0 x6_1).f3) a1_0 a1_1 t297 t298 _ A53.out).mono ?_
        rintro e w58 ⟨rfl, hb⟩
        refine ⟨_, rfl, ?_⟩
        have n_ := aC (blk_below (bU BK288.out) hb) (aE (bs hb))
        clear BK288 HB
        obtain ⟨BK288, HB⟩ := n_
        (try clear hb)
        (try clear hb2)
        (try clear hk)
        (try clear hi)
        refine hK.out _ _ ⟨kc0 BK288.out, kc1 BK288.out, (hcB HB.out hw296_0), (hcB HB.out hw296_1), (hcB HB.out hw296_2), (hcB HB.out hw296_3)⟩ (fun hHeld => ?_)
        clear hK K
        refine nm (some 64) ?_
        refine pu 6 58 (bv 11 127) HT_ rfl rfl ?_
        refine pu 7 65 (bv 11 255) HT_ rfl rfl ?_
        refine pu 8 66 (bv 11 511) HT_ rfl rfl ?_
        refine pu 9 11 (bv 11 1023) HT_ rfl rfl ?_
        refine pu 10 12 (bv 11 2047) HT_ rfl rfl ?_
        refine done_ (done_of HT_.out (by kernel_rfl)) ?_
        try go_wp2
        have n_ := aC (blk_drew BK288.out) (aE (below_drew1 HB.out))
        clear BK288 HB
        obtain ⟨BK288, HB⟩ := n_
        have p302 : 0 ≤ (x6_1 : Int) := dt
        have q302 : x6_1 < (l0.length : Int) := dt
        obtain ⟨ad302, e302, hx302_0, hx302_1, hx302_2, hx302_3⟩ := at_T87 HR0.out x6_1 p302 q302
        have hw302_3 := hx302_3
        have hw302_2 := hx302_2
        have hw302_1 := hx302_1
        have hw302_0 := hx302_0
        obtain rfl : ad296 = ad302 := (by injection e302)
        replace hx302_0 := hcB HB.out hx302_0
        replace hx302_1 := hcB HB.out hx302_1
        replace hx302_2 := hcB HB.out hx302_2
        replace hx302_3 := hcB HB.out hx302_3
        replace p302 := eq_true p302
        replace q302 := eq_true q302
        refine start_ (n := 13) (S := fun w' => w'.cell? (ad296.add ((x6_1).toNat * 4)) = some (.int .i64 ((rd_T87 l0 x6_1).f0)) ∧ w'.cell? ⟨(ad296.add ((x6_1).toNat * 4)).block, (ad296.add ((x6_1).toNat * 4)).off + 1, none⟩ = some (.int .i64 ((rd_T87 l0 x6_1).f1)) ∧ w'.cell? ⟨(ad296.add ((x6_1).toNat * 4)).block, (ad296.add ((x6_1).toNat * 4)).off + 2, none⟩ = some (.int .i64 ((rd_T87 l0 x6_1).f2)) ∧ w'.cell? ⟨(ad296.add ((x6_1).toNat * 4)).block, (ad296.add ((x6_1).toNat * 4)).off + 3, none⟩ = some (.int .i64 ((rd_T87 l0 x6_1).f3))) (ds := []) #[false, false, false, false, false, false, false, false, false, false, false, false, false] (by kernel_rfl) rfl rfl ⟨(hcB HB.out hw302_0), (hcB HB.out hw302_1), (hcB HB.out hw302_2), (hcB HB.out hw302_3)⟩ (fun hHeld => ?_); refine with_tabW incunableref04_Bits.tab12 incunableref04_Bits.bits12 (fun HT_ HW_ => ?_)
        generalize w58.drew = w59 at BK288 HB hx302_0 hx302_1 hx302_2 hx302_3 hHeld ⊢
        refine pu 0 67 (bv 13 1) HT_ rfl rfl ?_
        refine pu 1 68 (bv 13 3) HT_ rfl rfl ?_
        refine pu 3 70 (bv 13 11) HT_ rfl rfl ?_
        refine pu 4 71 (bv 13 27) HT_ rfl rfl ?_
        refine pu 5 72 (bv 13 59) HT_ rfl rfl ?_
        refine pu 6 73 (bv 13 123) HT_ rfl rfl ?_
        refine pu 7 74 (bv 13 251) HT_ rfl rfl ?_
        refine tk 8 75 (bv 13 507) HT_ HW_ hHeld rfl rfl (by rintro w' ⟨s0, s1, s2, s3⟩; exact yl) ?_
        refine one_ (i := 2) (N := some 69) (bv 13 511) rfl rfl (one_of HT_.out (by kernel_rfl)) (by decide) (fun K hK => ?_)
        refine gK Tryd.func62 rfl #[.slice (some ad296) l0.length c0, .int .i64 x6_1] rfl rfl ?_
        with_reducible refine (incunableref04_Code.calls k1 _ _ l0 x6_1 t299 _ ?side1 ?side2 A54.out).mono ?_
        (case side1 => exact cU (Kd.C_below HR0.out HB.out))
        (case side2 => exact HC0.out)
        rintro e w60 ⟨v300, rfl, ho0, hb⟩
        refine ⟨_, rfl, ?_⟩
        have n_ := aC (Kd.R_lower ho0 bz) (aC (blk_below (bU BK288.out) hb) (aE (bs hb)))
        clear BK288 HB
        obtain ⟨HO301, BK288, HB⟩ := n_
        (try clear hb)
        (try clear hb2)
        (try clear hk)
        (try clear hi)
        (try clear ho0)
        refine hK.out _ _ ⟨(hcB HB.out hw302_0), (hcB HB.out hw302_1), (hcB HB.out hw302_2), (hcB HB.out hw302_3)⟩ (fun hHeld => ?_)
        clear hK K
        refine nm (some 69) ?_
        refine one_ (i := 9) (N := some 76) (bv 13 1023) rfl rfl (one_of HT_.out (by kernel_rfl)) (by decide) (fun K hK => ?_)
        refine gK Tryd.func63 rfl #[.int .i64 t297, .int .i64 ((rd_T87 l0 x6_1).f1)] rfl rfl ?_
        with_reducible refine (incunableref04_digits.calls k1 t297 ((rd_T87 l0 x6_1).f1) t303 _ A55.out).mono ?_
        rintro e w61 ⟨v304, rfl, ho0, hb⟩
        refine ⟨_, rfl, ?_⟩
        have n_ := aC (Kd.R_elder' (rU HO301.out) (Kd.R_base ho0) hb) (aC (Kd.R_lower (Kd.R_new' ho0 (Kd.R_lt (rU HO301.out))) bz) (aC (blk_below (bU BK288.out) hb) (aE (bs hb))))
        clear HO301 BK288 HB
        obtain ⟨HO301, HO305, BK288, HB⟩ := n_
        (try clear hb)
        (try clear hb2)
        (try clear hk)
        (try clear hi)
        (try clear ho0)
        obtain ⟨Ao63, co63, eo63⟩ := Kd.R_slice HO305.out
        (first | subst eo63 | (injection eo63 with f1_ f2_ f3_; have f4_ := f1_.symm; have f5_ := f3_.symm; clear f1_ f2_ f3_; subst f4_; subst f5_))
        refine hK.out _ _ ⟨(hcB HB.out hw302_0), (hcB HB.out hw302_1), (hcB HB.out hw302_2), (hcB HB.out hw302_3)⟩ (fun hHeld => ?_)
        clear hK K
        refine nm (some 76) ?_
        refine one_ (i := 10) (N := some 77) (bv 13 2047) rfl rfl (one_of HT_.out (by kernel_rfl)) (by decide) (fun K hK => ?_)
        refine Kd.R_append_rows_step (Kd.int .u8) (w0 := w) w.heap.size (by rfl) (.tmp 69) (.tmp 76) 22 5 (.int .u8 0) 1 rfl Tryd.underlying22 info5 rfl (by decide) (by omega) v300 t299 t303 _ _ _ (fun k_ => some k_ ≠ (.slice Ao63 t303.length co63 : Value).ownBlock) (fun _ => False) rfl rfl ?aO ?aR (fun _ _ h => h) (fun _ h => h.elim) ?aF ?aB ?aS ?aL ?_
        (case aR => repeat (first | exact (Kd.R_reads' HO305.out).2.2 | (with_reducible refine Kd.C_alloc ?_ _) | (with_reducible refine Kd.C_drewN ?_ _) | (with_reducible refine Kd.C_drew ?_)))
        (case aB => exact bl)
        (case aF => exact (fun k_ hk => Kd.fresh' (Kd.R_lt (rU HO305.out)) k_ hk))
        (case aO => exact (rU (Kd.R_mono HO301.out (fun _ hk => hk.2))))
        (case aS => exact bz)
        (case aL => have := LMc56.out; omega)
        intro v307 w62 ho hb hg hat
        rw [← Ny306.out] at ho
        have n_ := aC (blk_grown (bU BK288.out) hg (Kd.R_ne HO301.out BK288.out (by decide))) (aC (Kd.R_after (ok := (fun _ => True)) (rU HO305.out) hg hat) (aC hb (aE ho)))
        clear BK288 HO305 HB HO301
        obtain ⟨BK288, HO305, HB, HO308⟩ := n_
        clear ho hb hg hat
        refine hK.out _ _ ⟨(hcB HB.out hw302_0), (hcB HB.out hw302_1), (hcB HB.out hw302_2), (hcB HB.out hw302_3)⟩ (fun hHeld => ?_)
        clear hK K
        refine nm (some 77) ?_
        refine pu 11 4 (bv 13 4095) HT_ rfl rfl ?_
        refine pu 12 5 (bv 13 8191) HT_ rfl rfl ?_
        refine done_ (done_of HT_.out (by kernel_rfl)) ?_
        try go_wp2
        go_ret2
        exact ⟨_, re, rU (Kd.R_mono HO308.out (fun _ hk => trivial)), bl⟩
       ·rw [if_neg c56] at H
        exact absurd H (by simp)
      ·rw [if_neg c52] at H
       exact absurd H (by simp)
     ·rw [if_neg c51] at H
      exact absurd H (by simp)

end Go.Proofs.YtknclbodinfbeaaDoor.PRunsModes
