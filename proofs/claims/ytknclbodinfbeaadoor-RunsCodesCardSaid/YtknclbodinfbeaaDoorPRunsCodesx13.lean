-- Written by a program of this session (wip/tools/myprint.py) over the kit's print. Not trusted: Lean checks it.
import Derived.Test.YtknclbodinfbeaaDoorPRunsCodesx0
import Derived.Test.YtknclbodinfbeaaDoorPRunsCodesx11
import Derived.Test.YtknclbodinfbeaaDoorPRunsCodesx12
namespace Go.Proofs.YtknclbodinfbeaaDoor.PRunsCodes
open Go.RowKit Go.Proofs.YtknclbodinfbeaaDoorW.PrintWords Go.Proofs.YtknclbodinfbeaaDoorW.PrintLast Go.Proofs.YtknclbodinfbeaaDoorW.PrintMore
attribute [local go_sem] max2_int min2_int max_two min_two max_three min_three max_four min_four   -- for this text's walks alone
set_option linter.unusedVariables false
set_option linter.unusedSimpArgs false

/-! ### incunableref04_Bits: function 37 -/
def incunableref04_Bits.l0 : Nat → List (S87) → Int → List (S87) → Int → Int → Bool → Int → Option (List Int × Bool)
 | 0, _, _, _, _, _, _, _ => none
 | k + 1, x0, x6, x13, x14, x15, x400000, x400001 => if x15 < x14 then (if 0 ≤ x15 then (if x15 < (x13.length : Int) then ((incunableref04_Place.f k ((rd_T87 x13 x15).f0) ((rd_T87 x13 x15).f1) ((rd_T87 x13 x15).f2) ((rd_T87 x13 x15).f3) x400000 x400001).bind fun bt402 => ((incunableref04_used.f ((rd_T87 x13 x15).f0) ((rd_T87 x13 x15).f1) ((rd_T87 x13 x15).f2) ((rd_T87 x13 x15).f3)).bind fun t404 => (if t404 = true then (if bt402.2 = true then (if x6 < 0 then (incunableref04_Bits.l0 k x0 x15 x13 x14 (wrap64 (x15 + 1)) x400000 x400001) else (if 0 ≤ x6 then (if x6 < (x0.length : Int) then (if (wrap64 (((rd_T87 x13 x15).f0) + ((rd_T87 x13 x15).f1))) < (wrap64 (((rd_T87 x0 x6).f0) + ((rd_T87 x0 x6).f1))) then (incunableref04_Bits.l0 k x0 x15 x13 x14 (wrap64 (x15 + 1)) x400000 x400001) else (incunableref04_Bits.l0 k x0 x6 x13 x14 (wrap64 (x15 + 1)) x400000 x400001)) else (none)) else (none))) else (incunableref04_Bits.l0 k x0 x6 x13 x14 (wrap64 (x15 + 1)) x400000 x400001)) else (incunableref04_Bits.l0 k x0 x6 x13 x14 (wrap64 (x15 + 1)) x400000 x400001)))) else (none)) else (none)) else (if x6 < 0 then (some (([] : List Int), false)) else (if 0 ≤ x6 then (if x6 < (x0.length : Int) then ((incunableref04_Place.f k ((rd_T87 x0 x6).f0) ((rd_T87 x0 x6).f1) ((rd_T87 x0 x6).f2) ((rd_T87 x0 x6).f3) x400000 x400001).bind fun bt408 => ((incunableref04_Code.f k x0 x6).bind fun t410 => ((incunableref04_digits.f k bt408.1 ((rd_T87 x0 x6).f1)).bind fun t414 => (if t410.length + t414.length < 140737488355328 then (some ((t410 ++ t414), true)) else (none))))) else (none)) else (none)))
def incunableref04_Bits.f (k : Nat) (l0 : List (S87)) (a1_0 : Bool) (a1_1 : Int) : Option (List Int × Bool) := incunableref04_Bits.l0 k l0 (-1) l0 (l0.length : Int) 0 a1_0 a1_1
theorem incunableref04_Bits.mono_l : ∀ k, (∀ y0 y1 y2 y3 y4 y5 y6, LeO (incunableref04_Bits.l0 k y0 y1 y2 y3 y4 y5 y6) (incunableref04_Bits.l0 (k + 1) y0 y1 y2 y3 y4 y5 y6))
 | 0 => fun _ _ _ _ _ _ _ r h => by simp [incunableref04_Bits.l0] at h
 | k + 1 => by
  have ih0 := incunableref04_Bits.mono_l k
  ·intro y0 y1 y2 y3 y4 y5 y6
   unfold incunableref04_Bits.l0
   repeat' first
   | (with_reducible exact ih0 _ _ _ _ _ _ _)
   | (with_reducible exact incunableref04_Code.mono _ _ _)
   | (with_reducible exact incunableref04_Place.mono _ _ _ _ _ _ _)
   | (with_reducible exact incunableref04_digits.mono _ _ _)
   | (with_reducible first | exact LeO.refl _ | exact LeO.none _ | refine LeO.ite ?_ ?_ | refine LeO.bind ?_ (fun _ => ?_))
   | exact ih0 _ _ _ _ _ _ _
   | exact incunableref04_Code.mono _ _ _
   | exact incunableref04_Place.mono _ _ _ _ _ _ _
   | exact incunableref04_digits.mono _ _ _
   | exact LeO.none _ | refine LeO.ite ?_ ?_ | refine LeO.bind ?_ (fun _ => ?_)
theorem incunableref04_Bits.mono : ∀ a0 a1 a2 k, LeO (incunableref04_Bits.f k a0 a1 a2) (incunableref04_Bits.f (k + 1) a0 a1 a2) := by
 intro a0 a1 a2 k
 have ih0 := incunableref04_Bits.mono_l k
 unfold incunableref04_Bits.f
 repeat' first
   | (with_reducible exact ih0 _ _ _ _ _ _ _)
   | (with_reducible exact incunableref04_Code.mono _ _ _)
   | (with_reducible exact incunableref04_Place.mono _ _ _ _ _ _ _)
   | (with_reducible exact incunableref04_digits.mono _ _ _)
   | (with_reducible first | exact LeO.refl _ | exact LeO.none _ | refine LeO.ite ?_ ?_ | refine LeO.bind ?_ (fun _ => ?_))
   | exact ih0 _ _ _ _ _ _ _
   | exact incunableref04_Code.mono _ _ _
   | exact incunableref04_Place.mono _ _ _ _ _ _ _
   | exact incunableref04_digits.mono _ _ _
   | exact LeO.none _ | refine LeO.ite ?_ ?_ | refine LeO.bind ?_ (fun _ => ?_)
def incunableref04_Bits.T6 : Bool × List (List Nat × List Nat) := (true, [([], []), ([0], [0]), ([1, 1], [1]), ([2], [2]), ([2, 3], [2, 3]), ([4, 2], [4]), ([5], [5]), ([6, 5], [5, 6]), ([7, 5, 5], [5, 7]), ([8], [8]), ([9, 8], [8, 9]), ([8], [8]), ([11, 8], [8, 11]), ([10, 12, 8], [8, 10, 12]), ([8], [8]), ([8], [8]), ([14, 15, 8], [8, 14, 15]), ([16, 8], [8, 16]), ([17, 8], [8, 17]), ([8], [8]), ([8], [8]), ([19, 20, 8], [8, 19, 20]), ([21, 8], [8, 21]), ([22, 8], [8, 22]), ([18, 23, 8], [8, 18, 23]), ([13, 24, 8], [8, 13, 24]), ([8, 25, 5], [5, 8, 25]), ([5, 26], [5, 26])])
def incunableref04_Bits.B6 : List Nat := [0, 1, 3, 7, 15, 31, 63, 127, 255, 511, 1023, 511, 2559, 8191, 511, 511, 49663, 115199, 246271, 511, 511, 1573375, 3670527, 7864831, 16761343, 33554431, 67108863, 134217727]
theorem incunableref04_Bits.tab6 : rtab .any (opsOf Tryd.f37 6) = incunableref04_Bits.T6 := by kernel_rfl
theorem incunableref04_Bits.bits6 : waitsOk incunableref04_Bits.T6.2 incunableref04_Bits.B6 = true := by kernel_rfl
def incunableref04_Bits.T11 : Bool × List (List Nat × List Nat) := (true, [([], []), ([], []), ([0, 1], [0, 1]), ([2], [2]), ([], []), ([3, 4], [3, 4]), ([5], [5]), ([6], [6]), ([6], [6]), ([7, 5, 0, 1, 2, 3, 4, 5, 6, 7], [7]), ([8, 9, 0, 1, 2, 3, 4, 5, 6, 7, 8, 9], [8])])
def incunableref04_Bits.B11 : List Nat := [0, 0, 3, 7, 0, 31, 63, 127, 127, 255, 1023]
theorem incunableref04_Bits.tab11 : rtab .any (opsOf Tryd.f37 11) = incunableref04_Bits.T11 := by kernel_rfl
theorem incunableref04_Bits.bits11 : waitsOk incunableref04_Bits.T11.2 incunableref04_Bits.B11 = true := by kernel_rfl
def incunableref04_Bits.T12 : Bool × List (List Nat × List Nat) := (true, [([], []), ([], []), ([0, 1], [0, 1]), ([], []), ([], []), ([], []), ([4, 5], [4, 5]), ([6], [6]), ([7], [7]), ([3, 8, 2], [3, 8]), ([2, 9, 9], [2, 9]), ([10, 10, 0, 1, 2, 3, 4, 5, 6, 7, 8, 9, 10], [10]), ([11, 0, 1, 2, 3, 4, 5, 6, 7, 8, 9, 10, 11], [])])
def incunableref04_Bits.B12 : List Nat := [0, 0, 3, 0, 0, 0, 48, 112, 240, 511, 1023, 2047, 4095]
theorem incunableref04_Bits.tab12 : rtab .any (opsOf Tryd.f37 12) = incunableref04_Bits.T12 := by kernel_rfl
theorem incunableref04_Bits.bits12 : waitsOk incunableref04_Bits.T12.2 incunableref04_Bits.B12 = true := by kernel_rfl
set_option maxHeartbeats 8000000 in
set_option maxRecDepth 100000 in
theorem incunableref04_Bits.calls (k : Nat) (A0 : Option Addr) (c0 : Nat) (l0 : List (S87)) (a1_0 : Bool) (a1_1 : Int) (r1 : List Int) (r2 : Bool) (w : World) (hr0 : Kd.C k87 w A0 l0.length l0) (hc0 : l0.length ≤ c0) (h : incunableref04_Bits.f k l0 a1_0 a1_1 = some (r1, r2)) :
  Calls Tryd.prog 37 #[.slice A0 l0.length c0, .agg #[.bool a1_0, .int .i64 a1_1]] w fun e w' => ∃ v0_ : Value, e = .returned (.tuple #[v0_, .bool r2]) ∧ Kd.R (Kd.int .u8) 5 w' w.heap.size (fun _ => True) v0_ r1 ∧ Below w.heap.size w w' := by
 have hu64 := Tryd.underlying64
 have hu87 := Tryd.underlying87
 have HR0 := Aside0.mk hr0
 have HC0 := Aside0.mk hc0
 clear hr0 hc0
 have HB := Aside0.mk (Below.refl w.heap.size w)
 have H : (incunableref04_Bits.l0 k l0 (-1) l0 (l0.length : Int) 0 a1_0 a1_1) = some (r1, r2) := h
 clear h
 have H' := Aside0.mk H
 clear H
 go_enter Tryd.func37, Tryd.ntmps37
 go_wp2_with (first | ((with_reducible refine gd 3 rfl ?_); refine bx 3 #[.bool a1_0, .int .i64 a1_1] 64 rfl rfl ?_; intro gb399 hg w3 hbox hb; have n_ := aC (bs hb) (aC hbox (aC (gz hg) (aE (gz hg)))); clear HB; obtain ⟨HB, BK399, GW399, GE399⟩ := n_; clear hb hbox hg))
 go_loopg [6, 15] k (fun kq v6 v15 w' => ∃ (x6_1 : Int) (x15_1 : Int), v6 = .int .i64 x6_1 ∧ v15 = .int .i64 x15_1 ∧ Aside0 (incunableref04_Bits.l0 kq l0 x6_1 l0 (l0.length : Int) x15_1 a1_0 a1_1 = some (r1, r2)) ∧ Aside0 (kq ≤ k) ∧ Aside0 (w'.heap[gb399]? = some (.cells #[.bool a1_0, .int .i64 a1_1] 64 (0, 0))) ∧ Aside0 (Below w.heap.size w w'))
 case atStart => exact ⟨((-1)), (0), rq, rq, H', ⟨Nat.le_refl _⟩, ⟨bU BK399.out⟩, ⟨bl⟩⟩
 case round =>
  clear H'
  obtain ⟨x6_1, x15_1, rfl, rfl, HA, HK1, BK399, HB⟩ := hrel
  cases gk with
  | zero => exact absurd HA.out (by simp [incunableref04_Bits.l0])
  | succ k1 =>
   have H := HA.out
   clear HA
   simp only [incunableref04_Bits.l0] at H
   by_cases c4 : x15_1 < (l0.length : Int)
   ·rw [if_pos c4] at H
    have c4b0 := decide_eq_true c4
    clear c4
    by_cases c5 : 0 ≤ x15_1
    ·rw [if_pos c5] at H
     have c5b0 := decide_eq_true c5
     clear c5
     by_cases c6 : x15_1 < (l0.length : Int)
     ·rw [if_pos c6] at H
      have c6b0 := decide_eq_true c6
      clear c6
      replace H := Option.bind_eq_some_iff.mp H
      obtain ⟨⟨t402, t403⟩, A70, H⟩ := H
      replace H : ((incunableref04_used.f ((rd_T87 l0 x15_1).f0) ((rd_T87 l0 x15_1).f1) ((rd_T87 l0 x15_1).f2) ((rd_T87 l0 x15_1).f3)).bind fun t404 => (if t404 = true then (if t403 = true then (if x6_1 < 0 then (incunableref04_Bits.l0 k1 l0 x15_1 l0 (l0.length : Int) (wrap64 (x15_1 + 1)) a1_0 a1_1) else (if 0 ≤ x6_1 then (if x6_1 < (l0.length : Int) then (if (wrap64 (((rd_T87 l0 x15_1).f0) + ((rd_T87 l0 x15_1).f1))) < (wrap64 (((rd_T87 l0 x6_1).f0) + ((rd_T87 l0 x6_1).f1))) then (incunableref04_Bits.l0 k1 l0 x15_1 l0 (l0.length : Int) (wrap64 (x15_1 + 1)) a1_0 a1_1) else (incunableref04_Bits.l0 k1 l0 x6_1 l0 (l0.length : Int) (wrap64 (x15_1 + 1)) a1_0 a1_1)) else (none)) else (none))) else (incunableref04_Bits.l0 k1 l0 x6_1 l0 (l0.length : Int) (wrap64 (x15_1 + 1)) a1_0 a1_1)) else (incunableref04_Bits.l0 k1 l0 x6_1 l0 (l0.length : Int) (wrap64 (x15_1 + 1)) a1_0 a1_1))) = some (r1, r2) := H
      have A7 := Aside0.mk A70
      clear A70
      replace H := Option.bind_eq_some_iff.mp H
      obtain ⟨t404, A80, H⟩ := H
      replace H : (if t404 = true then (if t403 = true then (if x6_1 < 0 then (incunableref04_Bits.l0 k1 l0 x15_1 l0 (l0.length : Int) (wrap64 (x15_1 + 1)) a1_0 a1_1) else (if 0 ≤ x6_1 then (if x6_1 < (l0.length : Int) then (if (wrap64 (((rd_T87 l0 x15_1).f0) + ((rd_T87 l0 x15_1).f1))) < (wrap64 (((rd_T87 l0 x6_1).f0) + ((rd_T87 l0 x6_1).f1))) then (incunableref04_Bits.l0 k1 l0 x15_1 l0 (l0.length : Int) (wrap64 (x15_1 + 1)) a1_0 a1_1) else (incunableref04_Bits.l0 k1 l0 x6_1 l0 (l0.length : Int) (wrap64 (x15_1 + 1)) a1_0 a1_1)) else (none)) else (none))) else (incunableref04_Bits.l0 k1 l0 x6_1 l0 (l0.length : Int) (wrap64 (x15_1 + 1)) a1_0 a1_1)) else (incunableref04_Bits.l0 k1 l0 x6_1 l0 (l0.length : Int) (wrap64 (x15_1 + 1)) a1_0 a1_1)) = some (r1, r2) := H
      have A8 := Aside0.mk A80
      clear A80
      by_cases c9 : t404 = true
      ·subst c9
       have H1 : (if t403 = true then (if x6_1 < 0 then (incunableref04_Bits.l0 k1 l0 x15_1 l0 (l0.length : Int) (wrap64 (x15_1 + 1)) a1_0 a1_1) else (if 0 ≤ x6_1 then (if x6_1 < (l0.length : Int) then (if (wrap64 (((rd_T87 l0 x15_1).f0) + ((rd_T87 l0 x15_1).f1))) < (wrap64 (((rd_T87 l0 x6_1).f0) + ((rd_T87 l0 x6_1).f1))) then (incunableref04_Bits.l0 k1 l0 x15_1 l0 (l0.length : Int) (wrap64 (x15_1 + 1)) a1_0 a1_1) else (incunableref04_Bits.l0 k1 l0 x6_1 l0 (l0.length : Int) (wrap64 (x15_1 + 1)) a1_0 a1_1)) else (none)) else (none))) else (incunableref04_Bits.l0 k1 l0 x6_1 l0 (l0.length : Int) (wrap64 (x15_1 + 1)) a1_0 a1_1)) = some (r1, r2) := by rw [if_pos rfl] at H; exact H
       clear H
       have H := H1
       clear H1
       by_cases c10 : t403 = true
       ·subst c10
        have H1 : (if x6_1 < 0 then (incunableref04_Bits.l0 k1 l0 x15_1 l0 (l0.length : Int) (wrap64 (x15_1 + 1)) a1_0 a1_1) else (if 0 ≤ x6_1 then (if x6_1 < (l0.length : Int) then (if (wrap64 (((rd_T87 l0 x15_1).f0) + ((rd_T87 l0 x15_1).f1))) < (wrap64 (((rd_T87 l0 x6_1).f0) + ((rd_T87 l0 x6_1).f1))) then (incunableref04_Bits.l0 k1 l0 x15_1 l0 (l0.length : Int) (wrap64 (x15_1 + 1)) a1_0 a1_1) else (incunableref04_Bits.l0 k1 l0 x6_1 l0 (l0.length : Int) (wrap64 (x15_1 + 1)) a1_0 a1_1)) else (none)) else (none))) = some (r1, r2) := by rw [if_pos rfl] at H; exact H
        clear H
        have H := H1
        clear H1
        by_cases c11 : x6_1 < 0
        ·rw [if_pos c11] at H
         have c11b0 := decide_eq_true c11
         clear c11
         have H' := Aside0.mk H
         clear H
         have p400 : 0 ≤ (x15_1 : Int) := dt
         have q400 : x15_1 < (l0.length : Int) := dt
         obtain ⟨ad400, e400, hx400_0, hx400_1, hx400_2, hx400_3⟩ := at_T87 HR0.out x15_1 p400 q400
         cases e400
         replace hx400_0 := hcB HB.out hx400_0
         replace hx400_1 := hcB HB.out hx400_1
         replace hx400_2 := hcB HB.out hx400_2
         replace hx400_3 := hcB HB.out hx400_3
         replace p400 := eq_true p400
         replace q400 := eq_true q400
         try go_wp2_with (first | ((with_reducible refine gd 8 rfl ?_); refine bx 8 #[.int .i64 0, .int .i64 0, .int .i64 0, .int .i64 0] 87 rfl rfl ?_; intro gb401 hg w12 hbox hb; have n_ := aC (blk_below (bU BK399.out) hb) (aC (bs hb) (aC hbox (aC (gz hg) (aC (gz hg) (aC (gn hg (bU BK399.out)) (aE (gm hg (bU BK399.out)))))))); clear BK399 HB; obtain ⟨BK399, HB, BK401, GW401, GE401, NB399_401, NB401_399⟩ := n_; clear hb hbox hg; have hnb13 := NB401_399.out; have hnc13 := NB399_401.out; obtain ⟨hcz14_0, hcz14_1, hcz14_2, hcz14_3, hfz14_0, hfz14_1, hfz14_2, hfz14_3⟩ := cz4f BK401.out; obtain ⟨hcz15_0, hcz15_1, hfz15_0, hfz15_1⟩ := cz2f BK399.out) | ((with_reducible refine gf 60 rfl ?_); refine gL (some 23) rfl rfl Tryd.func60 rfl #[.agg #[.int .i64 ((rd_T87 l0 x15_1).f0), .int .i64 ((rd_T87 l0 x15_1).f1), .int .i64 ((rd_T87 l0 x15_1).f2), .int .i64 ((rd_T87 l0 x15_1).f3)], .agg #[.bool a1_0, .int .i64 a1_1]] rfl ?_; (with_reducible refine (incunableref04_Place.calls k1 ((rd_T87 l0 x15_1).f0) ((rd_T87 l0 x15_1).f1) ((rd_T87 l0 x15_1).f2) ((rd_T87 l0 x15_1).f3) a1_0 a1_1 t402 true _ A7.out).mono ?_); rintro e w16 ⟨rfl, hb⟩; refine ⟨_, rfl, ?_⟩; have n_ := aC (blk_below (g := gb399) (o := .cells #[.bool a1_0, .int .i64 a1_1] 64 (0, 0)) (by (with_reducible repeat (first | refine blk_drewN ?_ _ | refine blk_drew ?_ | refine blk_alloc ?_ _)); refine blk_far ?_ NB399_401.out _; (with_reducible repeat (first | refine blk_drewN ?_ _ | refine blk_drew ?_ | refine blk_alloc ?_ _)); refine blk_far ?_ NB399_401.out _; (with_reducible repeat (first | refine blk_drewN ?_ _ | refine blk_drew ?_ | refine blk_alloc ?_ _)); refine blk_far ?_ NB399_401.out _; (with_reducible repeat (first | refine blk_drewN ?_ _ | refine blk_drew ?_ | refine blk_alloc ?_ _)); refine blk_far ?_ NB399_401.out _; (with_reducible repeat (first | refine blk_drewN ?_ _ | refine blk_drew ?_ | refine blk_alloc ?_ _)); exact BK399.out) hb) (aC (blk_below (g := gb401) (o := .cells #[.int .i64 ((rd_T87 l0 x15_1).f0), .int .i64 ((rd_T87 l0 x15_1).f1), .int .i64 ((rd_T87 l0 x15_1).f2), .int .i64 ((rd_T87 l0 x15_1).f3)] 87 (0, 0)) (by (with_reducible repeat (first | refine blk_drewN ?_ _ | refine blk_drew ?_ | refine blk_alloc ?_ _)); refine blk_put (cs := #[.int .i64 ((rd_T87 l0 x15_1).f0), .int .i64 ((rd_T87 l0 x15_1).f1), .int .i64 ((rd_T87 l0 x15_1).f2), .int .i64 0]) ?_ 3 _ rfl; (with_reducible repeat (first | refine blk_drewN ?_ _ | refine blk_drew ?_ | refine blk_alloc ?_ _)); refine blk_put (cs := #[.int .i64 ((rd_T87 l0 x15_1).f0), .int .i64 ((rd_T87 l0 x15_1).f1), .int .i64 0, .int .i64 0]) ?_ 2 _ rfl; (with_reducible repeat (first | refine blk_drewN ?_ _ | refine blk_drew ?_ | refine blk_alloc ?_ _)); refine blk_put (cs := #[.int .i64 ((rd_T87 l0 x15_1).f0), .int .i64 0, .int .i64 0, .int .i64 0]) ?_ 1 _ rfl; (with_reducible repeat (first | refine blk_drewN ?_ _ | refine blk_drew ?_ | refine blk_alloc ?_ _)); refine blk_put (cs := #[.int .i64 0, .int .i64 0, .int .i64 0, .int .i64 0]) ?_ 0 _ rfl; (with_reducible repeat (first | refine blk_drewN ?_ _ | refine blk_drew ?_ | refine blk_alloc ?_ _)); exact BK401.out) hb) (aE (bs hb))); clear BK399 BK401 HB; obtain ⟨BK399, BK401, HB⟩ := n_; (try clear hb)))
         have n_ := aC (blk_drew BK399.out) (aC (blk_drew BK401.out) (aE (below_drew1 HB.out)))
         clear BK399 BK401 HB
         obtain ⟨BK399, BK401, HB⟩ := n_
         refine st 28 (fun w' => w'.cell? ⟨gb401, 0, none⟩ = some (.int .i64 ((rd_T87 l0 x15_1).f0)) ∧ w'.cell? ⟨gb401, 1, none⟩ = some (.int .i64 ((rd_T87 l0 x15_1).f1)) ∧ w'.cell? ⟨gb401, 2, none⟩ = some (.int .i64 ((rd_T87 l0 x15_1).f2)) ∧ w'.cell? ⟨gb401, 3, none⟩ = some (.int .i64 ((rd_T87 l0 x15_1).f3))) [] (bv 28 0) incunableref04_Bits.tab6 incunableref04_Bits.bits6 ⟨kc0 BK401.out, kc1 BK401.out, kc2 BK401.out, kc3 BK401.out⟩ (fun hHeld HT_ HW_ => ?_)
         generalize w16.drew = w17 at BK399 BK401 HB hHeld ⊢
         refine tk 0 26 (bv 28 1) HT_ HW_ hHeld rfl rfl (by rintro w' ⟨s0, s1, s2, s3⟩; exact yl) ?_
         refine one_ (i := 1) (N := some 27) (bv 28 3) rfl rfl (one_of HT_.out (by kernel_rfl)) (by decide) (fun K hK => ?_)
         refine gK Tryd.func61 rfl #[.agg #[.int .i64 ((rd_T87 l0 x15_1).f0), .int .i64 ((rd_T87 l0 x15_1).f1), .int .i64 ((rd_T87 l0 x15_1).f2), .int .i64 ((rd_T87 l0 x15_1).f3)]] rfl rfl ?_
         with_reducible refine (incunableref04_used.calls ((rd_T87 l0 x15_1).f0) ((rd_T87 l0 x15_1).f1) ((rd_T87 l0 x15_1).f2) ((rd_T87 l0 x15_1).f3) true _ A8.out).mono ?_
         rintro e w18 ⟨rfl, hb⟩
         refine ⟨_, rfl, ?_⟩
         have n_ := aC (blk_below (bU BK399.out) hb) (aC (blk_below (g := gb401) (o := .cells #[.int .i64 ((rd_T87 l0 x15_1).f0), .int .i64 ((rd_T87 l0 x15_1).f1), .int .i64 ((rd_T87 l0 x15_1).f2), .int .i64 ((rd_T87 l0 x15_1).f3)] 87 (0, 0)) (bU BK401.out) hb) (aE (bs hb)))
         clear BK399 BK401 HB
         obtain ⟨BK399, BK401, HB⟩ := n_
         (try clear hb)
         (try clear hb2)
         (try clear hk)
         (try clear hi)
         refine hK.out _ _ ⟨kc0 BK401.out, kc1 BK401.out, kc2 BK401.out, kc3 BK401.out⟩ (fun hHeld => ?_)
         clear hK K
         refine nm (some 27) ?_
         refine pu 2 28 (bv 28 7) HT_ rfl rfl ?_
         refine pu 3 29 (bv 28 15) HT_ rfl rfl ?_
         refine pu 4 30 (bv 28 31) HT_ rfl rfl ?_
         refine pu 5 31 (bv 28 63) HT_ rfl rfl ?_
         refine pu 6 32 (bv 28 127) HT_ rfl rfl ?_
         refine pu 7 33 (bv 28 255) HT_ rfl rfl ?_
         refine pu 8 34 (bv 28 511) HT_ rfl rfl ?_
         refine pn 9 35 (bv 28 1023) HT_ rfl rfl ?_
         refine pn 10 36 (bv 28 2047) HT_ rfl rfl ?_
         refine pn 11 37 (bv 28 4095) HT_ rfl rfl ?_
         refine pn 12 38 (bv 28 8191) HT_ rfl rfl ?_
         refine pn 13 39 (bv 28 16383) HT_ rfl rfl ?_
         refine pn 14 40 (bv 28 32767) HT_ rfl rfl ?_
         refine pn 15 41 (bv 28 65535) HT_ rfl rfl ?_
         refine pn 16 42 (bv 28 131071) HT_ rfl rfl ?_
         refine pn 17 43 (bv 28 262143) HT_ rfl rfl ?_
         refine pn 18 44 (bv 28 524287) HT_ rfl rfl ?_
         refine pn 19 45 (bv 28 1048575) HT_ rfl rfl ?_
         refine pn 20 46 (bv 28 2097151) HT_ rfl rfl ?_
         refine pn 21 47 (bv 28 4194303) HT_ rfl rfl ?_
         refine pn 22 48 (bv 28 8388607) HT_ rfl rfl ?_
         refine pn 23 49 (bv 28 16777215) HT_ rfl rfl ?_
         refine pn 24 50 (bv 28 33554431) HT_ rfl rfl ?_
         refine pn 25 51 (bv 28 67108863) HT_ rfl rfl ?_
         refine pu 26 52 (bv 28 134217727) HT_ rfl rfl ?_
         refine pu 27 53 (bv 28 268435455) HT_ rfl rfl ?_
         refine done_ (done_of HT_.out (by kernel_rfl)) ?_
         try go_wp2
         go_roundg k1
         case measure => have := HK1.out; omega
         case rel => exact ⟨(x15_1), (wrap64 (x15_1 + 1)), rq, rq, H', ⟨by have := HK1.out; omega⟩, ⟨bU BK399.out⟩, ⟨bl⟩⟩
        ·rw [if_neg c11] at H
         have c11b0 := decide_eq_false c11
         clear c11
         by_cases c19 : 0 ≤ x6_1
         ·rw [if_pos c19] at H
          have c19b0 := decide_eq_true c19
          clear c19
          by_cases c20 : x6_1 < (l0.length : Int)
          ·rw [if_pos c20] at H
           have c20b0 := decide_eq_true c20
           clear c20
           by_cases c21 : (wrap64 (((rd_T87 l0 x15_1).f0) + ((rd_T87 l0 x15_1).f1))) < (wrap64 (((rd_T87 l0 x6_1).f0) + ((rd_T87 l0 x6_1).f1)))
           ·rw [if_pos c21] at H
            have c21b0 := decide_eq_true c21
            clear c21
            have H' := Aside0.mk H
            clear H
            have p400 : 0 ≤ (x15_1 : Int) := dt
            have q400 : x15_1 < (l0.length : Int) := dt
            obtain ⟨ad400, e400, hx400_0, hx400_1, hx400_2, hx400_3⟩ := at_T87 HR0.out x15_1 p400 q400
            cases e400
            replace hx400_0 := hcB HB.out hx400_0
            replace hx400_1 := hcB HB.out hx400_1
            replace hx400_2 := hcB HB.out hx400_2
            replace hx400_3 := hcB HB.out hx400_3
            replace p400 := eq_true p400
            replace q400 := eq_true q400
            try go_wp2_with (first | ((with_reducible refine gd 8 rfl ?_); refine bx 8 #[.int .i64 0, .int .i64 0, .int .i64 0, .int .i64 0] 87 rfl rfl ?_; intro gb401 hg w22 hbox hb; have n_ := aC (blk_below (bU BK399.out) hb) (aC (bs hb) (aC hbox (aC (gz hg) (aC (gz hg) (aC (gn hg (bU BK399.out)) (aE (gm hg (bU BK399.out)))))))); clear BK399 HB; obtain ⟨BK399, HB, BK401, GW401, GE401, NB399_401, NB401_399⟩ := n_; clear hb hbox hg; have hnb23 := NB401_399.out; have hnc23 := NB399_401.out; obtain ⟨hcz24_0, hcz24_1, hcz24_2, hcz24_3, hfz24_0, hfz24_1, hfz24_2, hfz24_3⟩ := cz4f BK401.out; obtain ⟨hcz25_0, hcz25_1, hfz25_0, hfz25_1⟩ := cz2f BK399.out) | ((with_reducible refine gf 60 rfl ?_); refine gL (some 23) rfl rfl Tryd.func60 rfl #[.agg #[.int .i64 ((rd_T87 l0 x15_1).f0), .int .i64 ((rd_T87 l0 x15_1).f1), .int .i64 ((rd_T87 l0 x15_1).f2), .int .i64 ((rd_T87 l0 x15_1).f3)], .agg #[.bool a1_0, .int .i64 a1_1]] rfl ?_; (with_reducible refine (incunableref04_Place.calls k1 ((rd_T87 l0 x15_1).f0) ((rd_T87 l0 x15_1).f1) ((rd_T87 l0 x15_1).f2) ((rd_T87 l0 x15_1).f3) a1_0 a1_1 t402 true _ A7.out).mono ?_); rintro e w26 ⟨rfl, hb⟩; refine ⟨_, rfl, ?_⟩; have n_ := aC (blk_below (g := gb399) (o := .cells #[.bool a1_0, .int .i64 a1_1] 64 (0, 0)) (by (with_reducible repeat (first | refine blk_drewN ?_ _ | refine blk_drew ?_ | refine blk_alloc ?_ _)); refine blk_far ?_ NB399_401.out _; (with_reducible repeat (first | refine blk_drewN ?_ _ | refine blk_drew ?_ | refine blk_alloc ?_ _)); refine blk_far ?_ NB399_401.out _; (with_reducible repeat (first | refine blk_drewN ?_ _ | refine blk_drew ?_ | refine blk_alloc ?_ _)); refine blk_far ?_ NB399_401.out _; (with_reducible repeat (first | refine blk_drewN ?_ _ | refine blk_drew ?_ | refine blk_alloc ?_ _)); refine blk_far ?_ NB399_401.out _; (with_reducible repeat (first | refine blk_drewN ?_ _ | refine blk_drew ?_ | refine blk_alloc ?_ _)); exact BK399.out) hb) (aC (blk_below (g := gb401) (o := .cells #[.int .i64 ((rd_T87 l0 x15_1).f0), .int .i64 ((rd_T87 l0 x15_1).f1), .int .i64 ((rd_T87 l0 x15_1).f2), .int .i64 ((rd_T87 l0 x15_1).f3)] 87 (0, 0)) (by (with_reducible repeat (first | refine blk_drewN ?_ _ | refine blk_drew ?_ | refine blk_alloc ?_ _)); refine blk_put (cs := #[.int .i64 ((rd_T87 l0 x15_1).f0), .int .i64 ((rd_T87 l0 x15_1).f1), .int .i64 ((rd_T87 l0 x15_1).f2), .int .i64 0]) ?_ 3 _ rfl; (with_reducible repeat (first | refine blk_drewN ?_ _ | refine blk_drew ?_ | refine blk_alloc ?_ _)); refine blk_put (cs := #[.int .i64 ((rd_T87 l0 x15_1).f0), .int .i64 ((rd_T87 l0 x15_1).f1), .int .i64 0, .int .i64 0]) ?_ 2 _ rfl; (with_reducible repeat (first | refine blk_drewN ?_ _ | refine blk_drew ?_ | refine blk_alloc ?_ _)); refine blk_put (cs := #[.int .i64 ((rd_T87 l0 x15_1).f0), .int .i64 0, .int .i64 0, .int .i64 0]) ?_ 1 _ rfl; (with_reducible repeat (first | refine blk_drewN ?_ _ | refine blk_drew ?_ | refine blk_alloc ?_ _)); refine blk_put (cs := #[.int .i64 0, .int .i64 0, .int .i64 0, .int .i64 0]) ?_ 0 _ rfl; (with_reducible repeat (first | refine blk_drewN ?_ _ | refine blk_drew ?_ | refine blk_alloc ?_ _)); exact BK401.out) hb) (aE (bs hb))); clear BK399 BK401 HB; obtain ⟨BK399, BK401, HB⟩ := n_; (try clear hb)))
            have n_ := aC (blk_drew BK399.out) (aC (blk_drew BK401.out) (aE (below_drew1 HB.out)))
            clear BK399 BK401 HB
            obtain ⟨BK399, BK401, HB⟩ := n_
            have p405 : 0 ≤ (x6_1 : Int) := dt
            have q405 : x6_1 < (l0.length : Int) := dt
            obtain ⟨ad405, e405, hx405_0, hx405_1, hx405_2, hx405_3⟩ := at_T87 HR0.out x6_1 p405 q405
            have hw405_3 := hx405_3
            have hw405_2 := hx405_2
            have hw405_1 := hx405_1
            have hw405_0 := hx405_0
            obtain rfl : ad400 = ad405 := (by injection e405)
            replace hx405_0 := hcB HB.out hx405_0
            replace hx405_1 := hcB HB.out hx405_1
            replace hx405_2 := hcB HB.out hx405_2
            replace hx405_3 := hcB HB.out hx405_3
            replace p405 := eq_true p405
            replace q405 := eq_true q405
            have p406 : 0 ≤ (x6_1 : Int) := dt
            have q406 : x6_1 < (l0.length : Int) := dt
            obtain ⟨ad406, e406, hx406_0, hx406_1, hx406_2, hx406_3⟩ := at_T87 HR0.out x6_1 p406 q406
            have hw406_3 := hx406_3
            have hw406_2 := hx406_2
            have hw406_1 := hx406_1
            have hw406_0 := hx406_0
            obtain rfl : ad400 = ad406 := (by injection e406)
            replace hx406_0 := hcB HB.out hx406_0
            replace hx406_1 := hcB HB.out hx406_1
            replace hx406_2 := hcB HB.out hx406_2
            replace hx406_3 := hcB HB.out hx406_3
            replace p406 := eq_true p406
            replace q406 := eq_true q406
            refine st 28 (fun w' => w'.cell? ⟨gb401, 0, none⟩ = some (.int .i64 ((rd_T87 l0 x15_1).f0)) ∧ w'.cell? ⟨gb401, 1, none⟩ = some (.int .i64 ((rd_T87 l0 x15_1).f1)) ∧ w'.cell? ⟨gb401, 2, none⟩ = some (.int .i64 ((rd_T87 l0 x15_1).f2)) ∧ w'.cell? ⟨gb401, 3, none⟩ = some (.int .i64 ((rd_T87 l0 x15_1).f3)) ∧ w'.cell? (ad400.add ((x6_1).toNat * 4)) = some (.int .i64 ((rd_T87 l0 x6_1).f0)) ∧ w'.cell? ⟨(ad400.add ((x6_1).toNat * 4)).block, (ad400.add ((x6_1).toNat * 4)).off + 1, none⟩ = some (.int .i64 ((rd_T87 l0 x6_1).f1)) ∧ w'.cell? ⟨(ad400.add ((x6_1).toNat * 4)).block, (ad400.add ((x6_1).toNat * 4)).off + 2, none⟩ = some (.int .i64 ((rd_T87 l0 x6_1).f2)) ∧ w'.cell? ⟨(ad400.add ((x6_1).toNat * 4)).block, (ad400.add ((x6_1).toNat * 4)).off + 3, none⟩ = some (.int .i64 ((rd_T87 l0 x6_1).f3)) ∧ w'.cell? (ad400.add ((x6_1).toNat * 4)) = some (.int .i64 ((rd_T87 l0 x6_1).f0)) ∧ w'.cell? ⟨(ad400.add ((x6_1).toNat * 4)).block, (ad400.add ((x6_1).toNat * 4)).off + 1, none⟩ = some (.int .i64 ((rd_T87 l0 x6_1).f1)) ∧ w'.cell? ⟨(ad400.add ((x6_1).toNat * 4)).block, (ad400.add ((x6_1).toNat * 4)).off + 2, none⟩ = some (.int .i64 ((rd_T87 l0 x6_1).f2)) ∧ w'.cell? ⟨(ad400.add ((x6_1).toNat * 4)).block, (ad400.add ((x6_1).toNat * 4)).off + 3, none⟩ = some (.int .i64 ((rd_T87 l0 x6_1).f3))) [] (bv 28 0) incunableref04_Bits.tab6 incunableref04_Bits.bits6 ⟨kc0 BK401.out, kc1 BK401.out, kc2 BK401.out, kc3 BK401.out, (hcB HB.out hw405_0), (hcB HB.out hw405_1), (hcB HB.out hw405_2), (hcB HB.out hw405_3), (hcB HB.out hw406_0), (hcB HB.out hw406_1), (hcB HB.out hw406_2), (hcB HB.out hw406_3)⟩ (fun hHeld HT_ HW_ => ?_)
            generalize w26.drew = w27 at BK399 BK401 HB hx405_0 hx405_1 hx405_2 hx405_3 hx406_0 hx406_1 hx406_2 hx406_3 hHeld ⊢
            refine tk 0 26 (bv 28 1) HT_ HW_ hHeld rfl rfl (by rintro w' ⟨s0, s1, s2, s3, s4, s5, s6, s7, s8, s9, s10, s11⟩; exact yl) ?_
            refine one_ (i := 1) (N := some 27) (bv 28 3) rfl rfl (one_of HT_.out (by kernel_rfl)) (by decide) (fun K hK => ?_)
            refine gK Tryd.func61 rfl #[.agg #[.int .i64 ((rd_T87 l0 x15_1).f0), .int .i64 ((rd_T87 l0 x15_1).f1), .int .i64 ((rd_T87 l0 x15_1).f2), .int .i64 ((rd_T87 l0 x15_1).f3)]] rfl rfl ?_
            with_reducible refine (incunableref04_used.calls ((rd_T87 l0 x15_1).f0) ((rd_T87 l0 x15_1).f1) ((rd_T87 l0 x15_1).f2) ((rd_T87 l0 x15_1).f3) true _ A8.out).mono ?_
            rintro e w28 ⟨rfl, hb⟩
            refine ⟨_, rfl, ?_⟩
            have n_ := aC (blk_below (bU BK399.out) hb) (aC (blk_below (g := gb401) (o := .cells #[.int .i64 ((rd_T87 l0 x15_1).f0), .int .i64 ((rd_T87 l0 x15_1).f1), .int .i64 ((rd_T87 l0 x15_1).f2), .int .i64 ((rd_T87 l0 x15_1).f3)] 87 (0, 0)) (bU BK401.out) hb) (aE (bs hb)))
            clear BK399 BK401 HB
            obtain ⟨BK399, BK401, HB⟩ := n_
            (try clear hb)
            (try clear hb2)
            (try clear hk)
            (try clear hi)
            refine hK.out _ _ ⟨kc0 BK401.out, kc1 BK401.out, kc2 BK401.out, kc3 BK401.out, (hcB HB.out hw405_0), (hcB HB.out hw405_1), (hcB HB.out hw405_2), (hcB HB.out hw405_3), (hcB HB.out hw406_0), (hcB HB.out hw406_1), (hcB HB.out hw406_2), (hcB HB.out hw406_3)⟩ (fun hHeld => ?_)
            clear hK K
            refine nm (some 27) ?_
            refine pu 2 28 (bv 28 7) HT_ rfl rfl ?_
            refine pu 3 29 (bv 28 15) HT_ rfl rfl ?_
            refine pu 4 30 (bv 28 31) HT_ rfl rfl ?_
            refine pu 5 31 (bv 28 63) HT_ rfl rfl ?_
            refine pu 6 32 (bv 28 127) HT_ rfl rfl ?_
            refine pu 7 33 (bv 28 255) HT_ rfl rfl ?_
            refine pu 8 34 (bv 28 511) HT_ rfl rfl ?_
            refine pu 9 35 (bv 28 1023) HT_ rfl rfl ?_
            refine pu 11 37 (bv 28 3071) HT_ rfl rfl ?_
            refine pu 14 40 (bv 28 19455) HT_ rfl rfl ?_
            refine pu 15 41 (bv 28 52223) HT_ rfl rfl ?_
            refine pu 16 42 (bv 28 117759) HT_ rfl rfl ?_
            refine pu 17 43 (bv 28 248831) HT_ rfl rfl ?_
            refine pu 19 45 (bv 28 773119) HT_ rfl rfl ?_
            refine pu 20 46 (bv 28 1821695) HT_ rfl rfl ?_
            refine pu 21 47 (bv 28 3918847) HT_ rfl rfl ?_
            refine pu 22 48 (bv 28 8113151) HT_ rfl rfl ?_
            refine tk 10 36 (bv 28 8114175) HT_ HW_ hHeld rfl rfl (by rintro w' ⟨s0, s1, s2, s3, s4, s5, s6, s7, s8, s9, s10, s11⟩; exact yl) ?_
            refine tk 12 38 (bv 28 8118271) HT_ HW_ hHeld rfl rfl (by rintro w' ⟨s0, s1, s2, s3, s4, s5, s6, s7, s8, s9, s10, s11⟩; exact yl) ?_
            refine pu 13 39 (bv 28 8126463) HT_ rfl rfl ?_
            refine tk 18 44 (bv 28 8388607) HT_ HW_ hHeld rfl rfl (by rintro w' ⟨s0, s1, s2, s3, s4, s5, s6, s7, s8, s9, s10, s11⟩; exact yl) ?_
            refine tk 23 49 (bv 28 16777215) HT_ HW_ hHeld rfl rfl (by rintro w' ⟨s0, s1, s2, s3, s4, s5, s6, s7, s8, s9, s10, s11⟩; exact yl) ?_
            refine pu 24 50 (bv 28 33554431) HT_ rfl rfl ?_
            refine pu 25 51 (bv 28 67108863) HT_ rfl rfl ?_
            refine pu 26 52 (bv 28 134217727) HT_ rfl rfl ?_
            refine pu 27 53 (bv 28 268435455) HT_ rfl rfl ?_
            refine done_ (done_of HT_.out (by kernel_rfl)) ?_
            try go_wp2
            go_roundg k1
            case measure => have := HK1.out; omega
            case rel => exact ⟨(x15_1), (wrap64 (x15_1 + 1)), rq, rq, H', ⟨by have := HK1.out; omega⟩, ⟨bU BK399.out⟩, ⟨bl⟩⟩
           ·rw [if_neg c21] at H
            have c21b0 := decide_eq_false c21
            clear c21
            have H' := Aside0.mk H
            clear H
            have p400 : 0 ≤ (x15_1 : Int) := dt
            have q400 : x15_1 < (l0.length : Int) := dt
            obtain ⟨ad400, e400, hx400_0, hx400_1, hx400_2, hx400_3⟩ := at_T87 HR0.out x15_1 p400 q400
            cases e400
            replace hx400_0 := hcB HB.out hx400_0
            replace hx400_1 := hcB HB.out hx400_1
            replace hx400_2 := hcB HB.out hx400_2
            replace hx400_3 := hcB HB.out hx400_3
            replace p400 := eq_true p400
            replace q400 := eq_true q400
            try go_wp2_with (first | ((with_reducible refine gd 8 rfl ?_); refine bx 8 #[.int .i64 0, .int .i64 0, .int .i64 0, .int .i64 0] 87 rfl rfl ?_; intro gb401 hg w29 hbox hb; have n_ := aC (blk_below (bU BK399.out) hb) (aC (bs hb) (aC hbox (aC (gz hg) (aC (gz hg) (aC (gn hg (bU BK399.out)) (aE (gm hg (bU BK399.out)))))))); clear BK399 HB; obtain ⟨BK399, HB, BK401, GW401, GE401, NB399_401, NB401_399⟩ := n_; clear hb hbox hg; have hnb30 := NB401_399.out; have hnc30 := NB399_401.out; obtain ⟨hcz31_0, hcz31_1, hcz31_2, hcz31_3, hfz31_0, hfz31_1, hfz31_2, hfz31_3⟩ := cz4f BK401.out; obtain ⟨hcz32_0, hcz32_1, hfz32_0, hfz32_1⟩ := cz2f BK399.out) | ((with_reducible refine gf 60 rfl ?_); refine gL (some 23) rfl rfl Tryd.func60 rfl #[.agg #[.int .i64 ((rd_T87 l0 x15_1).f0), .int .i64 ((rd_T87 l0 x15_1).f1), .int .i64 ((rd_T87 l0 x15_1).f2), .int .i64 ((rd_T87 l0 x15_1).f3)], .agg #[.bool a1_0, .int .i64 a1_1]] rfl ?_; (with_reducible refine (incunableref04_Place.calls k1 ((rd_T87 l0 x15_1).f0) ((rd_T87 l0 x15_1).f1) ((rd_T87 l0 x15_1).f2) ((rd_T87 l0 x15_1).f3) a1_0 a1_1 t402 true _ A7.out).mono ?_); rintro e w33 ⟨rfl, hb⟩; refine ⟨_, rfl, ?_⟩; have n_ := aC (blk_below (g := gb399) (o := .cells #[.bool a1_0, .int .i64 a1_1] 64 (0, 0)) (by (with_reducible repeat (first | refine blk_drewN ?_ _ | refine blk_drew ?_ | refine blk_alloc ?_ _)); refine blk_far ?_ NB399_401.out _; (with_reducible repeat (first | refine blk_drewN ?_ _ | refine blk_drew ?_ | refine blk_alloc ?_ _)); refine blk_far ?_ NB399_401.out _; (with_reducible repeat (first | refine blk_drewN ?_ _ | refine blk_drew ?_ | refine blk_alloc ?_ _)); refine blk_far ?_ NB399_401.out _; (with_reducible repeat (first | refine blk_drewN ?_ _ | refine blk_drew ?_ | refine blk_alloc ?_ _)); refine blk_far ?_ NB399_401.out _; (with_reducible repeat (first | refine blk_drewN ?_ _ | refine blk_drew ?_ | refine blk_alloc ?_ _)); exact BK399.out) hb) (aC (blk_below (g := gb401) (o := .cells #[.int .i64 ((rd_T87 l0 x15_1).f0), .int .i64 ((rd_T87 l0 x15_1).f1), .int .i64 ((rd_T87 l0 x15_1).f2), .int .i64 ((rd_T87 l0 x15_1).f3)] 87 (0, 0)) (by (with_reducible repeat (first | refine blk_drewN ?_ _ | refine blk_drew ?_ | refine blk_alloc ?_ _)); refine blk_put (cs := #[.int .i64 ((rd_T87 l0 x15_1).f0), .int .i64 ((rd_T87 l0 x15_1).f1), .int .i64 ((rd_T87 l0 x15_1).f2), .int .i64 0]) ?_ 3 _ rfl; (with_reducible repeat (first | refine blk_drewN ?_ _ | refine blk_drew ?_ | refine blk_alloc ?_ _)); refine blk_put (cs := #[.int .i64 ((rd_T87 l0 x15_1).f0), .int .i64 ((rd_T87 l0 x15_1).f1), .int .i64 0, .int .i64 0]) ?_ 2 _ rfl; (with_reducible repeat (first | refine blk_drewN ?_ _ | refine blk_drew ?_ | refine blk_alloc ?_ _)); refine blk_put (cs := #[.int .i64 ((rd_T87 l0 x15_1).f0), .int .i64 0, .int .i64 0, .int .i64 0]) ?_ 1 _ rfl; (with_reducible repeat (first | refine blk_drewN ?_ _ | refine blk_drew ?_ | refine blk_alloc ?_ _)); refine blk_put (cs := #[.int .i64 0, .int .i64 0, .int .i64 0, .int .i64 0]) ?_ 0 _ rfl; (with_reducible repeat (first | refine blk_drewN ?_ _ | refine blk_drew ?_ | refine blk_alloc ?_ _)); exact BK401.out) hb) (aE (bs hb))); clear BK399 BK401 HB; obtain ⟨BK399, BK401, HB⟩ := n_; (try clear hb)))
            have n_ := aC (blk_drew BK399.out) (aC (blk_drew BK401.out) (aE (below_drew1 HB.out)))
            clear BK399 BK401 HB
            obtain ⟨BK399, BK401, HB⟩ := n_
            have p405 : 0 ≤ (x6_1 : Int) := dt
            have q405 : x6_1 < (l0.length : Int) := dt
            obtain ⟨ad405, e405, hx405_0, hx405_1, hx405_2, hx405_3⟩ := at_T87 HR0.out x6_1 p405 q405
            have hw405_3 := hx405_3
            have hw405_2 := hx405_2
            have hw405_1 := hx405_1
            have hw405_0 := hx405_0
            obtain rfl : ad400 = ad405 := (by injection e405)
            replace hx405_0 := hcB HB.out hx405_0
            replace hx405_1 := hcB HB.out hx405_1
            replace hx405_2 := hcB HB.out hx405_2
            replace hx405_3 := hcB HB.out hx405_3
            replace p405 := eq_true p405
            replace q405 := eq_true q405
            have p406 : 0 ≤ (x6_1 : Int) := dt
            have q406 : x6_1 < (l0.length : Int) := dt
            obtain ⟨ad406, e406, hx406_0, hx406_1, hx406_2, hx406_3⟩ := at_T87 HR0.out x6_1 p406 q406
            have hw406_3 := hx406_3
            have hw406_2 := hx406_2
            have hw406_1 := hx406_1
            have hw406_0 := hx406_0
            obtain rfl : ad400 = ad406 := (by injection e406)
            replace hx406_0 := hcB HB.out hx406_0
            replace hx406_1 := hcB HB.out hx406_1
            replace hx406_2 := hcB HB.out hx406_2
            replace hx406_3 := hcB HB.out hx406_3
            replace p406 := eq_true p406
            replace q406 := eq_true q406
            refine st 28 (fun w' => w'.cell? ⟨gb401, 0, none⟩ = some (.int .i64 ((rd_T87 l0 x15_1).f0)) ∧ w'.cell? ⟨gb401, 1, none⟩ = some (.int .i64 ((rd_T87 l0 x15_1).f1)) ∧ w'.cell? ⟨gb401, 2, none⟩ = some (.int .i64 ((rd_T87 l0 x15_1).f2)) ∧ w'.cell? ⟨gb401, 3, none⟩ = some (.int .i64 ((rd_T87 l0 x15_1).f3)) ∧ w'.cell? (ad400.add ((x6_1).toNat * 4)) = some (.int .i64 ((rd_T87 l0 x6_1).f0)) ∧ w'.cell? ⟨(ad400.add ((x6_1).toNat * 4)).block, (ad400.add ((x6_1).toNat * 4)).off + 1, none⟩ = some (.int .i64 ((rd_T87 l0 x6_1).f1)) ∧ w'.cell? ⟨(ad400.add ((x6_1).toNat * 4)).block, (ad400.add ((x6_1).toNat * 4)).off + 2, none⟩ = some (.int .i64 ((rd_T87 l0 x6_1).f2)) ∧ w'.cell? ⟨(ad400.add ((x6_1).toNat * 4)).block, (ad400.add ((x6_1).toNat * 4)).off + 3, none⟩ = some (.int .i64 ((rd_T87 l0 x6_1).f3)) ∧ w'.cell? (ad400.add ((x6_1).toNat * 4)) = some (.int .i64 ((rd_T87 l0 x6_1).f0)) ∧ w'.cell? ⟨(ad400.add ((x6_1).toNat * 4)).block, (ad400.add ((x6_1).toNat * 4)).off + 1, none⟩ = some (.int .i64 ((rd_T87 l0 x6_1).f1)) ∧ w'.cell? ⟨(ad400.add ((x6_1).toNat * 4)).block, (ad400.add ((x6_1).toNat * 4)).off + 2, none⟩ = some (.int .i64 ((rd_T87 l0 x6_1).f2)) ∧ w'.cell? ⟨(ad400.add ((x6_1).toNat * 4)).block, (ad400.add ((x6_1).toNat * 4)).off + 3, none⟩ = some (.int .i64 ((rd_T87 l0 x6_1).f3))) [] (bv 28 0) incunableref04_Bits.tab6 incunableref04_Bits.bits6 ⟨kc0 BK401.out, kc1 BK401.out, kc2 BK401.out, kc3 BK401.out, (hcB HB.out hw405_0), (hcB HB.out hw405_1), (hcB HB.out hw405_2), (hcB HB.out hw405_3), (hcB HB.out hw406_0), (hcB HB.out hw406_1), (hcB HB.out hw406_2), (hcB HB.out hw406_3)⟩ (fun hHeld HT_ HW_ => ?_)
            generalize w33.drew = w34 at BK399 BK401 HB hx405_0 hx405_1 hx405_2 hx405_3 hx406_0 hx406_1 hx406_2 hx406_3 hHeld ⊢
            refine tk 0 26 (bv 28 1) HT_ HW_ hHeld rfl rfl (by rintro w' ⟨s0, s1, s2, s3, s4, s5, s6, s7, s8, s9, s10, s11⟩; exact yl) ?_
            refine one_ (i := 1) (N := some 27) (bv 28 3) rfl rfl (one_of HT_.out (by kernel_rfl)) (by decide) (fun K hK => ?_)
            refine gK Tryd.func61 rfl #[.agg #[.int .i64 ((rd_T87 l0 x15_1).f0), .int .i64 ((rd_T87 l0 x15_1).f1), .int .i64 ((rd_T87 l0 x15_1).f2), .int .i64 ((rd_T87 l0 x15_1).f3)]] rfl rfl ?_
            with_reducible refine (incunableref04_used.calls ((rd_T87 l0 x15_1).f0) ((rd_T87 l0 x15_1).f1) ((rd_T87 l0 x15_1).f2) ((rd_T87 l0 x15_1).f3) true _ A8.out).mono ?_
            rintro e w35 ⟨rfl, hb⟩
            refine ⟨_, rfl, ?_⟩
            have n_ := aC (blk_below (bU BK399.out) hb) (aC (blk_below (g := gb401) (o := .cells #[.int .i64 ((rd_T87 l0 x15_1).f0), .int .i64 ((rd_T87 l0 x15_1).f1), .int .i64 ((rd_T87 l0 x15_1).f2), .int .i64 ((rd_T87 l0 x15_1).f3)] 87 (0, 0)) (bU BK401.out) hb) (aE (bs hb)))
            clear BK399 BK401 HB
            obtain ⟨BK399, BK401, HB⟩ := n_
            (try clear hb)
            (try clear hb2)
            (try clear hk)
            (try clear hi)
            refine hK.out _ _ ⟨kc0 BK401.out, kc1 BK401.out, kc2 BK401.out, kc3 BK401.out, (hcB HB.out hw405_0), (hcB HB.out hw405_1), (hcB HB.out hw405_2), (hcB HB.out hw405_3), (hcB HB.out hw406_0), (hcB HB.out hw406_1), (hcB HB.out hw406_2), (hcB HB.out hw406_3)⟩ (fun hHeld => ?_)
            clear hK K
            refine nm (some 27) ?_
            refine pu 2 28 (bv 28 7) HT_ rfl rfl ?_
            refine pu 3 29 (bv 28 15) HT_ rfl rfl ?_
            refine pu 4 30 (bv 28 31) HT_ rfl rfl ?_
            refine pu 5 31 (bv 28 63) HT_ rfl rfl ?_
            refine pu 6 32 (bv 28 127) HT_ rfl rfl ?_
            refine pu 7 33 (bv 28 255) HT_ rfl rfl ?_
            refine pu 8 34 (bv 28 511) HT_ rfl rfl ?_
            refine pu 9 35 (bv 28 1023) HT_ rfl rfl ?_
            refine pu 11 37 (bv 28 3071) HT_ rfl rfl ?_
            refine pu 14 40 (bv 28 19455) HT_ rfl rfl ?_
            refine pu 15 41 (bv 28 52223) HT_ rfl rfl ?_
            refine pu 16 42 (bv 28 117759) HT_ rfl rfl ?_
            refine pu 17 43 (bv 28 248831) HT_ rfl rfl ?_
            refine pu 19 45 (bv 28 773119) HT_ rfl rfl ?_
            refine pu 20 46 (bv 28 1821695) HT_ rfl rfl ?_
            refine pu 21 47 (bv 28 3918847) HT_ rfl rfl ?_
            refine pu 22 48 (bv 28 8113151) HT_ rfl rfl ?_
            refine tk 10 36 (bv 28 8114175) HT_ HW_ hHeld rfl rfl (by rintro w' ⟨s0, s1, s2, s3, s4, s5, s6, s7, s8, s9, s10, s11⟩; exact yl) ?_
            refine tk 12 38 (bv 28 8118271) HT_ HW_ hHeld rfl rfl (by rintro w' ⟨s0, s1, s2, s3, s4, s5, s6, s7, s8, s9, s10, s11⟩; exact yl) ?_
            refine pu 13 39 (bv 28 8126463) HT_ rfl rfl ?_
            refine tk 18 44 (bv 28 8388607) HT_ HW_ hHeld rfl rfl (by rintro w' ⟨s0, s1, s2, s3, s4, s5, s6, s7, s8, s9, s10, s11⟩; exact yl) ?_
            refine tk 23 49 (bv 28 16777215) HT_ HW_ hHeld rfl rfl (by rintro w' ⟨s0, s1, s2, s3, s4, s5, s6, s7, s8, s9, s10, s11⟩; exact yl) ?_
            refine pu 24 50 (bv 28 33554431) HT_ rfl rfl ?_
            refine pu 25 51 (bv 28 67108863) HT_ rfl rfl ?_
            refine pu 26 52 (bv 28 134217727) HT_ rfl rfl ?_
            refine pu 27 53 (bv 28 268435455) HT_ rfl rfl ?_
            refine done_ (done_of HT_.out (by kernel_rfl)) ?_
            try go_wp2
            go_roundg k1
            case measure => have := HK1.out; omega
            case rel => exact ⟨(x6_1), (wrap64 (x15_1 + 1)), rq, rq, H', ⟨by have := HK1.out; omega⟩, ⟨bU BK399.out⟩, ⟨bl⟩⟩
          ·rw [if_neg c20] at H
           exact absurd H (by simp)
         ·rw [if_neg c19] at H
          exact absurd H (by simp)
       ·replace c10 := Bool.eq_false_iff.mpr c10
        subst c10
        have H1 : (incunableref04_Bits.l0 k1 l0 x6_1 l0 (l0.length : Int) (wrap64 (x15_1 + 1)) a1_0 a1_1) = some (r1, r2) := by rw [if_neg (show ¬ (false = true) by decide)] at H; exact H
        clear H
        have H := H1
        clear H1
        have H' := Aside0.mk H
        clear H
        have p400 : 0 ≤ (x15_1 : Int) := dt
        have q400 : x15_1 < (l0.length : Int) := dt
        obtain ⟨ad400, e400, hx400_0, hx400_1, hx400_2, hx400_3⟩ := at_T87 HR0.out x15_1 p400 q400
        cases e400
        replace hx400_0 := hcB HB.out hx400_0
        replace hx400_1 := hcB HB.out hx400_1
        replace hx400_2 := hcB HB.out hx400_2
        replace hx400_3 := hcB HB.out hx400_3
        replace p400 := eq_true p400
        replace q400 := eq_true q400
        try go_wp2_with (first | ((with_reducible refine gd 8 rfl ?_); refine bx 8 #[.int .i64 0, .int .i64 0, .int .i64 0, .int .i64 0] 87 rfl rfl ?_; intro gb401 hg w36 hbox hb; have n_ := aC (blk_below (bU BK399.out) hb) (aC (bs hb) (aC hbox (aC (gz hg) (aC (gz hg) (aC (gn hg (bU BK399.out)) (aE (gm hg (bU BK399.out)))))))); clear BK399 HB; obtain ⟨BK399, HB, BK401, GW401, GE401, NB399_401, NB401_399⟩ := n_; clear hb hbox hg; have hnb37 := NB401_399.out; have hnc37 := NB399_401.out; obtain ⟨hcz38_0, hcz38_1, hcz38_2, hcz38_3, hfz38_0, hfz38_1, hfz38_2, hfz38_3⟩ := cz4f BK401.out; obtain ⟨hcz39_0, hcz39_1, hfz39_0, hfz39_1⟩ := cz2f BK399.out) | ((with_reducible refine gf 60 rfl ?_); refine gL (some 23) rfl rfl Tryd.func60 rfl #[.agg #[.int .i64 ((rd_T87 l0 x15_1).f0), .int .i64 ((rd_T87 l0 x15_1).f1), .int .i64 ((rd_T87 l0 x15_1).f2), .int .i64 ((rd_T87 l0 x15_1).f3)], .agg #[.bool a1_0, .int .i64 a1_1]] rfl ?_; (with_reducible refine (incunableref04_Place.calls k1 ((rd_T87 l0 x15_1).f0) ((rd_T87 l0 x15_1).f1) ((rd_T87 l0 x15_1).f2) ((rd_T87 l0 x15_1).f3) a1_0 a1_1 t402 false _ A7.out).mono ?_); rintro e w40 ⟨rfl, hb⟩; refine ⟨_, rfl, ?_⟩; have n_ := aC (blk_below (g := gb399) (o := .cells #[.bool a1_0, .int .i64 a1_1] 64 (0, 0)) (by (with_reducible repeat (first | refine blk_drewN ?_ _ | refine blk_drew ?_ | refine blk_alloc ?_ _)); refine blk_far ?_ NB399_401.out _; (with_reducible repeat (first | refine blk_drewN ?_ _ | refine blk_drew ?_ | refine blk_alloc ?_ _)); refine blk_far ?_ NB399_401.out _; (with_reducible repeat (first | refine blk_drewN ?_ _ | refine blk_drew ?_ | refine blk_alloc ?_ _)); refine blk_far ?_ NB399_401.out _; (with_reducible repeat (first | refine blk_drewN ?_ _ | refine blk_drew ?_ | refine blk_alloc ?_ _)); refine blk_far ?_ NB399_401.out _; (with_reducible repeat (first | refine blk_drewN ?_ _ | refine blk_drew ?_ | refine blk_alloc ?_ _)); exact BK399.out) hb) (aC (blk_below (g := gb401) (o := .cells #[.int .i64 ((rd_T87 l0 x15_1).f0), .int .i64 ((rd_T87 l0 x15_1).f1), .int .i64 ((rd_T87 l0 x15_1).f2), .int .i64 ((rd_T87 l0 x15_1).f3)] 87 (0, 0)) (by (with_reducible repeat (first | refine blk_drewN ?_ _ | refine blk_drew ?_ | refine blk_alloc ?_ _)); refine blk_put (cs := #[.int .i64 ((rd_T87 l0 x15_1).f0), .int .i64 ((rd_T87 l0 x15_1).f1), .int .i64 ((rd_T87 l0 x15_1).f2), .int .i64 0]) ?_ 3 _ rfl; (with_reducible repeat (first | refine blk_drewN ?_ _ | refine blk_drew ?_ | refine blk_alloc ?_ _)); refine blk_put (cs := #[.int .i64 ((rd_T87 l0 x15_1).f0), .int .i64 ((rd_T87 l0 x15_1).f1), .int .i64 0, .int .i64 0]) ?_ 2 _ rfl; (with_reducible repeat (first | refine blk_drewN ?_ _ | refine blk_drew ?_ | refine blk_alloc ?_ _)); refine blk_put (cs := #[.int .i64 ((rd_T87 l0 x15_1).f0), .int .i64 0, .int .i64 0, .int .i64 0]) ?_ 1 _ rfl; (with_reducible repeat (first | refine blk_drewN ?_ _ | refine blk_drew ?_ | refine blk_alloc ?_ _)); refine blk_put (cs := #[.int .i64 0, .int .i64 0, .int .i64 0, .int .i64 0]) ?_ 0 _ rfl; (with_reducible repeat (first | refine blk_drewN ?_ _ | refine blk_drew ?_ | refine blk_alloc ?_ _)); exact BK401.out) hb) (aE (bs hb))); clear BK399 BK401 HB; obtain ⟨BK399, BK401, HB⟩ := n_; (try clear hb)))
        have n_ := aC (blk_drew BK399.out) (aC (blk_drew BK401.out) (aE (below_drew1 HB.out)))
        clear BK399 BK401 HB
        obtain ⟨BK399, BK401, HB⟩ := n_
        refine st 28 (fun w' => w'.cell? ⟨gb401, 0, none⟩ = some (.int .i64 ((rd_T87 l0 x15_1).f0)) ∧ w'.cell? ⟨gb401, 1, none⟩ = some (.int .i64 ((rd_T87 l0 x15_1).f1)) ∧ w'.cell? ⟨gb401, 2, none⟩ = some (.int .i64 ((rd_T87 l0 x15_1).f2)) ∧ w'.cell? ⟨gb401, 3, none⟩ = some (.int .i64 ((rd_T87 l0 x15_1).f3))) [] (bv 28 0) incunableref04_Bits.tab6 incunableref04_Bits.bits6 ⟨kc0 BK401.out, kc1 BK401.out, kc2 BK401.out, kc3 BK401.out⟩ (fun hHeld HT_ HW_ => ?_)
        generalize w40.drew = w41 at BK399 BK401 HB hHeld ⊢
        refine tk 0 26 (bv 28 1) HT_ HW_ hHeld rfl rfl (by rintro w' ⟨s0, s1, s2, s3⟩; exact yl) ?_
        refine one_ (i := 1) (N := some 27) (bv 28 3) rfl rfl (one_of HT_.out (by kernel_rfl)) (by decide) (fun K hK => ?_)
        refine gK Tryd.func61 rfl #[.agg #[.int .i64 ((rd_T87 l0 x15_1).f0), .int .i64 ((rd_T87 l0 x15_1).f1), .int .i64 ((rd_T87 l0 x15_1).f2), .int .i64 ((rd_T87 l0 x15_1).f3)]] rfl rfl ?_
        with_reducible refine (incunableref04_used.calls ((rd_T87 l0 x15_1).f0) ((rd_T87 l0 x15_1).f1) ((rd_T87 l0 x15_1).f2) ((rd_T87 l0 x15_1).f3) true _ A8.out).mono ?_
        rintro e w42 ⟨rfl, hb⟩
        refine ⟨_, rfl, ?_⟩
        have n_ := aC (blk_below (bU BK399.out) hb) (aC (blk_below (g := gb401) (o := .cells #[.int .i64 ((rd_T87 l0 x15_1).f0), .int .i64 ((rd_T87 l0 x15_1).f1), .int .i64 ((rd_T87 l0 x15_1).f2), .int .i64 ((rd_T87 l0 x15_1).f3)] 87 (0, 0)) (bU BK401.out) hb) (aE (bs hb)))
        clear BK399 BK401 HB
        obtain ⟨BK399, BK401, HB⟩ := n_
        (try clear hb)
        (try clear hb2)
        (try clear hk)
        (try clear hi)
        refine hK.out _ _ ⟨kc0 BK401.out, kc1 BK401.out, kc2 BK401.out, kc3 BK401.out⟩ (fun hHeld => ?_)
        clear hK K
        refine nm (some 27) ?_
        refine pu 2 28 (bv 28 7) HT_ rfl rfl ?_
        refine pu 3 29 (bv 28 15) HT_ rfl rfl ?_
        refine pu 4 30 (bv 28 31) HT_ rfl rfl ?_
        refine pu 5 31 (bv 28 63) HT_ rfl rfl ?_
        refine pn 6 32 (bv 28 127) HT_ rfl rfl ?_
        refine pn 7 33 (bv 28 255) HT_ rfl rfl ?_
        refine pn 8 34 (bv 28 511) HT_ rfl rfl ?_
        refine pn 9 35 (bv 28 1023) HT_ rfl rfl ?_
        refine pn 10 36 (bv 28 2047) HT_ rfl rfl ?_
        refine pn 11 37 (bv 28 4095) HT_ rfl rfl ?_
        refine pn 12 38 (bv 28 8191) HT_ rfl rfl ?_
        refine pn 13 39 (bv 28 16383) HT_ rfl rfl ?_
        refine pn 14 40 (bv 28 32767) HT_ rfl rfl ?_
        refine pn 15 41 (bv 28 65535) HT_ rfl rfl ?_
        refine pn 16 42 (bv 28 131071) HT_ rfl rfl ?_
        refine pn 17 43 (bv 28 262143) HT_ rfl rfl ?_
        refine pn 18 44 (bv 28 524287) HT_ rfl rfl ?_
        refine pn 19 45 (bv 28 1048575) HT_ rfl rfl ?_
        refine pn 20 46 (bv 28 2097151) HT_ rfl rfl ?_
        refine pn 21 47 (bv 28 4194303) HT_ rfl rfl ?_
        refine pn 22 48 (bv 28 8388607) HT_ rfl rfl ?_
        refine pn 23 49 (bv 28 16777215) HT_ rfl rfl ?_
        refine pn 24 50 (bv 28 33554431) HT_ rfl rfl ?_
        refine pn 25 51 (bv 28 67108863) HT_ rfl rfl ?_
        refine pn 26 52 (bv 28 134217727) HT_ rfl rfl ?_
        refine pu 27 53 (bv 28 268435455) HT_ rfl rfl ?_
        refine done_ (done_of HT_.out (by kernel_rfl)) ?_
        try go_wp2
        go_roundg k1
        case measure => have := HK1.out; omega
        case rel => exact ⟨(x6_1), (wrap64 (x15_1 + 1)), rq, rq, H', ⟨by have := HK1.out; omega⟩, ⟨bU BK399.out⟩, ⟨bl⟩⟩
      ·replace c9 := Bool.eq_false_iff.mpr c9
       subst c9
       have H1 : (incunableref04_Bits.l0 k1 l0 x6_1 l0 (l0.length : Int) (wrap64 (x15_1 + 1)) a1_0 a1_1) = some (r1, r2) := by rw [if_neg (show ¬ (false = true) by decide)] at H; exact H
       clear H
       have H := H1
       clear H1
       have H' := Aside0.mk H
       clear H
       have p400 : 0 ≤ (x15_1 : Int) := dt
       have q400 : x15_1 < (l0.length : Int) := dt
       obtain ⟨ad400, e400, hx400_0, hx400_1, hx400_2, hx400_3⟩ := at_T87 HR0.out x15_1 p400 q400
       cases e400
       replace hx400_0 := hcB HB.out hx400_0
       replace hx400_1 := hcB HB.out hx400_1
       replace hx400_2 := hcB HB.out hx400_2
       replace hx400_3 := hcB HB.out hx400_3
       replace p400 := eq_true p400
       replace q400 := eq_true q400
       try go_wp2_with (first | ((with_reducible refine gd 8 rfl ?_); refine bx 8 #[.int .i64 0, .int .i64 0, .int .i64 0, .int .i64 0] 87 rfl rfl ?_; intro gb401 hg w43 hbox hb; have n_ := aC (blk_below (bU BK399.out) hb) (aC (bs hb) (aC hbox (aC (gz hg) (aC (gz hg) (aC (gn hg (bU BK399.out)) (aE (gm hg (bU BK399.out)))))))); clear BK399 HB; obtain ⟨BK399, HB, BK401, GW401, GE401, NB399_401, NB401_399⟩ := n_; clear hb hbox hg; have hnb44 := NB401_399.out; have hnc44 := NB399_401.out; obtain ⟨hcz45_0, hcz45_1, hcz45_2, hcz45_3, hfz45_0, hfz45_1, hfz45_2, hfz45_3⟩ := cz4f BK401.out; obtain ⟨hcz46_0, hcz46_1, hfz46_0, hfz46_1⟩ := cz2f BK399.out) | ((with_reducible refine gf 60 rfl ?_); refine gL (some 23) rfl rfl Tryd.func60 rfl #[.agg #[.int .i64 ((rd_T87 l0 x15_1).f0), .int .i64 ((rd_T87 l0 x15_1).f1), .int .i64 ((rd_T87 l0 x15_1).f2), .int .i64 ((rd_T87 l0 x15_1).f3)], .agg #[.bool a1_0, .int .i64 a1_1]] rfl ?_; (with_reducible refine (incunableref04_Place.calls k1 ((rd_T87 l0 x15_1).f0) ((rd_T87 l0 x15_1).f1) ((rd_T87 l0 x15_1).f2) ((rd_T87 l0 x15_1).f3) a1_0 a1_1 t402 t403 _ A7.out).mono ?_); rintro e w47 ⟨rfl, hb⟩; refine ⟨_, rfl, ?_⟩; have n_ := aC (blk_below (g := gb399) (o := .cells #[.bool a1_0, .int .i64 a1_1] 64 (0, 0)) (by (with_reducible repeat (first | refine blk_drewN ?_ _ | refine blk_drew ?_ | refine blk_alloc ?_ _)); refine blk_far ?_ NB399_401.out _; (with_reducible repeat (first | refine blk_drewN ?_ _ | refine blk_drew ?_ | refine blk_alloc ?_ _)); refine blk_far ?_ NB399_401.out _; (with_reducible repeat (first | refine blk_drewN ?_ _ | refine blk_drew ?_ | refine blk_alloc ?_ _)); refine blk_far ?_ NB399_401.out _; (with_reducible repeat (first | refine blk_drewN ?_ _ | refine blk_drew ?_ | refine blk_alloc ?_ _)); refine blk_far ?_ NB399_401.out _; (with_reducible repeat (first | refine blk_drewN ?_ _ | refine blk_drew ?_ | refine blk_alloc ?_ _)); exact BK399.out) hb) (aC (blk_below (g := gb401) (o := .cells #[.int .i64 ((rd_T87 l0 x15_1).f0), .int .i64 ((rd_T87 l0 x15_1).f1), .int .i64 ((rd_T87 l0 x15_1).f2), .int .i64 ((rd_T87 l0 x15_1).f3)] 87 (0, 0)) (by (with_reducible repeat (first | refine blk_drewN ?_ _ | refine blk_drew ?_ | refine blk_alloc ?_ _)); refine blk_put (cs := #[.int .i64 ((rd_T87 l0 x15_1).f0), .int .i64 ((rd_T87 l0 x15_1).f1), .int .i64 ((rd_T87 l0 x15_1).f2), .int .i64 0]) ?_ 3 _ rfl; (with_reducible repeat (first | refine blk_drewN ?_ _ | refine blk_drew ?_ | refine blk_alloc ?_ _)); refine blk_put (cs := #[.int .i64 ((rd_T87 l0 x15_1).f0), .int .i64 ((rd_T87 l0 x15_1).f1), .int .i64 0, .int .i64 0]) ?_ 2 _ rfl; (with_reducible repeat (first | refine blk_drewN ?_ _ | refine blk_drew ?_ | refine blk_alloc ?_ _)); refine blk_put (cs := #[.int .i64 ((rd_T87 l0 x15_1).f0), .int .i64 0, .int .i64 0, .int .i64 0]) ?_ 1 _ rfl; (with_reducible repeat (first | refine blk_drewN ?_ _ | refine blk_drew ?_ | refine blk_alloc ?_ _)); refine blk_put (cs := #[.int .i64 0, .int .i64 0, .int .i64 0, .int .i64 0]) ?_ 0 _ rfl; (with_reducible repeat (first | refine blk_drewN ?_ _ | refine blk_drew ?_ | refine blk_alloc ?_ _)); exact BK401.out) hb) (aE (bs hb))); clear BK399 BK401 HB; obtain ⟨BK399, BK401, HB⟩ := n_; (try clear hb)))
       have n_ := aC (blk_drew BK399.out) (aC (blk_drew BK401.out) (aE (below_drew1 HB.out)))
       clear BK399 BK401 HB
       obtain ⟨BK399, BK401, HB⟩ := n_
       refine st 28 (fun w' => w'.cell? ⟨gb401, 0, none⟩ = some (.int .i64 ((rd_T87 l0 x15_1).f0)) ∧ w'.cell? ⟨gb401, 1, none⟩ = some (.int .i64 ((rd_T87 l0 x15_1).f1)) ∧ w'.cell? ⟨gb401, 2, none⟩ = some (.int .i64 ((rd_T87 l0 x15_1).f2)) ∧ w'.cell? ⟨gb401, 3, none⟩ = some (.int .i64 ((rd_T87 l0 x15_1).f3))) [] (bv 28 0) incunableref04_Bits.tab6 incunableref04_Bits.bits6 ⟨kc0 BK401.out, kc1 BK401.out, kc2 BK401.out, kc3 BK401.out⟩ (fun hHeld HT_ HW_ => ?_)
       generalize w47.drew = w48 at BK399 BK401 HB hHeld ⊢
       refine tk 0 26 (bv 28 1) HT_ HW_ hHeld rfl rfl (by rintro w' ⟨s0, s1, s2, s3⟩; exact yl) ?_
       refine one_ (i := 1) (N := some 27) (bv 28 3) rfl rfl (one_of HT_.out (by kernel_rfl)) (by decide) (fun K hK => ?_)
       refine gK Tryd.func61 rfl #[.agg #[.int .i64 ((rd_T87 l0 x15_1).f0), .int .i64 ((rd_T87 l0 x15_1).f1), .int .i64 ((rd_T87 l0 x15_1).f2), .int .i64 ((rd_T87 l0 x15_1).f3)]] rfl rfl ?_
       with_reducible refine (incunableref04_used.calls ((rd_T87 l0 x15_1).f0) ((rd_T87 l0 x15_1).f1) ((rd_T87 l0 x15_1).f2) ((rd_T87 l0 x15_1).f3) false _ A8.out).mono ?_
       rintro e w49 ⟨rfl, hb⟩
       refine ⟨_, rfl, ?_⟩
       have n_ := aC (blk_below (bU BK399.out) hb) (aC (blk_below (g := gb401) (o := .cells #[.int .i64 ((rd_T87 l0 x15_1).f0), .int .i64 ((rd_T87 l0 x15_1).f1), .int .i64 ((rd_T87 l0 x15_1).f2), .int .i64 ((rd_T87 l0 x15_1).f3)] 87 (0, 0)) (bU BK401.out) hb) (aE (bs hb)))
       clear BK399 BK401 HB
       obtain ⟨BK399, BK401, HB⟩ := n_
       (try clear hb)
       (try clear hb2)
       (try clear hk)
       (try clear hi)
       refine hK.out _ _ ⟨kc0 BK401.out, kc1 BK401.out, kc2 BK401.out, kc3 BK401.out⟩ (fun hHeld => ?_)
       clear hK K
       refine nm (some 27) ?_
       refine pu 2 28 (bv 28 7) HT_ rfl rfl ?_
       refine pn 3 29 (bv 28 15) HT_ rfl rfl ?_
       refine pu 4 30 (bv 28 31) HT_ rfl rfl ?_
       refine pu 5 31 (bv 28 63) HT_ rfl rfl ?_
       refine pn 6 32 (bv 28 127) HT_ rfl rfl ?_
       refine pn 7 33 (bv 28 255) HT_ rfl rfl ?_
       refine pn 8 34 (bv 28 511) HT_ rfl rfl ?_
       refine pn 9 35 (bv 28 1023) HT_ rfl rfl ?_
       refine pn 10 36 (bv 28 2047) HT_ rfl rfl ?_
       refine pn 11 37 (bv 28 4095) HT_ rfl rfl ?_
       refine pn 12 38 (bv 28 8191) HT_ rfl rfl ?_
       refine pn 13 39 (bv 28 16383) HT_ rfl rfl ?_
       refine pn 14 40 (bv 28 32767) HT_ rfl rfl ?_
       refine pn 15 41 (bv 28 65535) HT_ rfl rfl ?_
       refine pn 16 42 (bv 28 131071) HT_ rfl rfl ?_
       refine pn 17 43 (bv 28 262143) HT_ rfl rfl ?_
       refine pn 18 44 (bv 28 524287) HT_ rfl rfl ?_
       refine pn 19 45 (bv 28 1048575) HT_ rfl rfl ?_
       refine pn 20 46 (bv 28 2097151) HT_ rfl rfl ?_
       refine pn 21 47 (bv 28 4194303) HT_ rfl rfl ?_
       refine pn 22 48 (bv 28 8388607) HT_ rfl rfl ?_
       refine pn 23 49 (bv 28 16777215) HT_ rfl rfl ?_
       refine pn 24 50 (bv 28 33554431) HT_ rfl rfl ?_
       refine pn 25 51 (bv 28 67108863) HT_ rfl rfl ?_
       refine pn 26 52 (bv 28 134217727) HT_ rfl rfl ?_
       refine pu 27 53 (bv 28 268435455) HT_ rfl rfl ?_
       refine done_ (done_of HT_.out (by kernel_rfl)) ?_
       try go_wp2
       go_roundg k1
       case measure => have := HK1.out; omega
       case rel => exact ⟨(x6_1), (wrap64 (x15_1 + 1)), rq, rq, H', ⟨by have := HK1.out; omega⟩, ⟨bU BK399.out⟩, ⟨bl⟩⟩
     ·rw [if_neg c6] at H
      exact absurd H (by simp)
    ·rw [if_neg c5] at H
     exact absurd H (by simp)
   ·rw [if_neg c4] at H
    have c4b0 := decide_eq_false c4
    clear c4
    by_cases c50 : x6_1 < 0
    ·rw [if_pos c50] at H
     have c50b0 := decide_eq_true c50
     clear c50
     simp only [Option.some.injEq, Prod.mk.injEq] at H
     obtain ⟨rfl, rfl⟩ := H
     go_wp2
     go_ret2
     exact ⟨_, re, by first | exact Kd.R_nil _ _ _ _ _ | exact Kd.N_nil _ _ _ _ _ | exact Kd.V_nil _ _ _ _ _ | exact Kd.Q_nil _ _ _ _ _ | exact Kd.S_nil _ _ _ _ _, bl⟩
    ·rw [if_neg c50] at H
     have c50b0 := decide_eq_false c50
     clear c50
     by_cases c51 : 0 ≤ x6_1
     ·rw [if_pos c51] at H
      have c51b0 := decide_eq_true c51
      clear c51
      by_cases c52 : x6_1 < (l0.length : Int)
      ·rw [if_pos c52] at H
       have c52b0 := decide_eq_true c52
       clear c52
       replace H := Option.bind_eq_some_iff.mp H
       obtain ⟨⟨t408, t409⟩, A530, H⟩ := H
       replace H : ((incunableref04_Code.f k1 l0 x6_1).bind fun t410 => ((incunableref04_digits.f k1 t408 ((rd_T87 l0 x6_1).f1)).bind fun t414 => (if t410.length + t414.length < 140737488355328 then (some ((t410 ++ t414), true)) else (none)))) = some (r1, r2) := H
       have A53 := Aside0.mk A530
       clear A530
       replace H := Option.bind_eq_some_iff.mp H
       obtain ⟨t410, A540, H⟩ := H
       replace H : ((incunableref04_digits.f k1 t408 ((rd_T87 l0 x6_1).f1)).bind fun t414 => (if t410.length + t414.length < 140737488355328 then (some ((t410 ++ t414), true)) else (none))) = some (r1, r2) := H
       have A54 := Aside0.mk A540
       clear A540
       replace H := Option.bind_eq_some_iff.mp H
       obtain ⟨t414, A550, H⟩ := H
       replace H : (if t410.length + t414.length < 140737488355328 then (some ((t410 ++ t414), true)) else (none)) = some (r1, r2) := H
       have A55 := Aside0.mk A550
       clear A550
       by_cases c56 : t410.length + t414.length < 140737488355328
       ·rw [if_pos c56] at H
        have LMc56 := Aside0.mk c56
        clear c56
        obtain ⟨y417, hy_⟩ : ∃ y_ : List Int, y_ = (t410 ++ t414) := ⟨_, rfl⟩
        replace H : (some (y417, true)) = some (r1, r2) := rh
        have Ny417 := aE hy_
        clear hy_
        simp only [Option.some.injEq, Prod.mk.injEq] at H
        obtain ⟨rfl, rfl⟩ := H
        try go_wp2
        have n_ := aC (blk_drew BK399.out) (aE (below_drew1 HB.out))
        clear BK399 HB
        obtain ⟨BK399, HB⟩ := n_
        have p407 : 0 ≤ (x6_1 : Int) := dt
        have q407 : x6_1 < (l0.length : Int) := dt
        obtain ⟨ad407, e407, hx407_0, hx407_1, hx407_2, hx407_3⟩ := at_T87 HR0.out x6_1 p407 q407
        have hw407_3 := hx407_3
        have hw407_2 := hx407_2
        have hw407_1 := hx407_1
        have hw407_0 := hx407_0
        cases e407
        replace hx407_0 := hcB HB.out hx407_0
        replace hx407_1 := hcB HB.out hx407_1
        replace hx407_2 := hcB HB.out hx407_2
        replace hx407_3 := hcB HB.out hx407_3
        replace p407 := eq_true p407
        replace q407 := eq_true q407
        refine st 11 (fun w' => w'.cell? ⟨gb399, 0, none⟩ = some (.bool a1_0) ∧ w'.cell? ⟨gb399, 1, none⟩ = some (.int .i64 a1_1) ∧ w'.cell? (ad407.add ((x6_1).toNat * 4)) = some (.int .i64 ((rd_T87 l0 x6_1).f0)) ∧ w'.cell? ⟨(ad407.add ((x6_1).toNat * 4)).block, (ad407.add ((x6_1).toNat * 4)).off + 1, none⟩ = some (.int .i64 ((rd_T87 l0 x6_1).f1)) ∧ w'.cell? ⟨(ad407.add ((x6_1).toNat * 4)).block, (ad407.add ((x6_1).toNat * 4)).off + 2, none⟩ = some (.int .i64 ((rd_T87 l0 x6_1).f2)) ∧ w'.cell? ⟨(ad407.add ((x6_1).toNat * 4)).block, (ad407.add ((x6_1).toNat * 4)).off + 3, none⟩ = some (.int .i64 ((rd_T87 l0 x6_1).f3))) [] (bv 11 0) incunableref04_Bits.tab11 incunableref04_Bits.bits11 ⟨kc0 BK399.out, kc1 BK399.out, (hcB HB.out hw407_0), (hcB HB.out hw407_1), (hcB HB.out hw407_2), (hcB HB.out hw407_3)⟩ (fun hHeld HT_ HW_ => ?_)
        generalize wr.drew = w57 at BK399 HB hx407_0 hx407_1 hx407_2 hx407_3 hHeld ⊢
        refine pu 0 59 (bv 11 1) HT_ rfl rfl ?_
        refine pu 1 60 (bv 11 3) HT_ rfl rfl ?_
        refine pu 2 61 (bv 11 7) HT_ rfl rfl ?_
        refine tk 3 62 (bv 11 15) HT_ HW_ hHeld rfl rfl (by rintro w' ⟨s0, s1, s2, s3, s4, s5⟩; exact yl) ?_
        refine tk 4 63 (bv 11 31) HT_ HW_ hHeld rfl rfl (by rintro w' ⟨s0, s1, s2, s3, s4, s5⟩; exact yl) ?_
        refine one_ (i := 5) (N := some 64) (bv 11 63) rfl rfl (one_of HT_.out (by kernel_rfl)) (by decide) (fun K hK => ?_)
        refine gK Tryd.func60 rfl #[.agg #[.int .i64 ((rd_T87 l0 x6_1).f0), .int .i64 ((rd_T87 l0 x6_1).f1), .int .i64 ((rd_T87 l0 x6_1).f2), .int .i64 ((rd_T87 l0 x6_1).f3)], .agg #[.bool a1_0, .int .i64 a1_1]] rfl rfl ?_
        with_reducible refine (incunableref04_Place.calls k1 ((rd_T87 l0 x6_1).f0) ((rd_T87 l0 x6_1).f1) ((rd_T87 l0 x6_1).f2) ((rd_T87 l0 x6_1).f3) a1_0 a1_1 t408 t409 _ A53.out).mono ?_
        rintro e w58 ⟨rfl, hb⟩
        refine ⟨_, rfl, ?_⟩
        have n_ := aC (blk_below (bU BK399.out) hb) (aE (bs hb))
        clear BK399 HB
        obtain ⟨BK399, HB⟩ := n_
        (try clear hb)
        (try clear hb2)
        (try clear hk)
        (try clear hi)
        refine hK.out _ _ ⟨kc0 BK399.out, kc1 BK399.out, (hcB HB.out hw407_0), (hcB HB.out hw407_1), (hcB HB.out hw407_2), (hcB HB.out hw407_3)⟩ (fun hHeld => ?_)
        clear hK K
        refine nm (some 64) ?_
        refine pu 6 58 (bv 11 127) HT_ rfl rfl ?_
        refine pu 7 65 (bv 11 255) HT_ rfl rfl ?_
        refine pu 8 66 (bv 11 511) HT_ rfl rfl ?_
        refine pu 9 11 (bv 11 1023) HT_ rfl rfl ?_
        refine pu 10 12 (bv 11 2047) HT_ rfl rfl ?_
        refine done_ (done_of HT_.out (by kernel_rfl)) ?_
        try go_wp2
        have n_ := aC (blk_drew BK399.out) (aE (below_drew1 HB.out))
        clear BK399 HB
        obtain ⟨BK399, HB⟩ := n_
        have p413 : 0 ≤ (x6_1 : Int) := dt
        have q413 : x6_1 < (l0.length : Int) := dt
        obtain ⟨ad413, e413, hx413_0, hx413_1, hx413_2, hx413_3⟩ := at_T87 HR0.out x6_1 p413 q413
        have hw413_3 := hx413_3
        have hw413_2 := hx413_2
        have hw413_1 := hx413_1
        have hw413_0 := hx413_0
        obtain rfl : ad407 = ad413 := (by injection e413)
        replace hx413_0 := hcB HB.out hx413_0
        replace hx413_1 := hcB HB.out hx413_1
        replace hx413_2 := hcB HB.out hx413_2
        replace hx413_3 := hcB HB.out hx413_3
        replace p413 := eq_true p413
        replace q413 := eq_true q413
        refine st 13 (fun w' => w'.cell? (ad407.add ((x6_1).toNat * 4)) = some (.int .i64 ((rd_T87 l0 x6_1).f0)) ∧ w'.cell? ⟨(ad407.add ((x6_1).toNat * 4)).block, (ad407.add ((x6_1).toNat * 4)).off + 1, none⟩ = some (.int .i64 ((rd_T87 l0 x6_1).f1)) ∧ w'.cell? ⟨(ad407.add ((x6_1).toNat * 4)).block, (ad407.add ((x6_1).toNat * 4)).off + 2, none⟩ = some (.int .i64 ((rd_T87 l0 x6_1).f2)) ∧ w'.cell? ⟨(ad407.add ((x6_1).toNat * 4)).block, (ad407.add ((x6_1).toNat * 4)).off + 3, none⟩ = some (.int .i64 ((rd_T87 l0 x6_1).f3))) [] (bv 13 0) incunableref04_Bits.tab12 incunableref04_Bits.bits12 ⟨(hcB HB.out hw413_0), (hcB HB.out hw413_1), (hcB HB.out hw413_2), (hcB HB.out hw413_3)⟩ (fun hHeld HT_ HW_ => ?_)
        generalize w58.drew = w59 at BK399 HB hx413_0 hx413_1 hx413_2 hx413_3 hHeld ⊢
        refine pu 0 67 (bv 13 1) HT_ rfl rfl ?_
        refine pu 1 68 (bv 13 3) HT_ rfl rfl ?_
        refine pu 3 70 (bv 13 11) HT_ rfl rfl ?_
        refine pu 4 71 (bv 13 27) HT_ rfl rfl ?_
        refine pu 5 72 (bv 13 59) HT_ rfl rfl ?_
        refine pu 6 73 (bv 13 123) HT_ rfl rfl ?_
        refine pu 7 74 (bv 13 251) HT_ rfl rfl ?_
        refine tk 8 75 (bv 13 507) HT_ HW_ hHeld rfl rfl (by rintro w' ⟨s0, s1, s2, s3⟩; exact yl) ?_
        refine one_ (i := 2) (N := some 69) (bv 13 511) rfl rfl (one_of HT_.out (by kernel_rfl)) (by decide) (fun K hK => ?_)
        refine gK Tryd.func62 rfl #[.slice (some ad407) l0.length c0, .int .i64 x6_1] rfl rfl ?_
        with_reducible refine (incunableref04_Code.calls k1 _ _ l0 x6_1 t410 _ ?side1 ?side2 A54.out).mono ?_
        (case side1 => exact cU (Kd.C_below HR0.out HB.out))
        (case side2 => exact HC0.out)
        rintro e w60 ⟨v411, rfl, ho0, hb⟩
        refine ⟨_, rfl, ?_⟩
        have n_ := aC (Kd.R_lower ho0 bz) (aC (blk_below (bU BK399.out) hb) (aE (bs hb)))
        clear BK399 HB
        obtain ⟨HO412, BK399, HB⟩ := n_
        (try clear hb)
        (try clear hb2)
        (try clear hk)
        (try clear hi)
        (try clear ho0)
        refine hK.out _ _ ⟨(hcB HB.out hw413_0), (hcB HB.out hw413_1), (hcB HB.out hw413_2), (hcB HB.out hw413_3)⟩ (fun hHeld => ?_)
        clear hK K
        refine nm (some 69) ?_
        refine one_ (i := 9) (N := some 76) (bv 13 1023) rfl rfl (one_of HT_.out (by kernel_rfl)) (by decide) (fun K hK => ?_)
        refine gK Tryd.func63 rfl #[.int .i64 t408, .int .i64 ((rd_T87 l0 x6_1).f1)] rfl rfl ?_
        with_reducible refine (incunableref04_digits.calls k1 t408 ((rd_T87 l0 x6_1).f1) t414 _ A55.out).mono ?_
        rintro e w61 ⟨v415, rfl, ho0, hb⟩
        refine ⟨_, rfl, ?_⟩
        have n_ := aC (Kd.R_elder' (rU HO412.out) (Kd.R_base ho0) hb) (aC (Kd.R_lower (Kd.R_new' ho0 (Kd.R_lt (rU HO412.out))) bz) (aC (blk_below (bU BK399.out) hb) (aE (bs hb))))
        clear HO412 BK399 HB
        obtain ⟨HO412, HO416, BK399, HB⟩ := n_
        (try clear hb)
        (try clear hb2)
        (try clear hk)
        (try clear hi)
        (try clear ho0)
        obtain ⟨Ao63, co63, eo63⟩ := Kd.R_slice HO416.out
        (first | subst eo63 | (injection eo63 with f1_ f2_ f3_; have f4_ := f1_.symm; have f5_ := f3_.symm; clear f1_ f2_ f3_; subst f4_; subst f5_))
        refine hK.out _ _ ⟨(hcB HB.out hw413_0), (hcB HB.out hw413_1), (hcB HB.out hw413_2), (hcB HB.out hw413_3)⟩ (fun hHeld => ?_)
        clear hK K
        refine nm (some 76) ?_
        refine one_ (i := 10) (N := some 77) (bv 13 2047) rfl rfl (one_of HT_.out (by kernel_rfl)) (by decide) (fun K hK => ?_)
        refine Kd.R_append_rows_step (Kd.int .u8) (w0 := w) w.heap.size (by rfl) (.tmp 69) (.tmp 76) 22 5 (.int .u8 0) 1 rfl Tryd.underlying22 info5 rfl (by decide) (by omega) v411 t410 t414 _ _ _ (fun k_ => some k_ ≠ (.slice Ao63 t414.length co63 : Value).ownBlock) (fun _ => False) rfl rfl ?aO ?aR (fun _ _ h => h) (fun _ h => h.elim) ?aF ?aB ?aS ?aL ?_
        (case aR => repeat (first | exact (Kd.R_reads' HO416.out).2.2 | (with_reducible refine Kd.C_alloc ?_ _) | (with_reducible refine Kd.C_drewN ?_ _) | (with_reducible refine Kd.C_drew ?_)))
        (case aB => exact bl)
        (case aF => exact (fun k_ hk => Kd.fresh' (Kd.R_lt (rU HO416.out)) k_ hk))
        (case aO => exact (rU (Kd.R_mono HO412.out (fun _ hk => hk.2))))
        (case aS => exact bz)
        (case aL => have := LMc56.out; omega)
        intro v418 w62 ho hb hg hat
        rw [← Ny417.out] at ho
        have n_ := aC (blk_grown (bU BK399.out) hg (Kd.R_ne HO412.out BK399.out (by decide))) (aC (Kd.R_after (ok := (fun _ => True)) (rU HO416.out) hg hat) (aC hb (aE ho)))
        clear BK399 HO416 HB HO412
        obtain ⟨BK399, HO416, HB, HO419⟩ := n_
        clear ho hb hg hat
        refine hK.out _ _ ⟨(hcB HB.out hw413_0), (hcB HB.out hw413_1), (hcB HB.out hw413_2), (hcB HB.out hw413_3)⟩ (fun hHeld => ?_)
        clear hK K
        refine nm (some 77) ?_
        refine pu 11 4 (bv 13 4095) HT_ rfl rfl ?_
        refine pu 12 5 (bv 13 8191) HT_ rfl rfl ?_
        refine done_ (done_of HT_.out (by kernel_rfl)) ?_
        try go_wp2
        go_ret2
        exact ⟨_, re, rU (Kd.R_mono HO419.out (fun _ hk => trivial)), bl⟩
       ·rw [if_neg c56] at H
        exact absurd H (by simp)
      ·rw [if_neg c52] at H
       exact absurd H (by simp)
     ·rw [if_neg c51] at H
      exact absurd H (by simp)

end Go.Proofs.YtknclbodinfbeaaDoor.PRunsCodes
