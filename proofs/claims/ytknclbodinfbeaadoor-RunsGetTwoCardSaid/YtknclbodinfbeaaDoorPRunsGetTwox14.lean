-- Written by a program of this session (wip/tools/myprint.py) over the kit's print. Not trusted: Lean checks it.
import Derived.Test.YtknclbodinfbeaaDoorPRunsGetTwox0
import Derived.Test.YtknclbodinfbeaaDoorPRunsGetTwox13
namespace Go.Proofs.YtknclbodinfbeaaDoor.PRunsGetTwo
open Go.RowKit Go.Proofs.YtknclbodinfbeaaDoorW.PrintWords Go.Proofs.YtknclbodinfbeaaDoorW.PrintLast Go.Proofs.YtknclbodinfbeaaDoorW.PrintMore
attribute [local go_sem] max2_int min2_int max_two min_two max_three min_three max_four min_four   -- for this text's walks alone
set_option linter.unusedVariables false
set_option linter.unusedSimpArgs false
def incunableref04_Code.l0 : Nat → List (S87) → Int → Int → List (S87) → Int → Int → Option (List Int)
 | 0, _, _, _, _, _, _ => none
 | k + 1, x0, x1, x5, x8, x9, x10 => if x10 < x9 then (if 0 ≤ x10 then (if x10 < (x8.length : Int) then ((incunableref04_used.f ((rd_T87 x8 x10).f0) ((rd_T87 x8 x10).f1) ((rd_T87 x8 x10).f2) ((rd_T87 x8 x10).f3)).bind fun t430 => (if t430 = true then (if 0 ≤ x1 then (if x1 < (x0.length : Int) then (if ((rd_T87 x8 x10).f0) < ((rd_T87 x0 x1).f0) then (if 0 ≤ (wrap64 (15 - ((rd_T87 x8 x10).f0))) then (incunableref04_Code.l0 k x0 x1 (wrap64 (x5 + (shl .i64 1 (wrap64 (15 - ((rd_T87 x8 x10).f0)))))) x8 x9 (wrap64 (x10 + 1))) else (none)) else (if ((rd_T87 x8 x10).f0) = ((rd_T87 x0 x1).f0) then (if x10 < x1 then (if 0 ≤ (wrap64 (15 - ((rd_T87 x8 x10).f0))) then (incunableref04_Code.l0 k x0 x1 (wrap64 (x5 + (shl .i64 1 (wrap64 (15 - ((rd_T87 x8 x10).f0)))))) x8 x9 (wrap64 (x10 + 1))) else (none)) else (incunableref04_Code.l0 k x0 x1 x5 x8 x9 (wrap64 (x10 + 1)))) else (incunableref04_Code.l0 k x0 x1 x5 x8 x9 (wrap64 (x10 + 1))))) else (none)) else (none)) else (incunableref04_Code.l0 k x0 x1 x5 x8 x9 (wrap64 (x10 + 1))))) else (none)) else (none)) else (if 0 ≤ x1 then (if x1 < (x0.length : Int) then (if 0 ≤ (wrap64 (15 - ((rd_T87 x0 x1).f0))) then ((incunableref04_digits.f k (shr .i64 x5 (wrap64 (15 - ((rd_T87 x0 x1).f0)))) ((rd_T87 x0 x1).f0)).bind fun t435 => (some t435)) else (none)) else (none)) else (none))
def incunableref04_Code.f (k : Nat) (l0 : List (S87)) (a1 : Int) : Option (List Int) := incunableref04_Code.l0 k l0 a1 0 l0 (l0.length : Int) 0
theorem incunableref04_Code.mono_l : ∀ k, (∀ y0 y1 y2 y3 y4 y5, LeO (incunableref04_Code.l0 k y0 y1 y2 y3 y4 y5) (incunableref04_Code.l0 (k + 1) y0 y1 y2 y3 y4 y5))
 | 0 => fun _ _ _ _ _ _ r h => by simp [incunableref04_Code.l0] at h
 | k + 1 => by
  have ih0 := incunableref04_Code.mono_l k
  ·intro y0 y1 y2 y3 y4 y5
   unfold incunableref04_Code.l0
   repeat' first
   | (with_reducible exact ih0 _ _ _ _ _ _)
   | (with_reducible exact incunableref04_digits.mono _ _ _)
   | (with_reducible first | exact LeO.refl _ | exact LeO.none _ | refine LeO.ite ?_ ?_ | refine LeO.bind ?_ (fun _ => ?_))
   | exact ih0 _ _ _ _ _ _
   | exact incunableref04_digits.mono _ _ _
   | exact LeO.none _ | refine LeO.ite ?_ ?_ | refine LeO.bind ?_ (fun _ => ?_)
theorem incunableref04_Code.mono : ∀ a0 a1 k, LeO (incunableref04_Code.f k a0 a1) (incunableref04_Code.f (k + 1) a0 a1) := by
 intro a0 a1 k
 have ih0 := incunableref04_Code.mono_l k
 unfold incunableref04_Code.f
 repeat' first
   | (with_reducible exact ih0 _ _ _ _ _ _)
   | (with_reducible exact incunableref04_digits.mono _ _ _)
   | (with_reducible first | exact LeO.refl _ | exact LeO.none _ | refine LeO.ite ?_ ?_ | refine LeO.bind ?_ (fun _ => ?_))
   | exact ih0 _ _ _ _ _ _
   | exact incunableref04_digits.mono _ _ _
   | exact LeO.none _ | refine LeO.ite ?_ ?_ | refine LeO.bind ?_ (fun _ => ?_)
def incunableref04_Code.T5 : Bool × List (List Nat × List Nat) := (true, [([], []), ([0], [0]), ([1, 1], [1]), ([2], [2]), ([3, 2], [2, 3]), ([2], [2]), ([2], [2]), ([5, 6, 2], [2, 5, 6]), ([7, 2], [2, 7]), ([8, 2], [2, 8]), ([4, 9, 2], [2, 4, 9]), ([10, 2, 2], [2, 10]), ([11], [11]), ([12, 11], [11, 12]), ([11], [11]), ([11], [11]), ([14, 15, 11], [11, 14, 15]), ([16, 11], [11, 16]), ([17, 11], [11, 17]), ([13, 18, 11], [11, 13, 18]), ([19, 11, 11], [11, 19]), ([20], [20]), ([20], [20]), ([21, 22, 20], [20, 21, 22]), ([20, 23, 11], [11, 20, 23]), ([11, 24, 2], [2, 11, 24]), ([2, 25], [2, 25])])
def incunableref04_Code.B5 : List Nat := [0, 1, 3, 7, 15, 7, 7, 103, 231, 487, 1023, 2047, 4095, 8191, 4095, 4095, 53247, 118783, 249855, 524287, 1048575, 2097151, 2097151, 8388607, 16777215, 33554431, 67108863]
theorem incunableref04_Code.tab5 : rtab .any (opsOf Tryd.f62 5) = incunableref04_Code.T5 := by kernel_rfl
theorem incunableref04_Code.bits5 : waitsOk incunableref04_Code.T5.2 incunableref04_Code.B5 = true := by kernel_rfl
def incunableref04_Code.T8 : Bool × List (List Nat × List Nat) := (true, [([], []), ([], []), ([], []), ([1, 2], [1, 2]), ([3], [3]), ([4], [4]), ([5], [5]), ([0, 6], [0, 6]), ([], []), ([], []), ([8, 9], [8, 9]), ([10], [10]), ([11], [11]), ([7, 12], [7, 12]), ([13, 13, 0, 1, 2, 3, 4, 5, 6, 7, 8, 9, 10, 11, 12, 13], [13])])
def incunableref04_Code.B8 : List Nat := [0, 0, 0, 6, 14, 30, 62, 127, 0, 0, 768, 1792, 3840, 8191, 16383]
theorem incunableref04_Code.tab8 : rtab .any (opsOf Tryd.f62 8) = incunableref04_Code.T8 := by kernel_rfl
theorem incunableref04_Code.bits8 : waitsOk incunableref04_Code.T8.2 incunableref04_Code.B8 = true := by kernel_rfl
set_option maxHeartbeats 8000000 in
set_option maxRecDepth 100000 in
theorem incunableref04_Code.calls (k : Nat) (A0 : Option Addr) (c0 : Nat) (l0 : List (S87)) (a1 : Int) (r : List Int) (w : World) (hr0 : Kd.C k87 w A0 l0.length l0) (hc0 : l0.length ≤ c0) (h : incunableref04_Code.f k l0 a1 = some r) :
  Calls Tryd.prog 62 #[.slice A0 l0.length c0, .int .i64 a1] w fun e w' => ∃ v0_ : Value, e = .returned (v0_) ∧ Kd.R (Kd.int .u8) 5 w' w.heap.size (fun _ => True) v0_ r ∧ Below w.heap.size w w' := by
 have hu87 := Tryd.underlying87
 have HR0 := Aside0.mk hr0
 have HC0 := Aside0.mk hc0
 clear hr0 hc0
 have HB := Aside0.mk (Below.refl w.heap.size w)
 have H : (incunableref04_Code.l0 k l0 a1 0 l0 (l0.length : Int) 0) = some r := h
 clear h
 have H' := Aside0.mk H
 clear H
 go_enter Tryd.func62, Tryd.ntmps62
 go_wp2
 go_loopg [5, 10] k (fun kq v5 v10 w' => ∃ (x5_1 : Int) (x10_1 : Int), v5 = .int .i64 x5_1 ∧ v10 = .int .i64 x10_1 ∧ Aside0 (incunableref04_Code.l0 kq l0 a1 x5_1 l0 (l0.length : Int) x10_1 = some r) ∧ Aside0 (kq ≤ k) ∧ Aside0 (Below w.heap.size w w'))
 case atStart => exact ⟨(0), (0), rq, rq, H', ⟨Nat.le_refl _⟩, ⟨bl⟩⟩
 case round =>
  clear H'
  obtain ⟨x5_1, x10_1, rfl, rfl, HA, HK1, HB⟩ := hrel
  cases gk with
  | zero => exact absurd HA.out (by simp [incunableref04_Code.l0])
  | succ k1 =>
   have H := HA.out
   clear HA
   simp only [incunableref04_Code.l0] at H
   by_cases c3 : x10_1 < (l0.length : Int)
   ·rw [if_pos c3] at H
    have c3b0 := decide_eq_true c3
    clear c3
    by_cases c4 : 0 ≤ x10_1
    ·rw [if_pos c4] at H
     have c4b0 := decide_eq_true c4
     clear c4
     by_cases c5 : x10_1 < (l0.length : Int)
     ·rw [if_pos c5] at H
      have c5b0 := decide_eq_true c5
      clear c5
      replace H := Option.bind_eq_some_iff.mp H
      obtain ⟨t430, A60, H⟩ := H
      replace H : (if t430 = true then (if 0 ≤ a1 then (if a1 < (l0.length : Int) then (if ((rd_T87 l0 x10_1).f0) < ((rd_T87 l0 a1).f0) then (if 0 ≤ (wrap64 (15 - ((rd_T87 l0 x10_1).f0))) then (incunableref04_Code.l0 k1 l0 a1 (wrap64 (x5_1 + (shl .i64 1 (wrap64 (15 - ((rd_T87 l0 x10_1).f0)))))) l0 (l0.length : Int) (wrap64 (x10_1 + 1))) else (none)) else (if ((rd_T87 l0 x10_1).f0) = ((rd_T87 l0 a1).f0) then (if x10_1 < a1 then (if 0 ≤ (wrap64 (15 - ((rd_T87 l0 x10_1).f0))) then (incunableref04_Code.l0 k1 l0 a1 (wrap64 (x5_1 + (shl .i64 1 (wrap64 (15 - ((rd_T87 l0 x10_1).f0)))))) l0 (l0.length : Int) (wrap64 (x10_1 + 1))) else (none)) else (incunableref04_Code.l0 k1 l0 a1 x5_1 l0 (l0.length : Int) (wrap64 (x10_1 + 1)))) else (incunableref04_Code.l0 k1 l0 a1 x5_1 l0 (l0.length : Int) (wrap64 (x10_1 + 1))))) else (none)) else (none)) else (incunableref04_Code.l0 k1 l0 a1 x5_1 l0 (l0.length : Int) (wrap64 (x10_1 + 1)))) = some r := H
      have A6 := Aside0.mk A60
      clear A60
      by_cases c7 : t430 = true
      ·subst c7
       have H1 : (if 0 ≤ a1 then (if a1 < (l0.length : Int) then (if ((rd_T87 l0 x10_1).f0) < ((rd_T87 l0 a1).f0) then (if 0 ≤ (wrap64 (15 - ((rd_T87 l0 x10_1).f0))) then (incunableref04_Code.l0 k1 l0 a1 (wrap64 (x5_1 + (shl .i64 1 (wrap64 (15 - ((rd_T87 l0 x10_1).f0)))))) l0 (l0.length : Int) (wrap64 (x10_1 + 1))) else (none)) else (if ((rd_T87 l0 x10_1).f0) = ((rd_T87 l0 a1).f0) then (if x10_1 < a1 then (if 0 ≤ (wrap64 (15 - ((rd_T87 l0 x10_1).f0))) then (incunableref04_Code.l0 k1 l0 a1 (wrap64 (x5_1 + (shl .i64 1 (wrap64 (15 - ((rd_T87 l0 x10_1).f0)))))) l0 (l0.length : Int) (wrap64 (x10_1 + 1))) else (none)) else (incunableref04_Code.l0 k1 l0 a1 x5_1 l0 (l0.length : Int) (wrap64 (x10_1 + 1)))) else (incunableref04_Code.l0 k1 l0 a1 x5_1 l0 (l0.length : Int) (wrap64 (x10_1 + 1))))) else (none)) else (none)) = some r := by rw [if_pos rfl] at H; exact H
       clear H
       have H := H1
       clear H1
       by_cases c8 : 0 ≤ a1
       ·rw [if_pos c8] at H
        have c8b0 := decide_eq_true c8
        clear c8
        by_cases c9 : a1 < (l0.length : Int)
        ·rw [if_pos c9] at H
         have c9b0 := decide_eq_true c9
         clear c9
         by_cases c10 : ((rd_T87 l0 x10_1).f0) < ((rd_T87 l0 a1).f0)
         ·rw [if_pos c10] at H
          have c10b0 := decide_eq_true c10
          clear c10
          obtain ⟨ji11, hji11⟩ : ∃ j_ : Int, (wrap64 (15 - ((rd_T87 l0 x10_1).f0))) = j_ := ⟨_, rfl⟩
          replace H : (if 0 ≤ (ji11) then (incunableref04_Code.l0 k1 l0 a1 (wrap64 (x5_1 + (shl .i64 1 (ji11)))) l0 (l0.length : Int) (wrap64 (x10_1 + 1))) else (none)) = some r := by first | (rw [hji11] at H; exact H) | (simp only [hji11] at H ⊢; exact H)
          (try rw [hji11] at A6)
          have hji11w : (IntKind.i64.wrap (15 - ((rd_T87 l0 x10_1).f0))) = ji11 := (i64_w _).trans hji11
          by_cases c12 : 0 ≤ (ji11)
          ·rw [if_pos c12] at H
           have c12b0 := eq_true c12
           have c12b1 := decide_eq_true c12
           clear c12
           obtain ⟨ji13, hji13⟩ : ∃ j_ : Int, (shl .i64 1 (ji11)) = j_ := ⟨_, rfl⟩
           replace H : (incunableref04_Code.l0 k1 l0 a1 (wrap64 (x5_1 + (ji13))) l0 (l0.length : Int) (wrap64 (x10_1 + 1))) = some r := by first | (rw [hji13] at H; exact H) | (simp only [hji13] at H ⊢; exact H)
           (try rw [hji13] at A6)
           have hji13_ : (IntKind.i64.wrap (1 * 2 ^ min (ji11).toNat 64)) = ji13 := hji13
           have hji13z : (ji11) ≤ 64 → (IntKind.i64.wrap (1 * 2 ^ (ji11).toNat)) = ji13 := shl_small hji13
           have hji13u : (IntKind.i64.wrap (2 ^ min (ji11).toNat 64)) = ji13 := by have h_ := hji13_; rw [Int.one_mul] at h_; exact h_
           have hji13v : (ji11) ≤ 64 → (IntKind.i64.wrap (2 ^ (ji11).toNat)) = ji13 := fun hle_ => by have h_ := hji13z hle_; rw [Int.one_mul] at h_; exact h_
           have hji13y : (wrap64 (1 * 2 ^ min (ji11).toNat 64)) = ji13 := (i64_w _).symm.trans hji13_
           have hji13x : (ji11) ≤ 64 → (wrap64 (1 * 2 ^ (ji11).toNat)) = ji13 := fun h_ => (i64_w _).symm.trans (hji13z h_)
           have H' := Aside0.mk H
           clear H
           have p428 : 0 ≤ (x10_1 : Int) := dt
           have q428 : x10_1 < (l0.length : Int) := dt
           obtain ⟨ad428, e428, hx428_0, hx428_1, hx428_2, hx428_3⟩ := at_T87 HR0.out x10_1 p428 q428
           cases e428
           replace hx428_0 := hcB HB.out hx428_0
           replace hx428_1 := hcB HB.out hx428_1
           replace hx428_2 := hcB HB.out hx428_2
           replace hx428_3 := hcB HB.out hx428_3
           replace p428 := eq_true p428
           replace q428 := eq_true q428
           try go_wp2_with (first | ((with_reducible refine gd 7 rfl ?_); refine bx 7 #[.int .i64 0, .int .i64 0, .int .i64 0, .int .i64 0] 87 rfl rfl ?_; intro gb429 hg w14 hbox hb; have n_ := aC (bs hb) (aC hbox (aC (gz hg) (aE (gz hg)))); clear HB; obtain ⟨HB, BK429, GW429, GE429⟩ := n_; clear hb hbox hg; obtain ⟨hcz15_0, hcz15_1, hcz15_2, hcz15_3, hfz15_0, hfz15_1, hfz15_2, hfz15_3⟩ := cz4f BK429.out))
           have n0_ : Aside0 (((((w14.setCell ⟨gb429, 0, none⟩ (.int .i64 ((rd_T87 l0 x10_1).f0))).setCell ⟨gb429, 1, none⟩ (.int .i64 ((rd_T87 l0 x10_1).f1))).setCell ⟨gb429, 2, none⟩ (.int .i64 ((rd_T87 l0 x10_1).f2))).setCell ⟨gb429, 3, none⟩ (.int .i64 ((rd_T87 l0 x10_1).f3))).heap[gb429]? = some (.cells #[.int .i64 ((rd_T87 l0 x10_1).f0), .int .i64 ((rd_T87 l0 x10_1).f1), .int .i64 ((rd_T87 l0 x10_1).f2), .int .i64 ((rd_T87 l0 x10_1).f3)] 87 (0, 0))) := ⟨by (with_reducible repeat (first | refine blk_drewN ?_ _ | refine blk_drew ?_ | refine blk_alloc ?_ _)); refine blk_put (cs := #[.int .i64 ((rd_T87 l0 x10_1).f0), .int .i64 ((rd_T87 l0 x10_1).f1), .int .i64 ((rd_T87 l0 x10_1).f2), .int .i64 0]) ?_ 3 _ rfl; (with_reducible repeat (first | refine blk_drewN ?_ _ | refine blk_drew ?_ | refine blk_alloc ?_ _)); refine blk_put (cs := #[.int .i64 ((rd_T87 l0 x10_1).f0), .int .i64 ((rd_T87 l0 x10_1).f1), .int .i64 0, .int .i64 0]) ?_ 2 _ rfl; (with_reducible repeat (first | refine blk_drewN ?_ _ | refine blk_drew ?_ | refine blk_alloc ?_ _)); refine blk_put (cs := #[.int .i64 ((rd_T87 l0 x10_1).f0), .int .i64 0, .int .i64 0, .int .i64 0]) ?_ 1 _ rfl; (with_reducible repeat (first | refine blk_drewN ?_ _ | refine blk_drew ?_ | refine blk_alloc ?_ _)); refine blk_put (cs := #[.int .i64 0, .int .i64 0, .int .i64 0, .int .i64 0]) ?_ 0 _ rfl; (with_reducible repeat (first | refine blk_drewN ?_ _ | refine blk_drew ?_ | refine blk_alloc ?_ _)); exact BK429.out⟩
           have n1_ : Aside0 (Below w.heap.size w ((((w14.setCell ⟨gb429, 0, none⟩ (.int .i64 ((rd_T87 l0 x10_1).f0))).setCell ⟨gb429, 1, none⟩ (.int .i64 ((rd_T87 l0 x10_1).f1))).setCell ⟨gb429, 2, none⟩ (.int .i64 ((rd_T87 l0 x10_1).f2))).setCell ⟨gb429, 3, none⟩ (.int .i64 ((rd_T87 l0 x10_1).f3)))) := ⟨bl⟩
           (try clear BK429)
           (try clear HB)
           generalize ((((w14.setCell ⟨gb429, 0, none⟩ (.int .i64 ((rd_T87 l0 x10_1).f0))).setCell ⟨gb429, 1, none⟩ (.int .i64 ((rd_T87 l0 x10_1).f1))).setCell ⟨gb429, 2, none⟩ (.int .i64 ((rd_T87 l0 x10_1).f2))).setCell ⟨gb429, 3, none⟩ (.int .i64 ((rd_T87 l0 x10_1).f3))) = w16 at n0_ n1_ ⊢
           have BK429 := n0_
           have HB := n1_
           clear n0_ n1_
           have n_ := aC (blk_drew BK429.out) (aE (below_drew1 HB.out))
           clear BK429 HB
           obtain ⟨BK429, HB⟩ := n_
           have p431 : 0 ≤ (a1 : Int) := dt
           have q431 : a1 < (l0.length : Int) := dt
           obtain ⟨ad431, e431, hx431_0, hx431_1, hx431_2, hx431_3⟩ := at_T87 HR0.out a1 p431 q431
           have hw431_3 := hx431_3
           have hw431_2 := hx431_2
           have hw431_1 := hx431_1
           have hw431_0 := hx431_0
           obtain rfl : ad428 = ad431 := (by injection e431)
           replace hx431_0 := hcB HB.out hx431_0
           replace hx431_1 := hcB HB.out hx431_1
           replace hx431_2 := hcB HB.out hx431_2
           replace hx431_3 := hcB HB.out hx431_3
           replace p431 := eq_true p431
           replace q431 := eq_true q431
           refine st 27 (fun w' => w'.cell? ⟨gb429, 0, none⟩ = some (.int .i64 ((rd_T87 l0 x10_1).f0)) ∧ w'.cell? ⟨gb429, 1, none⟩ = some (.int .i64 ((rd_T87 l0 x10_1).f1)) ∧ w'.cell? ⟨gb429, 2, none⟩ = some (.int .i64 ((rd_T87 l0 x10_1).f2)) ∧ w'.cell? ⟨gb429, 3, none⟩ = some (.int .i64 ((rd_T87 l0 x10_1).f3)) ∧ w'.cell? (ad428.add ((a1).toNat * 4)) = some (.int .i64 ((rd_T87 l0 a1).f0)) ∧ w'.cell? ⟨(ad428.add ((a1).toNat * 4)).block, (ad428.add ((a1).toNat * 4)).off + 1, none⟩ = some (.int .i64 ((rd_T87 l0 a1).f1)) ∧ w'.cell? ⟨(ad428.add ((a1).toNat * 4)).block, (ad428.add ((a1).toNat * 4)).off + 2, none⟩ = some (.int .i64 ((rd_T87 l0 a1).f2)) ∧ w'.cell? ⟨(ad428.add ((a1).toNat * 4)).block, (ad428.add ((a1).toNat * 4)).off + 3, none⟩ = some (.int .i64 ((rd_T87 l0 a1).f3))) [] (bv 27 0) incunableref04_Code.tab5 incunableref04_Code.bits5 ⟨kc0 BK429.out, kc1 BK429.out, kc2 BK429.out, kc3 BK429.out, (hcB HB.out hw431_0), (hcB HB.out hw431_1), (hcB HB.out hw431_2), (hcB HB.out hw431_3)⟩ (fun hHeld HT_ HW_ => ?_)
           generalize w16.drew = w17 at BK429 HB hx431_0 hx431_1 hx431_2 hx431_3 hHeld ⊢
           refine tk 0 15 (bv 27 1) HT_ HW_ hHeld rfl rfl (by rintro w' ⟨s0, s1, s2, s3, s4, s5, s6, s7⟩; exact yl) ?_
           refine one_ (i := 1) (N := some 16) (bv 27 3) rfl rfl (one_of HT_.out (by kernel_rfl)) (by decide) (fun K hK => ?_)
           refine gK Tryd.func61 rfl #[.agg #[.int .i64 ((rd_T87 l0 x10_1).f0), .int .i64 ((rd_T87 l0 x10_1).f1), .int .i64 ((rd_T87 l0 x10_1).f2), .int .i64 ((rd_T87 l0 x10_1).f3)]] rfl rfl ?_
           with_reducible refine (incunableref04_used.calls ((rd_T87 l0 x10_1).f0) ((rd_T87 l0 x10_1).f1) ((rd_T87 l0 x10_1).f2) ((rd_T87 l0 x10_1).f3) true _ A6.out).mono ?_
           rintro e w18 ⟨rfl, hb⟩
           refine ⟨_, rfl, ?_⟩
           have n_ := aC (blk_below (g := gb429) (o := .cells #[.int .i64 ((rd_T87 l0 x10_1).f0), .int .i64 ((rd_T87 l0 x10_1).f1), .int .i64 ((rd_T87 l0 x10_1).f2), .int .i64 ((rd_T87 l0 x10_1).f3)] 87 (0, 0)) (bU BK429.out) hb) (aE (bs hb))
           clear BK429 HB
           obtain ⟨BK429, HB⟩ := n_
           (try clear hb)
           (try clear hb2)
           (try clear hk)
           (try clear hi)
           refine hK.out _ _ ⟨kc0 BK429.out, kc1 BK429.out, kc2 BK429.out, kc3 BK429.out, (hcB HB.out hw431_0), (hcB HB.out hw431_1), (hcB HB.out hw431_2), (hcB HB.out hw431_3)⟩ (fun hHeld => ?_)
           clear hK K
           refine nm (some 16) ?_
           refine pu 2 17 (bv 27 7) HT_ rfl rfl ?_
           refine pu 3 18 (bv 27 15) HT_ rfl rfl ?_
           refine pu 5 20 (bv 27 47) HT_ rfl rfl ?_
           refine pu 6 21 (bv 27 111) HT_ rfl rfl ?_
           refine pu 7 22 (bv 27 239) HT_ rfl rfl ?_
           refine pu 8 23 (bv 27 495) HT_ rfl rfl ?_
           refine tk 4 19 (bv 27 511) HT_ HW_ hHeld rfl rfl (by rintro w' ⟨s0, s1, s2, s3, s4, s5, s6, s7⟩; exact yl) ?_
           refine tk 9 24 (bv 27 1023) HT_ HW_ hHeld rfl rfl (by rintro w' ⟨s0, s1, s2, s3, s4, s5, s6, s7⟩; exact yl) ?_
           refine pu 10 25 (bv 27 2047) HT_ rfl rfl ?_
           refine pu 11 26 (bv 27 4095) HT_ rfl rfl ?_
           refine pn 12 27 (bv 27 8191) HT_ rfl rfl ?_
           refine pn 13 28 (bv 27 16383) HT_ rfl rfl ?_
           refine pn 14 29 (bv 27 32767) HT_ rfl rfl ?_
           refine pn 15 30 (bv 27 65535) HT_ rfl rfl ?_
           refine pn 16 31 (bv 27 131071) HT_ rfl rfl ?_
           refine pn 17 32 (bv 27 262143) HT_ rfl rfl ?_
           refine pn 18 33 (bv 27 524287) HT_ rfl rfl ?_
           refine pn 19 34 (bv 27 1048575) HT_ rfl rfl ?_
           refine pn 20 35 (bv 27 2097151) HT_ rfl rfl ?_
           refine pn 21 36 (bv 27 4194303) HT_ rfl rfl ?_
           refine pn 22 37 (bv 27 8388607) HT_ rfl rfl ?_
           refine pn 23 38 (bv 27 16777215) HT_ rfl rfl ?_
           refine pn 24 39 (bv 27 33554431) HT_ rfl rfl ?_
           refine pu 25 40 (bv 27 67108863) HT_ rfl rfl ?_
           refine pu 26 41 (bv 27 134217727) HT_ rfl rfl ?_
           refine done_ (done_of HT_.out (by kernel_rfl)) ?_
           obtain ⟨hcz19_0, hcz19_1, hcz19_2, hcz19_3, hfz19_0, hfz19_1, hfz19_2, hfz19_3⟩ := cz4f BK429.out
           try go_wp2
           go_roundg k1
           case measure => have := HK1.out; omega
           case rel => exact ⟨(wrap64 (x5_1 + (ji13))), (wrap64 (x10_1 + 1)), (by first | rfl | (simp; done) | (simp only [← hji13] <;> (first | rfl | simp)) | (simp [*]; done)), rq, H', ⟨by have := HK1.out; omega⟩, ⟨bl⟩⟩
          ·rw [if_neg c12] at H
           exact absurd H (by simp)
         ·rw [if_neg c10] at H
          have c10b0 := decide_eq_false c10
          clear c10
          by_cases c20 : ((rd_T87 l0 x10_1).f0) = ((rd_T87 l0 a1).f0)
          ·rw [if_pos c20] at H
           have c20b0 := beq_iff_eq.mpr c20
           have c20b1 := bne_eq_false_iff_eq.mpr c20
           clear c20
           by_cases c21 : x10_1 < a1
           ·rw [if_pos c21] at H
            have c21b0 := decide_eq_true c21
            clear c21
            obtain ⟨ji22, hji22⟩ : ∃ j_ : Int, (wrap64 (15 - ((rd_T87 l0 x10_1).f0))) = j_ := ⟨_, rfl⟩
            replace H : (if 0 ≤ (ji22) then (incunableref04_Code.l0 k1 l0 a1 (wrap64 (x5_1 + (shl .i64 1 (ji22)))) l0 (l0.length : Int) (wrap64 (x10_1 + 1))) else (none)) = some r := by first | (rw [hji22] at H; exact H) | (simp only [hji22] at H ⊢; exact H)
            (try rw [hji22] at A6)
            have hji22w : (IntKind.i64.wrap (15 - ((rd_T87 l0 x10_1).f0))) = ji22 := (i64_w _).trans hji22
            by_cases c23 : 0 ≤ (ji22)
            ·rw [if_pos c23] at H
             have c23b0 := eq_true c23
             have c23b1 := decide_eq_true c23
             clear c23
             obtain ⟨ji24, hji24⟩ : ∃ j_ : Int, (shl .i64 1 (ji22)) = j_ := ⟨_, rfl⟩
             replace H : (incunableref04_Code.l0 k1 l0 a1 (wrap64 (x5_1 + (ji24))) l0 (l0.length : Int) (wrap64 (x10_1 + 1))) = some r := by first | (rw [hji24] at H; exact H) | (simp only [hji24] at H ⊢; exact H)
             (try rw [hji24] at A6)
             have hji24_ : (IntKind.i64.wrap (1 * 2 ^ min (ji22).toNat 64)) = ji24 := hji24
             have hji24z : (ji22) ≤ 64 → (IntKind.i64.wrap (1 * 2 ^ (ji22).toNat)) = ji24 := shl_small hji24
             have hji24u : (IntKind.i64.wrap (2 ^ min (ji22).toNat 64)) = ji24 := by have h_ := hji24_; rw [Int.one_mul] at h_; exact h_
             have hji24v : (ji22) ≤ 64 → (IntKind.i64.wrap (2 ^ (ji22).toNat)) = ji24 := fun hle_ => by have h_ := hji24z hle_; rw [Int.one_mul] at h_; exact h_
             have hji24y : (wrap64 (1 * 2 ^ min (ji22).toNat 64)) = ji24 := (i64_w _).symm.trans hji24_
             have hji24x : (ji22) ≤ 64 → (wrap64 (1 * 2 ^ (ji22).toNat)) = ji24 := fun h_ => (i64_w _).symm.trans (hji24z h_)
             have H' := Aside0.mk H
             clear H
             have p428 : 0 ≤ (x10_1 : Int) := dt
             have q428 : x10_1 < (l0.length : Int) := dt
             obtain ⟨ad428, e428, hx428_0, hx428_1, hx428_2, hx428_3⟩ := at_T87 HR0.out x10_1 p428 q428
             cases e428
             replace hx428_0 := hcB HB.out hx428_0
             replace hx428_1 := hcB HB.out hx428_1
             replace hx428_2 := hcB HB.out hx428_2
             replace hx428_3 := hcB HB.out hx428_3
             replace p428 := eq_true p428
             replace q428 := eq_true q428
             try go_wp2_with (first | ((with_reducible refine gd 7 rfl ?_); refine bx 7 #[.int .i64 0, .int .i64 0, .int .i64 0, .int .i64 0] 87 rfl rfl ?_; intro gb429 hg w25 hbox hb; have n_ := aC (bs hb) (aC hbox (aC (gz hg) (aE (gz hg)))); clear HB; obtain ⟨HB, BK429, GW429, GE429⟩ := n_; clear hb hbox hg; obtain ⟨hcz26_0, hcz26_1, hcz26_2, hcz26_3, hfz26_0, hfz26_1, hfz26_2, hfz26_3⟩ := cz4f BK429.out))
             have n0_ : Aside0 (((((w25.setCell ⟨gb429, 0, none⟩ (.int .i64 ((rd_T87 l0 x10_1).f0))).setCell ⟨gb429, 1, none⟩ (.int .i64 ((rd_T87 l0 x10_1).f1))).setCell ⟨gb429, 2, none⟩ (.int .i64 ((rd_T87 l0 x10_1).f2))).setCell ⟨gb429, 3, none⟩ (.int .i64 ((rd_T87 l0 x10_1).f3))).heap[gb429]? = some (.cells #[.int .i64 ((rd_T87 l0 x10_1).f0), .int .i64 ((rd_T87 l0 x10_1).f1), .int .i64 ((rd_T87 l0 x10_1).f2), .int .i64 ((rd_T87 l0 x10_1).f3)] 87 (0, 0))) := ⟨by (with_reducible repeat (first | refine blk_drewN ?_ _ | refine blk_drew ?_ | refine blk_alloc ?_ _)); refine blk_put (cs := #[.int .i64 ((rd_T87 l0 x10_1).f0), .int .i64 ((rd_T87 l0 x10_1).f1), .int .i64 ((rd_T87 l0 x10_1).f2), .int .i64 0]) ?_ 3 _ rfl; (with_reducible repeat (first | refine blk_drewN ?_ _ | refine blk_drew ?_ | refine blk_alloc ?_ _)); refine blk_put (cs := #[.int .i64 ((rd_T87 l0 x10_1).f0), .int .i64 ((rd_T87 l0 x10_1).f1), .int .i64 0, .int .i64 0]) ?_ 2 _ rfl; (with_reducible repeat (first | refine blk_drewN ?_ _ | refine blk_drew ?_ | refine blk_alloc ?_ _)); refine blk_put (cs := #[.int .i64 ((rd_T87 l0 x10_1).f0), .int .i64 0, .int .i64 0, .int .i64 0]) ?_ 1 _ rfl; (with_reducible repeat (first | refine blk_drewN ?_ _ | refine blk_drew ?_ | refine blk_alloc ?_ _)); refine blk_put (cs := #[.int .i64 0, .int .i64 0, .int .i64 0, .int .i64 0]) ?_ 0 _ rfl; (with_reducible repeat (first | refine blk_drewN ?_ _ | refine blk_drew ?_ | refine blk_alloc ?_ _)); exact BK429.out⟩
             have n1_ : Aside0 (Below w.heap.size w ((((w25.setCell ⟨gb429, 0, none⟩ (.int .i64 ((rd_T87 l0 x10_1).f0))).setCell ⟨gb429, 1, none⟩ (.int .i64 ((rd_T87 l0 x10_1).f1))).setCell ⟨gb429, 2, none⟩ (.int .i64 ((rd_T87 l0 x10_1).f2))).setCell ⟨gb429, 3, none⟩ (.int .i64 ((rd_T87 l0 x10_1).f3)))) := ⟨bl⟩
             (try clear BK429)
             (try clear HB)
             generalize ((((w25.setCell ⟨gb429, 0, none⟩ (.int .i64 ((rd_T87 l0 x10_1).f0))).setCell ⟨gb429, 1, none⟩ (.int .i64 ((rd_T87 l0 x10_1).f1))).setCell ⟨gb429, 2, none⟩ (.int .i64 ((rd_T87 l0 x10_1).f2))).setCell ⟨gb429, 3, none⟩ (.int .i64 ((rd_T87 l0 x10_1).f3))) = w27 at n0_ n1_ ⊢
             have BK429 := n0_
             have HB := n1_
             clear n0_ n1_
             have n_ := aC (blk_drew BK429.out) (aE (below_drew1 HB.out))
             clear BK429 HB
             obtain ⟨BK429, HB⟩ := n_
             have p431 : 0 ≤ (a1 : Int) := dt
             have q431 : a1 < (l0.length : Int) := dt
             obtain ⟨ad431, e431, hx431_0, hx431_1, hx431_2, hx431_3⟩ := at_T87 HR0.out a1 p431 q431
             have hw431_3 := hx431_3
             have hw431_2 := hx431_2
             have hw431_1 := hx431_1
             have hw431_0 := hx431_0
             obtain rfl : ad428 = ad431 := (by injection e431)
             replace hx431_0 := hcB HB.out hx431_0
             replace hx431_1 := hcB HB.out hx431_1
             replace hx431_2 := hcB HB.out hx431_2
             replace hx431_3 := hcB HB.out hx431_3
             replace p431 := eq_true p431
             replace q431 := eq_true q431
             have p432 : 0 ≤ (a1 : Int) := dt
             have q432 : a1 < (l0.length : Int) := dt
             obtain ⟨ad432, e432, hx432_0, hx432_1, hx432_2, hx432_3⟩ := at_T87 HR0.out a1 p432 q432
             have hw432_3 := hx432_3
             have hw432_2 := hx432_2
             have hw432_1 := hx432_1
             have hw432_0 := hx432_0
             obtain rfl : ad428 = ad432 := (by injection e432)
             replace hx432_0 := hcB HB.out hx432_0
             replace hx432_1 := hcB HB.out hx432_1
             replace hx432_2 := hcB HB.out hx432_2
             replace hx432_3 := hcB HB.out hx432_3
             replace p432 := eq_true p432
             replace q432 := eq_true q432
             refine st 27 (fun w' => w'.cell? ⟨gb429, 0, none⟩ = some (.int .i64 ((rd_T87 l0 x10_1).f0)) ∧ w'.cell? ⟨gb429, 1, none⟩ = some (.int .i64 ((rd_T87 l0 x10_1).f1)) ∧ w'.cell? ⟨gb429, 2, none⟩ = some (.int .i64 ((rd_T87 l0 x10_1).f2)) ∧ w'.cell? ⟨gb429, 3, none⟩ = some (.int .i64 ((rd_T87 l0 x10_1).f3)) ∧ w'.cell? (ad428.add ((a1).toNat * 4)) = some (.int .i64 ((rd_T87 l0 a1).f0)) ∧ w'.cell? ⟨(ad428.add ((a1).toNat * 4)).block, (ad428.add ((a1).toNat * 4)).off + 1, none⟩ = some (.int .i64 ((rd_T87 l0 a1).f1)) ∧ w'.cell? ⟨(ad428.add ((a1).toNat * 4)).block, (ad428.add ((a1).toNat * 4)).off + 2, none⟩ = some (.int .i64 ((rd_T87 l0 a1).f2)) ∧ w'.cell? ⟨(ad428.add ((a1).toNat * 4)).block, (ad428.add ((a1).toNat * 4)).off + 3, none⟩ = some (.int .i64 ((rd_T87 l0 a1).f3)) ∧ w'.cell? (ad428.add ((a1).toNat * 4)) = some (.int .i64 ((rd_T87 l0 a1).f0)) ∧ w'.cell? ⟨(ad428.add ((a1).toNat * 4)).block, (ad428.add ((a1).toNat * 4)).off + 1, none⟩ = some (.int .i64 ((rd_T87 l0 a1).f1)) ∧ w'.cell? ⟨(ad428.add ((a1).toNat * 4)).block, (ad428.add ((a1).toNat * 4)).off + 2, none⟩ = some (.int .i64 ((rd_T87 l0 a1).f2)) ∧ w'.cell? ⟨(ad428.add ((a1).toNat * 4)).block, (ad428.add ((a1).toNat * 4)).off + 3, none⟩ = some (.int .i64 ((rd_T87 l0 a1).f3))) [] (bv 27 0) incunableref04_Code.tab5 incunableref04_Code.bits5 ⟨kc0 BK429.out, kc1 BK429.out, kc2 BK429.out, kc3 BK429.out, (hcB HB.out hw431_0), (hcB HB.out hw431_1), (hcB HB.out hw431_2), (hcB HB.out hw431_3), (hcB HB.out hw432_0), (hcB HB.out hw432_1), (hcB HB.out hw432_2), (hcB HB.out hw432_3)⟩ (fun hHeld HT_ HW_ => ?_)
             generalize w27.drew = w28 at BK429 HB hx431_0 hx431_1 hx431_2 hx431_3 hx432_0 hx432_1 hx432_2 hx432_3 hHeld ⊢
             refine tk 0 15 (bv 27 1) HT_ HW_ hHeld rfl rfl (by rintro w' ⟨s0, s1, s2, s3, s4, s5, s6, s7, s8, s9, s10, s11⟩; exact yl) ?_
             refine one_ (i := 1) (N := some 16) (bv 27 3) rfl rfl (one_of HT_.out (by kernel_rfl)) (by decide) (fun K hK => ?_)
             refine gK Tryd.func61 rfl #[.agg #[.int .i64 ((rd_T87 l0 x10_1).f0), .int .i64 ((rd_T87 l0 x10_1).f1), .int .i64 ((rd_T87 l0 x10_1).f2), .int .i64 ((rd_T87 l0 x10_1).f3)]] rfl rfl ?_
             with_reducible refine (incunableref04_used.calls ((rd_T87 l0 x10_1).f0) ((rd_T87 l0 x10_1).f1) ((rd_T87 l0 x10_1).f2) ((rd_T87 l0 x10_1).f3) true _ A6.out).mono ?_
             rintro e w29 ⟨rfl, hb⟩
             refine ⟨_, rfl, ?_⟩
             have n_ := aC (blk_below (g := gb429) (o := .cells #[.int .i64 ((rd_T87 l0 x10_1).f0), .int .i64 ((rd_T87 l0 x10_1).f1), .int .i64 ((rd_T87 l0 x10_1).f2), .int .i64 ((rd_T87 l0 x10_1).f3)] 87 (0, 0)) (bU BK429.out) hb) (aE (bs hb))
             clear BK429 HB
             obtain ⟨BK429, HB⟩ := n_
             (try clear hb)
             (try clear hb2)
             (try clear hk)
             (try clear hi)
             refine hK.out _ _ ⟨kc0 BK429.out, kc1 BK429.out, kc2 BK429.out, kc3 BK429.out, (hcB HB.out hw431_0), (hcB HB.out hw431_1), (hcB HB.out hw431_2), (hcB HB.out hw431_3), (hcB HB.out hw432_0), (hcB HB.out hw432_1), (hcB HB.out hw432_2), (hcB HB.out hw432_3)⟩ (fun hHeld => ?_)
             clear hK K
             refine nm (some 16) ?_
             refine pu 2 17 (bv 27 7) HT_ rfl rfl ?_
             refine pu 3 18 (bv 27 15) HT_ rfl rfl ?_
             refine pu 5 20 (bv 27 47) HT_ rfl rfl ?_
             refine pu 6 21 (bv 27 111) HT_ rfl rfl ?_
             refine pu 7 22 (bv 27 239) HT_ rfl rfl ?_
             refine pu 8 23 (bv 27 495) HT_ rfl rfl ?_
             refine tk 4 19 (bv 27 511) HT_ HW_ hHeld rfl rfl (by rintro w' ⟨s0, s1, s2, s3, s4, s5, s6, s7, s8, s9, s10, s11⟩; exact yl) ?_
             refine tk 9 24 (bv 27 1023) HT_ HW_ hHeld rfl rfl (by rintro w' ⟨s0, s1, s2, s3, s4, s5, s6, s7, s8, s9, s10, s11⟩; exact yl) ?_
             refine pu 10 25 (bv 27 2047) HT_ rfl rfl ?_
             refine pu 11 26 (bv 27 4095) HT_ rfl rfl ?_
             refine pu 12 27 (bv 27 8191) HT_ rfl rfl ?_
             refine pu 14 29 (bv 27 24575) HT_ rfl rfl ?_
             refine pu 15 30 (bv 27 57343) HT_ rfl rfl ?_
             refine pu 16 31 (bv 27 122879) HT_ rfl rfl ?_
             refine pu 17 32 (bv 27 253951) HT_ rfl rfl ?_
             refine tk 13 28 (bv 27 262143) HT_ HW_ hHeld rfl rfl (by rintro w' ⟨s0, s1, s2, s3, s4, s5, s6, s7, s8, s9, s10, s11⟩; exact yl) ?_
             refine tk 18 33 (bv 27 524287) HT_ HW_ hHeld rfl rfl (by rintro w' ⟨s0, s1, s2, s3, s4, s5, s6, s7, s8, s9, s10, s11⟩; exact yl) ?_
             refine pu 19 34 (bv 27 1048575) HT_ rfl rfl ?_
             refine pu 20 35 (bv 27 2097151) HT_ rfl rfl ?_
             refine pu 21 36 (bv 27 4194303) HT_ rfl rfl ?_
             refine pu 22 37 (bv 27 8388607) HT_ rfl rfl ?_
             refine pu 23 38 (bv 27 16777215) HT_ rfl rfl ?_
             refine pu 24 39 (bv 27 33554431) HT_ rfl rfl ?_
             refine pu 25 40 (bv 27 67108863) HT_ rfl rfl ?_
             refine pu 26 41 (bv 27 134217727) HT_ rfl rfl ?_
             refine done_ (done_of HT_.out (by kernel_rfl)) ?_
             obtain ⟨hcz30_0, hcz30_1, hcz30_2, hcz30_3, hfz30_0, hfz30_1, hfz30_2, hfz30_3⟩ := cz4f BK429.out
             try go_wp2
             go_roundg k1
             case measure => have := HK1.out; omega
             case rel => exact ⟨(wrap64 (x5_1 + (ji24))), (wrap64 (x10_1 + 1)), (by first | rfl | (simp; done) | (simp only [← hji24] <;> (first | rfl | simp)) | (simp [*]; done)), rq, H', ⟨by have := HK1.out; omega⟩, ⟨bl⟩⟩
            ·rw [if_neg c23] at H
             exact absurd H (by simp)
           ·rw [if_neg c21] at H
            have c21b0 := decide_eq_false c21
            clear c21
            have H' := Aside0.mk H
            clear H
            have p428 : 0 ≤ (x10_1 : Int) := dt
            have q428 : x10_1 < (l0.length : Int) := dt
            obtain ⟨ad428, e428, hx428_0, hx428_1, hx428_2, hx428_3⟩ := at_T87 HR0.out x10_1 p428 q428
            cases e428
            replace hx428_0 := hcB HB.out hx428_0
            replace hx428_1 := hcB HB.out hx428_1
            replace hx428_2 := hcB HB.out hx428_2
            replace hx428_3 := hcB HB.out hx428_3
            replace p428 := eq_true p428
            replace q428 := eq_true q428
            try go_wp2_with (first | ((with_reducible refine gd 7 rfl ?_); refine bx 7 #[.int .i64 0, .int .i64 0, .int .i64 0, .int .i64 0] 87 rfl rfl ?_; intro gb429 hg w31 hbox hb; have n_ := aC (bs hb) (aC hbox (aC (gz hg) (aE (gz hg)))); clear HB; obtain ⟨HB, BK429, GW429, GE429⟩ := n_; clear hb hbox hg; obtain ⟨hcz32_0, hcz32_1, hcz32_2, hcz32_3, hfz32_0, hfz32_1, hfz32_2, hfz32_3⟩ := cz4f BK429.out))
            have n0_ : Aside0 (((((w31.setCell ⟨gb429, 0, none⟩ (.int .i64 ((rd_T87 l0 x10_1).f0))).setCell ⟨gb429, 1, none⟩ (.int .i64 ((rd_T87 l0 x10_1).f1))).setCell ⟨gb429, 2, none⟩ (.int .i64 ((rd_T87 l0 x10_1).f2))).setCell ⟨gb429, 3, none⟩ (.int .i64 ((rd_T87 l0 x10_1).f3))).heap[gb429]? = some (.cells #[.int .i64 ((rd_T87 l0 x10_1).f0), .int .i64 ((rd_T87 l0 x10_1).f1), .int .i64 ((rd_T87 l0 x10_1).f2), .int .i64 ((rd_T87 l0 x10_1).f3)] 87 (0, 0))) := ⟨by (with_reducible repeat (first | refine blk_drewN ?_ _ | refine blk_drew ?_ | refine blk_alloc ?_ _)); refine blk_put (cs := #[.int .i64 ((rd_T87 l0 x10_1).f0), .int .i64 ((rd_T87 l0 x10_1).f1), .int .i64 ((rd_T87 l0 x10_1).f2), .int .i64 0]) ?_ 3 _ rfl; (with_reducible repeat (first | refine blk_drewN ?_ _ | refine blk_drew ?_ | refine blk_alloc ?_ _)); refine blk_put (cs := #[.int .i64 ((rd_T87 l0 x10_1).f0), .int .i64 ((rd_T87 l0 x10_1).f1), .int .i64 0, .int .i64 0]) ?_ 2 _ rfl; (with_reducible repeat (first | refine blk_drewN ?_ _ | refine blk_drew ?_ | refine blk_alloc ?_ _)); refine blk_put (cs := #[.int .i64 ((rd_T87 l0 x10_1).f0), .int .i64 0, .int .i64 0, .int .i64 0]) ?_ 1 _ rfl; (with_reducible repeat (first | refine blk_drewN ?_ _ | refine blk_drew ?_ | refine blk_alloc ?_ _)); refine blk_put (cs := #[.int .i64 0, .int .i64 0, .int .i64 0, .int .i64 0]) ?_ 0 _ rfl; (with_reducible repeat (first | refine blk_drewN ?_ _ | refine blk_drew ?_ | refine blk_alloc ?_ _)); exact BK429.out⟩
            have n1_ : Aside0 (Below w.heap.size w ((((w31.setCell ⟨gb429, 0, none⟩ (.int .i64 ((rd_T87 l0 x10_1).f0))).setCell ⟨gb429, 1, none⟩ (.int .i64 ((rd_T87 l0 x10_1).f1))).setCell ⟨gb429, 2, none⟩ (.int .i64 ((rd_T87 l0 x10_1).f2))).setCell ⟨gb429, 3, none⟩ (.int .i64 ((rd_T87 l0 x10_1).f3)))) := ⟨bl⟩
            (try clear BK429)
            (try clear HB)
            generalize ((((w31.setCell ⟨gb429, 0, none⟩ (.int .i64 ((rd_T87 l0 x10_1).f0))).setCell ⟨gb429, 1, none⟩ (.int .i64 ((rd_T87 l0 x10_1).f1))).setCell ⟨gb429, 2, none⟩ (.int .i64 ((rd_T87 l0 x10_1).f2))).setCell ⟨gb429, 3, none⟩ (.int .i64 ((rd_T87 l0 x10_1).f3))) = w33 at n0_ n1_ ⊢
            have BK429 := n0_
            have HB := n1_
            clear n0_ n1_
            have n_ := aC (blk_drew BK429.out) (aE (below_drew1 HB.out))
            clear BK429 HB
            obtain ⟨BK429, HB⟩ := n_
            have p431 : 0 ≤ (a1 : Int) := dt
            have q431 : a1 < (l0.length : Int) := dt
            obtain ⟨ad431, e431, hx431_0, hx431_1, hx431_2, hx431_3⟩ := at_T87 HR0.out a1 p431 q431
            have hw431_3 := hx431_3
            have hw431_2 := hx431_2
            have hw431_1 := hx431_1
            have hw431_0 := hx431_0
            obtain rfl : ad428 = ad431 := (by injection e431)
            replace hx431_0 := hcB HB.out hx431_0
            replace hx431_1 := hcB HB.out hx431_1
            replace hx431_2 := hcB HB.out hx431_2
            replace hx431_3 := hcB HB.out hx431_3
            replace p431 := eq_true p431
            replace q431 := eq_true q431
            have p432 : 0 ≤ (a1 : Int) := dt
            have q432 : a1 < (l0.length : Int) := dt
            obtain ⟨ad432, e432, hx432_0, hx432_1, hx432_2, hx432_3⟩ := at_T87 HR0.out a1 p432 q432
            have hw432_3 := hx432_3
            have hw432_2 := hx432_2
            have hw432_1 := hx432_1
            have hw432_0 := hx432_0
            obtain rfl : ad428 = ad432 := (by injection e432)
            replace hx432_0 := hcB HB.out hx432_0
            replace hx432_1 := hcB HB.out hx432_1
            replace hx432_2 := hcB HB.out hx432_2
            replace hx432_3 := hcB HB.out hx432_3
            replace p432 := eq_true p432
            replace q432 := eq_true q432
            refine st 27 (fun w' => w'.cell? ⟨gb429, 0, none⟩ = some (.int .i64 ((rd_T87 l0 x10_1).f0)) ∧ w'.cell? ⟨gb429, 1, none⟩ = some (.int .i64 ((rd_T87 l0 x10_1).f1)) ∧ w'.cell? ⟨gb429, 2, none⟩ = some (.int .i64 ((rd_T87 l0 x10_1).f2)) ∧ w'.cell? ⟨gb429, 3, none⟩ = some (.int .i64 ((rd_T87 l0 x10_1).f3)) ∧ w'.cell? (ad428.add ((a1).toNat * 4)) = some (.int .i64 ((rd_T87 l0 a1).f0)) ∧ w'.cell? ⟨(ad428.add ((a1).toNat * 4)).block, (ad428.add ((a1).toNat * 4)).off + 1, none⟩ = some (.int .i64 ((rd_T87 l0 a1).f1)) ∧ w'.cell? ⟨(ad428.add ((a1).toNat * 4)).block, (ad428.add ((a1).toNat * 4)).off + 2, none⟩ = some (.int .i64 ((rd_T87 l0 a1).f2)) ∧ w'.cell? ⟨(ad428.add ((a1).toNat * 4)).block, (ad428.add ((a1).toNat * 4)).off + 3, none⟩ = some (.int .i64 ((rd_T87 l0 a1).f3)) ∧ w'.cell? (ad428.add ((a1).toNat * 4)) = some (.int .i64 ((rd_T87 l0 a1).f0)) ∧ w'.cell? ⟨(ad428.add ((a1).toNat * 4)).block, (ad428.add ((a1).toNat * 4)).off + 1, none⟩ = some (.int .i64 ((rd_T87 l0 a1).f1)) ∧ w'.cell? ⟨(ad428.add ((a1).toNat * 4)).block, (ad428.add ((a1).toNat * 4)).off + 2, none⟩ = some (.int .i64 ((rd_T87 l0 a1).f2)) ∧ w'.cell? ⟨(ad428.add ((a1).toNat * 4)).block, (ad428.add ((a1).toNat * 4)).off + 3, none⟩ = some (.int .i64 ((rd_T87 l0 a1).f3))) [] (bv 27 0) incunableref04_Code.tab5 incunableref04_Code.bits5 ⟨kc0 BK429.out, kc1 BK429.out, kc2 BK429.out, kc3 BK429.out, (hcB HB.out hw431_0), (hcB HB.out hw431_1), (hcB HB.out hw431_2), (hcB HB.out hw431_3), (hcB HB.out hw432_0), (hcB HB.out hw432_1), (hcB HB.out hw432_2), (hcB HB.out hw432_3)⟩ (fun hHeld HT_ HW_ => ?_)
            generalize w33.drew = w34 at BK429 HB hx431_0 hx431_1 hx431_2 hx431_3 hx432_0 hx432_1 hx432_2 hx432_3 hHeld ⊢
            refine tk 0 15 (bv 27 1) HT_ HW_ hHeld rfl rfl (by rintro w' ⟨s0, s1, s2, s3, s4, s5, s6, s7, s8, s9, s10, s11⟩; exact yl) ?_
            refine one_ (i := 1) (N := some 16) (bv 27 3) rfl rfl (one_of HT_.out (by kernel_rfl)) (by decide) (fun K hK => ?_)
            refine gK Tryd.func61 rfl #[.agg #[.int .i64 ((rd_T87 l0 x10_1).f0), .int .i64 ((rd_T87 l0 x10_1).f1), .int .i64 ((rd_T87 l0 x10_1).f2), .int .i64 ((rd_T87 l0 x10_1).f3)]] rfl rfl ?_
            with_reducible refine (incunableref04_used.calls ((rd_T87 l0 x10_1).f0) ((rd_T87 l0 x10_1).f1) ((rd_T87 l0 x10_1).f2) ((rd_T87 l0 x10_1).f3) true _ A6.out).mono ?_
            rintro e w35 ⟨rfl, hb⟩
            refine ⟨_, rfl, ?_⟩
            have n_ := aC (blk_below (g := gb429) (o := .cells #[.int .i64 ((rd_T87 l0 x10_1).f0), .int .i64 ((rd_T87 l0 x10_1).f1), .int .i64 ((rd_T87 l0 x10_1).f2), .int .i64 ((rd_T87 l0 x10_1).f3)] 87 (0, 0)) (bU BK429.out) hb) (aE (bs hb))
            clear BK429 HB
            obtain ⟨BK429, HB⟩ := n_
            (try clear hb)
            (try clear hb2)
            (try clear hk)
            (try clear hi)
            refine hK.out _ _ ⟨kc0 BK429.out, kc1 BK429.out, kc2 BK429.out, kc3 BK429.out, (hcB HB.out hw431_0), (hcB HB.out hw431_1), (hcB HB.out hw431_2), (hcB HB.out hw431_3), (hcB HB.out hw432_0), (hcB HB.out hw432_1), (hcB HB.out hw432_2), (hcB HB.out hw432_3)⟩ (fun hHeld => ?_)
            clear hK K
            refine nm (some 16) ?_
            refine pu 2 17 (bv 27 7) HT_ rfl rfl ?_
            refine pu 3 18 (bv 27 15) HT_ rfl rfl ?_
            refine pu 5 20 (bv 27 47) HT_ rfl rfl ?_
            refine pu 6 21 (bv 27 111) HT_ rfl rfl ?_
            refine pu 7 22 (bv 27 239) HT_ rfl rfl ?_
            refine pu 8 23 (bv 27 495) HT_ rfl rfl ?_
            refine tk 4 19 (bv 27 511) HT_ HW_ hHeld rfl rfl (by rintro w' ⟨s0, s1, s2, s3, s4, s5, s6, s7, s8, s9, s10, s11⟩; exact yl) ?_
            refine tk 9 24 (bv 27 1023) HT_ HW_ hHeld rfl rfl (by rintro w' ⟨s0, s1, s2, s3, s4, s5, s6, s7, s8, s9, s10, s11⟩; exact yl) ?_
            refine pu 10 25 (bv 27 2047) HT_ rfl rfl ?_
            refine pu 11 26 (bv 27 4095) HT_ rfl rfl ?_
            refine pu 12 27 (bv 27 8191) HT_ rfl rfl ?_
            refine pu 14 29 (bv 27 24575) HT_ rfl rfl ?_
            refine pu 15 30 (bv 27 57343) HT_ rfl rfl ?_
            refine pu 16 31 (bv 27 122879) HT_ rfl rfl ?_
            refine pu 17 32 (bv 27 253951) HT_ rfl rfl ?_
            refine tk 13 28 (bv 27 262143) HT_ HW_ hHeld rfl rfl (by rintro w' ⟨s0, s1, s2, s3, s4, s5, s6, s7, s8, s9, s10, s11⟩; exact yl) ?_
            refine tk 18 33 (bv 27 524287) HT_ HW_ hHeld rfl rfl (by rintro w' ⟨s0, s1, s2, s3, s4, s5, s6, s7, s8, s9, s10, s11⟩; exact yl) ?_
            refine pu 19 34 (bv 27 1048575) HT_ rfl rfl ?_
            refine pu 20 35 (bv 27 2097151) HT_ rfl rfl ?_
            refine pu 21 36 (bv 27 4194303) HT_ rfl rfl ?_
            refine pu 22 37 (bv 27 8388607) HT_ rfl rfl ?_
            refine pu 23 38 (bv 27 16777215) HT_ rfl rfl ?_
            refine pu 24 39 (bv 27 33554431) HT_ rfl rfl ?_
            refine pu 25 40 (bv 27 67108863) HT_ rfl rfl ?_
            refine pu 26 41 (bv 27 134217727) HT_ rfl rfl ?_
            refine done_ (done_of HT_.out (by kernel_rfl)) ?_
            try go_wp2
            go_roundg k1
            case measure => have := HK1.out; omega
            case rel => exact ⟨(x5_1), (wrap64 (x10_1 + 1)), rq, rq, H', ⟨by have := HK1.out; omega⟩, ⟨bl⟩⟩
          ·rw [if_neg c20] at H
           have c20b0 := beq_eq_false_iff_ne.mpr c20
           have c20b1 := bne_iff_ne.mpr c20
           have H' := Aside0.mk H
           clear H
           have p428 : 0 ≤ (x10_1 : Int) := dt
           have q428 : x10_1 < (l0.length : Int) := dt
           obtain ⟨ad428, e428, hx428_0, hx428_1, hx428_2, hx428_3⟩ := at_T87 HR0.out x10_1 p428 q428
           cases e428
           replace hx428_0 := hcB HB.out hx428_0
           replace hx428_1 := hcB HB.out hx428_1
           replace hx428_2 := hcB HB.out hx428_2
           replace hx428_3 := hcB HB.out hx428_3
           replace p428 := eq_true p428
           replace q428 := eq_true q428
           try go_wp2_with (first | ((with_reducible refine gd 7 rfl ?_); refine bx 7 #[.int .i64 0, .int .i64 0, .int .i64 0, .int .i64 0] 87 rfl rfl ?_; intro gb429 hg w36 hbox hb; have n_ := aC (bs hb) (aC hbox (aC (gz hg) (aE (gz hg)))); clear HB; obtain ⟨HB, BK429, GW429, GE429⟩ := n_; clear hb hbox hg; obtain ⟨hcz37_0, hcz37_1, hcz37_2, hcz37_3, hfz37_0, hfz37_1, hfz37_2, hfz37_3⟩ := cz4f BK429.out))
           have n0_ : Aside0 (((((w36.setCell ⟨gb429, 0, none⟩ (.int .i64 ((rd_T87 l0 x10_1).f0))).setCell ⟨gb429, 1, none⟩ (.int .i64 ((rd_T87 l0 x10_1).f1))).setCell ⟨gb429, 2, none⟩ (.int .i64 ((rd_T87 l0 x10_1).f2))).setCell ⟨gb429, 3, none⟩ (.int .i64 ((rd_T87 l0 x10_1).f3))).heap[gb429]? = some (.cells #[.int .i64 ((rd_T87 l0 x10_1).f0), .int .i64 ((rd_T87 l0 x10_1).f1), .int .i64 ((rd_T87 l0 x10_1).f2), .int .i64 ((rd_T87 l0 x10_1).f3)] 87 (0, 0))) := ⟨by (with_reducible repeat (first | refine blk_drewN ?_ _ | refine blk_drew ?_ | refine blk_alloc ?_ _)); refine blk_put (cs := #[.int .i64 ((rd_T87 l0 x10_1).f0), .int .i64 ((rd_T87 l0 x10_1).f1), .int .i64 ((rd_T87 l0 x10_1).f2), .int .i64 0]) ?_ 3 _ rfl; (with_reducible repeat (first | refine blk_drewN ?_ _ | refine blk_drew ?_ | refine blk_alloc ?_ _)); refine blk_put (cs := #[.int .i64 ((rd_T87 l0 x10_1).f0), .int .i64 ((rd_T87 l0 x10_1).f1), .int .i64 0, .int .i64 0]) ?_ 2 _ rfl; (with_reducible repeat (first | refine blk_drewN ?_ _ | refine blk_drew ?_ | refine blk_alloc ?_ _)); refine blk_put (cs := #[.int .i64 ((rd_T87 l0 x10_1).f0), .int .i64 0, .int .i64 0, .int .i64 0]) ?_ 1 _ rfl; (with_reducible repeat (first | refine blk_drewN ?_ _ | refine blk_drew ?_ | refine blk_alloc ?_ _)); refine blk_put (cs := #[.int .i64 0, .int .i64 0, .int .i64 0, .int .i64 0]) ?_ 0 _ rfl; (with_reducible repeat (first | refine blk_drewN ?_ _ | refine blk_drew ?_ | refine blk_alloc ?_ _)); exact BK429.out⟩
           have n1_ : Aside0 (Below w.heap.size w ((((w36.setCell ⟨gb429, 0, none⟩ (.int .i64 ((rd_T87 l0 x10_1).f0))).setCell ⟨gb429, 1, none⟩ (.int .i64 ((rd_T87 l0 x10_1).f1))).setCell ⟨gb429, 2, none⟩ (.int .i64 ((rd_T87 l0 x10_1).f2))).setCell ⟨gb429, 3, none⟩ (.int .i64 ((rd_T87 l0 x10_1).f3)))) := ⟨bl⟩
           (try clear BK429)
           (try clear HB)
           generalize ((((w36.setCell ⟨gb429, 0, none⟩ (.int .i64 ((rd_T87 l0 x10_1).f0))).setCell ⟨gb429, 1, none⟩ (.int .i64 ((rd_T87 l0 x10_1).f1))).setCell ⟨gb429, 2, none⟩ (.int .i64 ((rd_T87 l0 x10_1).f2))).setCell ⟨gb429, 3, none⟩ (.int .i64 ((rd_T87 l0 x10_1).f3))) = w38 at n0_ n1_ ⊢
           have BK429 := n0_
           have HB := n1_
           clear n0_ n1_
           have n_ := aC (blk_drew BK429.out) (aE (below_drew1 HB.out))
           clear BK429 HB
           obtain ⟨BK429, HB⟩ := n_
           have p431 : 0 ≤ (a1 : Int) := dt
           have q431 : a1 < (l0.length : Int) := dt
           obtain ⟨ad431, e431, hx431_0, hx431_1, hx431_2, hx431_3⟩ := at_T87 HR0.out a1 p431 q431
           have hw431_3 := hx431_3
           have hw431_2 := hx431_2
           have hw431_1 := hx431_1
           have hw431_0 := hx431_0
           obtain rfl : ad428 = ad431 := (by injection e431)
           replace hx431_0 := hcB HB.out hx431_0
           replace hx431_1 := hcB HB.out hx431_1
           replace hx431_2 := hcB HB.out hx431_2
           replace hx431_3 := hcB HB.out hx431_3
           replace p431 := eq_true p431
           replace q431 := eq_true q431
           have p432 : 0 ≤ (a1 : Int) := dt
           have q432 : a1 < (l0.length : Int) := dt
           obtain ⟨ad432, e432, hx432_0, hx432_1, hx432_2, hx432_3⟩ := at_T87 HR0.out a1 p432 q432
           have hw432_3 := hx432_3
           have hw432_2 := hx432_2
           have hw432_1 := hx432_1
           have hw432_0 := hx432_0
           obtain rfl : ad428 = ad432 := (by injection e432)
           replace hx432_0 := hcB HB.out hx432_0
           replace hx432_1 := hcB HB.out hx432_1
           replace hx432_2 := hcB HB.out hx432_2
           replace hx432_3 := hcB HB.out hx432_3
           replace p432 := eq_true p432
           replace q432 := eq_true q432
           refine st 27 (fun w' => w'.cell? ⟨gb429, 0, none⟩ = some (.int .i64 ((rd_T87 l0 x10_1).f0)) ∧ w'.cell? ⟨gb429, 1, none⟩ = some (.int .i64 ((rd_T87 l0 x10_1).f1)) ∧ w'.cell? ⟨gb429, 2, none⟩ = some (.int .i64 ((rd_T87 l0 x10_1).f2)) ∧ w'.cell? ⟨gb429, 3, none⟩ = some (.int .i64 ((rd_T87 l0 x10_1).f3)) ∧ w'.cell? (ad428.add ((a1).toNat * 4)) = some (.int .i64 ((rd_T87 l0 a1).f0)) ∧ w'.cell? ⟨(ad428.add ((a1).toNat * 4)).block, (ad428.add ((a1).toNat * 4)).off + 1, none⟩ = some (.int .i64 ((rd_T87 l0 a1).f1)) ∧ w'.cell? ⟨(ad428.add ((a1).toNat * 4)).block, (ad428.add ((a1).toNat * 4)).off + 2, none⟩ = some (.int .i64 ((rd_T87 l0 a1).f2)) ∧ w'.cell? ⟨(ad428.add ((a1).toNat * 4)).block, (ad428.add ((a1).toNat * 4)).off + 3, none⟩ = some (.int .i64 ((rd_T87 l0 a1).f3)) ∧ w'.cell? (ad428.add ((a1).toNat * 4)) = some (.int .i64 ((rd_T87 l0 a1).f0)) ∧ w'.cell? ⟨(ad428.add ((a1).toNat * 4)).block, (ad428.add ((a1).toNat * 4)).off + 1, none⟩ = some (.int .i64 ((rd_T87 l0 a1).f1)) ∧ w'.cell? ⟨(ad428.add ((a1).toNat * 4)).block, (ad428.add ((a1).toNat * 4)).off + 2, none⟩ = some (.int .i64 ((rd_T87 l0 a1).f2)) ∧ w'.cell? ⟨(ad428.add ((a1).toNat * 4)).block, (ad428.add ((a1).toNat * 4)).off + 3, none⟩ = some (.int .i64 ((rd_T87 l0 a1).f3))) [] (bv 27 0) incunableref04_Code.tab5 incunableref04_Code.bits5 ⟨kc0 BK429.out, kc1 BK429.out, kc2 BK429.out, kc3 BK429.out, (hcB HB.out hw431_0), (hcB HB.out hw431_1), (hcB HB.out hw431_2), (hcB HB.out hw431_3), (hcB HB.out hw432_0), (hcB HB.out hw432_1), (hcB HB.out hw432_2), (hcB HB.out hw432_3)⟩ (fun hHeld HT_ HW_ => ?_)
           generalize w38.drew = w39 at BK429 HB hx431_0 hx431_1 hx431_2 hx431_3 hx432_0 hx432_1 hx432_2 hx432_3 hHeld ⊢
           refine tk 0 15 (bv 27 1) HT_ HW_ hHeld rfl rfl (by rintro w' ⟨s0, s1, s2, s3, s4, s5, s6, s7, s8, s9, s10, s11⟩; exact yl) ?_
           refine one_ (i := 1) (N := some 16) (bv 27 3) rfl rfl (one_of HT_.out (by kernel_rfl)) (by decide) (fun K hK => ?_)
           refine gK Tryd.func61 rfl #[.agg #[.int .i64 ((rd_T87 l0 x10_1).f0), .int .i64 ((rd_T87 l0 x10_1).f1), .int .i64 ((rd_T87 l0 x10_1).f2), .int .i64 ((rd_T87 l0 x10_1).f3)]] rfl rfl ?_
           with_reducible refine (incunableref04_used.calls ((rd_T87 l0 x10_1).f0) ((rd_T87 l0 x10_1).f1) ((rd_T87 l0 x10_1).f2) ((rd_T87 l0 x10_1).f3) true _ A6.out).mono ?_
           rintro e w40 ⟨rfl, hb⟩
           refine ⟨_, rfl, ?_⟩
           have n_ := aC (blk_below (g := gb429) (o := .cells #[.int .i64 ((rd_T87 l0 x10_1).f0), .int .i64 ((rd_T87 l0 x10_1).f1), .int .i64 ((rd_T87 l0 x10_1).f2), .int .i64 ((rd_T87 l0 x10_1).f3)] 87 (0, 0)) (bU BK429.out) hb) (aE (bs hb))
           clear BK429 HB
           obtain ⟨BK429, HB⟩ := n_
           (try clear hb)
           (try clear hb2)
           (try clear hk)
           (try clear hi)
           refine hK.out _ _ ⟨kc0 BK429.out, kc1 BK429.out, kc2 BK429.out, kc3 BK429.out, (hcB HB.out hw431_0), (hcB HB.out hw431_1), (hcB HB.out hw431_2), (hcB HB.out hw431_3), (hcB HB.out hw432_0), (hcB HB.out hw432_1), (hcB HB.out hw432_2), (hcB HB.out hw432_3)⟩ (fun hHeld => ?_)
           clear hK K
           refine nm (some 16) ?_
           refine pu 2 17 (bv 27 7) HT_ rfl rfl ?_
           refine pu 3 18 (bv 27 15) HT_ rfl rfl ?_
           refine pu 5 20 (bv 27 47) HT_ rfl rfl ?_
           refine pu 6 21 (bv 27 111) HT_ rfl rfl ?_
           refine pu 7 22 (bv 27 239) HT_ rfl rfl ?_
           refine pu 8 23 (bv 27 495) HT_ rfl rfl ?_
           refine tk 4 19 (bv 27 511) HT_ HW_ hHeld rfl rfl (by rintro w' ⟨s0, s1, s2, s3, s4, s5, s6, s7, s8, s9, s10, s11⟩; exact yl) ?_
           refine tk 9 24 (bv 27 1023) HT_ HW_ hHeld rfl rfl (by rintro w' ⟨s0, s1, s2, s3, s4, s5, s6, s7, s8, s9, s10, s11⟩; exact yl) ?_
           refine pu 10 25 (bv 27 2047) HT_ rfl rfl ?_
           refine pu 11 26 (bv 27 4095) HT_ rfl rfl ?_
           refine pu 12 27 (bv 27 8191) HT_ rfl rfl ?_
           refine pu 14 29 (bv 27 24575) HT_ rfl rfl ?_
           refine pu 15 30 (bv 27 57343) HT_ rfl rfl ?_
           refine pu 16 31 (bv 27 122879) HT_ rfl rfl ?_
           refine pu 17 32 (bv 27 253951) HT_ rfl rfl ?_
           refine tk 13 28 (bv 27 262143) HT_ HW_ hHeld rfl rfl (by rintro w' ⟨s0, s1, s2, s3, s4, s5, s6, s7, s8, s9, s10, s11⟩; exact yl) ?_
           refine tk 18 33 (bv 27 524287) HT_ HW_ hHeld rfl rfl (by rintro w' ⟨s0, s1, s2, s3, s4, s5, s6, s7, s8, s9, s10, s11⟩; exact yl) ?_
           refine pu 19 34 (bv 27 1048575) HT_ rfl rfl ?_
           refine pu 20 35 (bv 27 2097151) HT_ rfl rfl ?_
           refine pn 21 36 (bv 27 4194303) HT_ rfl rfl ?_
           refine pn 22 37 (bv 27 8388607) HT_ rfl rfl ?_
           refine pn 23 38 (bv 27 16777215) HT_ rfl rfl ?_
           refine pu 24 39 (bv 27 33554431) HT_ rfl rfl ?_
           refine pu 25 40 (bv 27 67108863) HT_ rfl rfl ?_
           refine pu 26 41 (bv 27 134217727) HT_ rfl rfl ?_
           refine done_ (done_of HT_.out (by kernel_rfl)) ?_
           try go_wp2
           go_roundg k1
           case measure => have := HK1.out; omega
           case rel => exact ⟨(x5_1), (wrap64 (x10_1 + 1)), rq, rq, H', ⟨by have := HK1.out; omega⟩, ⟨bl⟩⟩
        ·rw [if_neg c9] at H
         exact absurd H (by simp)
       ·rw [if_neg c8] at H
        exact absurd H (by simp)
      ·replace c7 := Bool.eq_false_iff.mpr c7
       subst c7
       have H1 : (incunableref04_Code.l0 k1 l0 a1 x5_1 l0 (l0.length : Int) (wrap64 (x10_1 + 1))) = some r := by rw [if_neg (show ¬ (false = true) by decide)] at H; exact H
       clear H
       have H := H1
       clear H1
       have H' := Aside0.mk H
       clear H
       have p428 : 0 ≤ (x10_1 : Int) := dt
       have q428 : x10_1 < (l0.length : Int) := dt
       obtain ⟨ad428, e428, hx428_0, hx428_1, hx428_2, hx428_3⟩ := at_T87 HR0.out x10_1 p428 q428
       cases e428
       replace hx428_0 := hcB HB.out hx428_0
       replace hx428_1 := hcB HB.out hx428_1
       replace hx428_2 := hcB HB.out hx428_2
       replace hx428_3 := hcB HB.out hx428_3
       replace p428 := eq_true p428
       replace q428 := eq_true q428
       try go_wp2_with (first | ((with_reducible refine gd 7 rfl ?_); refine bx 7 #[.int .i64 0, .int .i64 0, .int .i64 0, .int .i64 0] 87 rfl rfl ?_; intro gb429 hg w41 hbox hb; have n_ := aC (bs hb) (aC hbox (aC (gz hg) (aE (gz hg)))); clear HB; obtain ⟨HB, BK429, GW429, GE429⟩ := n_; clear hb hbox hg; obtain ⟨hcz42_0, hcz42_1, hcz42_2, hcz42_3, hfz42_0, hfz42_1, hfz42_2, hfz42_3⟩ := cz4f BK429.out))
       have n0_ : Aside0 (((((w41.setCell ⟨gb429, 0, none⟩ (.int .i64 ((rd_T87 l0 x10_1).f0))).setCell ⟨gb429, 1, none⟩ (.int .i64 ((rd_T87 l0 x10_1).f1))).setCell ⟨gb429, 2, none⟩ (.int .i64 ((rd_T87 l0 x10_1).f2))).setCell ⟨gb429, 3, none⟩ (.int .i64 ((rd_T87 l0 x10_1).f3))).heap[gb429]? = some (.cells #[.int .i64 ((rd_T87 l0 x10_1).f0), .int .i64 ((rd_T87 l0 x10_1).f1), .int .i64 ((rd_T87 l0 x10_1).f2), .int .i64 ((rd_T87 l0 x10_1).f3)] 87 (0, 0))) := ⟨by (with_reducible repeat (first | refine blk_drewN ?_ _ | refine blk_drew ?_ | refine blk_alloc ?_ _)); refine blk_put (cs := #[.int .i64 ((rd_T87 l0 x10_1).f0), .int .i64 ((rd_T87 l0 x10_1).f1), .int .i64 ((rd_T87 l0 x10_1).f2), .int .i64 0]) ?_ 3 _ rfl; (with_reducible repeat (first | refine blk_drewN ?_ _ | refine blk_drew ?_ | refine blk_alloc ?_ _)); refine blk_put (cs := #[.int .i64 ((rd_T87 l0 x10_1).f0), .int .i64 ((rd_T87 l0 x10_1).f1), .int .i64 0, .int .i64 0]) ?_ 2 _ rfl; (with_reducible repeat (first | refine blk_drewN ?_ _ | refine blk_drew ?_ | refine blk_alloc ?_ _)); refine blk_put (cs := #[.int .i64 ((rd_T87 l0 x10_1).f0), .int .i64 0, .int .i64 0, .int .i64 0]) ?_ 1 _ rfl; (with_reducible repeat (first | refine blk_drewN ?_ _ | refine blk_drew ?_ | refine blk_alloc ?_ _)); refine blk_put (cs := #[.int .i64 0, .int .i64 0, .int .i64 0, .int .i64 0]) ?_ 0 _ rfl; (with_reducible repeat (first | refine blk_drewN ?_ _ | refine blk_drew ?_ | refine blk_alloc ?_ _)); exact BK429.out⟩
       have n1_ : Aside0 (Below w.heap.size w ((((w41.setCell ⟨gb429, 0, none⟩ (.int .i64 ((rd_T87 l0 x10_1).f0))).setCell ⟨gb429, 1, none⟩ (.int .i64 ((rd_T87 l0 x10_1).f1))).setCell ⟨gb429, 2, none⟩ (.int .i64 ((rd_T87 l0 x10_1).f2))).setCell ⟨gb429, 3, none⟩ (.int .i64 ((rd_T87 l0 x10_1).f3)))) := ⟨bl⟩
       (try clear BK429)
       (try clear HB)
       generalize ((((w41.setCell ⟨gb429, 0, none⟩ (.int .i64 ((rd_T87 l0 x10_1).f0))).setCell ⟨gb429, 1, none⟩ (.int .i64 ((rd_T87 l0 x10_1).f1))).setCell ⟨gb429, 2, none⟩ (.int .i64 ((rd_T87 l0 x10_1).f2))).setCell ⟨gb429, 3, none⟩ (.int .i64 ((rd_T87 l0 x10_1).f3))) = w43 at n0_ n1_ ⊢
       have BK429 := n0_
       have HB := n1_
       clear n0_ n1_
       have n_ := aC (blk_drew BK429.out) (aE (below_drew1 HB.out))
       clear BK429 HB
       obtain ⟨BK429, HB⟩ := n_
       refine st 27 (fun w' => w'.cell? ⟨gb429, 0, none⟩ = some (.int .i64 ((rd_T87 l0 x10_1).f0)) ∧ w'.cell? ⟨gb429, 1, none⟩ = some (.int .i64 ((rd_T87 l0 x10_1).f1)) ∧ w'.cell? ⟨gb429, 2, none⟩ = some (.int .i64 ((rd_T87 l0 x10_1).f2)) ∧ w'.cell? ⟨gb429, 3, none⟩ = some (.int .i64 ((rd_T87 l0 x10_1).f3))) [] (bv 27 0) incunableref04_Code.tab5 incunableref04_Code.bits5 ⟨kc0 BK429.out, kc1 BK429.out, kc2 BK429.out, kc3 BK429.out⟩ (fun hHeld HT_ HW_ => ?_)
       generalize w43.drew = w44 at BK429 HB hHeld ⊢
       refine tk 0 15 (bv 27 1) HT_ HW_ hHeld rfl rfl (by rintro w' ⟨s0, s1, s2, s3⟩; exact yl) ?_
       refine one_ (i := 1) (N := some 16) (bv 27 3) rfl rfl (one_of HT_.out (by kernel_rfl)) (by decide) (fun K hK => ?_)
       refine gK Tryd.func61 rfl #[.agg #[.int .i64 ((rd_T87 l0 x10_1).f0), .int .i64 ((rd_T87 l0 x10_1).f1), .int .i64 ((rd_T87 l0 x10_1).f2), .int .i64 ((rd_T87 l0 x10_1).f3)]] rfl rfl ?_
       with_reducible refine (incunableref04_used.calls ((rd_T87 l0 x10_1).f0) ((rd_T87 l0 x10_1).f1) ((rd_T87 l0 x10_1).f2) ((rd_T87 l0 x10_1).f3) false _ A6.out).mono ?_
       rintro e w45 ⟨rfl, hb⟩
       refine ⟨_, rfl, ?_⟩
       have n_ := aC (blk_below (g := gb429) (o := .cells #[.int .i64 ((rd_T87 l0 x10_1).f0), .int .i64 ((rd_T87 l0 x10_1).f1), .int .i64 ((rd_T87 l0 x10_1).f2), .int .i64 ((rd_T87 l0 x10_1).f3)] 87 (0, 0)) (bU BK429.out) hb) (aE (bs hb))
       clear BK429 HB
       obtain ⟨BK429, HB⟩ := n_
       (try clear hb)
       (try clear hb2)
       (try clear hk)
       (try clear hi)
       refine hK.out _ _ ⟨kc0 BK429.out, kc1 BK429.out, kc2 BK429.out, kc3 BK429.out⟩ (fun hHeld => ?_)
       clear hK K
       refine nm (some 16) ?_
       refine pu 2 17 (bv 27 7) HT_ rfl rfl ?_
       refine pn 3 18 (bv 27 15) HT_ rfl rfl ?_
       refine pn 4 19 (bv 27 31) HT_ rfl rfl ?_
       refine pn 5 20 (bv 27 63) HT_ rfl rfl ?_
       refine pn 6 21 (bv 27 127) HT_ rfl rfl ?_
       refine pn 7 22 (bv 27 255) HT_ rfl rfl ?_
       refine pn 8 23 (bv 27 511) HT_ rfl rfl ?_
       refine pn 9 24 (bv 27 1023) HT_ rfl rfl ?_
       refine pn 10 25 (bv 27 2047) HT_ rfl rfl ?_
       refine pn 11 26 (bv 27 4095) HT_ rfl rfl ?_
       refine pn 12 27 (bv 27 8191) HT_ rfl rfl ?_
       refine pn 13 28 (bv 27 16383) HT_ rfl rfl ?_
       refine pn 14 29 (bv 27 32767) HT_ rfl rfl ?_
       refine pn 15 30 (bv 27 65535) HT_ rfl rfl ?_
       refine pn 16 31 (bv 27 131071) HT_ rfl rfl ?_
       refine pn 17 32 (bv 27 262143) HT_ rfl rfl ?_
       refine pn 18 33 (bv 27 524287) HT_ rfl rfl ?_
       refine pn 19 34 (bv 27 1048575) HT_ rfl rfl ?_
       refine pn 20 35 (bv 27 2097151) HT_ rfl rfl ?_
       refine pn 21 36 (bv 27 4194303) HT_ rfl rfl ?_
       refine pn 22 37 (bv 27 8388607) HT_ rfl rfl ?_
       refine pn 23 38 (bv 27 16777215) HT_ rfl rfl ?_
       refine pn 24 39 (bv 27 33554431) HT_ rfl rfl ?_
       refine pn 25 40 (bv 27 67108863) HT_ rfl rfl ?_
       refine pu 26 41 (bv 27 134217727) HT_ rfl rfl ?_
       refine done_ (done_of HT_.out (by kernel_rfl)) ?_
       try go_wp2
       go_roundg k1
       case measure => have := HK1.out; omega
       case rel => exact ⟨(x5_1), (wrap64 (x10_1 + 1)), rq, rq, H', ⟨by have := HK1.out; omega⟩, ⟨bl⟩⟩
     ·rw [if_neg c5] at H
      exact absurd H (by simp)
    ·rw [if_neg c4] at H
     exact absurd H (by simp)
   ·rw [if_neg c3] at H
    have c3b0 := decide_eq_false c3
    clear c3
    by_cases c46 : 0 ≤ a1
    ·rw [if_pos c46] at H
     have c46b0 := decide_eq_true c46
     clear c46
     by_cases c47 : a1 < (l0.length : Int)
     ·rw [if_pos c47] at H
      have c47b0 := decide_eq_true c47
      clear c47
      obtain ⟨ji48, hji48⟩ : ∃ j_ : Int, (wrap64 (15 - ((rd_T87 l0 a1).f0))) = j_ := ⟨_, rfl⟩
      replace H : (if 0 ≤ (ji48) then ((incunableref04_digits.f k1 (shr .i64 x5_1 (ji48)) ((rd_T87 l0 a1).f0)).bind fun t435 => (some t435)) else (none)) = some r := by first | (rw [hji48] at H; exact H) | (simp only [hji48] at H ⊢; exact H)
      have hji48w : (IntKind.i64.wrap (15 - ((rd_T87 l0 a1).f0))) = ji48 := (i64_w _).trans hji48
      by_cases c49 : 0 ≤ (ji48)
      ·rw [if_pos c49] at H
       have c49b0 := eq_true c49
       have c49b1 := decide_eq_true c49
       clear c49
       obtain ⟨ji50, hji50⟩ : ∃ j_ : Int, (shr .i64 x5_1 (ji48)) = j_ := ⟨_, rfl⟩
       replace H : ((incunableref04_digits.f k1 (ji50) ((rd_T87 l0 a1).f0)).bind fun t435 => (some t435)) = some r := by first | (rw [hji50] at H; exact H) | (simp only [hji50] at H ⊢; exact H)
       have hji50_ : (x5_1 / 2 ^ min (ji48).toNat 64) = ji50 := hji50
       have hji50z : (ji48) ≤ 64 → (x5_1 / 2 ^ (ji48).toNat) = ji50 := shr_small hji50
       replace H := Option.bind_eq_some_iff.mp H
       obtain ⟨t435, A510, H⟩ := H
       replace H : (some t435) = some r := H
       have A51 := Aside0.mk A510
       clear A510
       obtain rfl := Option.some.inj H
       try go_wp2
       have n_ := aE (below_drew1 HB.out)
       clear HB
       have HB := n_
       clear n_
       have p433 : 0 ≤ (a1 : Int) := dt
       have q433 : a1 < (l0.length : Int) := dt
       obtain ⟨ad433, e433, hx433_0, hx433_1, hx433_2, hx433_3⟩ := at_T87 HR0.out a1 p433 q433
       have hw433_3 := hx433_3
       have hw433_2 := hx433_2
       have hw433_1 := hx433_1
       have hw433_0 := hx433_0
       cases e433
       replace hx433_0 := hcB HB.out hx433_0
       replace hx433_1 := hcB HB.out hx433_1
       replace hx433_2 := hcB HB.out hx433_2
       replace hx433_3 := hcB HB.out hx433_3
       replace p433 := eq_true p433
       replace q433 := eq_true q433
       have p434 : 0 ≤ (a1 : Int) := dt
       have q434 : a1 < (l0.length : Int) := dt
       obtain ⟨ad434, e434, hx434_0, hx434_1, hx434_2, hx434_3⟩ := at_T87 HR0.out a1 p434 q434
       have hw434_3 := hx434_3
       have hw434_2 := hx434_2
       have hw434_1 := hx434_1
       have hw434_0 := hx434_0
       obtain rfl : ad433 = ad434 := (by injection e434)
       replace hx434_0 := hcB HB.out hx434_0
       replace hx434_1 := hcB HB.out hx434_1
       replace hx434_2 := hcB HB.out hx434_2
       replace hx434_3 := hcB HB.out hx434_3
       replace p434 := eq_true p434
       replace q434 := eq_true q434
       refine st 15 (fun w' => w'.cell? (ad433.add ((a1).toNat * 4)) = some (.int .i64 ((rd_T87 l0 a1).f0)) ∧ w'.cell? ⟨(ad433.add ((a1).toNat * 4)).block, (ad433.add ((a1).toNat * 4)).off + 1, none⟩ = some (.int .i64 ((rd_T87 l0 a1).f1)) ∧ w'.cell? ⟨(ad433.add ((a1).toNat * 4)).block, (ad433.add ((a1).toNat * 4)).off + 2, none⟩ = some (.int .i64 ((rd_T87 l0 a1).f2)) ∧ w'.cell? ⟨(ad433.add ((a1).toNat * 4)).block, (ad433.add ((a1).toNat * 4)).off + 3, none⟩ = some (.int .i64 ((rd_T87 l0 a1).f3)) ∧ w'.cell? (ad433.add ((a1).toNat * 4)) = some (.int .i64 ((rd_T87 l0 a1).f0)) ∧ w'.cell? ⟨(ad433.add ((a1).toNat * 4)).block, (ad433.add ((a1).toNat * 4)).off + 1, none⟩ = some (.int .i64 ((rd_T87 l0 a1).f1)) ∧ w'.cell? ⟨(ad433.add ((a1).toNat * 4)).block, (ad433.add ((a1).toNat * 4)).off + 2, none⟩ = some (.int .i64 ((rd_T87 l0 a1).f2)) ∧ w'.cell? ⟨(ad433.add ((a1).toNat * 4)).block, (ad433.add ((a1).toNat * 4)).off + 3, none⟩ = some (.int .i64 ((rd_T87 l0 a1).f3))) [] (bv 15 0) incunableref04_Code.tab8 incunableref04_Code.bits8 ⟨(hcB HB.out hw433_0), (hcB HB.out hw433_1), (hcB HB.out hw433_2), (hcB HB.out hw433_3), (hcB HB.out hw434_0), (hcB HB.out hw434_1), (hcB HB.out hw434_2), (hcB HB.out hw434_3)⟩ (fun hHeld HT_ HW_ => ?_)
       generalize wr.drew = w52 at HB hx433_0 hx433_1 hx433_2 hx433_3 hx434_0 hx434_1 hx434_2 hx434_3 hHeld ⊢
       refine pu 0 49 (bv 15 1) HT_ rfl rfl ?_
       refine pu 1 50 (bv 15 3) HT_ rfl rfl ?_
       refine pu 2 51 (bv 15 7) HT_ rfl rfl ?_
       refine pu 3 52 (bv 15 15) HT_ rfl rfl ?_
       refine pu 4 53 (bv 15 31) HT_ rfl rfl ?_
       refine pu 8 57 (bv 15 287) HT_ rfl rfl ?_
       refine pu 9 58 (bv 15 799) HT_ rfl rfl ?_
       refine pu 10 59 (bv 15 1823) HT_ rfl rfl ?_
       refine pu 11 60 (bv 15 3871) HT_ rfl rfl ?_
       refine tk 5 54 (bv 15 3903) HT_ HW_ hHeld rfl rfl (by rintro w' ⟨s0, s1, s2, s3, s4, s5, s6, s7⟩; exact yl) ?_
       refine pu 6 55 (bv 15 3967) HT_ rfl rfl ?_
       refine pu 7 56 (bv 15 4095) HT_ rfl rfl ?_
       refine tk 12 61 (bv 15 8191) HT_ HW_ hHeld rfl rfl (by rintro w' ⟨s0, s1, s2, s3, s4, s5, s6, s7⟩; exact yl) ?_
       refine one_ (i := 13) (N := some 62) (bv 15 16383) rfl rfl (one_of HT_.out (by kernel_rfl)) (by decide) (fun K hK => ?_)
       refine goes_ Tryd.func63 (by kernel_rfl) rfl #[.int .i64 ji50, .int .i64 ((rd_T87 l0 a1).f0)] (by rfl) rfl rfl (by (try simp only [List.map_toArray, List.map_cons, List.map_nil]); first | done | (simp only [hji50]; rfl) | rfl | (simp only [List.length_drop, List.length_take]; rfl)) ?_
       with_reducible refine (incunableref04_digits.calls k1 ji50 ((rd_T87 l0 a1).f0) t435 _ A51.out).mono ?_
       rintro e w53 ⟨v436, rfl, ho0, hb⟩
       refine ⟨_, rfl, ?_⟩
       have n_ := aC (Kd.R_lower ho0 bz) (aE (bs hb))
       clear HB
       obtain ⟨HO437, HB⟩ := n_
       (try clear hb)
       (try clear hb2)
       (try clear hk)
       (try clear hi)
       (try clear ho0)
       refine hK.out _ _ ⟨(hcB HB.out hw433_0), (hcB HB.out hw433_1), (hcB HB.out hw433_2), (hcB HB.out hw433_3), (hcB HB.out hw434_0), (hcB HB.out hw434_1), (hcB HB.out hw434_2), (hcB HB.out hw434_3)⟩ (fun hHeld => ?_)
       clear hK K
       refine nm (some 62) ?_
       refine pu 14 4 (bv 15 32767) HT_ rfl rfl ?_
       refine done_ (done_of HT_.out (by kernel_rfl)) ?_
       try go_wp2
       go_ret
       exact ⟨_, by first | rfl | (simp [errW_none, errW_some] <;> rfl) | (simp only [← hji48, ← hji50]; first | rfl | (simp [errW_none, errW_some] <;> rfl)) | (simp [*, errW_none, errW_some] <;> rfl), rU HO437.out, bl⟩
      ·rw [if_neg c49] at H
       exact absurd H (by simp)
     ·rw [if_neg c47] at H
      exact absurd H (by simp)
    ·rw [if_neg c46] at H
     exact absurd H (by simp)
end Go.Proofs.YtknclbodinfbeaaDoor.PRunsGetTwo
