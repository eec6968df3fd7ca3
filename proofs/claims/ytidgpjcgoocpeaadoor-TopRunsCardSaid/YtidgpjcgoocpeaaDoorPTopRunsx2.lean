-- printed (wip/tools/myprint.py)
import Derived.Test.YtidgpjcgoocpeaaDoorPTopRunsx0
import Derived.Test.YtidgpjcgoocpeaaDoorPTopRunsx1
namespace Go.Proofs.YtidgpjcgoocpeaaDoor.PTopRuns
open Go.RowKit Go.Proofs.YtidgpjcgoocpeaaDoorW.PrintWords Go.Proofs.YtidgpjcgoocpeaaDoorW.PrintLast Go.Proofs.YtidgpjcgoocpeaaDoorW.PrintMore
attribute [local go_sem] max2_int min2_int max_two min_two max_three min_three max_four min_four
set_option linter.unusedVariables false
set_option linter.unusedSimpArgs false
def prefix_Valid.l0 : Nat → List (S103) → List (S103) → Int → Int → Option (Bool)
 | 0, _, _, _, _ => none
 | k + 1, x0, x11, x12, x13 => if x13 < x12 then (if 0 ≤ x13 then (if x13 < (x11.length : Int) then ((prefix_isLine.f ((rd_T103 x11 x13).f0) ((rd_T103 x11 x13).f1) ((rd_T103 x11 x13).f2) ((rd_T103 x11 x13).f3)).bind fun t133 => (if t133 = true then (prefix_Valid.l0 k x0 x11 x12 (wrap64 (x13 + 1))) else (some false))) else (none)) else (none)) else ((prefix_weight.f k x0).bind fun bt134 => (if bt134.2.1 > 0 then (if bt134.2.2 ≤ 1 then (some (decide (bt134.1 ≤ 32768))) else (some false)) else (some false)))
def prefix_Valid.f (k : Nat) (l0 : List (S103)) : Option (Bool) := if (l0.length : Int) > 64 then (some false) else (prefix_Valid.l0 k l0 l0 (l0.length : Int) 0)
theorem prefix_Valid.mono_l : ∀ k, (∀ y0 y1 y2 y3, LeO (prefix_Valid.l0 k y0 y1 y2 y3) (prefix_Valid.l0 (k + 1) y0 y1 y2 y3))
 | 0 => fun _ _ _ _ r h => by simp [prefix_Valid.l0] at h
 | k + 1 => by
  have ih0 := prefix_Valid.mono_l k
  ·intro y0 y1 y2 y3
   unfold prefix_Valid.l0
   repeat' first
   | (with_reducible exact ih0 _ _ _ _)
   | (with_reducible exact prefix_weight.mono _ _)
   | (with_reducible first | exact LeO.refl _ | exact LeO.none _ | refine LeO.ite ?_ ?_ | refine LeO.bind ?_ (fun _ => ?_))
theorem prefix_Valid.mono : ∀ a0 k, LeO (prefix_Valid.f k a0) (prefix_Valid.f (k + 1) a0) := by
 intro a0 k
 have ih0 := prefix_Valid.mono_l k
 unfold prefix_Valid.f
 repeat' first
   | (with_reducible exact ih0 _ _ _ _)
   | (with_reducible exact prefix_weight.mono _ _)
   | (with_reducible first | exact LeO.refl _ | exact LeO.none _ | refine LeO.ite ?_ ?_ | refine LeO.bind ?_ (fun _ => ?_))
set_option maxHeartbeats 8000000 in
set_option maxRecDepth 100000 in
theorem prefix_Valid.calls (k : Nat) (A0 : Option Addr) (c0 : Nat) (l0 : List (S103)) (r : Bool) (w : World) (hr0 : Kd.C k103 w A0 l0.length l0) (hc0 : l0.length ≤ c0) (h : prefix_Valid.f k l0 = some r) :
  Calls Tryd.prog 53 #[.slice A0 l0.length c0] w fun e w' => e = .returned (.bool r) ∧ Below w.heap.size w w' := by
 have hu103 := Tryd.underlying103
 have HR0 := Aside0.mk hr0
 have HC0 := Aside0.mk hc0
 clear hr0 hc0
 have HB := Aside0.mk (Below.refl w.heap.size w)
 have H : (if (l0.length : Int) > 64 then (some false) else (prefix_Valid.l0 k l0 l0 (l0.length : Int) 0)) = some r := h
 clear h
 by_cases c2 : (l0.length : Int) > 64
 ·rw [if_pos c2] at H
  have c2b0 := decide_eq_true c2
  have c2b1 : decide (64 < l0.length) = true := decide_eq_true (by omega)
  clear c2
  obtain rfl := Option.some.inj H
  go_enter Tryd.func53, Tryd.ntmps53
  go_wp2
  go_ret
  exact ⟨re, bl⟩
 ·rw [if_neg c2] at H
  have c2b0 := decide_eq_false c2
  have c2b1 : decide (64 < l0.length) = false := decide_eq_false (by omega)
  clear c2
  have H' := Aside0.mk H
  clear H
  go_enter Tryd.func53, Tryd.ntmps53
  go_wp2
  go_loopg [13] k (fun kq v13 w' => ∃ (x13_1 : Int), v13 = .int .i64 x13_1 ∧ Aside0 (prefix_Valid.l0 kq l0 l0 (l0.length : Int) x13_1 = some r) ∧ Aside0 (kq ≤ k) ∧ Aside0 (Below w.heap.size w w'))
  case atStart => exact ⟨(0), rq, H', ⟨Nat.le_refl _⟩, ⟨bl⟩⟩
  case round =>
   clear H'
   obtain ⟨x13_1, rfl, HA, HK1, HB⟩ := hrel
   cases gk with
   | zero => exact absurd HA.out (by simp [prefix_Valid.l0])
   | succ k1 =>
    have H := HA.out
    clear HA
    simp only [prefix_Valid.l0] at H
    rcases iL H with H1 | H1 <;> clear H <;> obtain ⟨H, c3b0⟩ := H1
    ·by_cases c4 : 0 ≤ x13_1
     ·rw [if_pos c4] at H
      have c4b0 := decide_eq_true c4
      clear c4
      by_cases c5 : x13_1 < (l0.length : Int)
      ·rw [if_pos c5] at H
       have c5b0 := decide_eq_true c5
       clear c5
       obtain ⟨t133, A6, H⟩ := oB H
       try dsimp only at H
       by_cases c7 : t133 = true
       ·subst c7
        rw [if_pos rfl] at H
        have H' := Aside0.mk H
        clear H
        have p131 : 0 ≤ (x13_1 : Int) := dt
        have q131 : x13_1 < (l0.length : Int) := dt
        obtain ⟨ad131, e131, hx131_0, hx131_1, hx131_2, hx131_3⟩ := at_T103 HR0.out x13_1 p131 q131
        cases e131
        replace hx131_0 := hcB HB.out hx131_0
        replace hx131_1 := hcB HB.out hx131_1
        replace hx131_2 := hcB HB.out hx131_2
        replace hx131_3 := hcB HB.out hx131_3
        replace p131 := eq_true p131
        replace q131 := eq_true q131
        go_wp2_with (first | ((with_reducible refine gd 4 rfl ?_); refine bx 4 #[.int .i64 0, .int .i64 0, .int .i64 0, .int .i64 0] 103 rfl rfl ?_; intro gb132 hg w8 hbox hb; have n_ := aC (bs hb) (aC hbox (aC (gz hg) (aE (gz hg)))); clear HB; obtain ⟨HB, BK132, GW132, GE132⟩ := n_; clear hb hbox hg; obtain ⟨hcz9_0, hcz9_1, hcz9_2, hcz9_3, hfz9_0, hfz9_1, hfz9_2, hfz9_3⟩ := cz4f BK132.out) | (refine gF 65 18 Tryd.func65 #[.agg #[.int .i64 ((rd_T103 l0 x13_1).f0), .int .i64 ((rd_T103 l0 x13_1).f1), .int .i64 ((rd_T103 l0 x13_1).f2), .int .i64 ((rd_T103 l0 x13_1).f3)]] rfl rfl ?_; (with_reducible refine (prefix_isLine.calls ((rd_T103 l0 x13_1).f0) ((rd_T103 l0 x13_1).f1) ((rd_T103 l0 x13_1).f2) ((rd_T103 l0 x13_1).f3) true _ A6.out).mono ?_); rintro e w10 ⟨rfl, hb⟩; refine ⟨_, rfl, ?_⟩; have n_ := aC (blk_below (g := gb132) (o := .cells #[.int .i64 ((rd_T103 l0 x13_1).f0), .int .i64 ((rd_T103 l0 x13_1).f1), .int .i64 ((rd_T103 l0 x13_1).f2), .int .i64 ((rd_T103 l0 x13_1).f3)] 103 (0, 0)) (by (with_reducible repeat (first | refine blk_drewN ?_ _ | refine blk_drew ?_ | refine blk_alloc ?_ _)); refine blk_put (cs := #[.int .i64 ((rd_T103 l0 x13_1).f0), .int .i64 ((rd_T103 l0 x13_1).f1), .int .i64 ((rd_T103 l0 x13_1).f2), .int .i64 0]) ?_ 3 _ rfl; (with_reducible repeat (first | refine blk_drewN ?_ _ | refine blk_drew ?_ | refine blk_alloc ?_ _)); refine blk_put (cs := #[.int .i64 ((rd_T103 l0 x13_1).f0), .int .i64 ((rd_T103 l0 x13_1).f1), .int .i64 0, .int .i64 0]) ?_ 2 _ rfl; (with_reducible repeat (first | refine blk_drewN ?_ _ | refine blk_drew ?_ | refine blk_alloc ?_ _)); refine blk_put (cs := #[.int .i64 ((rd_T103 l0 x13_1).f0), .int .i64 0, .int .i64 0, .int .i64 0]) ?_ 1 _ rfl; (with_reducible repeat (first | refine blk_drewN ?_ _ | refine blk_drew ?_ | refine blk_alloc ?_ _)); refine blk_put (cs := #[.int .i64 0, .int .i64 0, .int .i64 0, .int .i64 0]) ?_ 0 _ rfl; (with_reducible repeat (first | refine blk_drewN ?_ _ | refine blk_drew ?_ | refine blk_alloc ?_ _)); exact BK132.out) hb) (aE (bs hb)); clear BK132 HB; obtain ⟨BK132, HB⟩ := n_))
        go_roundg k1
        case measure => have := HK1.out; omega
        case rel => exact ⟨(wrap64 (x13_1 + 1)), rq, H', ⟨by have := HK1.out; omega⟩, ⟨bl⟩⟩
       ·replace c7 := Bool.eq_false_iff.mpr c7
        subst c7
        rw [if_neg Bool.false_ne_true] at H
        obtain rfl := Option.some.inj H
        have p131 : 0 ≤ (x13_1 : Int) := dt
        have q131 : x13_1 < (l0.length : Int) := dt
        obtain ⟨ad131, e131, hx131_0, hx131_1, hx131_2, hx131_3⟩ := at_T103 HR0.out x13_1 p131 q131
        cases e131
        replace hx131_0 := hcB HB.out hx131_0
        replace hx131_1 := hcB HB.out hx131_1
        replace hx131_2 := hcB HB.out hx131_2
        replace hx131_3 := hcB HB.out hx131_3
        replace p131 := eq_true p131
        replace q131 := eq_true q131
        go_wp2_with (first | ((with_reducible refine gd 4 rfl ?_); refine bx 4 #[.int .i64 0, .int .i64 0, .int .i64 0, .int .i64 0] 103 rfl rfl ?_; intro gb132 hg w11 hbox hb; have n_ := aC (bs hb) (aC hbox (aC (gz hg) (aE (gz hg)))); clear HB; obtain ⟨HB, BK132, GW132, GE132⟩ := n_; clear hb hbox hg; obtain ⟨hcz12_0, hcz12_1, hcz12_2, hcz12_3, hfz12_0, hfz12_1, hfz12_2, hfz12_3⟩ := cz4f BK132.out) | (refine gF 65 18 Tryd.func65 #[.agg #[.int .i64 ((rd_T103 l0 x13_1).f0), .int .i64 ((rd_T103 l0 x13_1).f1), .int .i64 ((rd_T103 l0 x13_1).f2), .int .i64 ((rd_T103 l0 x13_1).f3)]] rfl rfl ?_; (with_reducible refine (prefix_isLine.calls ((rd_T103 l0 x13_1).f0) ((rd_T103 l0 x13_1).f1) ((rd_T103 l0 x13_1).f2) ((rd_T103 l0 x13_1).f3) false _ A6.out).mono ?_); rintro e w13 ⟨rfl, hb⟩; refine ⟨_, rfl, ?_⟩; have n_ := aC (blk_below (g := gb132) (o := .cells #[.int .i64 ((rd_T103 l0 x13_1).f0), .int .i64 ((rd_T103 l0 x13_1).f1), .int .i64 ((rd_T103 l0 x13_1).f2), .int .i64 ((rd_T103 l0 x13_1).f3)] 103 (0, 0)) (by (with_reducible repeat (first | refine blk_drewN ?_ _ | refine blk_drew ?_ | refine blk_alloc ?_ _)); refine blk_put (cs := #[.int .i64 ((rd_T103 l0 x13_1).f0), .int .i64 ((rd_T103 l0 x13_1).f1), .int .i64 ((rd_T103 l0 x13_1).f2), .int .i64 0]) ?_ 3 _ rfl; (with_reducible repeat (first | refine blk_drewN ?_ _ | refine blk_drew ?_ | refine blk_alloc ?_ _)); refine blk_put (cs := #[.int .i64 ((rd_T103 l0 x13_1).f0), .int .i64 ((rd_T103 l0 x13_1).f1), .int .i64 0, .int .i64 0]) ?_ 2 _ rfl; (with_reducible repeat (first | refine blk_drewN ?_ _ | refine blk_drew ?_ | refine blk_alloc ?_ _)); refine blk_put (cs := #[.int .i64 ((rd_T103 l0 x13_1).f0), .int .i64 0, .int .i64 0, .int .i64 0]) ?_ 1 _ rfl; (with_reducible repeat (first | refine blk_drewN ?_ _ | refine blk_drew ?_ | refine blk_alloc ?_ _)); refine blk_put (cs := #[.int .i64 0, .int .i64 0, .int .i64 0, .int .i64 0]) ?_ 0 _ rfl; (with_reducible repeat (first | refine blk_drewN ?_ _ | refine blk_drew ?_ | refine blk_alloc ?_ _)); exact BK132.out) hb) (aE (bs hb)); clear BK132 HB; obtain ⟨BK132, HB⟩ := n_))
        go_ret
        exact ⟨re, bl⟩
      ·rw [if_neg c5] at H
       exact absurd H (by simp)
     ·rw [if_neg c4] at H
      exact absurd H (by simp)
    ·obtain ⟨⟨t134, t135, t136⟩, A14, H⟩ := oB H
     try dsimp only at H
     rcases iL H with H1 | H1 <;> clear H <;> obtain ⟨H, c15b0⟩ := H1
     ·rcases iL H with H1 | H1 <;> clear H <;> obtain ⟨H, c16b0⟩ := H1
      ·obtain rfl := Option.some.inj H
       go_wp2_with (first | (refine gF 66 23 Tryd.func66 #[.slice A0 l0.length c0] rfl rfl ?_; (with_reducible refine (prefix_weight.calls k1 _ _ l0 t134 t135 t136 _ ?side1 ?side2 A14.out).mono ?_); (case side1 => exact cU (Kd.C_below HR0.out HB.out)); (case side2 => exact HC0.out); rintro e w17 ⟨rfl, hb⟩; refine ⟨_, rfl, ?_⟩; have n_ := aE (bs hb); clear HB; have HB := n_; clear n_))
       go_ret
       exact ⟨re, bl⟩
      ·obtain rfl := Option.some.inj H
       go_wp2_with (first | (refine gF 66 23 Tryd.func66 #[.slice A0 l0.length c0] rfl rfl ?_; (with_reducible refine (prefix_weight.calls k1 _ _ l0 t134 t135 t136 _ ?side1 ?side2 A14.out).mono ?_); (case side1 => exact cU (Kd.C_below HR0.out HB.out)); (case side2 => exact HC0.out); rintro e w18 ⟨rfl, hb⟩; refine ⟨_, rfl, ?_⟩; have n_ := aE (bs hb); clear HB; have HB := n_; clear n_))
       go_ret
       exact ⟨re, bl⟩
     ·obtain rfl := Option.some.inj H
      go_wp2_with (first | (refine gF 66 23 Tryd.func66 #[.slice A0 l0.length c0] rfl rfl ?_; (with_reducible refine (prefix_weight.calls k1 _ _ l0 t134 t135 t136 _ ?side1 ?side2 A14.out).mono ?_); (case side1 => exact cU (Kd.C_below HR0.out HB.out)); (case side2 => exact HC0.out); rintro e w19 ⟨rfl, hb⟩; refine ⟨_, rfl, ?_⟩; have n_ := aE (bs hb); clear HB; have HB := n_; clear n_))
      go_ret
      exact ⟨re, bl⟩
mutual
def prefix_offset.j0 : Nat → Bool → Int → Int → Int → Int → Bool → Int → Option (Int × Bool)
 | 0, _, _, _, _, _, _, _ => none
 | k + 1, x13, x138000, x138001, x138002, x138003, x139000, x139001 => if x13 = true then (if x139000 = true then (if x139001 = 0 then (some (0, (x138003 == 2))) else (some (0, false))) else (some (0, false))) else (if x139001 < (-4194304) then (prefix_offset.j1 k true x138000 x138001 x138002 x138003 x139000 x139001) else (prefix_offset.j1 k (decide (x139001 > 4194304)) x138000 x138001 x138002 x138003 x139000 x139001))
def prefix_offset.j1 : Nat → Bool → Int → Int → Int → Int → Bool → Int → Option (Int × Bool)
 | 0, _, _, _, _, _, _, _ => none
 | k + 1, x33, x138000, x138001, x138002, x138003, x139000, x139001 => if x33 = true then (some (0, false)) else (if x138003 = 1 then (if (wrap64 (-(wrap64 (x139001 - x138002)))) ≥ 0 then (if 0 ≤ x138001 then (some (wrap64 (-(wrap64 (x139001 - x138002))), decide ((wrap64 (-(wrap64 (x139001 - x138002)))) < (shl .i64 1 x138001)))) else (none)) else (some (wrap64 (-(wrap64 (x139001 - x138002))), false))) else (if (wrap64 (x139001 - x138002)) ≥ 0 then (if 0 ≤ x138001 then (some (wrap64 (x139001 - x138002), decide ((wrap64 (x139001 - x138002)) < (shl .i64 1 x138001)))) else (none)) else (some (wrap64 (x139001 - x138002), false))))
end
def prefix_offset.f (k : Nat) (a0_0 : Int) (a0_1 : Int) (a0_2 : Int) (a0_3 : Int) (a1_0 : Bool) (a1_1 : Int) : Option (Int × Bool) := if a1_0 = true then (prefix_offset.j0 k true a0_0 a0_1 a0_2 a0_3 a1_0 a1_1) else (prefix_offset.j0 k (a0_3 == 2) a0_0 a0_1 a0_2 a0_3 a1_0 a1_1)
theorem prefix_offset.mono_l : ∀ k, (∀ y0 y1 y2 y3 y4 y5 y6, LeO (prefix_offset.j0 k y0 y1 y2 y3 y4 y5 y6) (prefix_offset.j0 (k + 1) y0 y1 y2 y3 y4 y5 y6)) ∧ (∀ y0 y1 y2 y3 y4 y5 y6, LeO (prefix_offset.j1 k y0 y1 y2 y3 y4 y5 y6) (prefix_offset.j1 (k + 1) y0 y1 y2 y3 y4 y5 y6))
 | 0 => ⟨fun _ _ _ _ _ _ _ r h => by simp [prefix_offset.j0] at h, fun _ _ _ _ _ _ _ r h => by simp [prefix_offset.j1] at h⟩
 | k + 1 => by
  obtain ⟨ih0, ih1⟩ := prefix_offset.mono_l k
  refine ⟨?_, ?_⟩
  ·intro y0 y1 y2 y3 y4 y5 y6
   unfold prefix_offset.j0
   repeat' first
   | (with_reducible exact ih0 _ _ _ _ _ _ _)
   | (with_reducible exact ih1 _ _ _ _ _ _ _)
   | (with_reducible first | exact LeO.refl _ | exact LeO.none _ | refine LeO.ite ?_ ?_ | refine LeO.bind ?_ (fun _ => ?_))
  ·intro y0 y1 y2 y3 y4 y5 y6
   unfold prefix_offset.j1
   repeat' first
   | (with_reducible exact ih0 _ _ _ _ _ _ _)
   | (with_reducible exact ih1 _ _ _ _ _ _ _)
   | (with_reducible first | exact LeO.refl _ | exact LeO.none _ | refine LeO.ite ?_ ?_ | refine LeO.bind ?_ (fun _ => ?_))
theorem prefix_offset.mono : ∀ a0 a1 a2 a3 a4 a5 k, LeO (prefix_offset.f k a0 a1 a2 a3 a4 a5) (prefix_offset.f (k + 1) a0 a1 a2 a3 a4 a5) := by
 intro a0 a1 a2 a3 a4 a5 k
 obtain ⟨ih0, ih1⟩ := prefix_offset.mono_l k
 unfold prefix_offset.f
 repeat' first
   | (with_reducible exact ih0 _ _ _ _ _ _ _)
   | (with_reducible exact ih1 _ _ _ _ _ _ _)
   | (with_reducible first | exact LeO.refl _ | exact LeO.none _ | refine LeO.ite ?_ ?_ | refine LeO.bind ?_ (fun _ => ?_))
set_option maxHeartbeats 8000000 in
set_option maxRecDepth 100000 in
theorem prefix_offset.calls (k : Nat) (a0_0 : Int) (a0_1 : Int) (a0_2 : Int) (a0_3 : Int) (a1_0 : Bool) (a1_1 : Int) (r1 : Int) (r2 : Bool) (w : World) (h : prefix_offset.f k a0_0 a0_1 a0_2 a0_3 a1_0 a1_1 = some (r1, r2)) :
  Calls Tryd.prog 81 #[.agg #[.int .i64 a0_0, .int .i64 a0_1, .int .i64 a0_2, .int .i64 a0_3], .agg #[.bool a1_0, .int .i64 a1_1]] w fun e w' => e = .returned (.tuple #[.int .i64 r1, .bool r2]) ∧ Below w.heap.size w w' := by
 have hu103 := Tryd.underlying103
 have hu72 := Tryd.underlying72
 have HB := Aside0.mk (Below.refl w.heap.size w)
 have H := h
 unfold prefix_offset.f at H
 clear h
 have HC3 := Aside0.mk H
 clear H
 go_enter Tryd.func81, Tryd.ntmps81
 go_upto_region 1 with (first | ((with_reducible refine gd 2 rfl ?_); refine bx 2 #[.int .i64 a0_0, .int .i64 a0_1, .int .i64 a0_2, .int .i64 a0_3] 103 rfl rfl ?_; intro gb137 hg w4 hbox hb; have n_ := aC (bs hb) (aC hbox (aC (gz hg) (aE (gz hg)))); clear HB; obtain ⟨HB, BK137, GW137, GE137⟩ := n_; clear hb hbox hg) | ((with_reducible refine gd 3 rfl ?_); refine bx 3 #[.bool a1_0, .int .i64 a1_1] 72 rfl rfl ?_; intro gb138 hg w5 hbox hb; have n_ := aC (blk_below (bU BK137.out) hb) (aC (bs hb) (aC hbox (aC (gz hg) (aC (gz hg) (aC (gn hg (bU BK137.out)) (aE (gm hg (bU BK137.out)))))))); clear BK137 HB; obtain ⟨BK137, HB, BK138, GW138, GE138, NB137_138, NB138_137⟩ := n_; clear hb hbox hg))
 (try simp only [Act.put, List.setIfInBounds_toArray, List.set_cons_zero, List.set_cons_succ])
 go_cut [13] (fun v13 wc => ∃ (kq : Nat) (x13_2 : Bool), v13 = .bool x13_2 ∧ Aside0 (prefix_offset.j0 kq x13_2 a0_0 a0_1 a0_2 a0_3 a1_0 a1_1 = some (r1, r2)) ∧ Aside0 (kq ≤ k) ∧ Aside0 (wc.heap[gb137]? = some (.cells #[.int .i64 a0_0, .int .i64 a0_1, .int .i64 a0_2, .int .i64 a0_3] 103 (0, 0))) ∧ Aside0 (wc.heap[gb138]? = some (.cells #[.bool a1_0, .int .i64 a1_1] 72 (0, 0))) ∧ Aside0 (Below w.heap.size w wc))
 case first =>
  have H := HC3.out
  clear HC3
  by_cases c6 : a1_0 = true
  ·subst c6
   rw [if_pos rfl] at H
   have H' := Aside0.mk H
   clear H
   have hnb7 := NB138_137.out
   have hnc7 := NB137_138.out
   obtain ⟨hcz8_0, hcz8_1, hfz8_0, hfz8_1⟩ := cz2f BK138.out
   go_wp2
   go_meet
   case rel => exact ⟨_, (true), rq, H', ⟨by first | omega | exact Nat.le_refl _⟩, ⟨bU BK137.out⟩, ⟨bU BK138.out⟩, ⟨bl⟩⟩
  ·replace c6 := Bool.eq_false_iff.mpr c6
   subst c6
   rw [if_neg Bool.false_ne_true] at H
   have H' := Aside0.mk H
   clear H
   have hnb9 := NB138_137.out
   have hnc9 := NB137_138.out
   obtain ⟨hcz10_0, hcz10_1, hfz10_0, hfz10_1⟩ := cz2f BK138.out
   obtain ⟨hcz11_0, hcz11_1, hcz11_2, hcz11_3, hfz11_0, hfz11_1, hfz11_2, hfz11_3⟩ := cz4f BK137.out
   go_wp2
   go_meet
   case rel => exact ⟨_, ((a0_3 == 2)), rq, H', ⟨by first | omega | exact Nat.le_refl _⟩, ⟨bU BK137.out⟩, ⟨bU BK138.out⟩, ⟨bl⟩⟩
 case rest =>
  clear HC3
  obtain ⟨kq, x13_2, rfl, HA, HJ2, BK137, BK138, HB⟩ := hcut
  cases kq with
  | zero => exact absurd HA.out (by simp [prefix_offset.j0])
  | succ kj2 =>
   have H := HA.out
   clear HA
   simp only [prefix_offset.j0] at H
   by_cases c12 : x13_2 = true
   ·subst c12
    rw [if_pos rfl] at H
    by_cases c13 : a1_0 = true
    ·subst c13
     rw [if_pos rfl] at H
     rcases iE H with H1 | H1 <;> clear H <;> obtain ⟨H, c14b0, c14b1, c14⟩ := H1
     ·simp only [Option.some.injEq, Prod.mk.injEq] at H
      obtain ⟨rfl, rfl⟩ := H
      have hnb15 := NB138_137.out
      have hnc15 := NB137_138.out
      obtain ⟨hcz16_0, hcz16_1, hfz16_0, hfz16_1⟩ := cz2f BK138.out
      obtain ⟨hcz17_0, hcz17_1, hcz17_2, hcz17_3, hfz17_0, hfz17_1, hfz17_2, hfz17_3⟩ := cz4f BK137.out
      go_wp2
      repeat (go_quiet (fail); try go_wp2)
      go_ret2
      exact ⟨re, bl⟩
     ·simp only [Option.some.injEq, Prod.mk.injEq] at H
      obtain ⟨rfl, rfl⟩ := H
      have hnb18 := NB138_137.out
      have hnc18 := NB137_138.out
      obtain ⟨hcz19_0, hcz19_1, hfz19_0, hfz19_1⟩ := cz2f BK138.out
      go_wp2
      repeat (go_quiet (fail); try go_wp2)
      go_ret2
      exact ⟨re, bl⟩
    ·replace c13 := Bool.eq_false_iff.mpr c13
     subst c13
     rw [if_neg Bool.false_ne_true] at H
     simp only [Option.some.injEq, Prod.mk.injEq] at H
     obtain ⟨rfl, rfl⟩ := H
     have hnb20 := NB138_137.out
     have hnc20 := NB137_138.out
     obtain ⟨hcz21_0, hcz21_1, hfz21_0, hfz21_1⟩ := cz2f BK138.out
     go_wp2
     repeat (go_quiet (fail); try go_wp2)
     go_ret2
     exact ⟨re, bl⟩
   ·replace c12 := Bool.eq_false_iff.mpr c12
    subst c12
    rw [if_neg Bool.false_ne_true] at H
    have HC22 := Aside0.mk H
    clear H
    go_upto_region 3 with (fail)
    go_cut [33] (fun v33 wc => ∃ (kq : Nat) (x33_21 : Bool), v33 = .bool x33_21 ∧ Aside0 (prefix_offset.j1 kq x33_21 a0_0 a0_1 a0_2 a0_3 a1_0 a1_1 = some (r1, r2)) ∧ Aside0 (kq ≤ kj2) ∧ Aside0 (wc.heap[gb137]? = some (.cells #[.int .i64 a0_0, .int .i64 a0_1, .int .i64 a0_2, .int .i64 a0_3] 103 (0, 0))) ∧ Aside0 (wc.heap[gb138]? = some (.cells #[.bool a1_0, .int .i64 a1_1] 72 (0, 0))) ∧ Aside0 (Below w.heap.size w wc))
    case first =>
     have H := HC22.out
     clear HC22
     rcases iL H with H1 | H1 <;> clear H <;> obtain ⟨H, c23b0⟩ := H1
     ·(first | rw [c23b0] | (simp only [i64_w, i32_w]; rw [c23b0]) | skip)
      have H' := Aside0.mk H
      clear H
      have hnb24 := NB138_137.out
      have hnc24 := NB137_138.out
      obtain ⟨hcz25_0, hcz25_1, hfz25_0, hfz25_1⟩ := cz2f BK138.out
      go_wp2
      go_meet
      case rel => exact ⟨_, (true), rq, H', ⟨by have := HJ2.out; first | omega | exact Nat.le_refl _⟩, ⟨bU BK137.out⟩, ⟨bU BK138.out⟩, ⟨bl⟩⟩
     ·(first | rw [c23b0] | (simp only [i64_w, i32_w]; rw [c23b0]) | skip)
      have H' := Aside0.mk H
      clear H
      have hnb26 := NB138_137.out
      have hnc26 := NB137_138.out
      obtain ⟨hcz27_0, hcz27_1, hfz27_0, hfz27_1⟩ := cz2f BK138.out
      go_wp2
      go_meet
      case rel => exact ⟨_, (decide (a1_1 > 4194304)), rq, H', ⟨by have := HJ2.out; first | omega | exact Nat.le_refl _⟩, ⟨bU BK137.out⟩, ⟨bU BK138.out⟩, ⟨bl⟩⟩
    case rest =>
     clear HC22
     obtain ⟨kq, x33_21, rfl, HA, HJ21, BK137, BK138, HB⟩ := hcut
     cases kq with
     | zero => exact absurd HA.out (by simp [prefix_offset.j1])
     | succ kj21 =>
      have H := HA.out
      clear HA
      simp only [prefix_offset.j1] at H
      by_cases c28 : x33_21 = true
      ·subst c28
       rw [if_pos rfl] at H
       simp only [Option.some.injEq, Prod.mk.injEq] at H
       obtain ⟨rfl, rfl⟩ := H
       go_wp2
       go_ret2
       exact ⟨re, bl⟩
      ·replace c28 := Bool.eq_false_iff.mpr c28
       subst c28
       rw [if_neg Bool.false_ne_true] at H
       rcases iE H with H1 | H1 <;> clear H <;> obtain ⟨H, c29b0, c29b1, c29⟩ := H1
       ·rcases iL H with H1 | H1 <;> clear H <;> obtain ⟨H, c30b0⟩ := H1
        ·by_cases c31 : 0 ≤ a0_1
         ·rw [if_pos c31] at H
          have c31b0 := eq_true c31
          have c31b1 := decide_eq_true c31
          clear c31
          obtain ⟨ji32, hji32⟩ : ∃ j_ : Int, (shl .i64 1 a0_1) = j_ := ⟨_, rfl⟩
          replace H : (some (wrap64 (-(wrap64 (a1_1 - a0_2))), decide ((wrap64 (-(wrap64 (a1_1 - a0_2)))) < (ji32)))) = some (r1, r2) := by first | (rw [hji32] at H; exact H) | (simp only [hji32] at H ⊢; exact H)
          have hji32_ : (IntKind.i64.wrap (1 * 2 ^ min a0_1.toNat 64)) = ji32 := hji32
          have hji32z : a0_1 ≤ 64 → (IntKind.i64.wrap (1 * 2 ^ a0_1.toNat)) = ji32 := shl_small hji32
          have hji32u : (IntKind.i64.wrap (2 ^ min a0_1.toNat 64)) = ji32 := by have h_ := hji32_; rw [Int.one_mul] at h_; exact h_
          have hji32v : a0_1 ≤ 64 → (IntKind.i64.wrap (2 ^ a0_1.toNat)) = ji32 := fun hle_ => by have h_ := hji32z hle_; rw [Int.one_mul] at h_; exact h_
          have hji32y : (wrap64 (1 * 2 ^ min a0_1.toNat 64)) = ji32 := (i64_w _).symm.trans hji32_
          have hji32x : a0_1 ≤ 64 → (wrap64 (1 * 2 ^ a0_1.toNat)) = ji32 := fun h_ => (i64_w _).symm.trans (hji32z h_)
          simp only [Option.some.injEq, Prod.mk.injEq] at H
          obtain ⟨rfl, rfl⟩ := H
          have hnb33 := NB138_137.out
          have hnc33 := NB137_138.out
          obtain ⟨hcz34_0, hcz34_1, hfz34_0, hfz34_1⟩ := cz2f BK138.out
          obtain ⟨hcz35_0, hcz35_1, hcz35_2, hcz35_3, hfz35_0, hfz35_1, hfz35_2, hfz35_3⟩ := cz4f BK137.out
          go_wp2
          repeat (go_quiet (fail); try go_wp2)
          go_ret2
          exact ⟨by first | rfl | (simp [errW_none, errW_some] <;> rfl) | (simp only [← hji32]; first | rfl | (simp [errW_none, errW_some] <;> rfl)) | (simp [*, errW_none, errW_some] <;> rfl), bl⟩
         ·rw [if_neg c31] at H
          exact absurd H (by simp)
        ·simp only [Option.some.injEq, Prod.mk.injEq] at H
         obtain ⟨rfl, rfl⟩ := H
         have hnb36 := NB138_137.out
         have hnc36 := NB137_138.out
         obtain ⟨hcz37_0, hcz37_1, hfz37_0, hfz37_1⟩ := cz2f BK138.out
         obtain ⟨hcz38_0, hcz38_1, hcz38_2, hcz38_3, hfz38_0, hfz38_1, hfz38_2, hfz38_3⟩ := cz4f BK137.out
         go_wp2
         repeat (go_quiet (fail); try go_wp2)
         go_ret2
         exact ⟨re, bl⟩
       ·rcases iL H with H1 | H1 <;> clear H <;> obtain ⟨H, c39b0⟩ := H1
        ·by_cases c40 : 0 ≤ a0_1
         ·rw [if_pos c40] at H
          have c40b0 := eq_true c40
          have c40b1 := decide_eq_true c40
          clear c40
          obtain ⟨ji41, hji41⟩ : ∃ j_ : Int, (shl .i64 1 a0_1) = j_ := ⟨_, rfl⟩
          replace H : (some (wrap64 (a1_1 - a0_2), decide ((wrap64 (a1_1 - a0_2)) < (ji41)))) = some (r1, r2) := by first | (rw [hji41] at H; exact H) | (simp only [hji41] at H ⊢; exact H)
          have hji41_ : (IntKind.i64.wrap (1 * 2 ^ min a0_1.toNat 64)) = ji41 := hji41
          have hji41z : a0_1 ≤ 64 → (IntKind.i64.wrap (1 * 2 ^ a0_1.toNat)) = ji41 := shl_small hji41
          have hji41u : (IntKind.i64.wrap (2 ^ min a0_1.toNat 64)) = ji41 := by have h_ := hji41_; rw [Int.one_mul] at h_; exact h_
          have hji41v : a0_1 ≤ 64 → (IntKind.i64.wrap (2 ^ a0_1.toNat)) = ji41 := fun hle_ => by have h_ := hji41z hle_; rw [Int.one_mul] at h_; exact h_
          have hji41y : (wrap64 (1 * 2 ^ min a0_1.toNat 64)) = ji41 := (i64_w _).symm.trans hji41_
          have hji41x : a0_1 ≤ 64 → (wrap64 (1 * 2 ^ a0_1.toNat)) = ji41 := fun h_ => (i64_w _).symm.trans (hji41z h_)
          simp only [Option.some.injEq, Prod.mk.injEq] at H
          obtain ⟨rfl, rfl⟩ := H
          have hnb42 := NB138_137.out
          have hnc42 := NB137_138.out
          obtain ⟨hcz43_0, hcz43_1, hfz43_0, hfz43_1⟩ := cz2f BK138.out
          obtain ⟨hcz44_0, hcz44_1, hcz44_2, hcz44_3, hfz44_0, hfz44_1, hfz44_2, hfz44_3⟩ := cz4f BK137.out
          go_wp2
          repeat (go_quiet (fail); try go_wp2)
          go_ret2
          exact ⟨by first | rfl | (simp [errW_none, errW_some] <;> rfl) | (simp only [← hji41]; first | rfl | (simp [errW_none, errW_some] <;> rfl)) | (simp [*, errW_none, errW_some] <;> rfl), bl⟩
         ·rw [if_neg c40] at H
          exact absurd H (by simp)
        ·simp only [Option.some.injEq, Prod.mk.injEq] at H
         obtain ⟨rfl, rfl⟩ := H
         have hnb45 := NB138_137.out
         have hnc45 := NB137_138.out
         obtain ⟨hcz46_0, hcz46_1, hfz46_0, hfz46_1⟩ := cz2f BK138.out
         obtain ⟨hcz47_0, hcz47_1, hcz47_2, hcz47_3, hfz47_0, hfz47_1, hfz47_2, hfz47_3⟩ := cz4f BK137.out
         go_wp2
         repeat (go_quiet (fail); try go_wp2)
         go_ret2
         exact ⟨re, bl⟩
def prefix_line.l0 : Nat → List (S103) → Int → Int → List (S103) → Int → Int → Bool → Int → Option (Int × Int)
 | 0, _, _, _, _, _, _, _, _ => none
 | k + 1, x0, x4, x5, x10, x11, x12, x140000, x140001 => if x12 < x11 then (if 0 ≤ x12 then (if x12 < (x10.length : Int) then ((prefix_offset.f k ((rd_T103 x10 x12).f0) ((rd_T103 x10 x12).f1) ((rd_T103 x10 x12).f2) ((rd_T103 x10 x12).f3) x140000 x140001).bind fun bt142 => (if bt142.2 = true then (if ((rd_T103 x10 x12).f0) > 0 then (if x4 < 0 then (prefix_line.l0 k x0 x12 bt142.1 x10 x11 (wrap64 (x12 + 1)) x140000 x140001) else (if 0 ≤ x4 then (if x4 < (x0.length : Int) then (if (wrap64 (((rd_T103 x10 x12).f0) + ((rd_T103 x10 x12).f1))) < (wrap64 (((rd_T103 x0 x4).f0) + ((rd_T103 x0 x4).f1))) then (prefix_line.l0 k x0 x12 bt142.1 x10 x11 (wrap64 (x12 + 1)) x140000 x140001) else (prefix_line.l0 k x0 x4 x5 x10 x11 (wrap64 (x12 + 1)) x140000 x140001)) else (none)) else (none))) else (prefix_line.l0 k x0 x4 x5 x10 x11 (wrap64 (x12 + 1)) x140000 x140001)) else (prefix_line.l0 k x0 x4 x5 x10 x11 (wrap64 (x12 + 1)) x140000 x140001))) else (none)) else (none)) else (some (x4, x5))
def prefix_line.f (k : Nat) (l0 : List (S103)) (a1_0 : Bool) (a1_1 : Int) : Option (Int × Int) := prefix_line.l0 k l0 (-1) 0 l0 (l0.length : Int) 0 a1_0 a1_1
theorem prefix_line.mono_l : ∀ k, (∀ y0 y1 y2 y3 y4 y5 y6 y7, LeO (prefix_line.l0 k y0 y1 y2 y3 y4 y5 y6 y7) (prefix_line.l0 (k + 1) y0 y1 y2 y3 y4 y5 y6 y7))
 | 0 => fun _ _ _ _ _ _ _ _ r h => by simp [prefix_line.l0] at h
 | k + 1 => by
  have ih0 := prefix_line.mono_l k
  ·intro y0 y1 y2 y3 y4 y5 y6 y7
   unfold prefix_line.l0
   repeat' first
   | (with_reducible exact ih0 _ _ _ _ _ _ _ _)
   | (with_reducible exact prefix_offset.mono _ _ _ _ _ _ _)
   | (with_reducible first | exact LeO.refl _ | exact LeO.none _ | refine LeO.ite ?_ ?_ | refine LeO.bind ?_ (fun _ => ?_))
theorem prefix_line.mono : ∀ a0 a1 a2 k, LeO (prefix_line.f k a0 a1 a2) (prefix_line.f (k + 1) a0 a1 a2) := by
 intro a0 a1 a2 k
 have ih0 := prefix_line.mono_l k
 unfold prefix_line.f
 repeat' first
   | (with_reducible exact ih0 _ _ _ _ _ _ _ _)
   | (with_reducible exact prefix_offset.mono _ _ _ _ _ _ _)
   | (with_reducible first | exact LeO.refl _ | exact LeO.none _ | refine LeO.ite ?_ ?_ | refine LeO.bind ?_ (fun _ => ?_))
set_option maxHeartbeats 8000000 in
set_option maxRecDepth 100000 in
theorem prefix_line.calls (k : Nat) (A0 : Option Addr) (c0 : Nat) (l0 : List (S103)) (a1_0 : Bool) (a1_1 : Int) (r1 : Int) (r2 : Int) (w : World) (hr0 : Kd.C k103 w A0 l0.length l0) (hc0 : l0.length ≤ c0) (h : prefix_line.f k l0 a1_0 a1_1 = some (r1, r2)) :
  Calls Tryd.prog 67 #[.slice A0 l0.length c0, .agg #[.bool a1_0, .int .i64 a1_1]] w fun e w' => e = .returned (.tuple #[.int .i64 r1, .int .i64 r2]) ∧ Below w.heap.size w w' := by
 have hu72 := Tryd.underlying72
 have hu103 := Tryd.underlying103
 have HR0 := Aside0.mk hr0
 have HC0 := Aside0.mk hc0
 clear hr0 hc0
 have HB := Aside0.mk (Below.refl w.heap.size w)
 have H : (prefix_line.l0 k l0 (-1) 0 l0 (l0.length : Int) 0 a1_0 a1_1) = some (r1, r2) := h
 clear h
 have H' := Aside0.mk H
 clear H
 go_enter Tryd.func67, Tryd.ntmps67
 go_wp2_with (first | ((with_reducible refine gd 3 rfl ?_); refine bx 3 #[.bool a1_0, .int .i64 a1_1] 72 rfl rfl ?_; intro gb139 hg w3 hbox hb; have n_ := aC (bs hb) (aC hbox (aC (gz hg) (aE (gz hg)))); clear HB; obtain ⟨HB, BK139, GW139, GE139⟩ := n_; clear hb hbox hg))
 go_loopg [4, 5, 12] k (fun kq v4 v5 v12 w' => ∃ (x4_1 : Int) (x5_1 : Int) (x12_1 : Int), v4 = .int .i64 x4_1 ∧ v5 = .int .i64 x5_1 ∧ v12 = .int .i64 x12_1 ∧ Aside0 (prefix_line.l0 kq l0 x4_1 x5_1 l0 (l0.length : Int) x12_1 a1_0 a1_1 = some (r1, r2)) ∧ Aside0 (kq ≤ k) ∧ Aside0 (w'.heap[gb139]? = some (.cells #[.bool a1_0, .int .i64 a1_1] 72 (0, 0))) ∧ Aside0 (Below w.heap.size w w'))
 case atStart => exact ⟨((-1)), (0), (0), rq, rq, rq, H', ⟨Nat.le_refl _⟩, ⟨bU BK139.out⟩, ⟨bl⟩⟩
 case round =>
  clear H'
  obtain ⟨x4_1, x5_1, x12_1, rfl, rfl, rfl, HA, HK1, BK139, HB⟩ := hrel
  cases gk with
  | zero => exact absurd HA.out (by simp [prefix_line.l0])
  | succ k1 =>
   have H := HA.out
   clear HA
   simp only [prefix_line.l0] at H
   rcases iL H with H1 | H1 <;> clear H <;> obtain ⟨H, c4b0⟩ := H1
   ·by_cases c5 : 0 ≤ x12_1
    ·rw [if_pos c5] at H
     have c5b0 := decide_eq_true c5
     clear c5
     by_cases c6 : x12_1 < (l0.length : Int)
     ·rw [if_pos c6] at H
      have c6b0 := decide_eq_true c6
      clear c6
      obtain ⟨⟨t142, t143⟩, A7, H⟩ := oB H
      try dsimp only at H
      by_cases c8 : t143 = true
      ·subst c8
       rw [if_pos rfl] at H
       rcases iL H with H1 | H1 <;> clear H <;> obtain ⟨H, c9b0⟩ := H1
       ·rcases iL H with H1 | H1 <;> clear H <;> obtain ⟨H, c10b0⟩ := H1
        ·have H' := Aside0.mk H
         clear H
         have p140 : 0 ≤ (x12_1 : Int) := dt
         have q140 : x12_1 < (l0.length : Int) := dt
         obtain ⟨ad140, e140, hx140_0, hx140_1, hx140_2, hx140_3⟩ := at_T103 HR0.out x12_1 p140 q140
         cases e140
         replace hx140_0 := hcB HB.out hx140_0
         replace hx140_1 := hcB HB.out hx140_1
         replace hx140_2 := hcB HB.out hx140_2
         replace hx140_3 := hcB HB.out hx140_3
         replace p140 := eq_true p140
         replace q140 := eq_true q140
         go_wp2_with (first | ((with_reducible refine gd 7 rfl ?_); refine bx 7 #[.int .i64 0, .int .i64 0, .int .i64 0, .int .i64 0] 103 rfl rfl ?_; intro gb141 hg w11 hbox hb; have n_ := aC (blk_below (bU BK139.out) hb) (aC (bs hb) (aC hbox (aC (gz hg) (aC (gz hg) (aC (gn hg (bU BK139.out)) (aE (gm hg (bU BK139.out)))))))); clear BK139 HB; obtain ⟨BK139, HB, BK141, GW141, GE141, NB139_141, NB141_139⟩ := n_; clear hb hbox hg; have hnb12 := NB141_139.out; have hnc12 := NB139_141.out; obtain ⟨hcz13_0, hcz13_1, hcz13_2, hcz13_3, hfz13_0, hfz13_1, hfz13_2, hfz13_3⟩ := cz4f BK141.out; obtain ⟨hcz14_0, hcz14_1, hfz14_0, hfz14_1⟩ := cz2f BK139.out) | (go_at_call 81; (with_reducible refine (prefix_offset.calls k1 ((rd_T103 l0 x12_1).f0) ((rd_T103 l0 x12_1).f1) ((rd_T103 l0 x12_1).f2) ((rd_T103 l0 x12_1).f3) a1_0 a1_1 t142 true _ A7.out).mono ?_); rintro e w15 ⟨rfl, hb⟩; have n_ := aC (blk_below (g := gb139) (o := .cells #[.bool a1_0, .int .i64 a1_1] 72 (0, 0)) (by (with_reducible repeat (first | refine blk_drewN ?_ _ | refine blk_drew ?_ | refine blk_alloc ?_ _)); refine blk_far ?_ NB139_141.out _; (with_reducible repeat (first | refine blk_drewN ?_ _ | refine blk_drew ?_ | refine blk_alloc ?_ _)); refine blk_far ?_ NB139_141.out _; (with_reducible repeat (first | refine blk_drewN ?_ _ | refine blk_drew ?_ | refine blk_alloc ?_ _)); refine blk_far ?_ NB139_141.out _; (with_reducible repeat (first | refine blk_drewN ?_ _ | refine blk_drew ?_ | refine blk_alloc ?_ _)); refine blk_far ?_ NB139_141.out _; (with_reducible repeat (first | refine blk_drewN ?_ _ | refine blk_drew ?_ | refine blk_alloc ?_ _)); exact BK139.out) hb) (aC (blk_below (g := gb141) (o := .cells #[.int .i64 ((rd_T103 l0 x12_1).f0), .int .i64 ((rd_T103 l0 x12_1).f1), .int .i64 ((rd_T103 l0 x12_1).f2), .int .i64 ((rd_T103 l0 x12_1).f3)] 103 (0, 0)) (by (with_reducible repeat (first | refine blk_drewN ?_ _ | refine blk_drew ?_ | refine blk_alloc ?_ _)); refine blk_put (cs := #[.int .i64 ((rd_T103 l0 x12_1).f0), .int .i64 ((rd_T103 l0 x12_1).f1), .int .i64 ((rd_T103 l0 x12_1).f2), .int .i64 0]) ?_ 3 _ rfl; (with_reducible repeat (first | refine blk_drewN ?_ _ | refine blk_drew ?_ | refine blk_alloc ?_ _)); refine blk_put (cs := #[.int .i64 ((rd_T103 l0 x12_1).f0), .int .i64 ((rd_T103 l0 x12_1).f1), .int .i64 0, .int .i64 0]) ?_ 2 _ rfl; (with_reducible repeat (first | refine blk_drewN ?_ _ | refine blk_drew ?_ | refine blk_alloc ?_ _)); refine blk_put (cs := #[.int .i64 ((rd_T103 l0 x12_1).f0), .int .i64 0, .int .i64 0, .int .i64 0]) ?_ 1 _ rfl; (with_reducible repeat (first | refine blk_drewN ?_ _ | refine blk_drew ?_ | refine blk_alloc ?_ _)); refine blk_put (cs := #[.int .i64 0, .int .i64 0, .int .i64 0, .int .i64 0]) ?_ 0 _ rfl; (with_reducible repeat (first | refine blk_drewN ?_ _ | refine blk_drew ?_ | refine blk_alloc ?_ _)); exact BK141.out) hb) (aE (bs hb))); clear BK139 BK141 HB; obtain ⟨BK139, BK141, HB⟩ := n_; obtain ⟨hcz16_0, hcz16_1, hcz16_2, hcz16_3, hfz16_0, hfz16_1, hfz16_2, hfz16_3⟩ := cz4f BK141.out))
         repeat (go_quiet (first | ((with_reducible refine gd 7 rfl ?_); refine bx 7 #[.int .i64 0, .int .i64 0, .int .i64 0, .int .i64 0] 103 rfl rfl ?_; intro gb141 hg w11 hbox hb; have n_ := aC (blk_below (bU BK139.out) hb) (aC (bs hb) (aC hbox (aC (gz hg) (aC (gz hg) (aC (gn hg (bU BK139.out)) (aE (gm hg (bU BK139.out)))))))); clear BK139 HB; obtain ⟨BK139, HB, BK141, GW141, GE141, NB139_141, NB141_139⟩ := n_; clear hb hbox hg; have hnb12 := NB141_139.out; have hnc12 := NB139_141.out; obtain ⟨hcz13_0, hcz13_1, hcz13_2, hcz13_3, hfz13_0, hfz13_1, hfz13_2, hfz13_3⟩ := cz4f BK141.out; obtain ⟨hcz14_0, hcz14_1, hfz14_0, hfz14_1⟩ := cz2f BK139.out) | (go_at_call 81; (with_reducible refine (prefix_offset.calls k1 ((rd_T103 l0 x12_1).f0) ((rd_T103 l0 x12_1).f1) ((rd_T103 l0 x12_1).f2) ((rd_T103 l0 x12_1).f3) a1_0 a1_1 t142 true _ A7.out).mono ?_); rintro e w15 ⟨rfl, hb⟩; have n_ := aC (blk_below (g := gb139) (o := .cells #[.bool a1_0, .int .i64 a1_1] 72 (0, 0)) (by (with_reducible repeat (first | refine blk_drewN ?_ _ | refine blk_drew ?_ | refine blk_alloc ?_ _)); refine blk_far ?_ NB139_141.out _; (with_reducible repeat (first | refine blk_drewN ?_ _ | refine blk_drew ?_ | refine blk_alloc ?_ _)); refine blk_far ?_ NB139_141.out _; (with_reducible repeat (first | refine blk_drewN ?_ _ | refine blk_drew ?_ | refine blk_alloc ?_ _)); refine blk_far ?_ NB139_141.out _; (with_reducible repeat (first | refine blk_drewN ?_ _ | refine blk_drew ?_ | refine blk_alloc ?_ _)); refine blk_far ?_ NB139_141.out _; (with_reducible repeat (first | refine blk_drewN ?_ _ | refine blk_drew ?_ | refine blk_alloc ?_ _)); exact BK139.out) hb) (aC (blk_below (g := gb141) (o := .cells #[.int .i64 ((rd_T103 l0 x12_1).f0), .int .i64 ((rd_T103 l0 x12_1).f1), .int .i64 ((rd_T103 l0 x12_1).f2), .int .i64 ((rd_T103 l0 x12_1).f3)] 103 (0, 0)) (by (with_reducible repeat (first | refine blk_drewN ?_ _ | refine blk_drew ?_ | refine blk_alloc ?_ _)); refine blk_put (cs := #[.int .i64 ((rd_T103 l0 x12_1).f0), .int .i64 ((rd_T103 l0 x12_1).f1), .int .i64 ((rd_T103 l0 x12_1).f2), .int .i64 0]) ?_ 3 _ rfl; (with_reducible repeat (first | refine blk_drewN ?_ _ | refine blk_drew ?_ | refine blk_alloc ?_ _)); refine blk_put (cs := #[.int .i64 ((rd_T103 l0 x12_1).f0), .int .i64 ((rd_T103 l0 x12_1).f1), .int .i64 0, .int .i64 0]) ?_ 2 _ rfl; (with_reducible repeat (first | refine blk_drewN ?_ _ | refine blk_drew ?_ | refine blk_alloc ?_ _)); refine blk_put (cs := #[.int .i64 ((rd_T103 l0 x12_1).f0), .int .i64 0, .int .i64 0, .int .i64 0]) ?_ 1 _ rfl; (with_reducible repeat (first | refine blk_drewN ?_ _ | refine blk_drew ?_ | refine blk_alloc ?_ _)); refine blk_put (cs := #[.int .i64 0, .int .i64 0, .int .i64 0, .int .i64 0]) ?_ 0 _ rfl; (with_reducible repeat (first | refine blk_drewN ?_ _ | refine blk_drew ?_ | refine blk_alloc ?_ _)); exact BK141.out) hb) (aE (bs hb))); clear BK139 BK141 HB; obtain ⟨BK139, BK141, HB⟩ := n_; obtain ⟨hcz16_0, hcz16_1, hcz16_2, hcz16_3, hfz16_0, hfz16_1, hfz16_2, hfz16_3⟩ := cz4f BK141.out)); try go_wp2_with (first | ((with_reducible refine gd 7 rfl ?_); refine bx 7 #[.int .i64 0, .int .i64 0, .int .i64 0, .int .i64 0] 103 rfl rfl ?_; intro gb141 hg w11 hbox hb; have n_ := aC (blk_below (bU BK139.out) hb) (aC (bs hb) (aC hbox (aC (gz hg) (aC (gz hg) (aC (gn hg (bU BK139.out)) (aE (gm hg (bU BK139.out)))))))); clear BK139 HB; obtain ⟨BK139, HB, BK141, GW141, GE141, NB139_141, NB141_139⟩ := n_; clear hb hbox hg; have hnb12 := NB141_139.out; have hnc12 := NB139_141.out; obtain ⟨hcz13_0, hcz13_1, hcz13_2, hcz13_3, hfz13_0, hfz13_1, hfz13_2, hfz13_3⟩ := cz4f BK141.out; obtain ⟨hcz14_0, hcz14_1, hfz14_0, hfz14_1⟩ := cz2f BK139.out) | (go_at_call 81; (with_reducible refine (prefix_offset.calls k1 ((rd_T103 l0 x12_1).f0) ((rd_T103 l0 x12_1).f1) ((rd_T103 l0 x12_1).f2) ((rd_T103 l0 x12_1).f3) a1_0 a1_1 t142 true _ A7.out).mono ?_); rintro e w15 ⟨rfl, hb⟩; have n_ := aC (blk_below (g := gb139) (o := .cells #[.bool a1_0, .int .i64 a1_1] 72 (0, 0)) (by (with_reducible repeat (first | refine blk_drewN ?_ _ | refine blk_drew ?_ | refine blk_alloc ?_ _)); refine blk_far ?_ NB139_141.out _; (with_reducible repeat (first | refine blk_drewN ?_ _ | refine blk_drew ?_ | refine blk_alloc ?_ _)); refine blk_far ?_ NB139_141.out _; (with_reducible repeat (first | refine blk_drewN ?_ _ | refine blk_drew ?_ | refine blk_alloc ?_ _)); refine blk_far ?_ NB139_141.out _; (with_reducible repeat (first | refine blk_drewN ?_ _ | refine blk_drew ?_ | refine blk_alloc ?_ _)); refine blk_far ?_ NB139_141.out _; (with_reducible repeat (first | refine blk_drewN ?_ _ | refine blk_drew ?_ | refine blk_alloc ?_ _)); exact BK139.out) hb) (aC (blk_below (g := gb141) (o := .cells #[.int .i64 ((rd_T103 l0 x12_1).f0), .int .i64 ((rd_T103 l0 x12_1).f1), .int .i64 ((rd_T103 l0 x12_1).f2), .int .i64 ((rd_T103 l0 x12_1).f3)] 103 (0, 0)) (by (with_reducible repeat (first | refine blk_drewN ?_ _ | refine blk_drew ?_ | refine blk_alloc ?_ _)); refine blk_put (cs := #[.int .i64 ((rd_T103 l0 x12_1).f0), .int .i64 ((rd_T103 l0 x12_1).f1), .int .i64 ((rd_T103 l0 x12_1).f2), .int .i64 0]) ?_ 3 _ rfl; (with_reducible repeat (first | refine blk_drewN ?_ _ | refine blk_drew ?_ | refine blk_alloc ?_ _)); refine blk_put (cs := #[.int .i64 ((rd_T103 l0 x12_1).f0), .int .i64 ((rd_T103 l0 x12_1).f1), .int .i64 0, .int .i64 0]) ?_ 2 _ rfl; (with_reducible repeat (first | refine blk_drewN ?_ _ | refine blk_drew ?_ | refine blk_alloc ?_ _)); refine blk_put (cs := #[.int .i64 ((rd_T103 l0 x12_1).f0), .int .i64 0, .int .i64 0, .int .i64 0]) ?_ 1 _ rfl; (with_reducible repeat (first | refine blk_drewN ?_ _ | refine blk_drew ?_ | refine blk_alloc ?_ _)); refine blk_put (cs := #[.int .i64 0, .int .i64 0, .int .i64 0, .int .i64 0]) ?_ 0 _ rfl; (with_reducible repeat (first | refine blk_drewN ?_ _ | refine blk_drew ?_ | refine blk_alloc ?_ _)); exact BK141.out) hb) (aE (bs hb))); clear BK139 BK141 HB; obtain ⟨BK139, BK141, HB⟩ := n_; obtain ⟨hcz16_0, hcz16_1, hcz16_2, hcz16_3, hfz16_0, hfz16_1, hfz16_2, hfz16_3⟩ := cz4f BK141.out)))
         go_roundg k1
         case measure => have := HK1.out; omega
         case rel => exact ⟨(x12_1), (t142), (wrap64 (x12_1 + 1)), rq, rq, rq, H', ⟨by have := HK1.out; omega⟩, ⟨bU BK139.out⟩, ⟨bl⟩⟩
        ·by_cases c17 : 0 ≤ x4_1
         ·rw [if_pos c17] at H
          have c17b0 := decide_eq_true c17
          clear c17
          by_cases c18 : x4_1 < (l0.length : Int)
          ·rw [if_pos c18] at H
           have c18b0 := decide_eq_true c18
           clear c18
           rcases iL H with H1 | H1 <;> clear H <;> obtain ⟨H, c19b0⟩ := H1
           ·have H' := Aside0.mk H
            clear H
            have p140 : 0 ≤ (x12_1 : Int) := dt
            have q140 : x12_1 < (l0.length : Int) := dt
            obtain ⟨ad140, e140, hx140_0, hx140_1, hx140_2, hx140_3⟩ := at_T103 HR0.out x12_1 p140 q140
            cases e140
            replace hx140_0 := hcB HB.out hx140_0
            replace hx140_1 := hcB HB.out hx140_1
            replace hx140_2 := hcB HB.out hx140_2
            replace hx140_3 := hcB HB.out hx140_3
            replace p140 := eq_true p140
            replace q140 := eq_true q140
            go_wp2_with (first | ((with_reducible refine gd 7 rfl ?_); refine bx 7 #[.int .i64 0, .int .i64 0, .int .i64 0, .int .i64 0] 103 rfl rfl ?_; intro gb141 hg w20 hbox hb; have n_ := aC (blk_below (bU BK139.out) hb) (aC (bs hb) (aC hbox (aC (gz hg) (aC (gz hg) (aC (gn hg (bU BK139.out)) (aE (gm hg (bU BK139.out)))))))); clear BK139 HB; obtain ⟨BK139, HB, BK141, GW141, GE141, NB139_141, NB141_139⟩ := n_; clear hb hbox hg; have hnb21 := NB141_139.out; have hnc21 := NB139_141.out; obtain ⟨hcz22_0, hcz22_1, hcz22_2, hcz22_3, hfz22_0, hfz22_1, hfz22_2, hfz22_3⟩ := cz4f BK141.out; obtain ⟨hcz23_0, hcz23_1, hfz23_0, hfz23_1⟩ := cz2f BK139.out) | (go_at_call 81; (with_reducible refine (prefix_offset.calls k1 ((rd_T103 l0 x12_1).f0) ((rd_T103 l0 x12_1).f1) ((rd_T103 l0 x12_1).f2) ((rd_T103 l0 x12_1).f3) a1_0 a1_1 t142 true _ A7.out).mono ?_); rintro e w24 ⟨rfl, hb⟩; have n_ := aC (blk_below (g := gb139) (o := .cells #[.bool a1_0, .int .i64 a1_1] 72 (0, 0)) (by (with_reducible repeat (first | refine blk_drewN ?_ _ | refine blk_drew ?_ | refine blk_alloc ?_ _)); refine blk_far ?_ NB139_141.out _; (with_reducible repeat (first | refine blk_drewN ?_ _ | refine blk_drew ?_ | refine blk_alloc ?_ _)); refine blk_far ?_ NB139_141.out _; (with_reducible repeat (first | refine blk_drewN ?_ _ | refine blk_drew ?_ | refine blk_alloc ?_ _)); refine blk_far ?_ NB139_141.out _; (with_reducible repeat (first | refine blk_drewN ?_ _ | refine blk_drew ?_ | refine blk_alloc ?_ _)); refine blk_far ?_ NB139_141.out _; (with_reducible repeat (first | refine blk_drewN ?_ _ | refine blk_drew ?_ | refine blk_alloc ?_ _)); exact BK139.out) hb) (aC (blk_below (g := gb141) (o := .cells #[.int .i64 ((rd_T103 l0 x12_1).f0), .int .i64 ((rd_T103 l0 x12_1).f1), .int .i64 ((rd_T103 l0 x12_1).f2), .int .i64 ((rd_T103 l0 x12_1).f3)] 103 (0, 0)) (by (with_reducible repeat (first | refine blk_drewN ?_ _ | refine blk_drew ?_ | refine blk_alloc ?_ _)); refine blk_put (cs := #[.int .i64 ((rd_T103 l0 x12_1).f0), .int .i64 ((rd_T103 l0 x12_1).f1), .int .i64 ((rd_T103 l0 x12_1).f2), .int .i64 0]) ?_ 3 _ rfl; (with_reducible repeat (first | refine blk_drewN ?_ _ | refine blk_drew ?_ | refine blk_alloc ?_ _)); refine blk_put (cs := #[.int .i64 ((rd_T103 l0 x12_1).f0), .int .i64 ((rd_T103 l0 x12_1).f1), .int .i64 0, .int .i64 0]) ?_ 2 _ rfl; (with_reducible repeat (first | refine blk_drewN ?_ _ | refine blk_drew ?_ | refine blk_alloc ?_ _)); refine blk_put (cs := #[.int .i64 ((rd_T103 l0 x12_1).f0), .int .i64 0, .int .i64 0, .int .i64 0]) ?_ 1 _ rfl; (with_reducible repeat (first | refine blk_drewN ?_ _ | refine blk_drew ?_ | refine blk_alloc ?_ _)); refine blk_put (cs := #[.int .i64 0, .int .i64 0, .int .i64 0, .int .i64 0]) ?_ 0 _ rfl; (with_reducible repeat (first | refine blk_drewN ?_ _ | refine blk_drew ?_ | refine blk_alloc ?_ _)); exact BK141.out) hb) (aE (bs hb))); clear BK139 BK141 HB; obtain ⟨BK139, BK141, HB⟩ := n_; obtain ⟨hcz25_0, hcz25_1, hcz25_2, hcz25_3, hfz25_0, hfz25_1, hfz25_2, hfz25_3⟩ := cz4f BK141.out; have p144 : 0 ≤ (x4_1 : Int) := dt; have q144 : x4_1 < (l0.length : Int) := dt; obtain ⟨ad144, e144, hx144_0, hx144_1, hx144_2, hx144_3⟩ := at_T103 HR0.out x4_1 p144 q144; obtain rfl : ad140 = ad144 := (by injection e144); replace hx144_0 := hcB HB.out hx144_0; replace hx144_1 := hcB HB.out hx144_1; replace hx144_2 := hcB HB.out hx144_2; replace hx144_3 := hcB HB.out hx144_3; replace p144 := eq_true p144; replace q144 := eq_true q144; have p145 : 0 ≤ (x4_1 : Int) := dt; have q145 : x4_1 < (l0.length : Int) := dt; obtain ⟨ad145, e145, hx145_0, hx145_1, hx145_2, hx145_3⟩ := at_T103 HR0.out x4_1 p145 q145; obtain rfl : ad140 = ad145 := (by injection e145); replace hx145_0 := hcB HB.out hx145_0; replace hx145_1 := hcB HB.out hx145_1; replace hx145_2 := hcB HB.out hx145_2; replace hx145_3 := hcB HB.out hx145_3; replace p145 := eq_true p145; replace q145 := eq_true q145))
            repeat (go_quiet (first | ((with_reducible refine gd 7 rfl ?_); refine bx 7 #[.int .i64 0, .int .i64 0, .int .i64 0, .int .i64 0] 103 rfl rfl ?_; intro gb141 hg w20 hbox hb; have n_ := aC (blk_below (bU BK139.out) hb) (aC (bs hb) (aC hbox (aC (gz hg) (aC (gz hg) (aC (gn hg (bU BK139.out)) (aE (gm hg (bU BK139.out)))))))); clear BK139 HB; obtain ⟨BK139, HB, BK141, GW141, GE141, NB139_141, NB141_139⟩ := n_; clear hb hbox hg; have hnb21 := NB141_139.out; have hnc21 := NB139_141.out; obtain ⟨hcz22_0, hcz22_1, hcz22_2, hcz22_3, hfz22_0, hfz22_1, hfz22_2, hfz22_3⟩ := cz4f BK141.out; obtain ⟨hcz23_0, hcz23_1, hfz23_0, hfz23_1⟩ := cz2f BK139.out) | (go_at_call 81; (with_reducible refine (prefix_offset.calls k1 ((rd_T103 l0 x12_1).f0) ((rd_T103 l0 x12_1).f1) ((rd_T103 l0 x12_1).f2) ((rd_T103 l0 x12_1).f3) a1_0 a1_1 t142 true _ A7.out).mono ?_); rintro e w24 ⟨rfl, hb⟩; have n_ := aC (blk_below (g := gb139) (o := .cells #[.bool a1_0, .int .i64 a1_1] 72 (0, 0)) (by (with_reducible repeat (first | refine blk_drewN ?_ _ | refine blk_drew ?_ | refine blk_alloc ?_ _)); refine blk_far ?_ NB139_141.out _; (with_reducible repeat (first | refine blk_drewN ?_ _ | refine blk_drew ?_ | refine blk_alloc ?_ _)); refine blk_far ?_ NB139_141.out _; (with_reducible repeat (first | refine blk_drewN ?_ _ | refine blk_drew ?_ | refine blk_alloc ?_ _)); refine blk_far ?_ NB139_141.out _; (with_reducible repeat (first | refine blk_drewN ?_ _ | refine blk_drew ?_ | refine blk_alloc ?_ _)); refine blk_far ?_ NB139_141.out _; (with_reducible repeat (first | refine blk_drewN ?_ _ | refine blk_drew ?_ | refine blk_alloc ?_ _)); exact BK139.out) hb) (aC (blk_below (g := gb141) (o := .cells #[.int .i64 ((rd_T103 l0 x12_1).f0), .int .i64 ((rd_T103 l0 x12_1).f1), .int .i64 ((rd_T103 l0 x12_1).f2), .int .i64 ((rd_T103 l0 x12_1).f3)] 103 (0, 0)) (by (with_reducible repeat (first | refine blk_drewN ?_ _ | refine blk_drew ?_ | refine blk_alloc ?_ _)); refine blk_put (cs := #[.int .i64 ((rd_T103 l0 x12_1).f0), .int .i64 ((rd_T103 l0 x12_1).f1), .int .i64 ((rd_T103 l0 x12_1).f2), .int .i64 0]) ?_ 3 _ rfl; (with_reducible repeat (first | refine blk_drewN ?_ _ | refine blk_drew ?_ | refine blk_alloc ?_ _)); refine blk_put (cs := #[.int .i64 ((rd_T103 l0 x12_1).f0), .int .i64 ((rd_T103 l0 x12_1).f1), .int .i64 0, .int .i64 0]) ?_ 2 _ rfl; (with_reducible repeat (first | refine blk_drewN ?_ _ | refine blk_drew ?_ | refine blk_alloc ?_ _)); refine blk_put (cs := #[.int .i64 ((rd_T103 l0 x12_1).f0), .int .i64 0, .int .i64 0, .int .i64 0]) ?_ 1 _ rfl; (with_reducible repeat (first | refine blk_drewN ?_ _ | refine blk_drew ?_ | refine blk_alloc ?_ _)); refine blk_put (cs := #[.int .i64 0, .int .i64 0, .int .i64 0, .int .i64 0]) ?_ 0 _ rfl; (with_reducible repeat (first | refine blk_drewN ?_ _ | refine blk_drew ?_ | refine blk_alloc ?_ _)); exact BK141.out) hb) (aE (bs hb))); clear BK139 BK141 HB; obtain ⟨BK139, BK141, HB⟩ := n_; obtain ⟨hcz25_0, hcz25_1, hcz25_2, hcz25_3, hfz25_0, hfz25_1, hfz25_2, hfz25_3⟩ := cz4f BK141.out; have p144 : 0 ≤ (x4_1 : Int) := dt; have q144 : x4_1 < (l0.length : Int) := dt; obtain ⟨ad144, e144, hx144_0, hx144_1, hx144_2, hx144_3⟩ := at_T103 HR0.out x4_1 p144 q144; obtain rfl : ad140 = ad144 := (by injection e144); replace hx144_0 := hcB HB.out hx144_0; replace hx144_1 := hcB HB.out hx144_1; replace hx144_2 := hcB HB.out hx144_2; replace hx144_3 := hcB HB.out hx144_3; replace p144 := eq_true p144; replace q144 := eq_true q144; have p145 : 0 ≤ (x4_1 : Int) := dt; have q145 : x4_1 < (l0.length : Int) := dt; obtain ⟨ad145, e145, hx145_0, hx145_1, hx145_2, hx145_3⟩ := at_T103 HR0.out x4_1 p145 q145; obtain rfl : ad140 = ad145 := (by injection e145); replace hx145_0 := hcB HB.out hx145_0; replace hx145_1 := hcB HB.out hx145_1; replace hx145_2 := hcB HB.out hx145_2; replace hx145_3 := hcB HB.out hx145_3; replace p145 := eq_true p145; replace q145 := eq_true q145)); try go_wp2_with (first | ((with_reducible refine gd 7 rfl ?_); refine bx 7 #[.int .i64 0, .int .i64 0, .int .i64 0, .int .i64 0] 103 rfl rfl ?_; intro gb141 hg w20 hbox hb; have n_ := aC (blk_below (bU BK139.out) hb) (aC (bs hb) (aC hbox (aC (gz hg) (aC (gz hg) (aC (gn hg (bU BK139.out)) (aE (gm hg (bU BK139.out)))))))); clear BK139 HB; obtain ⟨BK139, HB, BK141, GW141, GE141, NB139_141, NB141_139⟩ := n_; clear hb hbox hg; have hnb21 := NB141_139.out; have hnc21 := NB139_141.out; obtain ⟨hcz22_0, hcz22_1, hcz22_2, hcz22_3, hfz22_0, hfz22_1, hfz22_2, hfz22_3⟩ := cz4f BK141.out; obtain ⟨hcz23_0, hcz23_1, hfz23_0, hfz23_1⟩ := cz2f BK139.out) | (go_at_call 81; (with_reducible refine (prefix_offset.calls k1 ((rd_T103 l0 x12_1).f0) ((rd_T103 l0 x12_1).f1) ((rd_T103 l0 x12_1).f2) ((rd_T103 l0 x12_1).f3) a1_0 a1_1 t142 true _ A7.out).mono ?_); rintro e w24 ⟨rfl, hb⟩; have n_ := aC (blk_below (g := gb139) (o := .cells #[.bool a1_0, .int .i64 a1_1] 72 (0, 0)) (by (with_reducible repeat (first | refine blk_drewN ?_ _ | refine blk_drew ?_ | refine blk_alloc ?_ _)); refine blk_far ?_ NB139_141.out _; (with_reducible repeat (first | refine blk_drewN ?_ _ | refine blk_drew ?_ | refine blk_alloc ?_ _)); refine blk_far ?_ NB139_141.out _; (with_reducible repeat (first | refine blk_drewN ?_ _ | refine blk_drew ?_ | refine blk_alloc ?_ _)); refine blk_far ?_ NB139_141.out _; (with_reducible repeat (first | refine blk_drewN ?_ _ | refine blk_drew ?_ | refine blk_alloc ?_ _)); refine blk_far ?_ NB139_141.out _; (with_reducible repeat (first | refine blk_drewN ?_ _ | refine blk_drew ?_ | refine blk_alloc ?_ _)); exact BK139.out) hb) (aC (blk_below (g := gb141) (o := .cells #[.int .i64 ((rd_T103 l0 x12_1).f0), .int .i64 ((rd_T103 l0 x12_1).f1), .int .i64 ((rd_T103 l0 x12_1).f2), .int .i64 ((rd_T103 l0 x12_1).f3)] 103 (0, 0)) (by (with_reducible repeat (first | refine blk_drewN ?_ _ | refine blk_drew ?_ | refine blk_alloc ?_ _)); refine blk_put (cs := #[.int .i64 ((rd_T103 l0 x12_1).f0), .int .i64 ((rd_T103 l0 x12_1).f1), .int .i64 ((rd_T103 l0 x12_1).f2), .int .i64 0]) ?_ 3 _ rfl; (with_reducible repeat (first | refine blk_drewN ?_ _ | refine blk_drew ?_ | refine blk_alloc ?_ _)); refine blk_put (cs := #[.int .i64 ((rd_T103 l0 x12_1).f0), .int .i64 ((rd_T103 l0 x12_1).f1), .int .i64 0, .int .i64 0]) ?_ 2 _ rfl; (with_reducible repeat (first | refine blk_drewN ?_ _ | refine blk_drew ?_ | refine blk_alloc ?_ _)); refine blk_put (cs := #[.int .i64 ((rd_T103 l0 x12_1).f0), .int .i64 0, .int .i64 0, .int .i64 0]) ?_ 1 _ rfl; (with_reducible repeat (first | refine blk_drewN ?_ _ | refine blk_drew ?_ | refine blk_alloc ?_ _)); refine blk_put (cs := #[.int .i64 0, .int .i64 0, .int .i64 0, .int .i64 0]) ?_ 0 _ rfl; (with_reducible repeat (first | refine blk_drewN ?_ _ | refine blk_drew ?_ | refine blk_alloc ?_ _)); exact BK141.out) hb) (aE (bs hb))); clear BK139 BK141 HB; obtain ⟨BK139, BK141, HB⟩ := n_; obtain ⟨hcz25_0, hcz25_1, hcz25_2, hcz25_3, hfz25_0, hfz25_1, hfz25_2, hfz25_3⟩ := cz4f BK141.out; have p144 : 0 ≤ (x4_1 : Int) := dt; have q144 : x4_1 < (l0.length : Int) := dt; obtain ⟨ad144, e144, hx144_0, hx144_1, hx144_2, hx144_3⟩ := at_T103 HR0.out x4_1 p144 q144; obtain rfl : ad140 = ad144 := (by injection e144); replace hx144_0 := hcB HB.out hx144_0; replace hx144_1 := hcB HB.out hx144_1; replace hx144_2 := hcB HB.out hx144_2; replace hx144_3 := hcB HB.out hx144_3; replace p144 := eq_true p144; replace q144 := eq_true q144; have p145 : 0 ≤ (x4_1 : Int) := dt; have q145 : x4_1 < (l0.length : Int) := dt; obtain ⟨ad145, e145, hx145_0, hx145_1, hx145_2, hx145_3⟩ := at_T103 HR0.out x4_1 p145 q145; obtain rfl : ad140 = ad145 := (by injection e145); replace hx145_0 := hcB HB.out hx145_0; replace hx145_1 := hcB HB.out hx145_1; replace hx145_2 := hcB HB.out hx145_2; replace hx145_3 := hcB HB.out hx145_3; replace p145 := eq_true p145; replace q145 := eq_true q145)))
            go_roundg k1
            case measure => have := HK1.out; omega
            case rel => exact ⟨(x12_1), (t142), (wrap64 (x12_1 + 1)), rq, rq, rq, H', ⟨by have := HK1.out; omega⟩, ⟨bU BK139.out⟩, ⟨bl⟩⟩
           ·have H' := Aside0.mk H
            clear H
            have p140 : 0 ≤ (x12_1 : Int) := dt
            have q140 : x12_1 < (l0.length : Int) := dt
            obtain ⟨ad140, e140, hx140_0, hx140_1, hx140_2, hx140_3⟩ := at_T103 HR0.out x12_1 p140 q140
            cases e140
            replace hx140_0 := hcB HB.out hx140_0
            replace hx140_1 := hcB HB.out hx140_1
            replace hx140_2 := hcB HB.out hx140_2
            replace hx140_3 := hcB HB.out hx140_3
            replace p140 := eq_true p140
            replace q140 := eq_true q140
            go_wp2_with (first | ((with_reducible refine gd 7 rfl ?_); refine bx 7 #[.int .i64 0, .int .i64 0, .int .i64 0, .int .i64 0] 103 rfl rfl ?_; intro gb141 hg w26 hbox hb; have n_ := aC (blk_below (bU BK139.out) hb) (aC (bs hb) (aC hbox (aC (gz hg) (aC (gz hg) (aC (gn hg (bU BK139.out)) (aE (gm hg (bU BK139.out)))))))); clear BK139 HB; obtain ⟨BK139, HB, BK141, GW141, GE141, NB139_141, NB141_139⟩ := n_; clear hb hbox hg; have hnb27 := NB141_139.out; have hnc27 := NB139_141.out; obtain ⟨hcz28_0, hcz28_1, hcz28_2, hcz28_3, hfz28_0, hfz28_1, hfz28_2, hfz28_3⟩ := cz4f BK141.out; obtain ⟨hcz29_0, hcz29_1, hfz29_0, hfz29_1⟩ := cz2f BK139.out) | (go_at_call 81; (with_reducible refine (prefix_offset.calls k1 ((rd_T103 l0 x12_1).f0) ((rd_T103 l0 x12_1).f1) ((rd_T103 l0 x12_1).f2) ((rd_T103 l0 x12_1).f3) a1_0 a1_1 t142 true _ A7.out).mono ?_); rintro e w30 ⟨rfl, hb⟩; have n_ := aC (blk_below (g := gb139) (o := .cells #[.bool a1_0, .int .i64 a1_1] 72 (0, 0)) (by (with_reducible repeat (first | refine blk_drewN ?_ _ | refine blk_drew ?_ | refine blk_alloc ?_ _)); refine blk_far ?_ NB139_141.out _; (with_reducible repeat (first | refine blk_drewN ?_ _ | refine blk_drew ?_ | refine blk_alloc ?_ _)); refine blk_far ?_ NB139_141.out _; (with_reducible repeat (first | refine blk_drewN ?_ _ | refine blk_drew ?_ | refine blk_alloc ?_ _)); refine blk_far ?_ NB139_141.out _; (with_reducible repeat (first | refine blk_drewN ?_ _ | refine blk_drew ?_ | refine blk_alloc ?_ _)); refine blk_far ?_ NB139_141.out _; (with_reducible repeat (first | refine blk_drewN ?_ _ | refine blk_drew ?_ | refine blk_alloc ?_ _)); exact BK139.out) hb) (aC (blk_below (g := gb141) (o := .cells #[.int .i64 ((rd_T103 l0 x12_1).f0), .int .i64 ((rd_T103 l0 x12_1).f1), .int .i64 ((rd_T103 l0 x12_1).f2), .int .i64 ((rd_T103 l0 x12_1).f3)] 103 (0, 0)) (by (with_reducible repeat (first | refine blk_drewN ?_ _ | refine blk_drew ?_ | refine blk_alloc ?_ _)); refine blk_put (cs := #[.int .i64 ((rd_T103 l0 x12_1).f0), .int .i64 ((rd_T103 l0 x12_1).f1), .int .i64 ((rd_T103 l0 x12_1).f2), .int .i64 0]) ?_ 3 _ rfl; (with_reducible repeat (first | refine blk_drewN ?_ _ | refine blk_drew ?_ | refine blk_alloc ?_ _)); refine blk_put (cs := #[.int .i64 ((rd_T103 l0 x12_1).f0), .int .i64 ((rd_T103 l0 x12_1).f1), .int .i64 0, .int .i64 0]) ?_ 2 _ rfl; (with_reducible repeat (first | refine blk_drewN ?_ _ | refine blk_drew ?_ | refine blk_alloc ?_ _)); refine blk_put (cs := #[.int .i64 ((rd_T103 l0 x12_1).f0), .int .i64 0, .int .i64 0, .int .i64 0]) ?_ 1 _ rfl; (with_reducible repeat (first | refine blk_drewN ?_ _ | refine blk_drew ?_ | refine blk_alloc ?_ _)); refine blk_put (cs := #[.int .i64 0, .int .i64 0, .int .i64 0, .int .i64 0]) ?_ 0 _ rfl; (with_reducible repeat (first | refine blk_drewN ?_ _ | refine blk_drew ?_ | refine blk_alloc ?_ _)); exact BK141.out) hb) (aE (bs hb))); clear BK139 BK141 HB; obtain ⟨BK139, BK141, HB⟩ := n_; obtain ⟨hcz31_0, hcz31_1, hcz31_2, hcz31_3, hfz31_0, hfz31_1, hfz31_2, hfz31_3⟩ := cz4f BK141.out; have p144 : 0 ≤ (x4_1 : Int) := dt; have q144 : x4_1 < (l0.length : Int) := dt; obtain ⟨ad144, e144, hx144_0, hx144_1, hx144_2, hx144_3⟩ := at_T103 HR0.out x4_1 p144 q144; obtain rfl : ad140 = ad144 := (by injection e144); replace hx144_0 := hcB HB.out hx144_0; replace hx144_1 := hcB HB.out hx144_1; replace hx144_2 := hcB HB.out hx144_2; replace hx144_3 := hcB HB.out hx144_3; replace p144 := eq_true p144; replace q144 := eq_true q144; have p145 : 0 ≤ (x4_1 : Int) := dt; have q145 : x4_1 < (l0.length : Int) := dt; obtain ⟨ad145, e145, hx145_0, hx145_1, hx145_2, hx145_3⟩ := at_T103 HR0.out x4_1 p145 q145; obtain rfl : ad140 = ad145 := (by injection e145); replace hx145_0 := hcB HB.out hx145_0; replace hx145_1 := hcB HB.out hx145_1; replace hx145_2 := hcB HB.out hx145_2; replace hx145_3 := hcB HB.out hx145_3; replace p145 := eq_true p145; replace q145 := eq_true q145))
            repeat (go_quiet (first | ((with_reducible refine gd 7 rfl ?_); refine bx 7 #[.int .i64 0, .int .i64 0, .int .i64 0, .int .i64 0] 103 rfl rfl ?_; intro gb141 hg w26 hbox hb; have n_ := aC (blk_below (bU BK139.out) hb) (aC (bs hb) (aC hbox (aC (gz hg) (aC (gz hg) (aC (gn hg (bU BK139.out)) (aE (gm hg (bU BK139.out)))))))); clear BK139 HB; obtain ⟨BK139, HB, BK141, GW141, GE141, NB139_141, NB141_139⟩ := n_; clear hb hbox hg; have hnb27 := NB141_139.out; have hnc27 := NB139_141.out; obtain ⟨hcz28_0, hcz28_1, hcz28_2, hcz28_3, hfz28_0, hfz28_1, hfz28_2, hfz28_3⟩ := cz4f BK141.out; obtain ⟨hcz29_0, hcz29_1, hfz29_0, hfz29_1⟩ := cz2f BK139.out) | (go_at_call 81; (with_reducible refine (prefix_offset.calls k1 ((rd_T103 l0 x12_1).f0) ((rd_T103 l0 x12_1).f1) ((rd_T103 l0 x12_1).f2) ((rd_T103 l0 x12_1).f3) a1_0 a1_1 t142 true _ A7.out).mono ?_); rintro e w30 ⟨rfl, hb⟩; have n_ := aC (blk_below (g := gb139) (o := .cells #[.bool a1_0, .int .i64 a1_1] 72 (0, 0)) (by (with_reducible repeat (first | refine blk_drewN ?_ _ | refine blk_drew ?_ | refine blk_alloc ?_ _)); refine blk_far ?_ NB139_141.out _; (with_reducible repeat (first | refine blk_drewN ?_ _ | refine blk_drew ?_ | refine blk_alloc ?_ _)); refine blk_far ?_ NB139_141.out _; (with_reducible repeat (first | refine blk_drewN ?_ _ | refine blk_drew ?_ | refine blk_alloc ?_ _)); refine blk_far ?_ NB139_141.out _; (with_reducible repeat (first | refine blk_drewN ?_ _ | refine blk_drew ?_ | refine blk_alloc ?_ _)); refine blk_far ?_ NB139_141.out _; (with_reducible repeat (first | refine blk_drewN ?_ _ | refine blk_drew ?_ | refine blk_alloc ?_ _)); exact BK139.out) hb) (aC (blk_below (g := gb141) (o := .cells #[.int .i64 ((rd_T103 l0 x12_1).f0), .int .i64 ((rd_T103 l0 x12_1).f1), .int .i64 ((rd_T103 l0 x12_1).f2), .int .i64 ((rd_T103 l0 x12_1).f3)] 103 (0, 0)) (by (with_reducible repeat (first | refine blk_drewN ?_ _ | refine blk_drew ?_ | refine blk_alloc ?_ _)); refine blk_put (cs := #[.int .i64 ((rd_T103 l0 x12_1).f0), .int .i64 ((rd_T103 l0 x12_1).f1), .int .i64 ((rd_T103 l0 x12_1).f2), .int .i64 0]) ?_ 3 _ rfl; (with_reducible repeat (first | refine blk_drewN ?_ _ | refine blk_drew ?_ | refine blk_alloc ?_ _)); refine blk_put (cs := #[.int .i64 ((rd_T103 l0 x12_1).f0), .int .i64 ((rd_T103 l0 x12_1).f1), .int .i64 0, .int .i64 0]) ?_ 2 _ rfl; (with_reducible repeat (first | refine blk_drewN ?_ _ | refine blk_drew ?_ | refine blk_alloc ?_ _)); refine blk_put (cs := #[.int .i64 ((rd_T103 l0 x12_1).f0), .int .i64 0, .int .i64 0, .int .i64 0]) ?_ 1 _ rfl; (with_reducible repeat (first | refine blk_drewN ?_ _ | refine blk_drew ?_ | refine blk_alloc ?_ _)); refine blk_put (cs := #[.int .i64 0, .int .i64 0, .int .i64 0, .int .i64 0]) ?_ 0 _ rfl; (with_reducible repeat (first | refine blk_drewN ?_ _ | refine blk_drew ?_ | refine blk_alloc ?_ _)); exact BK141.out) hb) (aE (bs hb))); clear BK139 BK141 HB; obtain ⟨BK139, BK141, HB⟩ := n_; obtain ⟨hcz31_0, hcz31_1, hcz31_2, hcz31_3, hfz31_0, hfz31_1, hfz31_2, hfz31_3⟩ := cz4f BK141.out; have p144 : 0 ≤ (x4_1 : Int) := dt; have q144 : x4_1 < (l0.length : Int) := dt; obtain ⟨ad144, e144, hx144_0, hx144_1, hx144_2, hx144_3⟩ := at_T103 HR0.out x4_1 p144 q144; obtain rfl : ad140 = ad144 := (by injection e144); replace hx144_0 := hcB HB.out hx144_0; replace hx144_1 := hcB HB.out hx144_1; replace hx144_2 := hcB HB.out hx144_2; replace hx144_3 := hcB HB.out hx144_3; replace p144 := eq_true p144; replace q144 := eq_true q144; have p145 : 0 ≤ (x4_1 : Int) := dt; have q145 : x4_1 < (l0.length : Int) := dt; obtain ⟨ad145, e145, hx145_0, hx145_1, hx145_2, hx145_3⟩ := at_T103 HR0.out x4_1 p145 q145; obtain rfl : ad140 = ad145 := (by injection e145); replace hx145_0 := hcB HB.out hx145_0; replace hx145_1 := hcB HB.out hx145_1; replace hx145_2 := hcB HB.out hx145_2; replace hx145_3 := hcB HB.out hx145_3; replace p145 := eq_true p145; replace q145 := eq_true q145)); try go_wp2_with (first | ((with_reducible refine gd 7 rfl ?_); refine bx 7 #[.int .i64 0, .int .i64 0, .int .i64 0, .int .i64 0] 103 rfl rfl ?_; intro gb141 hg w26 hbox hb; have n_ := aC (blk_below (bU BK139.out) hb) (aC (bs hb) (aC hbox (aC (gz hg) (aC (gz hg) (aC (gn hg (bU BK139.out)) (aE (gm hg (bU BK139.out)))))))); clear BK139 HB; obtain ⟨BK139, HB, BK141, GW141, GE141, NB139_141, NB141_139⟩ := n_; clear hb hbox hg; have hnb27 := NB141_139.out; have hnc27 := NB139_141.out; obtain ⟨hcz28_0, hcz28_1, hcz28_2, hcz28_3, hfz28_0, hfz28_1, hfz28_2, hfz28_3⟩ := cz4f BK141.out; obtain ⟨hcz29_0, hcz29_1, hfz29_0, hfz29_1⟩ := cz2f BK139.out) | (go_at_call 81; (with_reducible refine (prefix_offset.calls k1 ((rd_T103 l0 x12_1).f0) ((rd_T103 l0 x12_1).f1) ((rd_T103 l0 x12_1).f2) ((rd_T103 l0 x12_1).f3) a1_0 a1_1 t142 true _ A7.out).mono ?_); rintro e w30 ⟨rfl, hb⟩; have n_ := aC (blk_below (g := gb139) (o := .cells #[.bool a1_0, .int .i64 a1_1] 72 (0, 0)) (by (with_reducible repeat (first | refine blk_drewN ?_ _ | refine blk_drew ?_ | refine blk_alloc ?_ _)); refine blk_far ?_ NB139_141.out _; (with_reducible repeat (first | refine blk_drewN ?_ _ | refine blk_drew ?_ | refine blk_alloc ?_ _)); refine blk_far ?_ NB139_141.out _; (with_reducible repeat (first | refine blk_drewN ?_ _ | refine blk_drew ?_ | refine blk_alloc ?_ _)); refine blk_far ?_ NB139_141.out _; (with_reducible repeat (first | refine blk_drewN ?_ _ | refine blk_drew ?_ | refine blk_alloc ?_ _)); refine blk_far ?_ NB139_141.out _; (with_reducible repeat (first | refine blk_drewN ?_ _ | refine blk_drew ?_ | refine blk_alloc ?_ _)); exact BK139.out) hb) (aC (blk_below (g := gb141) (o := .cells #[.int .i64 ((rd_T103 l0 x12_1).f0), .int .i64 ((rd_T103 l0 x12_1).f1), .int .i64 ((rd_T103 l0 x12_1).f2), .int .i64 ((rd_T103 l0 x12_1).f3)] 103 (0, 0)) (by (with_reducible repeat (first | refine blk_drewN ?_ _ | refine blk_drew ?_ | refine blk_alloc ?_ _)); refine blk_put (cs := #[.int .i64 ((rd_T103 l0 x12_1).f0), .int .i64 ((rd_T103 l0 x12_1).f1), .int .i64 ((rd_T103 l0 x12_1).f2), .int .i64 0]) ?_ 3 _ rfl; (with_reducible repeat (first | refine blk_drewN ?_ _ | refine blk_drew ?_ | refine blk_alloc ?_ _)); refine blk_put (cs := #[.int .i64 ((rd_T103 l0 x12_1).f0), .int .i64 ((rd_T103 l0 x12_1).f1), .int .i64 0, .int .i64 0]) ?_ 2 _ rfl; (with_reducible repeat (first | refine blk_drewN ?_ _ | refine blk_drew ?_ | refine blk_alloc ?_ _)); refine blk_put (cs := #[.int .i64 ((rd_T103 l0 x12_1).f0), .int .i64 0, .int .i64 0, .int .i64 0]) ?_ 1 _ rfl; (with_reducible repeat (first | refine blk_drewN ?_ _ | refine blk_drew ?_ | refine blk_alloc ?_ _)); refine blk_put (cs := #[.int .i64 0, .int .i64 0, .int .i64 0, .int .i64 0]) ?_ 0 _ rfl; (with_reducible repeat (first | refine blk_drewN ?_ _ | refine blk_drew ?_ | refine blk_alloc ?_ _)); exact BK141.out) hb) (aE (bs hb))); clear BK139 BK141 HB; obtain ⟨BK139, BK141, HB⟩ := n_; obtain ⟨hcz31_0, hcz31_1, hcz31_2, hcz31_3, hfz31_0, hfz31_1, hfz31_2, hfz31_3⟩ := cz4f BK141.out; have p144 : 0 ≤ (x4_1 : Int) := dt; have q144 : x4_1 < (l0.length : Int) := dt; obtain ⟨ad144, e144, hx144_0, hx144_1, hx144_2, hx144_3⟩ := at_T103 HR0.out x4_1 p144 q144; obtain rfl : ad140 = ad144 := (by injection e144); replace hx144_0 := hcB HB.out hx144_0; replace hx144_1 := hcB HB.out hx144_1; replace hx144_2 := hcB HB.out hx144_2; replace hx144_3 := hcB HB.out hx144_3; replace p144 := eq_true p144; replace q144 := eq_true q144; have p145 : 0 ≤ (x4_1 : Int) := dt; have q145 : x4_1 < (l0.length : Int) := dt; obtain ⟨ad145, e145, hx145_0, hx145_1, hx145_2, hx145_3⟩ := at_T103 HR0.out x4_1 p145 q145; obtain rfl : ad140 = ad145 := (by injection e145); replace hx145_0 := hcB HB.out hx145_0; replace hx145_1 := hcB HB.out hx145_1; replace hx145_2 := hcB HB.out hx145_2; replace hx145_3 := hcB HB.out hx145_3; replace p145 := eq_true p145; replace q145 := eq_true q145)))
            go_roundg k1
            case measure => have := HK1.out; omega
            case rel => exact ⟨(x4_1), (x5_1), (wrap64 (x12_1 + 1)), rq, rq, rq, H', ⟨by have := HK1.out; omega⟩, ⟨bU BK139.out⟩, ⟨bl⟩⟩
          ·rw [if_neg c18] at H
           exact absurd H (by simp)
         ·rw [if_neg c17] at H
          exact absurd H (by simp)
       ·have H' := Aside0.mk H
        clear H
        have p140 : 0 ≤ (x12_1 : Int) := dt
        have q140 : x12_1 < (l0.length : Int) := dt
        obtain ⟨ad140, e140, hx140_0, hx140_1, hx140_2, hx140_3⟩ := at_T103 HR0.out x12_1 p140 q140
        cases e140
        replace hx140_0 := hcB HB.out hx140_0
        replace hx140_1 := hcB HB.out hx140_1
        replace hx140_2 := hcB HB.out hx140_2
        replace hx140_3 := hcB HB.out hx140_3
        replace p140 := eq_true p140
        replace q140 := eq_true q140
        go_wp2_with (first | ((with_reducible refine gd 7 rfl ?_); refine bx 7 #[.int .i64 0, .int .i64 0, .int .i64 0, .int .i64 0] 103 rfl rfl ?_; intro gb141 hg w32 hbox hb; have n_ := aC (blk_below (bU BK139.out) hb) (aC (bs hb) (aC hbox (aC (gz hg) (aC (gz hg) (aC (gn hg (bU BK139.out)) (aE (gm hg (bU BK139.out)))))))); clear BK139 HB; obtain ⟨BK139, HB, BK141, GW141, GE141, NB139_141, NB141_139⟩ := n_; clear hb hbox hg; have hnb33 := NB141_139.out; have hnc33 := NB139_141.out; obtain ⟨hcz34_0, hcz34_1, hcz34_2, hcz34_3, hfz34_0, hfz34_1, hfz34_2, hfz34_3⟩ := cz4f BK141.out; obtain ⟨hcz35_0, hcz35_1, hfz35_0, hfz35_1⟩ := cz2f BK139.out) | (go_at_call 81; (with_reducible refine (prefix_offset.calls k1 ((rd_T103 l0 x12_1).f0) ((rd_T103 l0 x12_1).f1) ((rd_T103 l0 x12_1).f2) ((rd_T103 l0 x12_1).f3) a1_0 a1_1 t142 true _ A7.out).mono ?_); rintro e w36 ⟨rfl, hb⟩; have n_ := aC (blk_below (g := gb139) (o := .cells #[.bool a1_0, .int .i64 a1_1] 72 (0, 0)) (by (with_reducible repeat (first | refine blk_drewN ?_ _ | refine blk_drew ?_ | refine blk_alloc ?_ _)); refine blk_far ?_ NB139_141.out _; (with_reducible repeat (first | refine blk_drewN ?_ _ | refine blk_drew ?_ | refine blk_alloc ?_ _)); refine blk_far ?_ NB139_141.out _; (with_reducible repeat (first | refine blk_drewN ?_ _ | refine blk_drew ?_ | refine blk_alloc ?_ _)); refine blk_far ?_ NB139_141.out _; (with_reducible repeat (first | refine blk_drewN ?_ _ | refine blk_drew ?_ | refine blk_alloc ?_ _)); refine blk_far ?_ NB139_141.out _; (with_reducible repeat (first | refine blk_drewN ?_ _ | refine blk_drew ?_ | refine blk_alloc ?_ _)); exact BK139.out) hb) (aC (blk_below (g := gb141) (o := .cells #[.int .i64 ((rd_T103 l0 x12_1).f0), .int .i64 ((rd_T103 l0 x12_1).f1), .int .i64 ((rd_T103 l0 x12_1).f2), .int .i64 ((rd_T103 l0 x12_1).f3)] 103 (0, 0)) (by (with_reducible repeat (first | refine blk_drewN ?_ _ | refine blk_drew ?_ | refine blk_alloc ?_ _)); refine blk_put (cs := #[.int .i64 ((rd_T103 l0 x12_1).f0), .int .i64 ((rd_T103 l0 x12_1).f1), .int .i64 ((rd_T103 l0 x12_1).f2), .int .i64 0]) ?_ 3 _ rfl; (with_reducible repeat (first | refine blk_drewN ?_ _ | refine blk_drew ?_ | refine blk_alloc ?_ _)); refine blk_put (cs := #[.int .i64 ((rd_T103 l0 x12_1).f0), .int .i64 ((rd_T103 l0 x12_1).f1), .int .i64 0, .int .i64 0]) ?_ 2 _ rfl; (with_reducible repeat (first | refine blk_drewN ?_ _ | refine blk_drew ?_ | refine blk_alloc ?_ _)); refine blk_put (cs := #[.int .i64 ((rd_T103 l0 x12_1).f0), .int .i64 0, .int .i64 0, .int .i64 0]) ?_ 1 _ rfl; (with_reducible repeat (first | refine blk_drewN ?_ _ | refine blk_drew ?_ | refine blk_alloc ?_ _)); refine blk_put (cs := #[.int .i64 0, .int .i64 0, .int .i64 0, .int .i64 0]) ?_ 0 _ rfl; (with_reducible repeat (first | refine blk_drewN ?_ _ | refine blk_drew ?_ | refine blk_alloc ?_ _)); exact BK141.out) hb) (aE (bs hb))); clear BK139 BK141 HB; obtain ⟨BK139, BK141, HB⟩ := n_; obtain ⟨hcz37_0, hcz37_1, hcz37_2, hcz37_3, hfz37_0, hfz37_1, hfz37_2, hfz37_3⟩ := cz4f BK141.out))
        repeat (go_quiet (first | ((with_reducible refine gd 7 rfl ?_); refine bx 7 #[.int .i64 0, .int .i64 0, .int .i64 0, .int .i64 0] 103 rfl rfl ?_; intro gb141 hg w32 hbox hb; have n_ := aC (blk_below (bU BK139.out) hb) (aC (bs hb) (aC hbox (aC (gz hg) (aC (gz hg) (aC (gn hg (bU BK139.out)) (aE (gm hg (bU BK139.out)))))))); clear BK139 HB; obtain ⟨BK139, HB, BK141, GW141, GE141, NB139_141, NB141_139⟩ := n_; clear hb hbox hg; have hnb33 := NB141_139.out; have hnc33 := NB139_141.out; obtain ⟨hcz34_0, hcz34_1, hcz34_2, hcz34_3, hfz34_0, hfz34_1, hfz34_2, hfz34_3⟩ := cz4f BK141.out; obtain ⟨hcz35_0, hcz35_1, hfz35_0, hfz35_1⟩ := cz2f BK139.out) | (go_at_call 81; (with_reducible refine (prefix_offset.calls k1 ((rd_T103 l0 x12_1).f0) ((rd_T103 l0 x12_1).f1) ((rd_T103 l0 x12_1).f2) ((rd_T103 l0 x12_1).f3) a1_0 a1_1 t142 true _ A7.out).mono ?_); rintro e w36 ⟨rfl, hb⟩; have n_ := aC (blk_below (g := gb139) (o := .cells #[.bool a1_0, .int .i64 a1_1] 72 (0, 0)) (by (with_reducible repeat (first | refine blk_drewN ?_ _ | refine blk_drew ?_ | refine blk_alloc ?_ _)); refine blk_far ?_ NB139_141.out _; (with_reducible repeat (first | refine blk_drewN ?_ _ | refine blk_drew ?_ | refine blk_alloc ?_ _)); refine blk_far ?_ NB139_141.out _; (with_reducible repeat (first | refine blk_drewN ?_ _ | refine blk_drew ?_ | refine blk_alloc ?_ _)); refine blk_far ?_ NB139_141.out _; (with_reducible repeat (first | refine blk_drewN ?_ _ | refine blk_drew ?_ | refine blk_alloc ?_ _)); refine blk_far ?_ NB139_141.out _; (with_reducible repeat (first | refine blk_drewN ?_ _ | refine blk_drew ?_ | refine blk_alloc ?_ _)); exact BK139.out) hb) (aC (blk_below (g := gb141) (o := .cells #[.int .i64 ((rd_T103 l0 x12_1).f0), .int .i64 ((rd_T103 l0 x12_1).f1), .int .i64 ((rd_T103 l0 x12_1).f2), .int .i64 ((rd_T103 l0 x12_1).f3)] 103 (0, 0)) (by (with_reducible repeat (first | refine blk_drewN ?_ _ | refine blk_drew ?_ | refine blk_alloc ?_ _)); refine blk_put (cs := #[.int .i64 ((rd_T103 l0 x12_1).f0), .int .i64 ((rd_T103 l0 x12_1).f1), .int .i64 ((rd_T103 l0 x12_1).f2), .int .i64 0]) ?_ 3 _ rfl; (with_reducible repeat (first | refine blk_drewN ?_ _ | refine blk_drew ?_ | refine blk_alloc ?_ _)); refine blk_put (cs := #[.int .i64 ((rd_T103 l0 x12_1).f0), .int .i64 ((rd_T103 l0 x12_1).f1), .int .i64 0, .int .i64 0]) ?_ 2 _ rfl; (with_reducible repeat (first | refine blk_drewN ?_ _ | refine blk_drew ?_ | refine blk_alloc ?_ _)); refine blk_put (cs := #[.int .i64 ((rd_T103 l0 x12_1).f0), .int .i64 0, .int .i64 0, .int .i64 0]) ?_ 1 _ rfl; (with_reducible repeat (first | refine blk_drewN ?_ _ | refine blk_drew ?_ | refine blk_alloc ?_ _)); refine blk_put (cs := #[.int .i64 0, .int .i64 0, .int .i64 0, .int .i64 0]) ?_ 0 _ rfl; (with_reducible repeat (first | refine blk_drewN ?_ _ | refine blk_drew ?_ | refine blk_alloc ?_ _)); exact BK141.out) hb) (aE (bs hb))); clear BK139 BK141 HB; obtain ⟨BK139, BK141, HB⟩ := n_; obtain ⟨hcz37_0, hcz37_1, hcz37_2, hcz37_3, hfz37_0, hfz37_1, hfz37_2, hfz37_3⟩ := cz4f BK141.out)); try go_wp2_with (first | ((with_reducible refine gd 7 rfl ?_); refine bx 7 #[.int .i64 0, .int .i64 0, .int .i64 0, .int .i64 0] 103 rfl rfl ?_; intro gb141 hg w32 hbox hb; have n_ := aC (blk_below (bU BK139.out) hb) (aC (bs hb) (aC hbox (aC (gz hg) (aC (gz hg) (aC (gn hg (bU BK139.out)) (aE (gm hg (bU BK139.out)))))))); clear BK139 HB; obtain ⟨BK139, HB, BK141, GW141, GE141, NB139_141, NB141_139⟩ := n_; clear hb hbox hg; have hnb33 := NB141_139.out; have hnc33 := NB139_141.out; obtain ⟨hcz34_0, hcz34_1, hcz34_2, hcz34_3, hfz34_0, hfz34_1, hfz34_2, hfz34_3⟩ := cz4f BK141.out; obtain ⟨hcz35_0, hcz35_1, hfz35_0, hfz35_1⟩ := cz2f BK139.out) | (go_at_call 81; (with_reducible refine (prefix_offset.calls k1 ((rd_T103 l0 x12_1).f0) ((rd_T103 l0 x12_1).f1) ((rd_T103 l0 x12_1).f2) ((rd_T103 l0 x12_1).f3) a1_0 a1_1 t142 true _ A7.out).mono ?_); rintro e w36 ⟨rfl, hb⟩; have n_ := aC (blk_below (g := gb139) (o := .cells #[.bool a1_0, .int .i64 a1_1] 72 (0, 0)) (by (with_reducible repeat (first | refine blk_drewN ?_ _ | refine blk_drew ?_ | refine blk_alloc ?_ _)); refine blk_far ?_ NB139_141.out _; (with_reducible repeat (first | refine blk_drewN ?_ _ | refine blk_drew ?_ | refine blk_alloc ?_ _)); refine blk_far ?_ NB139_141.out _; (with_reducible repeat (first | refine blk_drewN ?_ _ | refine blk_drew ?_ | refine blk_alloc ?_ _)); refine blk_far ?_ NB139_141.out _; (with_reducible repeat (first | refine blk_drewN ?_ _ | refine blk_drew ?_ | refine blk_alloc ?_ _)); refine blk_far ?_ NB139_141.out _; (with_reducible repeat (first | refine blk_drewN ?_ _ | refine blk_drew ?_ | refine blk_alloc ?_ _)); exact BK139.out) hb) (aC (blk_below (g := gb141) (o := .cells #[.int .i64 ((rd_T103 l0 x12_1).f0), .int .i64 ((rd_T103 l0 x12_1).f1), .int .i64 ((rd_T103 l0 x12_1).f2), .int .i64 ((rd_T103 l0 x12_1).f3)] 103 (0, 0)) (by (with_reducible repeat (first | refine blk_drewN ?_ _ | refine blk_drew ?_ | refine blk_alloc ?_ _)); refine blk_put (cs := #[.int .i64 ((rd_T103 l0 x12_1).f0), .int .i64 ((rd_T103 l0 x12_1).f1), .int .i64 ((rd_T103 l0 x12_1).f2), .int .i64 0]) ?_ 3 _ rfl; (with_reducible repeat (first | refine blk_drewN ?_ _ | refine blk_drew ?_ | refine blk_alloc ?_ _)); refine blk_put (cs := #[.int .i64 ((rd_T103 l0 x12_1).f0), .int .i64 ((rd_T103 l0 x12_1).f1), .int .i64 0, .int .i64 0]) ?_ 2 _ rfl; (with_reducible repeat (first | refine blk_drewN ?_ _ | refine blk_drew ?_ | refine blk_alloc ?_ _)); refine blk_put (cs := #[.int .i64 ((rd_T103 l0 x12_1).f0), .int .i64 0, .int .i64 0, .int .i64 0]) ?_ 1 _ rfl; (with_reducible repeat (first | refine blk_drewN ?_ _ | refine blk_drew ?_ | refine blk_alloc ?_ _)); refine blk_put (cs := #[.int .i64 0, .int .i64 0, .int .i64 0, .int .i64 0]) ?_ 0 _ rfl; (with_reducible repeat (first | refine blk_drewN ?_ _ | refine blk_drew ?_ | refine blk_alloc ?_ _)); exact BK141.out) hb) (aE (bs hb))); clear BK139 BK141 HB; obtain ⟨BK139, BK141, HB⟩ := n_; obtain ⟨hcz37_0, hcz37_1, hcz37_2, hcz37_3, hfz37_0, hfz37_1, hfz37_2, hfz37_3⟩ := cz4f BK141.out)))
        go_roundg k1
        case measure => have := HK1.out; omega
        case rel => exact ⟨(x4_1), (x5_1), (wrap64 (x12_1 + 1)), rq, rq, rq, H', ⟨by have := HK1.out; omega⟩, ⟨bU BK139.out⟩, ⟨bl⟩⟩
      ·replace c8 := Bool.eq_false_iff.mpr c8
       subst c8
       rw [if_neg Bool.false_ne_true] at H
       have H' := Aside0.mk H
       clear H
       have p140 : 0 ≤ (x12_1 : Int) := dt
       have q140 : x12_1 < (l0.length : Int) := dt
       obtain ⟨ad140, e140, hx140_0, hx140_1, hx140_2, hx140_3⟩ := at_T103 HR0.out x12_1 p140 q140
       cases e140
       replace hx140_0 := hcB HB.out hx140_0
       replace hx140_1 := hcB HB.out hx140_1
       replace hx140_2 := hcB HB.out hx140_2
       replace hx140_3 := hcB HB.out hx140_3
       replace p140 := eq_true p140
       replace q140 := eq_true q140
       go_wp2_with (first | ((with_reducible refine gd 7 rfl ?_); refine bx 7 #[.int .i64 0, .int .i64 0, .int .i64 0, .int .i64 0] 103 rfl rfl ?_; intro gb141 hg w38 hbox hb; have n_ := aC (blk_below (bU BK139.out) hb) (aC (bs hb) (aC hbox (aC (gz hg) (aC (gz hg) (aC (gn hg (bU BK139.out)) (aE (gm hg (bU BK139.out)))))))); clear BK139 HB; obtain ⟨BK139, HB, BK141, GW141, GE141, NB139_141, NB141_139⟩ := n_; clear hb hbox hg; have hnb39 := NB141_139.out; have hnc39 := NB139_141.out; obtain ⟨hcz40_0, hcz40_1, hcz40_2, hcz40_3, hfz40_0, hfz40_1, hfz40_2, hfz40_3⟩ := cz4f BK141.out; obtain ⟨hcz41_0, hcz41_1, hfz41_0, hfz41_1⟩ := cz2f BK139.out) | (go_at_call 81; (with_reducible refine (prefix_offset.calls k1 ((rd_T103 l0 x12_1).f0) ((rd_T103 l0 x12_1).f1) ((rd_T103 l0 x12_1).f2) ((rd_T103 l0 x12_1).f3) a1_0 a1_1 t142 false _ A7.out).mono ?_); rintro e w42 ⟨rfl, hb⟩; have n_ := aC (blk_below (g := gb139) (o := .cells #[.bool a1_0, .int .i64 a1_1] 72 (0, 0)) (by (with_reducible repeat (first | refine blk_drewN ?_ _ | refine blk_drew ?_ | refine blk_alloc ?_ _)); refine blk_far ?_ NB139_141.out _; (with_reducible repeat (first | refine blk_drewN ?_ _ | refine blk_drew ?_ | refine blk_alloc ?_ _)); refine blk_far ?_ NB139_141.out _; (with_reducible repeat (first | refine blk_drewN ?_ _ | refine blk_drew ?_ | refine blk_alloc ?_ _)); refine blk_far ?_ NB139_141.out _; (with_reducible repeat (first | refine blk_drewN ?_ _ | refine blk_drew ?_ | refine blk_alloc ?_ _)); refine blk_far ?_ NB139_141.out _; (with_reducible repeat (first | refine blk_drewN ?_ _ | refine blk_drew ?_ | refine blk_alloc ?_ _)); exact BK139.out) hb) (aC (blk_below (g := gb141) (o := .cells #[.int .i64 ((rd_T103 l0 x12_1).f0), .int .i64 ((rd_T103 l0 x12_1).f1), .int .i64 ((rd_T103 l0 x12_1).f2), .int .i64 ((rd_T103 l0 x12_1).f3)] 103 (0, 0)) (by (with_reducible repeat (first | refine blk_drewN ?_ _ | refine blk_drew ?_ | refine blk_alloc ?_ _)); refine blk_put (cs := #[.int .i64 ((rd_T103 l0 x12_1).f0), .int .i64 ((rd_T103 l0 x12_1).f1), .int .i64 ((rd_T103 l0 x12_1).f2), .int .i64 0]) ?_ 3 _ rfl; (with_reducible repeat (first | refine blk_drewN ?_ _ | refine blk_drew ?_ | refine blk_alloc ?_ _)); refine blk_put (cs := #[.int .i64 ((rd_T103 l0 x12_1).f0), .int .i64 ((rd_T103 l0 x12_1).f1), .int .i64 0, .int .i64 0]) ?_ 2 _ rfl; (with_reducible repeat (first | refine blk_drewN ?_ _ | refine blk_drew ?_ | refine blk_alloc ?_ _)); refine blk_put (cs := #[.int .i64 ((rd_T103 l0 x12_1).f0), .int .i64 0, .int .i64 0, .int .i64 0]) ?_ 1 _ rfl; (with_reducible repeat (first | refine blk_drewN ?_ _ | refine blk_drew ?_ | refine blk_alloc ?_ _)); refine blk_put (cs := #[.int .i64 0, .int .i64 0, .int .i64 0, .int .i64 0]) ?_ 0 _ rfl; (with_reducible repeat (first | refine blk_drewN ?_ _ | refine blk_drew ?_ | refine blk_alloc ?_ _)); exact BK141.out) hb) (aE (bs hb))); clear BK139 BK141 HB; obtain ⟨BK139, BK141, HB⟩ := n_))
       repeat (go_quiet (first | ((with_reducible refine gd 7 rfl ?_); refine bx 7 #[.int .i64 0, .int .i64 0, .int .i64 0, .int .i64 0] 103 rfl rfl ?_; intro gb141 hg w38 hbox hb; have n_ := aC (blk_below (bU BK139.out) hb) (aC (bs hb) (aC hbox (aC (gz hg) (aC (gz hg) (aC (gn hg (bU BK139.out)) (aE (gm hg (bU BK139.out)))))))); clear BK139 HB; obtain ⟨BK139, HB, BK141, GW141, GE141, NB139_141, NB141_139⟩ := n_; clear hb hbox hg; have hnb39 := NB141_139.out; have hnc39 := NB139_141.out; obtain ⟨hcz40_0, hcz40_1, hcz40_2, hcz40_3, hfz40_0, hfz40_1, hfz40_2, hfz40_3⟩ := cz4f BK141.out; obtain ⟨hcz41_0, hcz41_1, hfz41_0, hfz41_1⟩ := cz2f BK139.out) | (go_at_call 81; (with_reducible refine (prefix_offset.calls k1 ((rd_T103 l0 x12_1).f0) ((rd_T103 l0 x12_1).f1) ((rd_T103 l0 x12_1).f2) ((rd_T103 l0 x12_1).f3) a1_0 a1_1 t142 false _ A7.out).mono ?_); rintro e w42 ⟨rfl, hb⟩; have n_ := aC (blk_below (g := gb139) (o := .cells #[.bool a1_0, .int .i64 a1_1] 72 (0, 0)) (by (with_reducible repeat (first | refine blk_drewN ?_ _ | refine blk_drew ?_ | refine blk_alloc ?_ _)); refine blk_far ?_ NB139_141.out _; (with_reducible repeat (first | refine blk_drewN ?_ _ | refine blk_drew ?_ | refine blk_alloc ?_ _)); refine blk_far ?_ NB139_141.out _; (with_reducible repeat (first | refine blk_drewN ?_ _ | refine blk_drew ?_ | refine blk_alloc ?_ _)); refine blk_far ?_ NB139_141.out _; (with_reducible repeat (first | refine blk_drewN ?_ _ | refine blk_drew ?_ | refine blk_alloc ?_ _)); refine blk_far ?_ NB139_141.out _; (with_reducible repeat (first | refine blk_drewN ?_ _ | refine blk_drew ?_ | refine blk_alloc ?_ _)); exact BK139.out) hb) (aC (blk_below (g := gb141) (o := .cells #[.int .i64 ((rd_T103 l0 x12_1).f0), .int .i64 ((rd_T103 l0 x12_1).f1), .int .i64 ((rd_T103 l0 x12_1).f2), .int .i64 ((rd_T103 l0 x12_1).f3)] 103 (0, 0)) (by (with_reducible repeat (first | refine blk_drewN ?_ _ | refine blk_drew ?_ | refine blk_alloc ?_ _)); refine blk_put (cs := #[.int .i64 ((rd_T103 l0 x12_1).f0), .int .i64 ((rd_T103 l0 x12_1).f1), .int .i64 ((rd_T103 l0 x12_1).f2), .int .i64 0]) ?_ 3 _ rfl; (with_reducible repeat (first | refine blk_drewN ?_ _ | refine blk_drew ?_ | refine blk_alloc ?_ _)); refine blk_put (cs := #[.int .i64 ((rd_T103 l0 x12_1).f0), .int .i64 ((rd_T103 l0 x12_1).f1), .int .i64 0, .int .i64 0]) ?_ 2 _ rfl; (with_reducible repeat (first | refine blk_drewN ?_ _ | refine blk_drew ?_ | refine blk_alloc ?_ _)); refine blk_put (cs := #[.int .i64 ((rd_T103 l0 x12_1).f0), .int .i64 0, .int .i64 0, .int .i64 0]) ?_ 1 _ rfl; (with_reducible repeat (first | refine blk_drewN ?_ _ | refine blk_drew ?_ | refine blk_alloc ?_ _)); refine blk_put (cs := #[.int .i64 0, .int .i64 0, .int .i64 0, .int .i64 0]) ?_ 0 _ rfl; (with_reducible repeat (first | refine blk_drewN ?_ _ | refine blk_drew ?_ | refine blk_alloc ?_ _)); exact BK141.out) hb) (aE (bs hb))); clear BK139 BK141 HB; obtain ⟨BK139, BK141, HB⟩ := n_)); try go_wp2_with (first | ((with_reducible refine gd 7 rfl ?_); refine bx 7 #[.int .i64 0, .int .i64 0, .int .i64 0, .int .i64 0] 103 rfl rfl ?_; intro gb141 hg w38 hbox hb; have n_ := aC (blk_below (bU BK139.out) hb) (aC (bs hb) (aC hbox (aC (gz hg) (aC (gz hg) (aC (gn hg (bU BK139.out)) (aE (gm hg (bU BK139.out)))))))); clear BK139 HB; obtain ⟨BK139, HB, BK141, GW141, GE141, NB139_141, NB141_139⟩ := n_; clear hb hbox hg; have hnb39 := NB141_139.out; have hnc39 := NB139_141.out; obtain ⟨hcz40_0, hcz40_1, hcz40_2, hcz40_3, hfz40_0, hfz40_1, hfz40_2, hfz40_3⟩ := cz4f BK141.out; obtain ⟨hcz41_0, hcz41_1, hfz41_0, hfz41_1⟩ := cz2f BK139.out) | (go_at_call 81; (with_reducible refine (prefix_offset.calls k1 ((rd_T103 l0 x12_1).f0) ((rd_T103 l0 x12_1).f1) ((rd_T103 l0 x12_1).f2) ((rd_T103 l0 x12_1).f3) a1_0 a1_1 t142 false _ A7.out).mono ?_); rintro e w42 ⟨rfl, hb⟩; have n_ := aC (blk_below (g := gb139) (o := .cells #[.bool a1_0, .int .i64 a1_1] 72 (0, 0)) (by (with_reducible repeat (first | refine blk_drewN ?_ _ | refine blk_drew ?_ | refine blk_alloc ?_ _)); refine blk_far ?_ NB139_141.out _; (with_reducible repeat (first | refine blk_drewN ?_ _ | refine blk_drew ?_ | refine blk_alloc ?_ _)); refine blk_far ?_ NB139_141.out _; (with_reducible repeat (first | refine blk_drewN ?_ _ | refine blk_drew ?_ | refine blk_alloc ?_ _)); refine blk_far ?_ NB139_141.out _; (with_reducible repeat (first | refine blk_drewN ?_ _ | refine blk_drew ?_ | refine blk_alloc ?_ _)); refine blk_far ?_ NB139_141.out _; (with_reducible repeat (first | refine blk_drewN ?_ _ | refine blk_drew ?_ | refine blk_alloc ?_ _)); exact BK139.out) hb) (aC (blk_below (g := gb141) (o := .cells #[.int .i64 ((rd_T103 l0 x12_1).f0), .int .i64 ((rd_T103 l0 x12_1).f1), .int .i64 ((rd_T103 l0 x12_1).f2), .int .i64 ((rd_T103 l0 x12_1).f3)] 103 (0, 0)) (by (with_reducible repeat (first | refine blk_drewN ?_ _ | refine blk_drew ?_ | refine blk_alloc ?_ _)); refine blk_put (cs := #[.int .i64 ((rd_T103 l0 x12_1).f0), .int .i64 ((rd_T103 l0 x12_1).f1), .int .i64 ((rd_T103 l0 x12_1).f2), .int .i64 0]) ?_ 3 _ rfl; (with_reducible repeat (first | refine blk_drewN ?_ _ | refine blk_drew ?_ | refine blk_alloc ?_ _)); refine blk_put (cs := #[.int .i64 ((rd_T103 l0 x12_1).f0), .int .i64 ((rd_T103 l0 x12_1).f1), .int .i64 0, .int .i64 0]) ?_ 2 _ rfl; (with_reducible repeat (first | refine blk_drewN ?_ _ | refine blk_drew ?_ | refine blk_alloc ?_ _)); refine blk_put (cs := #[.int .i64 ((rd_T103 l0 x12_1).f0), .int .i64 0, .int .i64 0, .int .i64 0]) ?_ 1 _ rfl; (with_reducible repeat (first | refine blk_drewN ?_ _ | refine blk_drew ?_ | refine blk_alloc ?_ _)); refine blk_put (cs := #[.int .i64 0, .int .i64 0, .int .i64 0, .int .i64 0]) ?_ 0 _ rfl; (with_reducible repeat (first | refine blk_drewN ?_ _ | refine blk_drew ?_ | refine blk_alloc ?_ _)); exact BK141.out) hb) (aE (bs hb))); clear BK139 BK141 HB; obtain ⟨BK139, BK141, HB⟩ := n_)))
       go_roundg k1
       case measure => have := HK1.out; omega
       case rel => exact ⟨(x4_1), (x5_1), (wrap64 (x12_1 + 1)), rq, rq, rq, H', ⟨by have := HK1.out; omega⟩, ⟨bU BK139.out⟩, ⟨bl⟩⟩
     ·rw [if_neg c6] at H
      exact absurd H (by simp)
    ·rw [if_neg c5] at H
     exact absurd H (by simp)
   ·simp only [Option.some.injEq, Prod.mk.injEq] at H
    obtain ⟨rfl, rfl⟩ := H
    go_wp2
    go_ret2
    exact ⟨re, bl⟩
end Go.Proofs.YtidgpjcgoocpeaaDoor.PTopRuns
