-- printed (wip/tools/myprint.py)
import Derived.Test.YtknclbodinfbeaaDoorPRunsSamex0
import Derived.Test.YtknclbodinfbeaaDoorPRunsSamex10
namespace Go.Proofs.YtknclbodinfbeaaDoor.PRunsSame
open Go.RowKit Go.Proofs.YtknclbodinfbeaaDoorW.PrintWords Go.Proofs.YtknclbodinfbeaaDoorW.PrintLast Go.Proofs.YtknclbodinfbeaaDoorW.PrintMore
attribute [local go_sem] yf yc yD yE xV xU ye yh
set_option linter.unusedVariables false
set_option linter.unusedSimpArgs false
def vw.l0 : Nat → List (xc) → Int → Int → List (xc) → Int → Int → Option (List Int)
 | 0, _, _, _, _, _, _ => none
 | k + 1, x0, x1, x5, x8, x9, x10 => if x10 < x9 then (if 0 ≤ x10 then (if x10 < (x8.length : Int) then ((xk.f ((vk x8 x10).f0) ((vk x8 x10).f1) ((vk x8 x10).f2) ((vk x8 x10).f3)).bind fun t356 => (if t356 = true then (if 0 ≤ x1 then (if x1 < (x0.length : Int) then (if ((vk x8 x10).f0) < ((vk x0 x1).f0) then (if 0 ≤ (wrap64 (15 - ((vk x8 x10).f0))) then (vw.l0 k x0 x1 (wrap64 (x5 + (shl .i64 1 (wrap64 (15 - ((vk x8 x10).f0)))))) x8 x9 (wrap64 (x10 + 1))) else (none)) else (if ((vk x8 x10).f0) = ((vk x0 x1).f0) then (if x10 < x1 then (if 0 ≤ (wrap64 (15 - ((vk x8 x10).f0))) then (vw.l0 k x0 x1 (wrap64 (x5 + (shl .i64 1 (wrap64 (15 - ((vk x8 x10).f0)))))) x8 x9 (wrap64 (x10 + 1))) else (none)) else (vw.l0 k x0 x1 x5 x8 x9 (wrap64 (x10 + 1)))) else (vw.l0 k x0 x1 x5 x8 x9 (wrap64 (x10 + 1))))) else (none)) else (none)) else (vw.l0 k x0 x1 x5 x8 x9 (wrap64 (x10 + 1))))) else (none)) else (none)) else (if 0 ≤ x1 then (if x1 < (x0.length : Int) then (if 0 ≤ (wrap64 (15 - ((vk x0 x1).f0))) then ((vO.f k (shr .i64 x5 (wrap64 (15 - ((vk x0 x1).f0)))) ((vk x0 x1).f0)).bind fun t361 => (some t361)) else (none)) else (none)) else (none))
def vw.f (k : Nat) (l0 : List (xc)) (a1 : Int) : Option (List Int) := vw.l0 k l0 a1 0 l0 (l0.length : Int) 0
theorem vw.wj : ∀ k, (∀ y0 y1 y2 y3 y4 y5, vP (vw.l0 k y0 y1 y2 y3 y4 y5) (vw.l0 (k + 1) y0 y1 y2 y3 y4 y5))
 | 0 => fun _ _ _ _ _ _ r h => by simp [vw.l0] at h
 | k + 1 => by
  have ih0 := vw.wj k
  ·intro y0 y1 y2 y3 y4 y5
   unfold vw.l0
   repeat' first
   | (with_reducible exact ih0 _ _ _ _ _ _)
   | (with_reducible exact vO.mono _ _ _)
   | (with_reducible first | exact vP.refl _ | exact vP.none _ | apply vP.ite | refine vP.bind ?_ fun _ => ?_)
theorem vw.mono : ∀ a0 a1 k, vP (vw.f k a0 a1) (vw.f (k + 1) a0 a1) := by
 intro a0 a1 k
 have ih0 := vw.wj k
 unfold vw.f
 repeat' first
   | (with_reducible exact ih0 _ _ _ _ _ _)
   | (with_reducible exact vO.mono _ _ _)
   | (with_reducible first | exact vP.refl _ | exact vP.none _ | apply vP.ite | refine vP.bind ?_ fun _ => ?_)
def vw.T5 : Bool × List (List Nat × List Nat) := (true, [([], []), ([0], [0]), ([1, 1], [1]), ([2], [2]), ([3, 2], [2, 3]), ([2], [2]), ([2], [2]), ([5, 6, 2], [2, 5, 6]), ([7, 2], [2, 7]), ([8, 2], [2, 8]), ([4, 9, 2], [2, 4, 9]), ([10, 2, 2], [2, 10]), ([11], [11]), ([12, 11], [11, 12]), ([11], [11]), ([11], [11]), ([14, 15, 11], [11, 14, 15]), ([16, 11], [11, 16]), ([17, 11], [11, 17]), ([13, 18, 11], [11, 13, 18]), ([19, 11, 11], [11, 19]), ([20], [20]), ([20], [20]), ([21, 22, 20], [20, 21, 22]), ([20, 23, 11], [11, 20, 23]), ([11, 24, 2], [2, 11, 24]), ([2, 25], [2, 25])])
def vw.B5 : List Nat := [0, 1, 3, 7, 15, 7, 7, 103, 231, 487, 1023, 2047, 4095, 8191, 4095, 4095, 53247, 118783, 249855, 524287, 1048575, 2097151, 2097151, 8388607, 16777215, 33554431, 67108863]
theorem vw.tab5 : yN .any (opsOf Tryd.f62 5) = vw.T5 := by kernel_rfl
theorem vw.j8 : yi vw.T5.2 vw.B5 = true := by kernel_rfl
def vw.T8 : Bool × List (List Nat × List Nat) := (true, [([], []), ([], []), ([], []), ([1, 2], [1, 2]), ([3], [3]), ([4], [4]), ([5], [5]), ([0, 6], [0, 6]), ([], []), ([], []), ([8, 9], [8, 9]), ([10], [10]), ([11], [11]), ([7, 12], [7, 12]), ([13, 13, 0, 1, 2, 3, 4, 5, 6, 7, 8, 9, 10, 11, 12, 13], [13])])
def vw.B8 : List Nat := [0, 0, 0, 6, 14, 30, 62, 127, 0, 0, 768, 1792, 3840, 8191, 16383]
theorem vw.tab8 : yN .any (opsOf Tryd.f62 8) = vw.T8 := by kernel_rfl
theorem vw.bits8 : yi vw.T8.2 vw.B8 = true := by kernel_rfl
set_option maxHeartbeats 8000000 in
set_option maxRecDepth 100000 in
theorem vw.calls (k : Nat) (A0 : Option Addr) (c0 : Nat) (l0 : List (xc)) (a1 : Int) (r : List Int) (w : World) (hr0 : Kd.C zh w A0 l0.length l0) (hc0 : l0.length ≤ c0) (h : vw.f k l0 a1 = some r) :
  Calls Tryd.prog 62 #[.slice A0 l0.length c0, .int .i64 a1] w fun e w' => ∃ v0_ : Value, e = .returned (v0_) ∧ Kd.R (Kd.int .u8) 5 w' w.heap.size (fun _ => True) v0_ r ∧ Below w.heap.size w w' := by
 have hu87 := Tryd.underlying87
 have HR0 := Aside0.mk hr0
 have HC0 := Aside0.mk hc0
 clear hr0 hc0
 have HB := Aside0.mk (Below.refl w.heap.size w)
 have H : (vw.l0 k l0 a1 0 l0 (l0.length : Int) 0) = some r := h
 clear h
 have H' := Aside0.mk H
 clear H
 go_enter Tryd.func62, Tryd.ntmps62
 go_wp2
 go_loopg [5, 10] k (fun kq v5 v10 w' => ∃ (x5_1 : Int) (x10_1 : Int), v5 = .int .i64 x5_1 ∧ v10 = .int .i64 x10_1 ∧ Aside0 (vw.l0 kq l0 a1 x5_1 l0 (l0.length : Int) x10_1 = some r) ∧ Aside0 (kq ≤ k) ∧ Aside0 (Below w.heap.size w w'))
 case atStart => exact ⟨(0), (0), rq, rq, H', ⟨Nat.le_refl _⟩, ⟨bl⟩⟩
 case round =>
  clear H'
  obtain ⟨x5_1, x10_1, rfl, rfl, HA, HK1, HB⟩ := hrel
  cases gk with
  | zero => exact absurd HA.out (by simp [vw.l0])
  | succ k1 =>
   have H := HA.out
   clear HA
   simp only [vw.l0] at H
   rcases iL H with H1 | H1 <;> clear H <;> obtain ⟨H, c3b0⟩ := H1
   ·by_cases c4 : 0 ≤ x10_1
    ·rw [if_pos c4] at H
     have c4b0 := decide_eq_true c4
     clear c4
     by_cases c5 : x10_1 < (l0.length : Int)
     ·rw [if_pos c5] at H
      have c5b0 := decide_eq_true c5
      clear c5
      obtain ⟨t356, A6, H⟩ := oB H
      try dsimp only at H
      by_cases c7 : t356 = true
      ·subst c7
       rw [if_pos rfl] at H
       by_cases c8 : 0 ≤ a1
       ·rw [if_pos c8] at H
        have c8b0 := decide_eq_true c8
        clear c8
        by_cases c9 : a1 < (l0.length : Int)
        ·rw [if_pos c9] at H
         have c9b0 := decide_eq_true c9
         clear c9
         rcases iL H with H1 | H1 <;> clear H <;> obtain ⟨H, c10b0⟩ := H1
         ·obtain ⟨ji11, hji11⟩ : ∃ j_ : Int, (wrap64 (15 - ((vk l0 x10_1).f0))) = j_ := ⟨_, rfl⟩
          replace H : (if 0 ≤ (ji11) then (vw.l0 k1 l0 a1 (wrap64 (x5_1 + (shl .i64 1 (ji11)))) l0 (l0.length : Int) (wrap64 (x10_1 + 1))) else (none)) = some r := by first | (rw [hji11] at H; exact H) | (simp only [hji11] at H ⊢; exact H)
          (try rw [hji11] at A6)
          have hji11w : (IntKind.i64.wrap (15 - ((vk l0 x10_1).f0))) = ji11 := (xD _).trans hji11
          by_cases c12 : 0 ≤ (ji11)
          ·rw [if_pos c12] at H
           have c12b0 := eq_true c12
           have c12b1 := decide_eq_true c12
           clear c12
           obtain ⟨ji13, hji13⟩ : ∃ j_ : Int, (shl .i64 1 (ji11)) = j_ := ⟨_, rfl⟩
           replace H : (vw.l0 k1 l0 a1 (wrap64 (x5_1 + (ji13))) l0 (l0.length : Int) (wrap64 (x10_1 + 1))) = some r := by first | (rw [hji13] at H; exact H) | (simp only [hji13] at H ⊢; exact H)
           (try rw [hji13] at A6)
           have hji13_ : (IntKind.i64.wrap (1 * 2 ^ min (ji11).toNat 64)) = ji13 := hji13
           have hji13z : (ji11) ≤ 64 → (IntKind.i64.wrap (1 * 2 ^ (ji11).toNat)) = ji13 := zv hji13
           have hji13u : (IntKind.i64.wrap (2 ^ min (ji11).toNat 64)) = ji13 := by have h_ := hji13_; rw [Int.one_mul] at h_; exact h_
           have hji13v : (ji11) ≤ 64 → (IntKind.i64.wrap (2 ^ (ji11).toNat)) = ji13 := fun hle_ => by have h_ := hji13z hle_; rw [Int.one_mul] at h_; exact h_
           have hji13y : (wrap64 (1 * 2 ^ min (ji11).toNat 64)) = ji13 := (xD _).symm.trans hji13_
           have hji13x : (ji11) ≤ 64 → (wrap64 (1 * 2 ^ (ji11).toNat)) = ji13 := fun h_ => (xD _).symm.trans (hji13z h_)
           have H' := Aside0.mk H
           clear H
           have p354 : 0 ≤ (x10_1 : Int) := dt
           have q354 : x10_1 < (l0.length : Int) := dt
           obtain ⟨ad354, e354, hx354_0, hx354_1, hx354_2, hx354_3⟩ := xw HR0.out x10_1 p354 q354
           cases e354
           replace hx354_0 := hcB HB.out hx354_0
           replace hx354_1 := hcB HB.out hx354_1
           replace hx354_2 := hcB HB.out hx354_2
           replace hx354_3 := hcB HB.out hx354_3
           replace p354 := eq_true p354
           replace q354 := eq_true q354
           try go_wp2_with (first | ((with_reducible refine gd 7 rfl ?_); refine bx 7 #[.int .i64 0, .int .i64 0, .int .i64 0, .int .i64 0] 87 rfl rfl ?_; intro gb355 hg w14 hbox hb; have n_ := aC (bs hb) (aC hbox (aC (gz hg) (aE (gz hg)))); clear HB; obtain ⟨HB, BK355, GW355, GE355⟩ := n_; clear hb hbox hg; obtain ⟨hcz15_0, hcz15_1, hcz15_2, hcz15_3, hfz15_0, hfz15_1, hfz15_2, hfz15_3⟩ := xC BK355.out))
           have n0_ : Aside0 (((((w14.setCell ⟨gb355, 0, none⟩ (.int .i64 ((vk l0 x10_1).f0))).setCell ⟨gb355, 1, none⟩ (.int .i64 ((vk l0 x10_1).f1))).setCell ⟨gb355, 2, none⟩ (.int .i64 ((vk l0 x10_1).f2))).setCell ⟨gb355, 3, none⟩ (.int .i64 ((vk l0 x10_1).f3))).heap[gb355]? = some (.cells #[.int .i64 ((vk l0 x10_1).f0), .int .i64 ((vk l0 x10_1).f1), .int .i64 ((vk l0 x10_1).f2), .int .i64 ((vk l0 x10_1).f3)] 87 (0, 0))) := ⟨by (with_reducible repeat first | apply vl | apply vn | apply vm); refine vv (cs := #[.int .i64 ((vk l0 x10_1).f0), .int .i64 ((vk l0 x10_1).f1), .int .i64 ((vk l0 x10_1).f2), .int .i64 0]) ?_ 3 _ rfl; (with_reducible repeat first | apply vl | apply vn | apply vm); refine vv (cs := #[.int .i64 ((vk l0 x10_1).f0), .int .i64 ((vk l0 x10_1).f1), .int .i64 0, .int .i64 0]) ?_ 2 _ rfl; (with_reducible repeat first | apply vl | apply vn | apply vm); refine vv (cs := #[.int .i64 ((vk l0 x10_1).f0), .int .i64 0, .int .i64 0, .int .i64 0]) ?_ 1 _ rfl; (with_reducible repeat first | apply vl | apply vn | apply vm); refine vv (cs := #[.int .i64 0, .int .i64 0, .int .i64 0, .int .i64 0]) ?_ 0 _ rfl; (with_reducible repeat first | apply vl | apply vn | apply vm); exact BK355.out⟩
           have n1_ : Aside0 (Below w.heap.size w ((((w14.setCell ⟨gb355, 0, none⟩ (.int .i64 ((vk l0 x10_1).f0))).setCell ⟨gb355, 1, none⟩ (.int .i64 ((vk l0 x10_1).f1))).setCell ⟨gb355, 2, none⟩ (.int .i64 ((vk l0 x10_1).f2))).setCell ⟨gb355, 3, none⟩ (.int .i64 ((vk l0 x10_1).f3)))) := ⟨bl⟩
           (try clear BK355)
           (try clear HB)
           generalize ((((w14.setCell ⟨gb355, 0, none⟩ (.int .i64 ((vk l0 x10_1).f0))).setCell ⟨gb355, 1, none⟩ (.int .i64 ((vk l0 x10_1).f1))).setCell ⟨gb355, 2, none⟩ (.int .i64 ((vk l0 x10_1).f2))).setCell ⟨gb355, 3, none⟩ (.int .i64 ((vk l0 x10_1).f3))) = w16 at n0_ n1_ ⊢
           have BK355 := n0_
           have HB := n1_
           clear n0_ n1_
           have n_ := aC (vn BK355.out) (aE (vG HB.out))
           clear BK355 HB
           obtain ⟨BK355, HB⟩ := n_
           have p357 : 0 ≤ (a1 : Int) := dt
           have q357 : a1 < (l0.length : Int) := dt
           obtain ⟨ad357, e357, hx357_0, hx357_1, hx357_2, hx357_3⟩ := xw HR0.out a1 p357 q357
           have hw357_3 := hx357_3
           have hw357_2 := hx357_2
           have hw357_1 := hx357_1
           have hw357_0 := hx357_0
           obtain rfl : ad354 = ad357 := (by injection e357)
           replace hx357_0 := hcB HB.out hx357_0
           replace hx357_1 := hcB HB.out hx357_1
           replace hx357_2 := hcB HB.out hx357_2
           replace hx357_3 := hcB HB.out hx357_3
           replace p357 := eq_true p357
           replace q357 := eq_true q357
           refine st 27 (fun w' => w'.cell? ⟨gb355, 0, none⟩ = some (.int .i64 ((vk l0 x10_1).f0)) ∧ w'.cell? ⟨gb355, 1, none⟩ = some (.int .i64 ((vk l0 x10_1).f1)) ∧ w'.cell? ⟨gb355, 2, none⟩ = some (.int .i64 ((vk l0 x10_1).f2)) ∧ w'.cell? ⟨gb355, 3, none⟩ = some (.int .i64 ((vk l0 x10_1).f3)) ∧ w'.cell? (ad354.add ((a1).toNat * 4)) = some (.int .i64 ((vk l0 a1).f0)) ∧ w'.cell? ⟨(ad354.add ((a1).toNat * 4)).block, (ad354.add ((a1).toNat * 4)).off + 1, none⟩ = some (.int .i64 ((vk l0 a1).f1)) ∧ w'.cell? ⟨(ad354.add ((a1).toNat * 4)).block, (ad354.add ((a1).toNat * 4)).off + 2, none⟩ = some (.int .i64 ((vk l0 a1).f2)) ∧ w'.cell? ⟨(ad354.add ((a1).toNat * 4)).block, (ad354.add ((a1).toNat * 4)).off + 3, none⟩ = some (.int .i64 ((vk l0 a1).f3))) [] (bv 27 0) vw.tab5 vw.j8 ⟨jq BK355.out, jk BK355.out, jC BK355.out, jZ BK355.out, (hcB HB.out hw357_0), (hcB HB.out hw357_1), (hcB HB.out hw357_2), (hcB HB.out hw357_3)⟩ (fun hHeld HT_ HW_ => ?_)
           generalize w16.drew = w17 at BK355 HB hx357_0 hx357_1 hx357_2 hx357_3 hHeld ⊢
           refine tk 0 15 (bv 27 1) HT_ HW_ hHeld rfl rfl (by rintro w' ⟨s0, s1, s2, s3, s4, s5, s6, s7⟩; exact yl) ?_
           refine yz (i := 1) (N := some 16) (bv 27 3) rfl rfl (xq HT_.out (by kernel_rfl)) (by decide) (fun K hK => ?_)
           refine gK Tryd.func61 rfl #[.agg #[.int .i64 ((vk l0 x10_1).f0), .int .i64 ((vk l0 x10_1).f1), .int .i64 ((vk l0 x10_1).f2), .int .i64 ((vk l0 x10_1).f3)]] rfl rfl ?_
           with_reducible refine (xk.calls ((vk l0 x10_1).f0) ((vk l0 x10_1).f1) ((vk l0 x10_1).f2) ((vk l0 x10_1).f3) true _ A6.out).mono ?_
           rintro e w18 ⟨rfl, hb⟩
           refine ⟨_, rfl, ?_⟩
           have n_ := aC (vu (g := gb355) (o := .cells #[.int .i64 ((vk l0 x10_1).f0), .int .i64 ((vk l0 x10_1).f1), .int .i64 ((vk l0 x10_1).f2), .int .i64 ((vk l0 x10_1).f3)] 87 (0, 0)) (bU BK355.out) hb) (aE (bs hb))
           clear BK355 HB
           obtain ⟨BK355, HB⟩ := n_
           (try clear hb)
           (try clear hb2)
           (try clear hk)
           (try clear hi)
           refine hK.out _ _ ⟨jq BK355.out, jk BK355.out, jC BK355.out, jZ BK355.out, (hcB HB.out hw357_0), (hcB HB.out hw357_1), (hcB HB.out hw357_2), (hcB HB.out hw357_3)⟩ (fun hHeld => ?_)
           clear hK K
           refine nm (some 16) ?_
           refine pu 2 17 (bv 27 7) HT_ rfl rfl ?_
           refine pu 3 18 (bv 27 15) HT_ rfl rfl ?_
           refine pu 5 20 (bv 27 47) HT_ rfl rfl ?_
           refine pu 6 21 (bv 27 111) HT_ rfl rfl ?_
           refine pu 7 22 (bv 27 239) HT_ rfl rfl ?_
           refine pu 8 23 (bv 27 495) HT_ rfl rfl ?_
           refine tk 4 19 (bv 27 511) HT_ HW_ hHeld rfl rfl (by rintro w' ⟨s0, s1, s2, s3, s4, s5, s6, s7⟩; exact yl) ?_
           refine tk 9 24 (bv 27 1023) HT_ HW_ hHeld rfl rfl (by rintro w' ⟨s0, s1, s2, s3, s4, s5, s6, s7⟩; exact yl) ?_
           refine pu 10 25 (bv 27 2047) HT_ rfl rfl ?_
           refine pu 11 26 (bv 27 4095) HT_ rfl rfl ?_
           refine pn 12 27 (bv 27 8191) HT_ rfl rfl ?_
           refine pn 13 28 (bv 27 16383) HT_ rfl rfl ?_
           refine pn 14 29 (bv 27 32767) HT_ rfl rfl ?_
           refine pn 15 30 (bv 27 65535) HT_ rfl rfl ?_
           refine pn 16 31 (bv 27 131071) HT_ rfl rfl ?_
           refine pn 17 32 (bv 27 262143) HT_ rfl rfl ?_
           refine pn 18 33 (bv 27 524287) HT_ rfl rfl ?_
           refine pn 19 34 (bv 27 1048575) HT_ rfl rfl ?_
           refine pn 20 35 (bv 27 2097151) HT_ rfl rfl ?_
           refine pn 21 36 (bv 27 4194303) HT_ rfl rfl ?_
           refine pn 22 37 (bv 27 8388607) HT_ rfl rfl ?_
           refine pn 23 38 (bv 27 16777215) HT_ rfl rfl ?_
           refine pn 24 39 (bv 27 33554431) HT_ rfl rfl ?_
           refine pu 25 40 (bv 27 67108863) HT_ rfl rfl ?_
           refine pu 26 41 (bv 27 134217727) HT_ rfl rfl ?_
           refine yO (xS HT_.out (by kernel_rfl)) ?_
           obtain ⟨hcz19_0, hcz19_1, hcz19_2, hcz19_3, hfz19_0, hfz19_1, hfz19_2, hfz19_3⟩ := xC BK355.out
           try go_wp2
           go_roundg k1
           case measure => have := HK1.out; omega
           case rel => exact ⟨(wrap64 (x5_1 + (ji13))), (wrap64 (x10_1 + 1)), (by first | rfl | (simp; done) | (simp only [← hji13] <;> (first | rfl | simp)) | (simp [*]; done)), rq, H', ⟨by have := HK1.out; omega⟩, ⟨bl⟩⟩
          ·rw [if_neg c12] at H
           exact absurd H (by simp)
         ·rcases iE H with H1 | H1 <;> clear H <;> obtain ⟨H, c20b0, c20b1, c20⟩ := H1
          ·rcases iL H with H1 | H1 <;> clear H <;> obtain ⟨H, c21b0⟩ := H1
           ·obtain ⟨ji22, hji22⟩ : ∃ j_ : Int, (wrap64 (15 - ((vk l0 x10_1).f0))) = j_ := ⟨_, rfl⟩
            replace H : (if 0 ≤ (ji22) then (vw.l0 k1 l0 a1 (wrap64 (x5_1 + (shl .i64 1 (ji22)))) l0 (l0.length : Int) (wrap64 (x10_1 + 1))) else (none)) = some r := by first | (rw [hji22] at H; exact H) | (simp only [hji22] at H ⊢; exact H)
            (try rw [hji22] at A6)
            have hji22w : (IntKind.i64.wrap (15 - ((vk l0 x10_1).f0))) = ji22 := (xD _).trans hji22
            by_cases c23 : 0 ≤ (ji22)
            ·rw [if_pos c23] at H
             have c23b0 := eq_true c23
             have c23b1 := decide_eq_true c23
             clear c23
             obtain ⟨ji24, hji24⟩ : ∃ j_ : Int, (shl .i64 1 (ji22)) = j_ := ⟨_, rfl⟩
             replace H : (vw.l0 k1 l0 a1 (wrap64 (x5_1 + (ji24))) l0 (l0.length : Int) (wrap64 (x10_1 + 1))) = some r := by first | (rw [hji24] at H; exact H) | (simp only [hji24] at H ⊢; exact H)
             (try rw [hji24] at A6)
             have hji24_ : (IntKind.i64.wrap (1 * 2 ^ min (ji22).toNat 64)) = ji24 := hji24
             have hji24z : (ji22) ≤ 64 → (IntKind.i64.wrap (1 * 2 ^ (ji22).toNat)) = ji24 := zv hji24
             have hji24u : (IntKind.i64.wrap (2 ^ min (ji22).toNat 64)) = ji24 := by have h_ := hji24_; rw [Int.one_mul] at h_; exact h_
             have hji24v : (ji22) ≤ 64 → (IntKind.i64.wrap (2 ^ (ji22).toNat)) = ji24 := fun hle_ => by have h_ := hji24z hle_; rw [Int.one_mul] at h_; exact h_
             have hji24y : (wrap64 (1 * 2 ^ min (ji22).toNat 64)) = ji24 := (xD _).symm.trans hji24_
             have hji24x : (ji22) ≤ 64 → (wrap64 (1 * 2 ^ (ji22).toNat)) = ji24 := fun h_ => (xD _).symm.trans (hji24z h_)
             have H' := Aside0.mk H
             clear H
             have p354 : 0 ≤ (x10_1 : Int) := dt
             have q354 : x10_1 < (l0.length : Int) := dt
             obtain ⟨ad354, e354, hx354_0, hx354_1, hx354_2, hx354_3⟩ := xw HR0.out x10_1 p354 q354
             cases e354
             replace hx354_0 := hcB HB.out hx354_0
             replace hx354_1 := hcB HB.out hx354_1
             replace hx354_2 := hcB HB.out hx354_2
             replace hx354_3 := hcB HB.out hx354_3
             replace p354 := eq_true p354
             replace q354 := eq_true q354
             try go_wp2_with (first | ((with_reducible refine gd 7 rfl ?_); refine bx 7 #[.int .i64 0, .int .i64 0, .int .i64 0, .int .i64 0] 87 rfl rfl ?_; intro gb355 hg w25 hbox hb; have n_ := aC (bs hb) (aC hbox (aC (gz hg) (aE (gz hg)))); clear HB; obtain ⟨HB, BK355, GW355, GE355⟩ := n_; clear hb hbox hg; obtain ⟨hcz26_0, hcz26_1, hcz26_2, hcz26_3, hfz26_0, hfz26_1, hfz26_2, hfz26_3⟩ := xC BK355.out))
             have n0_ : Aside0 (((((w25.setCell ⟨gb355, 0, none⟩ (.int .i64 ((vk l0 x10_1).f0))).setCell ⟨gb355, 1, none⟩ (.int .i64 ((vk l0 x10_1).f1))).setCell ⟨gb355, 2, none⟩ (.int .i64 ((vk l0 x10_1).f2))).setCell ⟨gb355, 3, none⟩ (.int .i64 ((vk l0 x10_1).f3))).heap[gb355]? = some (.cells #[.int .i64 ((vk l0 x10_1).f0), .int .i64 ((vk l0 x10_1).f1), .int .i64 ((vk l0 x10_1).f2), .int .i64 ((vk l0 x10_1).f3)] 87 (0, 0))) := ⟨by (with_reducible repeat first | apply vl | apply vn | apply vm); refine vv (cs := #[.int .i64 ((vk l0 x10_1).f0), .int .i64 ((vk l0 x10_1).f1), .int .i64 ((vk l0 x10_1).f2), .int .i64 0]) ?_ 3 _ rfl; (with_reducible repeat first | apply vl | apply vn | apply vm); refine vv (cs := #[.int .i64 ((vk l0 x10_1).f0), .int .i64 ((vk l0 x10_1).f1), .int .i64 0, .int .i64 0]) ?_ 2 _ rfl; (with_reducible repeat first | apply vl | apply vn | apply vm); refine vv (cs := #[.int .i64 ((vk l0 x10_1).f0), .int .i64 0, .int .i64 0, .int .i64 0]) ?_ 1 _ rfl; (with_reducible repeat first | apply vl | apply vn | apply vm); refine vv (cs := #[.int .i64 0, .int .i64 0, .int .i64 0, .int .i64 0]) ?_ 0 _ rfl; (with_reducible repeat first | apply vl | apply vn | apply vm); exact BK355.out⟩
             have n1_ : Aside0 (Below w.heap.size w ((((w25.setCell ⟨gb355, 0, none⟩ (.int .i64 ((vk l0 x10_1).f0))).setCell ⟨gb355, 1, none⟩ (.int .i64 ((vk l0 x10_1).f1))).setCell ⟨gb355, 2, none⟩ (.int .i64 ((vk l0 x10_1).f2))).setCell ⟨gb355, 3, none⟩ (.int .i64 ((vk l0 x10_1).f3)))) := ⟨bl⟩
             (try clear BK355)
             (try clear HB)
             generalize ((((w25.setCell ⟨gb355, 0, none⟩ (.int .i64 ((vk l0 x10_1).f0))).setCell ⟨gb355, 1, none⟩ (.int .i64 ((vk l0 x10_1).f1))).setCell ⟨gb355, 2, none⟩ (.int .i64 ((vk l0 x10_1).f2))).setCell ⟨gb355, 3, none⟩ (.int .i64 ((vk l0 x10_1).f3))) = w27 at n0_ n1_ ⊢
             have BK355 := n0_
             have HB := n1_
             clear n0_ n1_
             have n_ := aC (vn BK355.out) (aE (vG HB.out))
             clear BK355 HB
             obtain ⟨BK355, HB⟩ := n_
             have p357 : 0 ≤ (a1 : Int) := dt
             have q357 : a1 < (l0.length : Int) := dt
             obtain ⟨ad357, e357, hx357_0, hx357_1, hx357_2, hx357_3⟩ := xw HR0.out a1 p357 q357
             have hw357_3 := hx357_3
             have hw357_2 := hx357_2
             have hw357_1 := hx357_1
             have hw357_0 := hx357_0
             obtain rfl : ad354 = ad357 := (by injection e357)
             replace hx357_0 := hcB HB.out hx357_0
             replace hx357_1 := hcB HB.out hx357_1
             replace hx357_2 := hcB HB.out hx357_2
             replace hx357_3 := hcB HB.out hx357_3
             replace p357 := eq_true p357
             replace q357 := eq_true q357
             have p358 : 0 ≤ (a1 : Int) := dt
             have q358 : a1 < (l0.length : Int) := dt
             obtain ⟨ad358, e358, hx358_0, hx358_1, hx358_2, hx358_3⟩ := xw HR0.out a1 p358 q358
             have hw358_3 := hx358_3
             have hw358_2 := hx358_2
             have hw358_1 := hx358_1
             have hw358_0 := hx358_0
             obtain rfl : ad354 = ad358 := (by injection e358)
             replace hx358_0 := hcB HB.out hx358_0
             replace hx358_1 := hcB HB.out hx358_1
             replace hx358_2 := hcB HB.out hx358_2
             replace hx358_3 := hcB HB.out hx358_3
             replace p358 := eq_true p358
             replace q358 := eq_true q358
             refine st 27 (fun w' => w'.cell? ⟨gb355, 0, none⟩ = some (.int .i64 ((vk l0 x10_1).f0)) ∧ w'.cell? ⟨gb355, 1, none⟩ = some (.int .i64 ((vk l0 x10_1).f1)) ∧ w'.cell? ⟨gb355, 2, none⟩ = some (.int .i64 ((vk l0 x10_1).f2)) ∧ w'.cell? ⟨gb355, 3, none⟩ = some (.int .i64 ((vk l0 x10_1).f3)) ∧ w'.cell? (ad354.add ((a1).toNat * 4)) = some (.int .i64 ((vk l0 a1).f0)) ∧ w'.cell? ⟨(ad354.add ((a1).toNat * 4)).block, (ad354.add ((a1).toNat * 4)).off + 1, none⟩ = some (.int .i64 ((vk l0 a1).f1)) ∧ w'.cell? ⟨(ad354.add ((a1).toNat * 4)).block, (ad354.add ((a1).toNat * 4)).off + 2, none⟩ = some (.int .i64 ((vk l0 a1).f2)) ∧ w'.cell? ⟨(ad354.add ((a1).toNat * 4)).block, (ad354.add ((a1).toNat * 4)).off + 3, none⟩ = some (.int .i64 ((vk l0 a1).f3)) ∧ w'.cell? (ad354.add ((a1).toNat * 4)) = some (.int .i64 ((vk l0 a1).f0)) ∧ w'.cell? ⟨(ad354.add ((a1).toNat * 4)).block, (ad354.add ((a1).toNat * 4)).off + 1, none⟩ = some (.int .i64 ((vk l0 a1).f1)) ∧ w'.cell? ⟨(ad354.add ((a1).toNat * 4)).block, (ad354.add ((a1).toNat * 4)).off + 2, none⟩ = some (.int .i64 ((vk l0 a1).f2)) ∧ w'.cell? ⟨(ad354.add ((a1).toNat * 4)).block, (ad354.add ((a1).toNat * 4)).off + 3, none⟩ = some (.int .i64 ((vk l0 a1).f3))) [] (bv 27 0) vw.tab5 vw.j8 ⟨jq BK355.out, jk BK355.out, jC BK355.out, jZ BK355.out, (hcB HB.out hw357_0), (hcB HB.out hw357_1), (hcB HB.out hw357_2), (hcB HB.out hw357_3), (hcB HB.out hw358_0), (hcB HB.out hw358_1), (hcB HB.out hw358_2), (hcB HB.out hw358_3)⟩ (fun hHeld HT_ HW_ => ?_)
             generalize w27.drew = w28 at BK355 HB hx357_0 hx357_1 hx357_2 hx357_3 hx358_0 hx358_1 hx358_2 hx358_3 hHeld ⊢
             refine tk 0 15 (bv 27 1) HT_ HW_ hHeld rfl rfl (by rintro w' ⟨s0, s1, s2, s3, s4, s5, s6, s7, s8, s9, s10, s11⟩; exact yl) ?_
             refine yz (i := 1) (N := some 16) (bv 27 3) rfl rfl (xq HT_.out (by kernel_rfl)) (by decide) (fun K hK => ?_)
             refine gK Tryd.func61 rfl #[.agg #[.int .i64 ((vk l0 x10_1).f0), .int .i64 ((vk l0 x10_1).f1), .int .i64 ((vk l0 x10_1).f2), .int .i64 ((vk l0 x10_1).f3)]] rfl rfl ?_
             with_reducible refine (xk.calls ((vk l0 x10_1).f0) ((vk l0 x10_1).f1) ((vk l0 x10_1).f2) ((vk l0 x10_1).f3) true _ A6.out).mono ?_
             rintro e w29 ⟨rfl, hb⟩
             refine ⟨_, rfl, ?_⟩
             have n_ := aC (vu (g := gb355) (o := .cells #[.int .i64 ((vk l0 x10_1).f0), .int .i64 ((vk l0 x10_1).f1), .int .i64 ((vk l0 x10_1).f2), .int .i64 ((vk l0 x10_1).f3)] 87 (0, 0)) (bU BK355.out) hb) (aE (bs hb))
             clear BK355 HB
             obtain ⟨BK355, HB⟩ := n_
             (try clear hb)
             (try clear hb2)
             (try clear hk)
             (try clear hi)
             refine hK.out _ _ ⟨jq BK355.out, jk BK355.out, jC BK355.out, jZ BK355.out, (hcB HB.out hw357_0), (hcB HB.out hw357_1), (hcB HB.out hw357_2), (hcB HB.out hw357_3), (hcB HB.out hw358_0), (hcB HB.out hw358_1), (hcB HB.out hw358_2), (hcB HB.out hw358_3)⟩ (fun hHeld => ?_)
             clear hK K
             refine nm (some 16) ?_
             refine pu 2 17 (bv 27 7) HT_ rfl rfl ?_
             refine pu 3 18 (bv 27 15) HT_ rfl rfl ?_
             refine pu 5 20 (bv 27 47) HT_ rfl rfl ?_
             refine pu 6 21 (bv 27 111) HT_ rfl rfl ?_
             refine pu 7 22 (bv 27 239) HT_ rfl rfl ?_
             refine pu 8 23 (bv 27 495) HT_ rfl rfl ?_
             refine tk 4 19 (bv 27 511) HT_ HW_ hHeld rfl rfl (by rintro w' ⟨s0, s1, s2, s3, s4, s5, s6, s7, s8, s9, s10, s11⟩; exact yl) ?_
             refine tk 9 24 (bv 27 1023) HT_ HW_ hHeld rfl rfl (by rintro w' ⟨s0, s1, s2, s3, s4, s5, s6, s7, s8, s9, s10, s11⟩; exact yl) ?_
             refine pu 10 25 (bv 27 2047) HT_ rfl rfl ?_
             refine pu 11 26 (bv 27 4095) HT_ rfl rfl ?_
             refine pu 12 27 (bv 27 8191) HT_ rfl rfl ?_
             refine pu 14 29 (bv 27 24575) HT_ rfl rfl ?_
             refine pu 15 30 (bv 27 57343) HT_ rfl rfl ?_
             refine pu 16 31 (bv 27 122879) HT_ rfl rfl ?_
             refine pu 17 32 (bv 27 253951) HT_ rfl rfl ?_
             refine tk 13 28 (bv 27 262143) HT_ HW_ hHeld rfl rfl (by rintro w' ⟨s0, s1, s2, s3, s4, s5, s6, s7, s8, s9, s10, s11⟩; exact yl) ?_
             refine tk 18 33 (bv 27 524287) HT_ HW_ hHeld rfl rfl (by rintro w' ⟨s0, s1, s2, s3, s4, s5, s6, s7, s8, s9, s10, s11⟩; exact yl) ?_
             refine pu 19 34 (bv 27 1048575) HT_ rfl rfl ?_
             refine pu 20 35 (bv 27 2097151) HT_ rfl rfl ?_
             refine pu 21 36 (bv 27 4194303) HT_ rfl rfl ?_
             refine pu 22 37 (bv 27 8388607) HT_ rfl rfl ?_
             refine pu 23 38 (bv 27 16777215) HT_ rfl rfl ?_
             refine pu 24 39 (bv 27 33554431) HT_ rfl rfl ?_
             refine pu 25 40 (bv 27 67108863) HT_ rfl rfl ?_
             refine pu 26 41 (bv 27 134217727) HT_ rfl rfl ?_
             refine yO (xS HT_.out (by kernel_rfl)) ?_
             obtain ⟨hcz30_0, hcz30_1, hcz30_2, hcz30_3, hfz30_0, hfz30_1, hfz30_2, hfz30_3⟩ := xC BK355.out
             try go_wp2
             go_roundg k1
             case measure => have := HK1.out; omega
             case rel => exact ⟨(wrap64 (x5_1 + (ji24))), (wrap64 (x10_1 + 1)), (by first | rfl | (simp; done) | (simp only [← hji24] <;> (first | rfl | simp)) | (simp [*]; done)), rq, H', ⟨by have := HK1.out; omega⟩, ⟨bl⟩⟩
            ·rw [if_neg c23] at H
             exact absurd H (by simp)
           ·have H' := Aside0.mk H
            clear H
            have p354 : 0 ≤ (x10_1 : Int) := dt
            have q354 : x10_1 < (l0.length : Int) := dt
            obtain ⟨ad354, e354, hx354_0, hx354_1, hx354_2, hx354_3⟩ := xw HR0.out x10_1 p354 q354
            cases e354
            replace hx354_0 := hcB HB.out hx354_0
            replace hx354_1 := hcB HB.out hx354_1
            replace hx354_2 := hcB HB.out hx354_2
            replace hx354_3 := hcB HB.out hx354_3
            replace p354 := eq_true p354
            replace q354 := eq_true q354
            try go_wp2_with (first | ((with_reducible refine gd 7 rfl ?_); refine bx 7 #[.int .i64 0, .int .i64 0, .int .i64 0, .int .i64 0] 87 rfl rfl ?_; intro gb355 hg w31 hbox hb; have n_ := aC (bs hb) (aC hbox (aC (gz hg) (aE (gz hg)))); clear HB; obtain ⟨HB, BK355, GW355, GE355⟩ := n_; clear hb hbox hg; obtain ⟨hcz32_0, hcz32_1, hcz32_2, hcz32_3, hfz32_0, hfz32_1, hfz32_2, hfz32_3⟩ := xC BK355.out))
            have n0_ : Aside0 (((((w31.setCell ⟨gb355, 0, none⟩ (.int .i64 ((vk l0 x10_1).f0))).setCell ⟨gb355, 1, none⟩ (.int .i64 ((vk l0 x10_1).f1))).setCell ⟨gb355, 2, none⟩ (.int .i64 ((vk l0 x10_1).f2))).setCell ⟨gb355, 3, none⟩ (.int .i64 ((vk l0 x10_1).f3))).heap[gb355]? = some (.cells #[.int .i64 ((vk l0 x10_1).f0), .int .i64 ((vk l0 x10_1).f1), .int .i64 ((vk l0 x10_1).f2), .int .i64 ((vk l0 x10_1).f3)] 87 (0, 0))) := ⟨by (with_reducible repeat first | apply vl | apply vn | apply vm); refine vv (cs := #[.int .i64 ((vk l0 x10_1).f0), .int .i64 ((vk l0 x10_1).f1), .int .i64 ((vk l0 x10_1).f2), .int .i64 0]) ?_ 3 _ rfl; (with_reducible repeat first | apply vl | apply vn | apply vm); refine vv (cs := #[.int .i64 ((vk l0 x10_1).f0), .int .i64 ((vk l0 x10_1).f1), .int .i64 0, .int .i64 0]) ?_ 2 _ rfl; (with_reducible repeat first | apply vl | apply vn | apply vm); refine vv (cs := #[.int .i64 ((vk l0 x10_1).f0), .int .i64 0, .int .i64 0, .int .i64 0]) ?_ 1 _ rfl; (with_reducible repeat first | apply vl | apply vn | apply vm); refine vv (cs := #[.int .i64 0, .int .i64 0, .int .i64 0, .int .i64 0]) ?_ 0 _ rfl; (with_reducible repeat first | apply vl | apply vn | apply vm); exact BK355.out⟩
            have n1_ : Aside0 (Below w.heap.size w ((((w31.setCell ⟨gb355, 0, none⟩ (.int .i64 ((vk l0 x10_1).f0))).setCell ⟨gb355, 1, none⟩ (.int .i64 ((vk l0 x10_1).f1))).setCell ⟨gb355, 2, none⟩ (.int .i64 ((vk l0 x10_1).f2))).setCell ⟨gb355, 3, none⟩ (.int .i64 ((vk l0 x10_1).f3)))) := ⟨bl⟩
            (try clear BK355)
            (try clear HB)
            generalize ((((w31.setCell ⟨gb355, 0, none⟩ (.int .i64 ((vk l0 x10_1).f0))).setCell ⟨gb355, 1, none⟩ (.int .i64 ((vk l0 x10_1).f1))).setCell ⟨gb355, 2, none⟩ (.int .i64 ((vk l0 x10_1).f2))).setCell ⟨gb355, 3, none⟩ (.int .i64 ((vk l0 x10_1).f3))) = w33 at n0_ n1_ ⊢
            have BK355 := n0_
            have HB := n1_
            clear n0_ n1_
            have n_ := aC (vn BK355.out) (aE (vG HB.out))
            clear BK355 HB
            obtain ⟨BK355, HB⟩ := n_
            have p357 : 0 ≤ (a1 : Int) := dt
            have q357 : a1 < (l0.length : Int) := dt
            obtain ⟨ad357, e357, hx357_0, hx357_1, hx357_2, hx357_3⟩ := xw HR0.out a1 p357 q357
            have hw357_3 := hx357_3
            have hw357_2 := hx357_2
            have hw357_1 := hx357_1
            have hw357_0 := hx357_0
            obtain rfl : ad354 = ad357 := (by injection e357)
            replace hx357_0 := hcB HB.out hx357_0
            replace hx357_1 := hcB HB.out hx357_1
            replace hx357_2 := hcB HB.out hx357_2
            replace hx357_3 := hcB HB.out hx357_3
            replace p357 := eq_true p357
            replace q357 := eq_true q357
            have p358 : 0 ≤ (a1 : Int) := dt
            have q358 : a1 < (l0.length : Int) := dt
            obtain ⟨ad358, e358, hx358_0, hx358_1, hx358_2, hx358_3⟩ := xw HR0.out a1 p358 q358
            have hw358_3 := hx358_3
            have hw358_2 := hx358_2
            have hw358_1 := hx358_1
            have hw358_0 := hx358_0
            obtain rfl : ad354 = ad358 := (by injection e358)
            replace hx358_0 := hcB HB.out hx358_0
            replace hx358_1 := hcB HB.out hx358_1
            replace hx358_2 := hcB HB.out hx358_2
            replace hx358_3 := hcB HB.out hx358_3
            replace p358 := eq_true p358
            replace q358 := eq_true q358
            refine st 27 (fun w' => w'.cell? ⟨gb355, 0, none⟩ = some (.int .i64 ((vk l0 x10_1).f0)) ∧ w'.cell? ⟨gb355, 1, none⟩ = some (.int .i64 ((vk l0 x10_1).f1)) ∧ w'.cell? ⟨gb355, 2, none⟩ = some (.int .i64 ((vk l0 x10_1).f2)) ∧ w'.cell? ⟨gb355, 3, none⟩ = some (.int .i64 ((vk l0 x10_1).f3)) ∧ w'.cell? (ad354.add ((a1).toNat * 4)) = some (.int .i64 ((vk l0 a1).f0)) ∧ w'.cell? ⟨(ad354.add ((a1).toNat * 4)).block, (ad354.add ((a1).toNat * 4)).off + 1, none⟩ = some (.int .i64 ((vk l0 a1).f1)) ∧ w'.cell? ⟨(ad354.add ((a1).toNat * 4)).block, (ad354.add ((a1).toNat * 4)).off + 2, none⟩ = some (.int .i64 ((vk l0 a1).f2)) ∧ w'.cell? ⟨(ad354.add ((a1).toNat * 4)).block, (ad354.add ((a1).toNat * 4)).off + 3, none⟩ = some (.int .i64 ((vk l0 a1).f3)) ∧ w'.cell? (ad354.add ((a1).toNat * 4)) = some (.int .i64 ((vk l0 a1).f0)) ∧ w'.cell? ⟨(ad354.add ((a1).toNat * 4)).block, (ad354.add ((a1).toNat * 4)).off + 1, none⟩ = some (.int .i64 ((vk l0 a1).f1)) ∧ w'.cell? ⟨(ad354.add ((a1).toNat * 4)).block, (ad354.add ((a1).toNat * 4)).off + 2, none⟩ = some (.int .i64 ((vk l0 a1).f2)) ∧ w'.cell? ⟨(ad354.add ((a1).toNat * 4)).block, (ad354.add ((a1).toNat * 4)).off + 3, none⟩ = some (.int .i64 ((vk l0 a1).f3))) [] (bv 27 0) vw.tab5 vw.j8 ⟨jq BK355.out, jk BK355.out, jC BK355.out, jZ BK355.out, (hcB HB.out hw357_0), (hcB HB.out hw357_1), (hcB HB.out hw357_2), (hcB HB.out hw357_3), (hcB HB.out hw358_0), (hcB HB.out hw358_1), (hcB HB.out hw358_2), (hcB HB.out hw358_3)⟩ (fun hHeld HT_ HW_ => ?_)
            generalize w33.drew = w34 at BK355 HB hx357_0 hx357_1 hx357_2 hx357_3 hx358_0 hx358_1 hx358_2 hx358_3 hHeld ⊢
            refine tk 0 15 (bv 27 1) HT_ HW_ hHeld rfl rfl (by rintro w' ⟨s0, s1, s2, s3, s4, s5, s6, s7, s8, s9, s10, s11⟩; exact yl) ?_
            refine yz (i := 1) (N := some 16) (bv 27 3) rfl rfl (xq HT_.out (by kernel_rfl)) (by decide) (fun K hK => ?_)
            refine gK Tryd.func61 rfl #[.agg #[.int .i64 ((vk l0 x10_1).f0), .int .i64 ((vk l0 x10_1).f1), .int .i64 ((vk l0 x10_1).f2), .int .i64 ((vk l0 x10_1).f3)]] rfl rfl ?_
            with_reducible refine (xk.calls ((vk l0 x10_1).f0) ((vk l0 x10_1).f1) ((vk l0 x10_1).f2) ((vk l0 x10_1).f3) true _ A6.out).mono ?_
            rintro e w35 ⟨rfl, hb⟩
            refine ⟨_, rfl, ?_⟩
            have n_ := aC (vu (g := gb355) (o := .cells #[.int .i64 ((vk l0 x10_1).f0), .int .i64 ((vk l0 x10_1).f1), .int .i64 ((vk l0 x10_1).f2), .int .i64 ((vk l0 x10_1).f3)] 87 (0, 0)) (bU BK355.out) hb) (aE (bs hb))
            clear BK355 HB
            obtain ⟨BK355, HB⟩ := n_
            (try clear hb)
            (try clear hb2)
            (try clear hk)
            (try clear hi)
            refine hK.out _ _ ⟨jq BK355.out, jk BK355.out, jC BK355.out, jZ BK355.out, (hcB HB.out hw357_0), (hcB HB.out hw357_1), (hcB HB.out hw357_2), (hcB HB.out hw357_3), (hcB HB.out hw358_0), (hcB HB.out hw358_1), (hcB HB.out hw358_2), (hcB HB.out hw358_3)⟩ (fun hHeld => ?_)
            clear hK K
            refine nm (some 16) ?_
            refine pu 2 17 (bv 27 7) HT_ rfl rfl ?_
            refine pu 3 18 (bv 27 15) HT_ rfl rfl ?_
            refine pu 5 20 (bv 27 47) HT_ rfl rfl ?_
            refine pu 6 21 (bv 27 111) HT_ rfl rfl ?_
            refine pu 7 22 (bv 27 239) HT_ rfl rfl ?_
            refine pu 8 23 (bv 27 495) HT_ rfl rfl ?_
            refine tk 4 19 (bv 27 511) HT_ HW_ hHeld rfl rfl (by rintro w' ⟨s0, s1, s2, s3, s4, s5, s6, s7, s8, s9, s10, s11⟩; exact yl) ?_
            refine tk 9 24 (bv 27 1023) HT_ HW_ hHeld rfl rfl (by rintro w' ⟨s0, s1, s2, s3, s4, s5, s6, s7, s8, s9, s10, s11⟩; exact yl) ?_
            refine pu 10 25 (bv 27 2047) HT_ rfl rfl ?_
            refine pu 11 26 (bv 27 4095) HT_ rfl rfl ?_
            refine pu 12 27 (bv 27 8191) HT_ rfl rfl ?_
            refine pu 14 29 (bv 27 24575) HT_ rfl rfl ?_
            refine pu 15 30 (bv 27 57343) HT_ rfl rfl ?_
            refine pu 16 31 (bv 27 122879) HT_ rfl rfl ?_
            refine pu 17 32 (bv 27 253951) HT_ rfl rfl ?_
            refine tk 13 28 (bv 27 262143) HT_ HW_ hHeld rfl rfl (by rintro w' ⟨s0, s1, s2, s3, s4, s5, s6, s7, s8, s9, s10, s11⟩; exact yl) ?_
            refine tk 18 33 (bv 27 524287) HT_ HW_ hHeld rfl rfl (by rintro w' ⟨s0, s1, s2, s3, s4, s5, s6, s7, s8, s9, s10, s11⟩; exact yl) ?_
            refine pu 19 34 (bv 27 1048575) HT_ rfl rfl ?_
            refine pu 20 35 (bv 27 2097151) HT_ rfl rfl ?_
            refine pu 21 36 (bv 27 4194303) HT_ rfl rfl ?_
            refine pu 22 37 (bv 27 8388607) HT_ rfl rfl ?_
            refine pu 23 38 (bv 27 16777215) HT_ rfl rfl ?_
            refine pu 24 39 (bv 27 33554431) HT_ rfl rfl ?_
            refine pu 25 40 (bv 27 67108863) HT_ rfl rfl ?_
            refine pu 26 41 (bv 27 134217727) HT_ rfl rfl ?_
            refine yO (xS HT_.out (by kernel_rfl)) ?_
            try go_wp2
            go_roundg k1
            case measure => have := HK1.out; omega
            case rel => exact ⟨(x5_1), (wrap64 (x10_1 + 1)), rq, rq, H', ⟨by have := HK1.out; omega⟩, ⟨bl⟩⟩
          ·have H' := Aside0.mk H
           clear H
           have p354 : 0 ≤ (x10_1 : Int) := dt
           have q354 : x10_1 < (l0.length : Int) := dt
           obtain ⟨ad354, e354, hx354_0, hx354_1, hx354_2, hx354_3⟩ := xw HR0.out x10_1 p354 q354
           cases e354
           replace hx354_0 := hcB HB.out hx354_0
           replace hx354_1 := hcB HB.out hx354_1
           replace hx354_2 := hcB HB.out hx354_2
           replace hx354_3 := hcB HB.out hx354_3
           replace p354 := eq_true p354
           replace q354 := eq_true q354
           try go_wp2_with (first | ((with_reducible refine gd 7 rfl ?_); refine bx 7 #[.int .i64 0, .int .i64 0, .int .i64 0, .int .i64 0] 87 rfl rfl ?_; intro gb355 hg w36 hbox hb; have n_ := aC (bs hb) (aC hbox (aC (gz hg) (aE (gz hg)))); clear HB; obtain ⟨HB, BK355, GW355, GE355⟩ := n_; clear hb hbox hg; obtain ⟨hcz37_0, hcz37_1, hcz37_2, hcz37_3, hfz37_0, hfz37_1, hfz37_2, hfz37_3⟩ := xC BK355.out))
           have n0_ : Aside0 (((((w36.setCell ⟨gb355, 0, none⟩ (.int .i64 ((vk l0 x10_1).f0))).setCell ⟨gb355, 1, none⟩ (.int .i64 ((vk l0 x10_1).f1))).setCell ⟨gb355, 2, none⟩ (.int .i64 ((vk l0 x10_1).f2))).setCell ⟨gb355, 3, none⟩ (.int .i64 ((vk l0 x10_1).f3))).heap[gb355]? = some (.cells #[.int .i64 ((vk l0 x10_1).f0), .int .i64 ((vk l0 x10_1).f1), .int .i64 ((vk l0 x10_1).f2), .int .i64 ((vk l0 x10_1).f3)] 87 (0, 0))) := ⟨by (with_reducible repeat first | apply vl | apply vn | apply vm); refine vv (cs := #[.int .i64 ((vk l0 x10_1).f0), .int .i64 ((vk l0 x10_1).f1), .int .i64 ((vk l0 x10_1).f2), .int .i64 0]) ?_ 3 _ rfl; (with_reducible repeat first | apply vl | apply vn | apply vm); refine vv (cs := #[.int .i64 ((vk l0 x10_1).f0), .int .i64 ((vk l0 x10_1).f1), .int .i64 0, .int .i64 0]) ?_ 2 _ rfl; (with_reducible repeat first | apply vl | apply vn | apply vm); refine vv (cs := #[.int .i64 ((vk l0 x10_1).f0), .int .i64 0, .int .i64 0, .int .i64 0]) ?_ 1 _ rfl; (with_reducible repeat first | apply vl | apply vn | apply vm); refine vv (cs := #[.int .i64 0, .int .i64 0, .int .i64 0, .int .i64 0]) ?_ 0 _ rfl; (with_reducible repeat first | apply vl | apply vn | apply vm); exact BK355.out⟩
           have n1_ : Aside0 (Below w.heap.size w ((((w36.setCell ⟨gb355, 0, none⟩ (.int .i64 ((vk l0 x10_1).f0))).setCell ⟨gb355, 1, none⟩ (.int .i64 ((vk l0 x10_1).f1))).setCell ⟨gb355, 2, none⟩ (.int .i64 ((vk l0 x10_1).f2))).setCell ⟨gb355, 3, none⟩ (.int .i64 ((vk l0 x10_1).f3)))) := ⟨bl⟩
           (try clear BK355)
           (try clear HB)
           generalize ((((w36.setCell ⟨gb355, 0, none⟩ (.int .i64 ((vk l0 x10_1).f0))).setCell ⟨gb355, 1, none⟩ (.int .i64 ((vk l0 x10_1).f1))).setCell ⟨gb355, 2, none⟩ (.int .i64 ((vk l0 x10_1).f2))).setCell ⟨gb355, 3, none⟩ (.int .i64 ((vk l0 x10_1).f3))) = w38 at n0_ n1_ ⊢
           have BK355 := n0_
           have HB := n1_
           clear n0_ n1_
           have n_ := aC (vn BK355.out) (aE (vG HB.out))
           clear BK355 HB
           obtain ⟨BK355, HB⟩ := n_
           have p357 : 0 ≤ (a1 : Int) := dt
           have q357 : a1 < (l0.length : Int) := dt
           obtain ⟨ad357, e357, hx357_0, hx357_1, hx357_2, hx357_3⟩ := xw HR0.out a1 p357 q357
           have hw357_3 := hx357_3
           have hw357_2 := hx357_2
           have hw357_1 := hx357_1
           have hw357_0 := hx357_0
           obtain rfl : ad354 = ad357 := (by injection e357)
           replace hx357_0 := hcB HB.out hx357_0
           replace hx357_1 := hcB HB.out hx357_1
           replace hx357_2 := hcB HB.out hx357_2
           replace hx357_3 := hcB HB.out hx357_3
           replace p357 := eq_true p357
           replace q357 := eq_true q357
           have p358 : 0 ≤ (a1 : Int) := dt
           have q358 : a1 < (l0.length : Int) := dt
           obtain ⟨ad358, e358, hx358_0, hx358_1, hx358_2, hx358_3⟩ := xw HR0.out a1 p358 q358
           have hw358_3 := hx358_3
           have hw358_2 := hx358_2
           have hw358_1 := hx358_1
           have hw358_0 := hx358_0
           obtain rfl : ad354 = ad358 := (by injection e358)
           replace hx358_0 := hcB HB.out hx358_0
           replace hx358_1 := hcB HB.out hx358_1
           replace hx358_2 := hcB HB.out hx358_2
           replace hx358_3 := hcB HB.out hx358_3
           replace p358 := eq_true p358
           replace q358 := eq_true q358
           refine st 27 (fun w' => w'.cell? ⟨gb355, 0, none⟩ = some (.int .i64 ((vk l0 x10_1).f0)) ∧ w'.cell? ⟨gb355, 1, none⟩ = some (.int .i64 ((vk l0 x10_1).f1)) ∧ w'.cell? ⟨gb355, 2, none⟩ = some (.int .i64 ((vk l0 x10_1).f2)) ∧ w'.cell? ⟨gb355, 3, none⟩ = some (.int .i64 ((vk l0 x10_1).f3)) ∧ w'.cell? (ad354.add ((a1).toNat * 4)) = some (.int .i64 ((vk l0 a1).f0)) ∧ w'.cell? ⟨(ad354.add ((a1).toNat * 4)).block, (ad354.add ((a1).toNat * 4)).off + 1, none⟩ = some (.int .i64 ((vk l0 a1).f1)) ∧ w'.cell? ⟨(ad354.add ((a1).toNat * 4)).block, (ad354.add ((a1).toNat * 4)).off + 2, none⟩ = some (.int .i64 ((vk l0 a1).f2)) ∧ w'.cell? ⟨(ad354.add ((a1).toNat * 4)).block, (ad354.add ((a1).toNat * 4)).off + 3, none⟩ = some (.int .i64 ((vk l0 a1).f3)) ∧ w'.cell? (ad354.add ((a1).toNat * 4)) = some (.int .i64 ((vk l0 a1).f0)) ∧ w'.cell? ⟨(ad354.add ((a1).toNat * 4)).block, (ad354.add ((a1).toNat * 4)).off + 1, none⟩ = some (.int .i64 ((vk l0 a1).f1)) ∧ w'.cell? ⟨(ad354.add ((a1).toNat * 4)).block, (ad354.add ((a1).toNat * 4)).off + 2, none⟩ = some (.int .i64 ((vk l0 a1).f2)) ∧ w'.cell? ⟨(ad354.add ((a1).toNat * 4)).block, (ad354.add ((a1).toNat * 4)).off + 3, none⟩ = some (.int .i64 ((vk l0 a1).f3))) [] (bv 27 0) vw.tab5 vw.j8 ⟨jq BK355.out, jk BK355.out, jC BK355.out, jZ BK355.out, (hcB HB.out hw357_0), (hcB HB.out hw357_1), (hcB HB.out hw357_2), (hcB HB.out hw357_3), (hcB HB.out hw358_0), (hcB HB.out hw358_1), (hcB HB.out hw358_2), (hcB HB.out hw358_3)⟩ (fun hHeld HT_ HW_ => ?_)
           generalize w38.drew = w39 at BK355 HB hx357_0 hx357_1 hx357_2 hx357_3 hx358_0 hx358_1 hx358_2 hx358_3 hHeld ⊢
           refine tk 0 15 (bv 27 1) HT_ HW_ hHeld rfl rfl (by rintro w' ⟨s0, s1, s2, s3, s4, s5, s6, s7, s8, s9, s10, s11⟩; exact yl) ?_
           refine yz (i := 1) (N := some 16) (bv 27 3) rfl rfl (xq HT_.out (by kernel_rfl)) (by decide) (fun K hK => ?_)
           refine gK Tryd.func61 rfl #[.agg #[.int .i64 ((vk l0 x10_1).f0), .int .i64 ((vk l0 x10_1).f1), .int .i64 ((vk l0 x10_1).f2), .int .i64 ((vk l0 x10_1).f3)]] rfl rfl ?_
           with_reducible refine (xk.calls ((vk l0 x10_1).f0) ((vk l0 x10_1).f1) ((vk l0 x10_1).f2) ((vk l0 x10_1).f3) true _ A6.out).mono ?_
           rintro e w40 ⟨rfl, hb⟩
           refine ⟨_, rfl, ?_⟩
           have n_ := aC (vu (g := gb355) (o := .cells #[.int .i64 ((vk l0 x10_1).f0), .int .i64 ((vk l0 x10_1).f1), .int .i64 ((vk l0 x10_1).f2), .int .i64 ((vk l0 x10_1).f3)] 87 (0, 0)) (bU BK355.out) hb) (aE (bs hb))
           clear BK355 HB
           obtain ⟨BK355, HB⟩ := n_
           (try clear hb)
           (try clear hb2)
           (try clear hk)
           (try clear hi)
           refine hK.out _ _ ⟨jq BK355.out, jk BK355.out, jC BK355.out, jZ BK355.out, (hcB HB.out hw357_0), (hcB HB.out hw357_1), (hcB HB.out hw357_2), (hcB HB.out hw357_3), (hcB HB.out hw358_0), (hcB HB.out hw358_1), (hcB HB.out hw358_2), (hcB HB.out hw358_3)⟩ (fun hHeld => ?_)
           clear hK K
           refine nm (some 16) ?_
           refine pu 2 17 (bv 27 7) HT_ rfl rfl ?_
           refine pu 3 18 (bv 27 15) HT_ rfl rfl ?_
           refine pu 5 20 (bv 27 47) HT_ rfl rfl ?_
           refine pu 6 21 (bv 27 111) HT_ rfl rfl ?_
           refine pu 7 22 (bv 27 239) HT_ rfl rfl ?_
           refine pu 8 23 (bv 27 495) HT_ rfl rfl ?_
           refine tk 4 19 (bv 27 511) HT_ HW_ hHeld rfl rfl (by rintro w' ⟨s0, s1, s2, s3, s4, s5, s6, s7, s8, s9, s10, s11⟩; exact yl) ?_
           refine tk 9 24 (bv 27 1023) HT_ HW_ hHeld rfl rfl (by rintro w' ⟨s0, s1, s2, s3, s4, s5, s6, s7, s8, s9, s10, s11⟩; exact yl) ?_
           refine pu 10 25 (bv 27 2047) HT_ rfl rfl ?_
           refine pu 11 26 (bv 27 4095) HT_ rfl rfl ?_
           refine pu 12 27 (bv 27 8191) HT_ rfl rfl ?_
           refine pu 14 29 (bv 27 24575) HT_ rfl rfl ?_
           refine pu 15 30 (bv 27 57343) HT_ rfl rfl ?_
           refine pu 16 31 (bv 27 122879) HT_ rfl rfl ?_
           refine pu 17 32 (bv 27 253951) HT_ rfl rfl ?_
           refine tk 13 28 (bv 27 262143) HT_ HW_ hHeld rfl rfl (by rintro w' ⟨s0, s1, s2, s3, s4, s5, s6, s7, s8, s9, s10, s11⟩; exact yl) ?_
           refine tk 18 33 (bv 27 524287) HT_ HW_ hHeld rfl rfl (by rintro w' ⟨s0, s1, s2, s3, s4, s5, s6, s7, s8, s9, s10, s11⟩; exact yl) ?_
           refine pu 19 34 (bv 27 1048575) HT_ rfl rfl ?_
           refine pu 20 35 (bv 27 2097151) HT_ rfl rfl ?_
           refine pn 21 36 (bv 27 4194303) HT_ rfl rfl ?_
           refine pn 22 37 (bv 27 8388607) HT_ rfl rfl ?_
           refine pn 23 38 (bv 27 16777215) HT_ rfl rfl ?_
           refine pu 24 39 (bv 27 33554431) HT_ rfl rfl ?_
           refine pu 25 40 (bv 27 67108863) HT_ rfl rfl ?_
           refine pu 26 41 (bv 27 134217727) HT_ rfl rfl ?_
           refine yO (xS HT_.out (by kernel_rfl)) ?_
           try go_wp2
           go_roundg k1
           case measure => have := HK1.out; omega
           case rel => exact ⟨(x5_1), (wrap64 (x10_1 + 1)), rq, rq, H', ⟨by have := HK1.out; omega⟩, ⟨bl⟩⟩
        ·rw [if_neg c9] at H
         exact absurd H (by simp)
       ·rw [if_neg c8] at H
        exact absurd H (by simp)
      ·replace c7 := Bool.eq_false_iff.mpr c7
       subst c7
       rw [if_neg Bool.false_ne_true] at H
       have H' := Aside0.mk H
       clear H
       have p354 : 0 ≤ (x10_1 : Int) := dt
       have q354 : x10_1 < (l0.length : Int) := dt
       obtain ⟨ad354, e354, hx354_0, hx354_1, hx354_2, hx354_3⟩ := xw HR0.out x10_1 p354 q354
       cases e354
       replace hx354_0 := hcB HB.out hx354_0
       replace hx354_1 := hcB HB.out hx354_1
       replace hx354_2 := hcB HB.out hx354_2
       replace hx354_3 := hcB HB.out hx354_3
       replace p354 := eq_true p354
       replace q354 := eq_true q354
       try go_wp2_with (first | ((with_reducible refine gd 7 rfl ?_); refine bx 7 #[.int .i64 0, .int .i64 0, .int .i64 0, .int .i64 0] 87 rfl rfl ?_; intro gb355 hg w41 hbox hb; have n_ := aC (bs hb) (aC hbox (aC (gz hg) (aE (gz hg)))); clear HB; obtain ⟨HB, BK355, GW355, GE355⟩ := n_; clear hb hbox hg; obtain ⟨hcz42_0, hcz42_1, hcz42_2, hcz42_3, hfz42_0, hfz42_1, hfz42_2, hfz42_3⟩ := xC BK355.out))
       have n0_ : Aside0 (((((w41.setCell ⟨gb355, 0, none⟩ (.int .i64 ((vk l0 x10_1).f0))).setCell ⟨gb355, 1, none⟩ (.int .i64 ((vk l0 x10_1).f1))).setCell ⟨gb355, 2, none⟩ (.int .i64 ((vk l0 x10_1).f2))).setCell ⟨gb355, 3, none⟩ (.int .i64 ((vk l0 x10_1).f3))).heap[gb355]? = some (.cells #[.int .i64 ((vk l0 x10_1).f0), .int .i64 ((vk l0 x10_1).f1), .int .i64 ((vk l0 x10_1).f2), .int .i64 ((vk l0 x10_1).f3)] 87 (0, 0))) := ⟨by (with_reducible repeat first | apply vl | apply vn | apply vm); refine vv (cs := #[.int .i64 ((vk l0 x10_1).f0), .int .i64 ((vk l0 x10_1).f1), .int .i64 ((vk l0 x10_1).f2), .int .i64 0]) ?_ 3 _ rfl; (with_reducible repeat first | apply vl | apply vn | apply vm); refine vv (cs := #[.int .i64 ((vk l0 x10_1).f0), .int .i64 ((vk l0 x10_1).f1), .int .i64 0, .int .i64 0]) ?_ 2 _ rfl; (with_reducible repeat first | apply vl | apply vn | apply vm); refine vv (cs := #[.int .i64 ((vk l0 x10_1).f0), .int .i64 0, .int .i64 0, .int .i64 0]) ?_ 1 _ rfl; (with_reducible repeat first | apply vl | apply vn | apply vm); refine vv (cs := #[.int .i64 0, .int .i64 0, .int .i64 0, .int .i64 0]) ?_ 0 _ rfl; (with_reducible repeat first | apply vl | apply vn | apply vm); exact BK355.out⟩
       have n1_ : Aside0 (Below w.heap.size w ((((w41.setCell ⟨gb355, 0, none⟩ (.int .i64 ((vk l0 x10_1).f0))).setCell ⟨gb355, 1, none⟩ (.int .i64 ((vk l0 x10_1).f1))).setCell ⟨gb355, 2, none⟩ (.int .i64 ((vk l0 x10_1).f2))).setCell ⟨gb355, 3, none⟩ (.int .i64 ((vk l0 x10_1).f3)))) := ⟨bl⟩
       (try clear BK355)
       (try clear HB)
       generalize ((((w41.setCell ⟨gb355, 0, none⟩ (.int .i64 ((vk l0 x10_1).f0))).setCell ⟨gb355, 1, none⟩ (.int .i64 ((vk l0 x10_1).f1))).setCell ⟨gb355, 2, none⟩ (.int .i64 ((vk l0 x10_1).f2))).setCell ⟨gb355, 3, none⟩ (.int .i64 ((vk l0 x10_1).f3))) = w43 at n0_ n1_ ⊢
       have BK355 := n0_
       have HB := n1_
       clear n0_ n1_
       have n_ := aC (vn BK355.out) (aE (vG HB.out))
       clear BK355 HB
       obtain ⟨BK355, HB⟩ := n_
       refine st 27 (fun w' => w'.cell? ⟨gb355, 0, none⟩ = some (.int .i64 ((vk l0 x10_1).f0)) ∧ w'.cell? ⟨gb355, 1, none⟩ = some (.int .i64 ((vk l0 x10_1).f1)) ∧ w'.cell? ⟨gb355, 2, none⟩ = some (.int .i64 ((vk l0 x10_1).f2)) ∧ w'.cell? ⟨gb355, 3, none⟩ = some (.int .i64 ((vk l0 x10_1).f3))) [] (bv 27 0) vw.tab5 vw.j8 ⟨jq BK355.out, jk BK355.out, jC BK355.out, jZ BK355.out⟩ (fun hHeld HT_ HW_ => ?_)
       generalize w43.drew = w44 at BK355 HB hHeld ⊢
       refine tk 0 15 (bv 27 1) HT_ HW_ hHeld rfl rfl (by rintro w' ⟨s0, s1, s2, s3⟩; exact yl) ?_
       refine yz (i := 1) (N := some 16) (bv 27 3) rfl rfl (xq HT_.out (by kernel_rfl)) (by decide) (fun K hK => ?_)
       refine gK Tryd.func61 rfl #[.agg #[.int .i64 ((vk l0 x10_1).f0), .int .i64 ((vk l0 x10_1).f1), .int .i64 ((vk l0 x10_1).f2), .int .i64 ((vk l0 x10_1).f3)]] rfl rfl ?_
       with_reducible refine (xk.calls ((vk l0 x10_1).f0) ((vk l0 x10_1).f1) ((vk l0 x10_1).f2) ((vk l0 x10_1).f3) false _ A6.out).mono ?_
       rintro e w45 ⟨rfl, hb⟩
       refine ⟨_, rfl, ?_⟩
       have n_ := aC (vu (g := gb355) (o := .cells #[.int .i64 ((vk l0 x10_1).f0), .int .i64 ((vk l0 x10_1).f1), .int .i64 ((vk l0 x10_1).f2), .int .i64 ((vk l0 x10_1).f3)] 87 (0, 0)) (bU BK355.out) hb) (aE (bs hb))
       clear BK355 HB
       obtain ⟨BK355, HB⟩ := n_
       (try clear hb)
       (try clear hb2)
       (try clear hk)
       (try clear hi)
       refine hK.out _ _ ⟨jq BK355.out, jk BK355.out, jC BK355.out, jZ BK355.out⟩ (fun hHeld => ?_)
       clear hK K
       refine nm (some 16) ?_
       refine pu 2 17 (bv 27 7) HT_ rfl rfl ?_
       refine pn 3 18 (bv 27 15) HT_ rfl rfl ?_
       refine pn 4 19 (bv 27 31) HT_ rfl rfl ?_
       refine pn 5 20 (bv 27 63) HT_ rfl rfl ?_
       refine pn 6 21 (bv 27 127) HT_ rfl rfl ?_
       refine pn 7 22 (bv 27 255) HT_ rfl rfl ?_
       refine pn 8 23 (bv 27 511) HT_ rfl rfl ?_
       refine pn 9 24 (bv 27 1023) HT_ rfl rfl ?_
       refine pn 10 25 (bv 27 2047) HT_ rfl rfl ?_
       refine pn 11 26 (bv 27 4095) HT_ rfl rfl ?_
       refine pn 12 27 (bv 27 8191) HT_ rfl rfl ?_
       refine pn 13 28 (bv 27 16383) HT_ rfl rfl ?_
       refine pn 14 29 (bv 27 32767) HT_ rfl rfl ?_
       refine pn 15 30 (bv 27 65535) HT_ rfl rfl ?_
       refine pn 16 31 (bv 27 131071) HT_ rfl rfl ?_
       refine pn 17 32 (bv 27 262143) HT_ rfl rfl ?_
       refine pn 18 33 (bv 27 524287) HT_ rfl rfl ?_
       refine pn 19 34 (bv 27 1048575) HT_ rfl rfl ?_
       refine pn 20 35 (bv 27 2097151) HT_ rfl rfl ?_
       refine pn 21 36 (bv 27 4194303) HT_ rfl rfl ?_
       refine pn 22 37 (bv 27 8388607) HT_ rfl rfl ?_
       refine pn 23 38 (bv 27 16777215) HT_ rfl rfl ?_
       refine pn 24 39 (bv 27 33554431) HT_ rfl rfl ?_
       refine pn 25 40 (bv 27 67108863) HT_ rfl rfl ?_
       refine pu 26 41 (bv 27 134217727) HT_ rfl rfl ?_
       refine yO (xS HT_.out (by kernel_rfl)) ?_
       try go_wp2
       go_roundg k1
       case measure => have := HK1.out; omega
       case rel => exact ⟨(x5_1), (wrap64 (x10_1 + 1)), rq, rq, H', ⟨by have := HK1.out; omega⟩, ⟨bl⟩⟩
     ·rw [if_neg c5] at H
      exact absurd H (by simp)
    ·rw [if_neg c4] at H
     exact absurd H (by simp)
   ·by_cases c46 : 0 ≤ a1
    ·rw [if_pos c46] at H
     have c46b0 := decide_eq_true c46
     clear c46
     by_cases c47 : a1 < (l0.length : Int)
     ·rw [if_pos c47] at H
      have c47b0 := decide_eq_true c47
      clear c47
      obtain ⟨ji48, hji48⟩ : ∃ j_ : Int, (wrap64 (15 - ((vk l0 a1).f0))) = j_ := ⟨_, rfl⟩
      replace H : (if 0 ≤ (ji48) then ((vO.f k1 (shr .i64 x5_1 (ji48)) ((vk l0 a1).f0)).bind fun t361 => (some t361)) else (none)) = some r := by first | (rw [hji48] at H; exact H) | (simp only [hji48] at H ⊢; exact H)
      have hji48w : (IntKind.i64.wrap (15 - ((vk l0 a1).f0))) = ji48 := (xD _).trans hji48
      by_cases c49 : 0 ≤ (ji48)
      ·rw [if_pos c49] at H
       have c49b0 := eq_true c49
       have c49b1 := decide_eq_true c49
       clear c49
       obtain ⟨ji50, hji50⟩ : ∃ j_ : Int, (shr .i64 x5_1 (ji48)) = j_ := ⟨_, rfl⟩
       replace H : ((vO.f k1 (ji50) ((vk l0 a1).f0)).bind fun t361 => (some t361)) = some r := by first | (rw [hji50] at H; exact H) | (simp only [hji50] at H ⊢; exact H)
       have hji50_ : (x5_1 / 2 ^ min (ji48).toNat 64) = ji50 := hji50
       have hji50z : (ji48) ≤ 64 → (x5_1 / 2 ^ (ji48).toNat) = ji50 := jJ hji50
       obtain ⟨t361, A51, H⟩ := oB H
       try dsimp only at H
       obtain rfl := Option.some.inj H
       try go_wp2
       have n_ := aE (vG HB.out)
       clear HB
       have HB := n_
       clear n_
       have p359 : 0 ≤ (a1 : Int) := dt
       have q359 : a1 < (l0.length : Int) := dt
       obtain ⟨ad359, e359, hx359_0, hx359_1, hx359_2, hx359_3⟩ := xw HR0.out a1 p359 q359
       have hw359_3 := hx359_3
       have hw359_2 := hx359_2
       have hw359_1 := hx359_1
       have hw359_0 := hx359_0
       cases e359
       replace hx359_0 := hcB HB.out hx359_0
       replace hx359_1 := hcB HB.out hx359_1
       replace hx359_2 := hcB HB.out hx359_2
       replace hx359_3 := hcB HB.out hx359_3
       replace p359 := eq_true p359
       replace q359 := eq_true q359
       have p360 : 0 ≤ (a1 : Int) := dt
       have q360 : a1 < (l0.length : Int) := dt
       obtain ⟨ad360, e360, hx360_0, hx360_1, hx360_2, hx360_3⟩ := xw HR0.out a1 p360 q360
       have hw360_3 := hx360_3
       have hw360_2 := hx360_2
       have hw360_1 := hx360_1
       have hw360_0 := hx360_0
       obtain rfl : ad359 = ad360 := (by injection e360)
       replace hx360_0 := hcB HB.out hx360_0
       replace hx360_1 := hcB HB.out hx360_1
       replace hx360_2 := hcB HB.out hx360_2
       replace hx360_3 := hcB HB.out hx360_3
       replace p360 := eq_true p360
       replace q360 := eq_true q360
       refine st 15 (fun w' => w'.cell? (ad359.add ((a1).toNat * 4)) = some (.int .i64 ((vk l0 a1).f0)) ∧ w'.cell? ⟨(ad359.add ((a1).toNat * 4)).block, (ad359.add ((a1).toNat * 4)).off + 1, none⟩ = some (.int .i64 ((vk l0 a1).f1)) ∧ w'.cell? ⟨(ad359.add ((a1).toNat * 4)).block, (ad359.add ((a1).toNat * 4)).off + 2, none⟩ = some (.int .i64 ((vk l0 a1).f2)) ∧ w'.cell? ⟨(ad359.add ((a1).toNat * 4)).block, (ad359.add ((a1).toNat * 4)).off + 3, none⟩ = some (.int .i64 ((vk l0 a1).f3)) ∧ w'.cell? (ad359.add ((a1).toNat * 4)) = some (.int .i64 ((vk l0 a1).f0)) ∧ w'.cell? ⟨(ad359.add ((a1).toNat * 4)).block, (ad359.add ((a1).toNat * 4)).off + 1, none⟩ = some (.int .i64 ((vk l0 a1).f1)) ∧ w'.cell? ⟨(ad359.add ((a1).toNat * 4)).block, (ad359.add ((a1).toNat * 4)).off + 2, none⟩ = some (.int .i64 ((vk l0 a1).f2)) ∧ w'.cell? ⟨(ad359.add ((a1).toNat * 4)).block, (ad359.add ((a1).toNat * 4)).off + 3, none⟩ = some (.int .i64 ((vk l0 a1).f3))) [] (bv 15 0) vw.tab8 vw.bits8 ⟨(hcB HB.out hw359_0), (hcB HB.out hw359_1), (hcB HB.out hw359_2), (hcB HB.out hw359_3), (hcB HB.out hw360_0), (hcB HB.out hw360_1), (hcB HB.out hw360_2), (hcB HB.out hw360_3)⟩ (fun hHeld HT_ HW_ => ?_)
       generalize wr.drew = w52 at HB hx359_0 hx359_1 hx359_2 hx359_3 hx360_0 hx360_1 hx360_2 hx360_3 hHeld ⊢
       refine pu 0 49 (bv 15 1) HT_ rfl rfl ?_
       refine pu 1 50 (bv 15 3) HT_ rfl rfl ?_
       refine pu 2 51 (bv 15 7) HT_ rfl rfl ?_
       refine pu 3 52 (bv 15 15) HT_ rfl rfl ?_
       refine pu 4 53 (bv 15 31) HT_ rfl rfl ?_
       refine pu 8 57 (bv 15 287) HT_ rfl rfl ?_
       refine pu 9 58 (bv 15 799) HT_ rfl rfl ?_
       refine pu 10 59 (bv 15 1823) HT_ rfl rfl ?_
       refine pu 11 60 (bv 15 3871) HT_ rfl rfl ?_
       refine tk 5 54 (bv 15 3903) HT_ HW_ hHeld rfl rfl (by rintro w' ⟨s0, s1, s2, s3, s4, s5, s6, s7⟩; exact yl) ?_
       refine pu 6 55 (bv 15 3967) HT_ rfl rfl ?_
       refine pu 7 56 (bv 15 4095) HT_ rfl rfl ?_
       refine tk 12 61 (bv 15 8191) HT_ HW_ hHeld rfl rfl (by rintro w' ⟨s0, s1, s2, s3, s4, s5, s6, s7⟩; exact yl) ?_
       refine yz (i := 13) (N := some 62) (bv 15 16383) rfl rfl (xq HT_.out (by kernel_rfl)) (by decide) (fun K hK => ?_)
       refine goes_ Tryd.func63 (by kernel_rfl) rfl #[.int .i64 ji50, .int .i64 ((vk l0 a1).f0)] (by rfl) rfl rfl (by (try simp only [List.map_toArray, List.map_cons, List.map_nil]); first | done | (simp only [hji50]; rfl) | rfl | (simp only [List.length_drop, List.length_take]; rfl)) ?_
       with_reducible refine (vO.calls k1 ji50 ((vk l0 a1).f0) t361 _ A51.out).mono ?_
       rintro e w53 ⟨v362, rfl, ho0, hb⟩
       refine ⟨_, rfl, ?_⟩
       have n_ := aC (Kd.vX ho0 bz) (aE (bs hb))
       clear HB
       obtain ⟨HO363, HB⟩ := n_
       (try clear hb)
       (try clear hb2)
       (try clear hk)
       (try clear hi)
       (try clear ho0)
       refine hK.out _ _ ⟨(hcB HB.out hw359_0), (hcB HB.out hw359_1), (hcB HB.out hw359_2), (hcB HB.out hw359_3), (hcB HB.out hw360_0), (hcB HB.out hw360_1), (hcB HB.out hw360_2), (hcB HB.out hw360_3)⟩ (fun hHeld => ?_)
       clear hK K
       refine nm (some 62) ?_
       refine pu 14 4 (bv 15 32767) HT_ rfl rfl ?_
       refine yO (xS HT_.out (by kernel_rfl)) ?_
       try go_wp2
       go_ret
       exact ⟨_, by first | rfl | (simp [wL, wK] <;> rfl) | (simp only [← hji48, ← hji50]; first | rfl | (simp [wL, wK] <;> rfl)) | (simp [*, wL, wK] <;> rfl), rU HO363.out, bl⟩
      ·rw [if_neg c49] at H
       exact absurd H (by simp)
     ·rw [if_neg c47] at H
      exact absurd H (by simp)
    ·rw [if_neg c46] at H
     exact absurd H (by simp)
end Go.Proofs.YtknclbodinfbeaaDoor.PRunsSame
