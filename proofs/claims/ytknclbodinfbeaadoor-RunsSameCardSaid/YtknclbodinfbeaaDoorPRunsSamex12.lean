-- printed (wip/tools/myprint.py)
import Derived.Test.YtknclbodinfbeaaDoorPRunsSamex0
import Derived.Test.YtknclbodinfbeaaDoorPRunsSamex10
import Derived.Test.YtknclbodinfbeaaDoorPRunsSamex11
namespace Go.Proofs.YtknclbodinfbeaaDoor.PRunsSame
open Go.RowKit Go.Proofs.YtknclbodinfbeaaDoorW.PrintWords Go.Proofs.YtknclbodinfbeaaDoorW.PrintLast Go.Proofs.YtknclbodinfbeaaDoorW.PrintMore
attribute [local go_sem] yf yc yD yE xV xU ye yh
set_option linter.unusedVariables false
set_option linter.unusedSimpArgs false
def vr.l0 : Nat → List (xc) → Int → List (xc) → Int → Int → Bool → Int → Option (List Int × Bool)
 | 0, _, _, _, _, _, _, _ => none
 | k + 1, x0, x6, x13, x14, x15, x365000, x365001 => if x15 < x14 then (if 0 ≤ x15 then (if x15 < (x13.length : Int) then ((vW.f k ((vk x13 x15).f0) ((vk x13 x15).f1) ((vk x13 x15).f2) ((vk x13 x15).f3) x365000 x365001).bind fun bt367 => ((xk.f ((vk x13 x15).f0) ((vk x13 x15).f1) ((vk x13 x15).f2) ((vk x13 x15).f3)).bind fun t369 => (if t369 = true then (if bt367.2 = true then (if x6 < 0 then (vr.l0 k x0 x15 x13 x14 (wrap64 (x15 + 1)) x365000 x365001) else (if 0 ≤ x6 then (if x6 < (x0.length : Int) then (if (wrap64 (((vk x13 x15).f0) + ((vk x13 x15).f1))) < (wrap64 (((vk x0 x6).f0) + ((vk x0 x6).f1))) then (vr.l0 k x0 x15 x13 x14 (wrap64 (x15 + 1)) x365000 x365001) else (vr.l0 k x0 x6 x13 x14 (wrap64 (x15 + 1)) x365000 x365001)) else (none)) else (none))) else (vr.l0 k x0 x6 x13 x14 (wrap64 (x15 + 1)) x365000 x365001)) else (vr.l0 k x0 x6 x13 x14 (wrap64 (x15 + 1)) x365000 x365001)))) else (none)) else (none)) else (if x6 < 0 then (some (([] : List Int), false)) else (if 0 ≤ x6 then (if x6 < (x0.length : Int) then ((vW.f k ((vk x0 x6).f0) ((vk x0 x6).f1) ((vk x0 x6).f2) ((vk x0 x6).f3) x365000 x365001).bind fun bt373 => ((vw.f k x0 x6).bind fun t375 => ((vO.f k bt373.1 ((vk x0 x6).f1)).bind fun t379 => (if t375.length + t379.length < 140737488355328 then (some ((t375 ++ t379), true)) else (none))))) else (none)) else (none)))
def vr.f (k : Nat) (l0 : List (xc)) (a1_0 : Bool) (a1_1 : Int) : Option (List Int × Bool) := vr.l0 k l0 (-1) l0 (l0.length : Int) 0 a1_0 a1_1
theorem vr.wj : ∀ k, (∀ y0 y1 y2 y3 y4 y5 y6, vP (vr.l0 k y0 y1 y2 y3 y4 y5 y6) (vr.l0 (k + 1) y0 y1 y2 y3 y4 y5 y6))
 | 0 => fun _ _ _ _ _ _ _ r h => by simp [vr.l0] at h
 | k + 1 => by
  have ih0 := vr.wj k
  ·intro y0 y1 y2 y3 y4 y5 y6
   unfold vr.l0
   repeat' first
   | (with_reducible exact ih0 _ _ _ _ _ _ _)
   | (with_reducible exact vw.mono _ _ _)
   | (with_reducible exact vW.mono _ _ _ _ _ _ _)
   | (with_reducible exact vO.mono _ _ _)
   | (with_reducible first | exact vP.refl _ | exact vP.none _ | apply vP.ite | refine vP.bind ?_ fun _ => ?_)
theorem vr.mono : ∀ a0 a1 a2 k, vP (vr.f k a0 a1 a2) (vr.f (k + 1) a0 a1 a2) := by
 intro a0 a1 a2 k
 have ih0 := vr.wj k
 unfold vr.f
 repeat' first
   | (with_reducible exact ih0 _ _ _ _ _ _ _)
   | (with_reducible exact vw.mono _ _ _)
   | (with_reducible exact vW.mono _ _ _ _ _ _ _)
   | (with_reducible exact vO.mono _ _ _)
   | (with_reducible first | exact vP.refl _ | exact vP.none _ | apply vP.ite | refine vP.bind ?_ fun _ => ?_)
def vr.T6 : Bool × List (List Nat × List Nat) := (true, [([], []), ([0], [0]), ([1, 1], [1]), ([2], [2]), ([2, 3], [2, 3]), ([4, 2], [4]), ([5], [5]), ([6, 5], [5, 6]), ([7, 5, 5], [5, 7]), ([8], [8]), ([9, 8], [8, 9]), ([8], [8]), ([11, 8], [8, 11]), ([10, 12, 8], [8, 10, 12]), ([8], [8]), ([8], [8]), ([14, 15, 8], [8, 14, 15]), ([16, 8], [8, 16]), ([17, 8], [8, 17]), ([8], [8]), ([8], [8]), ([19, 20, 8], [8, 19, 20]), ([21, 8], [8, 21]), ([22, 8], [8, 22]), ([18, 23, 8], [8, 18, 23]), ([13, 24, 8], [8, 13, 24]), ([8, 25, 5], [5, 8, 25]), ([5, 26], [5, 26])])
def vr.B6 : List Nat := [0, 1, 3, 7, 15, 31, 63, 127, 255, 511, 1023, 511, 2559, 8191, 511, 511, 49663, 115199, 246271, 511, 511, 1573375, 3670527, 7864831, 16761343, 33554431, 67108863, 134217727]
theorem vr.tab6 : yN .any (opsOf Tryd.f37 6) = vr.T6 := by kernel_rfl
theorem vr.qr : yi vr.T6.2 vr.B6 = true := by kernel_rfl
def vr.T11 : Bool × List (List Nat × List Nat) := (true, [([], []), ([], []), ([0, 1], [0, 1]), ([2], [2]), ([], []), ([3, 4], [3, 4]), ([5], [5]), ([6], [6]), ([6], [6]), ([7, 5, 0, 1, 2, 3, 4, 5, 6, 7], [7]), ([8, 9, 0, 1, 2, 3, 4, 5, 6, 7, 8, 9], [8])])
def vr.B11 : List Nat := [0, 0, 3, 7, 0, 31, 63, 127, 127, 255, 1023]
theorem vr.tab11 : yN .any (opsOf Tryd.f37 11) = vr.T11 := by kernel_rfl
theorem vr.bits11 : yi vr.T11.2 vr.B11 = true := by kernel_rfl
def vr.T12 : Bool × List (List Nat × List Nat) := (true, [([], []), ([], []), ([0, 1], [0, 1]), ([], []), ([], []), ([], []), ([4, 5], [4, 5]), ([6], [6]), ([7], [7]), ([3, 8, 2], [3, 8]), ([2, 9, 9], [2, 9]), ([10, 10, 0, 1, 2, 3, 4, 5, 6, 7, 8, 9, 10], [10]), ([11, 0, 1, 2, 3, 4, 5, 6, 7, 8, 9, 10, 11], [])])
def vr.B12 : List Nat := [0, 0, 3, 0, 0, 0, 48, 112, 240, 511, 1023, 2047, 4095]
theorem vr.tab12 : yN .any (opsOf Tryd.f37 12) = vr.T12 := by kernel_rfl
theorem vr.bits12 : yi vr.T12.2 vr.B12 = true := by kernel_rfl
set_option maxHeartbeats 8000000 in
set_option maxRecDepth 100000 in
theorem vr.calls (k : Nat) (A0 : Option Addr) (c0 : Nat) (l0 : List (xc)) (a1_0 : Bool) (a1_1 : Int) (r1 : List Int) (r2 : Bool) (w : World) (hr0 : Kd.C zh w A0 l0.length l0) (hc0 : l0.length ≤ c0) (h : vr.f k l0 a1_0 a1_1 = some (r1, r2)) :
  Calls Tryd.prog 37 #[.slice A0 l0.length c0, .agg #[.bool a1_0, .int .i64 a1_1]] w fun e w' => ∃ v0_ : Value, e = .returned (.tuple #[v0_, .bool r2]) ∧ Kd.R (Kd.int .u8) 5 w' w.heap.size (fun _ => True) v0_ r1 ∧ Below w.heap.size w w' := by
 have hu64 := Tryd.underlying64
 have hu87 := Tryd.underlying87
 have HR0 := Aside0.mk hr0
 have HC0 := Aside0.mk hc0
 clear hr0 hc0
 have HB := Aside0.mk (Below.refl w.heap.size w)
 have H : (vr.l0 k l0 (-1) l0 (l0.length : Int) 0 a1_0 a1_1) = some (r1, r2) := h
 clear h
 have H' := Aside0.mk H
 clear H
 go_enter Tryd.func37, Tryd.ntmps37
 go_wp2_with (first | ((with_reducible refine gd 3 rfl ?_); refine bx 3 #[.bool a1_0, .int .i64 a1_1] 64 rfl rfl ?_; intro gb364 hg w3 hbox hb; have n_ := aC (bs hb) (aC hbox (aC (gz hg) (aE (gz hg)))); clear HB; obtain ⟨HB, BK364, GW364, GE364⟩ := n_; clear hb hbox hg))
 go_loopg [6, 15] k (fun kq v6 v15 w' => ∃ (x6_1 : Int) (x15_1 : Int), v6 = .int .i64 x6_1 ∧ v15 = .int .i64 x15_1 ∧ Aside0 (vr.l0 kq l0 x6_1 l0 (l0.length : Int) x15_1 a1_0 a1_1 = some (r1, r2)) ∧ Aside0 (kq ≤ k) ∧ Aside0 (w'.heap[gb364]? = some (.cells #[.bool a1_0, .int .i64 a1_1] 64 (0, 0))) ∧ Aside0 (Below w.heap.size w w'))
 case atStart => exact ⟨((-1)), (0), rq, rq, H', ⟨Nat.le_refl _⟩, ⟨bU BK364.out⟩, ⟨bl⟩⟩
 case round =>
  clear H'
  obtain ⟨x6_1, x15_1, rfl, rfl, HA, HK1, BK364, HB⟩ := hrel
  cases gk with
  | zero => exact absurd HA.out (by simp [vr.l0])
  | succ k1 =>
   have H := HA.out
   clear HA
   simp only [vr.l0] at H
   rcases iL H with H1 | H1 <;> clear H <;> obtain ⟨H, c4b0⟩ := H1
   ·by_cases c5 : 0 ≤ x15_1
    ·rw [if_pos c5] at H
     have c5b0 := decide_eq_true c5
     clear c5
     by_cases c6 : x15_1 < (l0.length : Int)
     ·rw [if_pos c6] at H
      have c6b0 := decide_eq_true c6
      clear c6
      obtain ⟨⟨t367, t368⟩, A7, H⟩ := oB H
      try dsimp only at H
      obtain ⟨t369, A8, H⟩ := oB H
      try dsimp only at H
      by_cases c9 : t369 = true
      ·subst c9
       rw [if_pos rfl] at H
       by_cases c10 : t368 = true
       ·subst c10
        rw [if_pos rfl] at H
        rcases iL H with H1 | H1 <;> clear H <;> obtain ⟨H, c11b0⟩ := H1
        ·have H' := Aside0.mk H
         clear H
         have p365 : 0 ≤ (x15_1 : Int) := dt
         have q365 : x15_1 < (l0.length : Int) := dt
         obtain ⟨ad365, e365, hx365_0, hx365_1, hx365_2, hx365_3⟩ := xw HR0.out x15_1 p365 q365
         cases e365
         replace hx365_0 := hcB HB.out hx365_0
         replace hx365_1 := hcB HB.out hx365_1
         replace hx365_2 := hcB HB.out hx365_2
         replace hx365_3 := hcB HB.out hx365_3
         replace p365 := eq_true p365
         replace q365 := eq_true q365
         try go_wp2_with (first | ((with_reducible refine gd 8 rfl ?_); refine bx 8 #[.int .i64 0, .int .i64 0, .int .i64 0, .int .i64 0] 87 rfl rfl ?_; intro gb366 hg w12 hbox hb; have n_ := aC (vu (bU BK364.out) hb) (aC (bs hb) (aC hbox (aC (gz hg) (aC (gz hg) (aC (gn hg (bU BK364.out)) (aE (gm hg (bU BK364.out)))))))); clear BK364 HB; obtain ⟨BK364, HB, BK366, GW366, GE366, NB364_366, NB366_364⟩ := n_; clear hb hbox hg; have hnb13 := NB366_364.out; have hnc13 := NB364_366.out; obtain ⟨hcz14_0, hcz14_1, hcz14_2, hcz14_3, hfz14_0, hfz14_1, hfz14_2, hfz14_3⟩ := xC BK366.out; obtain ⟨hcz15_0, hcz15_1, hfz15_0, hfz15_1⟩ := yt BK364.out) | (refine gF 60 23 Tryd.func60 #[.agg #[.int .i64 ((vk l0 x15_1).f0), .int .i64 ((vk l0 x15_1).f1), .int .i64 ((vk l0 x15_1).f2), .int .i64 ((vk l0 x15_1).f3)], .agg #[.bool a1_0, .int .i64 a1_1]] rfl rfl ?_; (with_reducible refine (vW.calls k1 ((vk l0 x15_1).f0) ((vk l0 x15_1).f1) ((vk l0 x15_1).f2) ((vk l0 x15_1).f3) a1_0 a1_1 t367 true _ A7.out).mono ?_); rintro e w16 ⟨rfl, hb⟩; refine ⟨_, rfl, ?_⟩; have n_ := aC (vu (g := gb364) (o := .cells #[.bool a1_0, .int .i64 a1_1] 64 (0, 0)) (by (with_reducible repeat first | apply vl | apply vn | apply vm); refine vV ?_ NB364_366.out _; (with_reducible repeat first | apply vl | apply vn | apply vm); refine vV ?_ NB364_366.out _; (with_reducible repeat first | apply vl | apply vn | apply vm); refine vV ?_ NB364_366.out _; (with_reducible repeat first | apply vl | apply vn | apply vm); refine vV ?_ NB364_366.out _; (with_reducible repeat first | apply vl | apply vn | apply vm); exact BK364.out) hb) (aC (vu (g := gb366) (o := .cells #[.int .i64 ((vk l0 x15_1).f0), .int .i64 ((vk l0 x15_1).f1), .int .i64 ((vk l0 x15_1).f2), .int .i64 ((vk l0 x15_1).f3)] 87 (0, 0)) (by (with_reducible repeat first | apply vl | apply vn | apply vm); refine vv (cs := #[.int .i64 ((vk l0 x15_1).f0), .int .i64 ((vk l0 x15_1).f1), .int .i64 ((vk l0 x15_1).f2), .int .i64 0]) ?_ 3 _ rfl; (with_reducible repeat first | apply vl | apply vn | apply vm); refine vv (cs := #[.int .i64 ((vk l0 x15_1).f0), .int .i64 ((vk l0 x15_1).f1), .int .i64 0, .int .i64 0]) ?_ 2 _ rfl; (with_reducible repeat first | apply vl | apply vn | apply vm); refine vv (cs := #[.int .i64 ((vk l0 x15_1).f0), .int .i64 0, .int .i64 0, .int .i64 0]) ?_ 1 _ rfl; (with_reducible repeat first | apply vl | apply vn | apply vm); refine vv (cs := #[.int .i64 0, .int .i64 0, .int .i64 0, .int .i64 0]) ?_ 0 _ rfl; (with_reducible repeat first | apply vl | apply vn | apply vm); exact BK366.out) hb) (aE (bs hb))); clear BK364 BK366 HB; obtain ⟨BK364, BK366, HB⟩ := n_))
         have n_ := aC (vn BK364.out) (aC (vn BK366.out) (aE (vG HB.out)))
         clear BK364 BK366 HB
         obtain ⟨BK364, BK366, HB⟩ := n_
         refine st 28 (fun w' => w'.cell? ⟨gb366, 0, none⟩ = some (.int .i64 ((vk l0 x15_1).f0)) ∧ w'.cell? ⟨gb366, 1, none⟩ = some (.int .i64 ((vk l0 x15_1).f1)) ∧ w'.cell? ⟨gb366, 2, none⟩ = some (.int .i64 ((vk l0 x15_1).f2)) ∧ w'.cell? ⟨gb366, 3, none⟩ = some (.int .i64 ((vk l0 x15_1).f3))) [] (bv 28 0) vr.tab6 vr.qr ⟨jq BK366.out, jk BK366.out, jC BK366.out, jZ BK366.out⟩ (fun hHeld HT_ HW_ => ?_)
         generalize w16.drew = w17 at BK364 BK366 HB hHeld ⊢
         refine tk 0 26 (bv 28 1) HT_ HW_ hHeld rfl rfl (by rintro w' ⟨s0, s1, s2, s3⟩; exact yl) ?_
         refine yz (i := 1) (N := some 27) (bv 28 3) rfl rfl (xq HT_.out (by kernel_rfl)) (by decide) (fun K hK => ?_)
         refine gK Tryd.func61 rfl #[.agg #[.int .i64 ((vk l0 x15_1).f0), .int .i64 ((vk l0 x15_1).f1), .int .i64 ((vk l0 x15_1).f2), .int .i64 ((vk l0 x15_1).f3)]] rfl rfl ?_
         with_reducible refine (xk.calls ((vk l0 x15_1).f0) ((vk l0 x15_1).f1) ((vk l0 x15_1).f2) ((vk l0 x15_1).f3) true _ A8.out).mono ?_
         rintro e w18 ⟨rfl, hb⟩
         refine ⟨_, rfl, ?_⟩
         have n_ := aC (vu (bU BK364.out) hb) (aC (vu (g := gb366) (o := .cells #[.int .i64 ((vk l0 x15_1).f0), .int .i64 ((vk l0 x15_1).f1), .int .i64 ((vk l0 x15_1).f2), .int .i64 ((vk l0 x15_1).f3)] 87 (0, 0)) (bU BK366.out) hb) (aE (bs hb)))
         clear BK364 BK366 HB
         obtain ⟨BK364, BK366, HB⟩ := n_
         (try clear hb)
         (try clear hb2)
         (try clear hk)
         (try clear hi)
         refine hK.out _ _ ⟨jq BK366.out, jk BK366.out, jC BK366.out, jZ BK366.out⟩ (fun hHeld => ?_)
         clear hK K
         refine nm (some 27) ?_
         refine pu 2 28 (bv 28 7) HT_ rfl rfl ?_
         refine pu 3 29 (bv 28 15) HT_ rfl rfl ?_
         refine pu 4 30 (bv 28 31) HT_ rfl rfl ?_
         refine pu 5 31 (bv 28 63) HT_ rfl rfl ?_
         refine pu 6 32 (bv 28 127) HT_ rfl rfl ?_
         refine pu 7 33 (bv 28 255) HT_ rfl rfl ?_
         refine pu 8 34 (bv 28 511) HT_ rfl rfl ?_
         refine pn 9 35 (bv 28 1023) HT_ rfl rfl ?_
         refine pn 10 36 (bv 28 2047) HT_ rfl rfl ?_
         refine pn 11 37 (bv 28 4095) HT_ rfl rfl ?_
         refine pn 12 38 (bv 28 8191) HT_ rfl rfl ?_
         refine pn 13 39 (bv 28 16383) HT_ rfl rfl ?_
         refine pn 14 40 (bv 28 32767) HT_ rfl rfl ?_
         refine pn 15 41 (bv 28 65535) HT_ rfl rfl ?_
         refine pn 16 42 (bv 28 131071) HT_ rfl rfl ?_
         refine pn 17 43 (bv 28 262143) HT_ rfl rfl ?_
         refine pn 18 44 (bv 28 524287) HT_ rfl rfl ?_
         refine pn 19 45 (bv 28 1048575) HT_ rfl rfl ?_
         refine pn 20 46 (bv 28 2097151) HT_ rfl rfl ?_
         refine pn 21 47 (bv 28 4194303) HT_ rfl rfl ?_
         refine pn 22 48 (bv 28 8388607) HT_ rfl rfl ?_
         refine pn 23 49 (bv 28 16777215) HT_ rfl rfl ?_
         refine pn 24 50 (bv 28 33554431) HT_ rfl rfl ?_
         refine pn 25 51 (bv 28 67108863) HT_ rfl rfl ?_
         refine pu 26 52 (bv 28 134217727) HT_ rfl rfl ?_
         refine pu 27 53 (bv 28 268435455) HT_ rfl rfl ?_
         refine yO (xS HT_.out (by kernel_rfl)) ?_
         try go_wp2
         go_roundg k1
         case measure => have := HK1.out; omega
         case rel => exact ⟨(x15_1), (wrap64 (x15_1 + 1)), rq, rq, H', ⟨by have := HK1.out; omega⟩, ⟨bU BK364.out⟩, ⟨bl⟩⟩
        ·by_cases c19 : 0 ≤ x6_1
         ·rw [if_pos c19] at H
          have c19b0 := decide_eq_true c19
          clear c19
          by_cases c20 : x6_1 < (l0.length : Int)
          ·rw [if_pos c20] at H
           have c20b0 := decide_eq_true c20
           clear c20
           rcases iL H with H1 | H1 <;> clear H <;> obtain ⟨H, c21b0⟩ := H1
           ·have H' := Aside0.mk H
            clear H
            have p365 : 0 ≤ (x15_1 : Int) := dt
            have q365 : x15_1 < (l0.length : Int) := dt
            obtain ⟨ad365, e365, hx365_0, hx365_1, hx365_2, hx365_3⟩ := xw HR0.out x15_1 p365 q365
            cases e365
            replace hx365_0 := hcB HB.out hx365_0
            replace hx365_1 := hcB HB.out hx365_1
            replace hx365_2 := hcB HB.out hx365_2
            replace hx365_3 := hcB HB.out hx365_3
            replace p365 := eq_true p365
            replace q365 := eq_true q365
            try go_wp2_with (first | ((with_reducible refine gd 8 rfl ?_); refine bx 8 #[.int .i64 0, .int .i64 0, .int .i64 0, .int .i64 0] 87 rfl rfl ?_; intro gb366 hg w22 hbox hb; have n_ := aC (vu (bU BK364.out) hb) (aC (bs hb) (aC hbox (aC (gz hg) (aC (gz hg) (aC (gn hg (bU BK364.out)) (aE (gm hg (bU BK364.out)))))))); clear BK364 HB; obtain ⟨BK364, HB, BK366, GW366, GE366, NB364_366, NB366_364⟩ := n_; clear hb hbox hg; have hnb23 := NB366_364.out; have hnc23 := NB364_366.out; obtain ⟨hcz24_0, hcz24_1, hcz24_2, hcz24_3, hfz24_0, hfz24_1, hfz24_2, hfz24_3⟩ := xC BK366.out; obtain ⟨hcz25_0, hcz25_1, hfz25_0, hfz25_1⟩ := yt BK364.out) | (refine gF 60 23 Tryd.func60 #[.agg #[.int .i64 ((vk l0 x15_1).f0), .int .i64 ((vk l0 x15_1).f1), .int .i64 ((vk l0 x15_1).f2), .int .i64 ((vk l0 x15_1).f3)], .agg #[.bool a1_0, .int .i64 a1_1]] rfl rfl ?_; (with_reducible refine (vW.calls k1 ((vk l0 x15_1).f0) ((vk l0 x15_1).f1) ((vk l0 x15_1).f2) ((vk l0 x15_1).f3) a1_0 a1_1 t367 true _ A7.out).mono ?_); rintro e w26 ⟨rfl, hb⟩; refine ⟨_, rfl, ?_⟩; have n_ := aC (vu (g := gb364) (o := .cells #[.bool a1_0, .int .i64 a1_1] 64 (0, 0)) (by (with_reducible repeat first | apply vl | apply vn | apply vm); refine vV ?_ NB364_366.out _; (with_reducible repeat first | apply vl | apply vn | apply vm); refine vV ?_ NB364_366.out _; (with_reducible repeat first | apply vl | apply vn | apply vm); refine vV ?_ NB364_366.out _; (with_reducible repeat first | apply vl | apply vn | apply vm); refine vV ?_ NB364_366.out _; (with_reducible repeat first | apply vl | apply vn | apply vm); exact BK364.out) hb) (aC (vu (g := gb366) (o := .cells #[.int .i64 ((vk l0 x15_1).f0), .int .i64 ((vk l0 x15_1).f1), .int .i64 ((vk l0 x15_1).f2), .int .i64 ((vk l0 x15_1).f3)] 87 (0, 0)) (by (with_reducible repeat first | apply vl | apply vn | apply vm); refine vv (cs := #[.int .i64 ((vk l0 x15_1).f0), .int .i64 ((vk l0 x15_1).f1), .int .i64 ((vk l0 x15_1).f2), .int .i64 0]) ?_ 3 _ rfl; (with_reducible repeat first | apply vl | apply vn | apply vm); refine vv (cs := #[.int .i64 ((vk l0 x15_1).f0), .int .i64 ((vk l0 x15_1).f1), .int .i64 0, .int .i64 0]) ?_ 2 _ rfl; (with_reducible repeat first | apply vl | apply vn | apply vm); refine vv (cs := #[.int .i64 ((vk l0 x15_1).f0), .int .i64 0, .int .i64 0, .int .i64 0]) ?_ 1 _ rfl; (with_reducible repeat first | apply vl | apply vn | apply vm); refine vv (cs := #[.int .i64 0, .int .i64 0, .int .i64 0, .int .i64 0]) ?_ 0 _ rfl; (with_reducible repeat first | apply vl | apply vn | apply vm); exact BK366.out) hb) (aE (bs hb))); clear BK364 BK366 HB; obtain ⟨BK364, BK366, HB⟩ := n_))
            have n_ := aC (vn BK364.out) (aC (vn BK366.out) (aE (vG HB.out)))
            clear BK364 BK366 HB
            obtain ⟨BK364, BK366, HB⟩ := n_
            have p370 : 0 ≤ (x6_1 : Int) := dt
            have q370 : x6_1 < (l0.length : Int) := dt
            obtain ⟨ad370, e370, hx370_0, hx370_1, hx370_2, hx370_3⟩ := xw HR0.out x6_1 p370 q370
            have hw370_3 := hx370_3
            have hw370_2 := hx370_2
            have hw370_1 := hx370_1
            have hw370_0 := hx370_0
            obtain rfl : ad365 = ad370 := (by injection e370)
            replace hx370_0 := hcB HB.out hx370_0
            replace hx370_1 := hcB HB.out hx370_1
            replace hx370_2 := hcB HB.out hx370_2
            replace hx370_3 := hcB HB.out hx370_3
            replace p370 := eq_true p370
            replace q370 := eq_true q370
            have p371 : 0 ≤ (x6_1 : Int) := dt
            have q371 : x6_1 < (l0.length : Int) := dt
            obtain ⟨ad371, e371, hx371_0, hx371_1, hx371_2, hx371_3⟩ := xw HR0.out x6_1 p371 q371
            have hw371_3 := hx371_3
            have hw371_2 := hx371_2
            have hw371_1 := hx371_1
            have hw371_0 := hx371_0
            obtain rfl : ad365 = ad371 := (by injection e371)
            replace hx371_0 := hcB HB.out hx371_0
            replace hx371_1 := hcB HB.out hx371_1
            replace hx371_2 := hcB HB.out hx371_2
            replace hx371_3 := hcB HB.out hx371_3
            replace p371 := eq_true p371
            replace q371 := eq_true q371
            refine st 28 (fun w' => w'.cell? ⟨gb366, 0, none⟩ = some (.int .i64 ((vk l0 x15_1).f0)) ∧ w'.cell? ⟨gb366, 1, none⟩ = some (.int .i64 ((vk l0 x15_1).f1)) ∧ w'.cell? ⟨gb366, 2, none⟩ = some (.int .i64 ((vk l0 x15_1).f2)) ∧ w'.cell? ⟨gb366, 3, none⟩ = some (.int .i64 ((vk l0 x15_1).f3)) ∧ w'.cell? (ad365.add ((x6_1).toNat * 4)) = some (.int .i64 ((vk l0 x6_1).f0)) ∧ w'.cell? ⟨(ad365.add ((x6_1).toNat * 4)).block, (ad365.add ((x6_1).toNat * 4)).off + 1, none⟩ = some (.int .i64 ((vk l0 x6_1).f1)) ∧ w'.cell? ⟨(ad365.add ((x6_1).toNat * 4)).block, (ad365.add ((x6_1).toNat * 4)).off + 2, none⟩ = some (.int .i64 ((vk l0 x6_1).f2)) ∧ w'.cell? ⟨(ad365.add ((x6_1).toNat * 4)).block, (ad365.add ((x6_1).toNat * 4)).off + 3, none⟩ = some (.int .i64 ((vk l0 x6_1).f3)) ∧ w'.cell? (ad365.add ((x6_1).toNat * 4)) = some (.int .i64 ((vk l0 x6_1).f0)) ∧ w'.cell? ⟨(ad365.add ((x6_1).toNat * 4)).block, (ad365.add ((x6_1).toNat * 4)).off + 1, none⟩ = some (.int .i64 ((vk l0 x6_1).f1)) ∧ w'.cell? ⟨(ad365.add ((x6_1).toNat * 4)).block, (ad365.add ((x6_1).toNat * 4)).off + 2, none⟩ = some (.int .i64 ((vk l0 x6_1).f2)) ∧ w'.cell? ⟨(ad365.add ((x6_1).toNat * 4)).block, (ad365.add ((x6_1).toNat * 4)).off + 3, none⟩ = some (.int .i64 ((vk l0 x6_1).f3))) [] (bv 28 0) vr.tab6 vr.qr ⟨jq BK366.out, jk BK366.out, jC BK366.out, jZ BK366.out, (hcB HB.out hw370_0), (hcB HB.out hw370_1), (hcB HB.out hw370_2), (hcB HB.out hw370_3), (hcB HB.out hw371_0), (hcB HB.out hw371_1), (hcB HB.out hw371_2), (hcB HB.out hw371_3)⟩ (fun hHeld HT_ HW_ => ?_)
            generalize w26.drew = w27 at BK364 BK366 HB hx370_0 hx370_1 hx370_2 hx370_3 hx371_0 hx371_1 hx371_2 hx371_3 hHeld ⊢
            refine tk 0 26 (bv 28 1) HT_ HW_ hHeld rfl rfl (by rintro w' ⟨s0, s1, s2, s3, s4, s5, s6, s7, s8, s9, s10, s11⟩; exact yl) ?_
            refine yz (i := 1) (N := some 27) (bv 28 3) rfl rfl (xq HT_.out (by kernel_rfl)) (by decide) (fun K hK => ?_)
            refine gK Tryd.func61 rfl #[.agg #[.int .i64 ((vk l0 x15_1).f0), .int .i64 ((vk l0 x15_1).f1), .int .i64 ((vk l0 x15_1).f2), .int .i64 ((vk l0 x15_1).f3)]] rfl rfl ?_
            with_reducible refine (xk.calls ((vk l0 x15_1).f0) ((vk l0 x15_1).f1) ((vk l0 x15_1).f2) ((vk l0 x15_1).f3) true _ A8.out).mono ?_
            rintro e w28 ⟨rfl, hb⟩
            refine ⟨_, rfl, ?_⟩
            have n_ := aC (vu (bU BK364.out) hb) (aC (vu (g := gb366) (o := .cells #[.int .i64 ((vk l0 x15_1).f0), .int .i64 ((vk l0 x15_1).f1), .int .i64 ((vk l0 x15_1).f2), .int .i64 ((vk l0 x15_1).f3)] 87 (0, 0)) (bU BK366.out) hb) (aE (bs hb)))
            clear BK364 BK366 HB
            obtain ⟨BK364, BK366, HB⟩ := n_
            (try clear hb)
            (try clear hb2)
            (try clear hk)
            (try clear hi)
            refine hK.out _ _ ⟨jq BK366.out, jk BK366.out, jC BK366.out, jZ BK366.out, (hcB HB.out hw370_0), (hcB HB.out hw370_1), (hcB HB.out hw370_2), (hcB HB.out hw370_3), (hcB HB.out hw371_0), (hcB HB.out hw371_1), (hcB HB.out hw371_2), (hcB HB.out hw371_3)⟩ (fun hHeld => ?_)
            clear hK K
            refine nm (some 27) ?_
            refine pu 2 28 (bv 28 7) HT_ rfl rfl ?_
            refine pu 3 29 (bv 28 15) HT_ rfl rfl ?_
            refine pu 4 30 (bv 28 31) HT_ rfl rfl ?_
            refine pu 5 31 (bv 28 63) HT_ rfl rfl ?_
            refine pu 6 32 (bv 28 127) HT_ rfl rfl ?_
            refine pu 7 33 (bv 28 255) HT_ rfl rfl ?_
            refine pu 8 34 (bv 28 511) HT_ rfl rfl ?_
            refine pu 9 35 (bv 28 1023) HT_ rfl rfl ?_
            refine pu 11 37 (bv 28 3071) HT_ rfl rfl ?_
            refine pu 14 40 (bv 28 19455) HT_ rfl rfl ?_
            refine pu 15 41 (bv 28 52223) HT_ rfl rfl ?_
            refine pu 16 42 (bv 28 117759) HT_ rfl rfl ?_
            refine pu 17 43 (bv 28 248831) HT_ rfl rfl ?_
            refine pu 19 45 (bv 28 773119) HT_ rfl rfl ?_
            refine pu 20 46 (bv 28 1821695) HT_ rfl rfl ?_
            refine pu 21 47 (bv 28 3918847) HT_ rfl rfl ?_
            refine pu 22 48 (bv 28 8113151) HT_ rfl rfl ?_
            refine tk 10 36 (bv 28 8114175) HT_ HW_ hHeld rfl rfl (by rintro w' ⟨s0, s1, s2, s3, s4, s5, s6, s7, s8, s9, s10, s11⟩; exact yl) ?_
            refine tk 12 38 (bv 28 8118271) HT_ HW_ hHeld rfl rfl (by rintro w' ⟨s0, s1, s2, s3, s4, s5, s6, s7, s8, s9, s10, s11⟩; exact yl) ?_
            refine pu 13 39 (bv 28 8126463) HT_ rfl rfl ?_
            refine tk 18 44 (bv 28 8388607) HT_ HW_ hHeld rfl rfl (by rintro w' ⟨s0, s1, s2, s3, s4, s5, s6, s7, s8, s9, s10, s11⟩; exact yl) ?_
            refine tk 23 49 (bv 28 16777215) HT_ HW_ hHeld rfl rfl (by rintro w' ⟨s0, s1, s2, s3, s4, s5, s6, s7, s8, s9, s10, s11⟩; exact yl) ?_
            refine pu 24 50 (bv 28 33554431) HT_ rfl rfl ?_
            refine pu 25 51 (bv 28 67108863) HT_ rfl rfl ?_
            refine pu 26 52 (bv 28 134217727) HT_ rfl rfl ?_
            refine pu 27 53 (bv 28 268435455) HT_ rfl rfl ?_
            refine yO (xS HT_.out (by kernel_rfl)) ?_
            try go_wp2
            go_roundg k1
            case measure => have := HK1.out; omega
            case rel => exact ⟨(x15_1), (wrap64 (x15_1 + 1)), rq, rq, H', ⟨by have := HK1.out; omega⟩, ⟨bU BK364.out⟩, ⟨bl⟩⟩
           ·have H' := Aside0.mk H
            clear H
            have p365 : 0 ≤ (x15_1 : Int) := dt
            have q365 : x15_1 < (l0.length : Int) := dt
            obtain ⟨ad365, e365, hx365_0, hx365_1, hx365_2, hx365_3⟩ := xw HR0.out x15_1 p365 q365
            cases e365
            replace hx365_0 := hcB HB.out hx365_0
            replace hx365_1 := hcB HB.out hx365_1
            replace hx365_2 := hcB HB.out hx365_2
            replace hx365_3 := hcB HB.out hx365_3
            replace p365 := eq_true p365
            replace q365 := eq_true q365
            try go_wp2_with (first | ((with_reducible refine gd 8 rfl ?_); refine bx 8 #[.int .i64 0, .int .i64 0, .int .i64 0, .int .i64 0] 87 rfl rfl ?_; intro gb366 hg w29 hbox hb; have n_ := aC (vu (bU BK364.out) hb) (aC (bs hb) (aC hbox (aC (gz hg) (aC (gz hg) (aC (gn hg (bU BK364.out)) (aE (gm hg (bU BK364.out)))))))); clear BK364 HB; obtain ⟨BK364, HB, BK366, GW366, GE366, NB364_366, NB366_364⟩ := n_; clear hb hbox hg; have hnb30 := NB366_364.out; have hnc30 := NB364_366.out; obtain ⟨hcz31_0, hcz31_1, hcz31_2, hcz31_3, hfz31_0, hfz31_1, hfz31_2, hfz31_3⟩ := xC BK366.out; obtain ⟨hcz32_0, hcz32_1, hfz32_0, hfz32_1⟩ := yt BK364.out) | (refine gF 60 23 Tryd.func60 #[.agg #[.int .i64 ((vk l0 x15_1).f0), .int .i64 ((vk l0 x15_1).f1), .int .i64 ((vk l0 x15_1).f2), .int .i64 ((vk l0 x15_1).f3)], .agg #[.bool a1_0, .int .i64 a1_1]] rfl rfl ?_; (with_reducible refine (vW.calls k1 ((vk l0 x15_1).f0) ((vk l0 x15_1).f1) ((vk l0 x15_1).f2) ((vk l0 x15_1).f3) a1_0 a1_1 t367 true _ A7.out).mono ?_); rintro e w33 ⟨rfl, hb⟩; refine ⟨_, rfl, ?_⟩; have n_ := aC (vu (g := gb364) (o := .cells #[.bool a1_0, .int .i64 a1_1] 64 (0, 0)) (by (with_reducible repeat first | apply vl | apply vn | apply vm); refine vV ?_ NB364_366.out _; (with_reducible repeat first | apply vl | apply vn | apply vm); refine vV ?_ NB364_366.out _; (with_reducible repeat first | apply vl | apply vn | apply vm); refine vV ?_ NB364_366.out _; (with_reducible repeat first | apply vl | apply vn | apply vm); refine vV ?_ NB364_366.out _; (with_reducible repeat first | apply vl | apply vn | apply vm); exact BK364.out) hb) (aC (vu (g := gb366) (o := .cells #[.int .i64 ((vk l0 x15_1).f0), .int .i64 ((vk l0 x15_1).f1), .int .i64 ((vk l0 x15_1).f2), .int .i64 ((vk l0 x15_1).f3)] 87 (0, 0)) (by (with_reducible repeat first | apply vl | apply vn | apply vm); refine vv (cs := #[.int .i64 ((vk l0 x15_1).f0), .int .i64 ((vk l0 x15_1).f1), .int .i64 ((vk l0 x15_1).f2), .int .i64 0]) ?_ 3 _ rfl; (with_reducible repeat first | apply vl | apply vn | apply vm); refine vv (cs := #[.int .i64 ((vk l0 x15_1).f0), .int .i64 ((vk l0 x15_1).f1), .int .i64 0, .int .i64 0]) ?_ 2 _ rfl; (with_reducible repeat first | apply vl | apply vn | apply vm); refine vv (cs := #[.int .i64 ((vk l0 x15_1).f0), .int .i64 0, .int .i64 0, .int .i64 0]) ?_ 1 _ rfl; (with_reducible repeat first | apply vl | apply vn | apply vm); refine vv (cs := #[.int .i64 0, .int .i64 0, .int .i64 0, .int .i64 0]) ?_ 0 _ rfl; (with_reducible repeat first | apply vl | apply vn | apply vm); exact BK366.out) hb) (aE (bs hb))); clear BK364 BK366 HB; obtain ⟨BK364, BK366, HB⟩ := n_))
            have n_ := aC (vn BK364.out) (aC (vn BK366.out) (aE (vG HB.out)))
            clear BK364 BK366 HB
            obtain ⟨BK364, BK366, HB⟩ := n_
            have p370 : 0 ≤ (x6_1 : Int) := dt
            have q370 : x6_1 < (l0.length : Int) := dt
            obtain ⟨ad370, e370, hx370_0, hx370_1, hx370_2, hx370_3⟩ := xw HR0.out x6_1 p370 q370
            have hw370_3 := hx370_3
            have hw370_2 := hx370_2
            have hw370_1 := hx370_1
            have hw370_0 := hx370_0
            obtain rfl : ad365 = ad370 := (by injection e370)
            replace hx370_0 := hcB HB.out hx370_0
            replace hx370_1 := hcB HB.out hx370_1
            replace hx370_2 := hcB HB.out hx370_2
            replace hx370_3 := hcB HB.out hx370_3
            replace p370 := eq_true p370
            replace q370 := eq_true q370
            have p371 : 0 ≤ (x6_1 : Int) := dt
            have q371 : x6_1 < (l0.length : Int) := dt
            obtain ⟨ad371, e371, hx371_0, hx371_1, hx371_2, hx371_3⟩ := xw HR0.out x6_1 p371 q371
            have hw371_3 := hx371_3
            have hw371_2 := hx371_2
            have hw371_1 := hx371_1
            have hw371_0 := hx371_0
            obtain rfl : ad365 = ad371 := (by injection e371)
            replace hx371_0 := hcB HB.out hx371_0
            replace hx371_1 := hcB HB.out hx371_1
            replace hx371_2 := hcB HB.out hx371_2
            replace hx371_3 := hcB HB.out hx371_3
            replace p371 := eq_true p371
            replace q371 := eq_true q371
            refine st 28 (fun w' => w'.cell? ⟨gb366, 0, none⟩ = some (.int .i64 ((vk l0 x15_1).f0)) ∧ w'.cell? ⟨gb366, 1, none⟩ = some (.int .i64 ((vk l0 x15_1).f1)) ∧ w'.cell? ⟨gb366, 2, none⟩ = some (.int .i64 ((vk l0 x15_1).f2)) ∧ w'.cell? ⟨gb366, 3, none⟩ = some (.int .i64 ((vk l0 x15_1).f3)) ∧ w'.cell? (ad365.add ((x6_1).toNat * 4)) = some (.int .i64 ((vk l0 x6_1).f0)) ∧ w'.cell? ⟨(ad365.add ((x6_1).toNat * 4)).block, (ad365.add ((x6_1).toNat * 4)).off + 1, none⟩ = some (.int .i64 ((vk l0 x6_1).f1)) ∧ w'.cell? ⟨(ad365.add ((x6_1).toNat * 4)).block, (ad365.add ((x6_1).toNat * 4)).off + 2, none⟩ = some (.int .i64 ((vk l0 x6_1).f2)) ∧ w'.cell? ⟨(ad365.add ((x6_1).toNat * 4)).block, (ad365.add ((x6_1).toNat * 4)).off + 3, none⟩ = some (.int .i64 ((vk l0 x6_1).f3)) ∧ w'.cell? (ad365.add ((x6_1).toNat * 4)) = some (.int .i64 ((vk l0 x6_1).f0)) ∧ w'.cell? ⟨(ad365.add ((x6_1).toNat * 4)).block, (ad365.add ((x6_1).toNat * 4)).off + 1, none⟩ = some (.int .i64 ((vk l0 x6_1).f1)) ∧ w'.cell? ⟨(ad365.add ((x6_1).toNat * 4)).block, (ad365.add ((x6_1).toNat * 4)).off + 2, none⟩ = some (.int .i64 ((vk l0 x6_1).f2)) ∧ w'.cell? ⟨(ad365.add ((x6_1).toNat * 4)).block, (ad365.add ((x6_1).toNat * 4)).off + 3, none⟩ = some (.int .i64 ((vk l0 x6_1).f3))) [] (bv 28 0) vr.tab6 vr.qr ⟨jq BK366.out, jk BK366.out, jC BK366.out, jZ BK366.out, (hcB HB.out hw370_0), (hcB HB.out hw370_1), (hcB HB.out hw370_2), (hcB HB.out hw370_3), (hcB HB.out hw371_0), (hcB HB.out hw371_1), (hcB HB.out hw371_2), (hcB HB.out hw371_3)⟩ (fun hHeld HT_ HW_ => ?_)
            generalize w33.drew = w34 at BK364 BK366 HB hx370_0 hx370_1 hx370_2 hx370_3 hx371_0 hx371_1 hx371_2 hx371_3 hHeld ⊢
            refine tk 0 26 (bv 28 1) HT_ HW_ hHeld rfl rfl (by rintro w' ⟨s0, s1, s2, s3, s4, s5, s6, s7, s8, s9, s10, s11⟩; exact yl) ?_
            refine yz (i := 1) (N := some 27) (bv 28 3) rfl rfl (xq HT_.out (by kernel_rfl)) (by decide) (fun K hK => ?_)
            refine gK Tryd.func61 rfl #[.agg #[.int .i64 ((vk l0 x15_1).f0), .int .i64 ((vk l0 x15_1).f1), .int .i64 ((vk l0 x15_1).f2), .int .i64 ((vk l0 x15_1).f3)]] rfl rfl ?_
            with_reducible refine (xk.calls ((vk l0 x15_1).f0) ((vk l0 x15_1).f1) ((vk l0 x15_1).f2) ((vk l0 x15_1).f3) true _ A8.out).mono ?_
            rintro e w35 ⟨rfl, hb⟩
            refine ⟨_, rfl, ?_⟩
            have n_ := aC (vu (bU BK364.out) hb) (aC (vu (g := gb366) (o := .cells #[.int .i64 ((vk l0 x15_1).f0), .int .i64 ((vk l0 x15_1).f1), .int .i64 ((vk l0 x15_1).f2), .int .i64 ((vk l0 x15_1).f3)] 87 (0, 0)) (bU BK366.out) hb) (aE (bs hb)))
            clear BK364 BK366 HB
            obtain ⟨BK364, BK366, HB⟩ := n_
            (try clear hb)
            (try clear hb2)
            (try clear hk)
            (try clear hi)
            refine hK.out _ _ ⟨jq BK366.out, jk BK366.out, jC BK366.out, jZ BK366.out, (hcB HB.out hw370_0), (hcB HB.out hw370_1), (hcB HB.out hw370_2), (hcB HB.out hw370_3), (hcB HB.out hw371_0), (hcB HB.out hw371_1), (hcB HB.out hw371_2), (hcB HB.out hw371_3)⟩ (fun hHeld => ?_)
            clear hK K
            refine nm (some 27) ?_
            refine pu 2 28 (bv 28 7) HT_ rfl rfl ?_
            refine pu 3 29 (bv 28 15) HT_ rfl rfl ?_
            refine pu 4 30 (bv 28 31) HT_ rfl rfl ?_
            refine pu 5 31 (bv 28 63) HT_ rfl rfl ?_
            refine pu 6 32 (bv 28 127) HT_ rfl rfl ?_
            refine pu 7 33 (bv 28 255) HT_ rfl rfl ?_
            refine pu 8 34 (bv 28 511) HT_ rfl rfl ?_
            refine pu 9 35 (bv 28 1023) HT_ rfl rfl ?_
            refine pu 11 37 (bv 28 3071) HT_ rfl rfl ?_
            refine pu 14 40 (bv 28 19455) HT_ rfl rfl ?_
            refine pu 15 41 (bv 28 52223) HT_ rfl rfl ?_
            refine pu 16 42 (bv 28 117759) HT_ rfl rfl ?_
            refine pu 17 43 (bv 28 248831) HT_ rfl rfl ?_
            refine pu 19 45 (bv 28 773119) HT_ rfl rfl ?_
            refine pu 20 46 (bv 28 1821695) HT_ rfl rfl ?_
            refine pu 21 47 (bv 28 3918847) HT_ rfl rfl ?_
            refine pu 22 48 (bv 28 8113151) HT_ rfl rfl ?_
            refine tk 10 36 (bv 28 8114175) HT_ HW_ hHeld rfl rfl (by rintro w' ⟨s0, s1, s2, s3, s4, s5, s6, s7, s8, s9, s10, s11⟩; exact yl) ?_
            refine tk 12 38 (bv 28 8118271) HT_ HW_ hHeld rfl rfl (by rintro w' ⟨s0, s1, s2, s3, s4, s5, s6, s7, s8, s9, s10, s11⟩; exact yl) ?_
            refine pu 13 39 (bv 28 8126463) HT_ rfl rfl ?_
            refine tk 18 44 (bv 28 8388607) HT_ HW_ hHeld rfl rfl (by rintro w' ⟨s0, s1, s2, s3, s4, s5, s6, s7, s8, s9, s10, s11⟩; exact yl) ?_
            refine tk 23 49 (bv 28 16777215) HT_ HW_ hHeld rfl rfl (by rintro w' ⟨s0, s1, s2, s3, s4, s5, s6, s7, s8, s9, s10, s11⟩; exact yl) ?_
            refine pu 24 50 (bv 28 33554431) HT_ rfl rfl ?_
            refine pu 25 51 (bv 28 67108863) HT_ rfl rfl ?_
            refine pu 26 52 (bv 28 134217727) HT_ rfl rfl ?_
            refine pu 27 53 (bv 28 268435455) HT_ rfl rfl ?_
            refine yO (xS HT_.out (by kernel_rfl)) ?_
            try go_wp2
            go_roundg k1
            case measure => have := HK1.out; omega
            case rel => exact ⟨(x6_1), (wrap64 (x15_1 + 1)), rq, rq, H', ⟨by have := HK1.out; omega⟩, ⟨bU BK364.out⟩, ⟨bl⟩⟩
          ·rw [if_neg c20] at H
           exact absurd H (by simp)
         ·rw [if_neg c19] at H
          exact absurd H (by simp)
       ·replace c10 := Bool.eq_false_iff.mpr c10
        subst c10
        rw [if_neg Bool.false_ne_true] at H
        have H' := Aside0.mk H
        clear H
        have p365 : 0 ≤ (x15_1 : Int) := dt
        have q365 : x15_1 < (l0.length : Int) := dt
        obtain ⟨ad365, e365, hx365_0, hx365_1, hx365_2, hx365_3⟩ := xw HR0.out x15_1 p365 q365
        cases e365
        replace hx365_0 := hcB HB.out hx365_0
        replace hx365_1 := hcB HB.out hx365_1
        replace hx365_2 := hcB HB.out hx365_2
        replace hx365_3 := hcB HB.out hx365_3
        replace p365 := eq_true p365
        replace q365 := eq_true q365
        try go_wp2_with (first | ((with_reducible refine gd 8 rfl ?_); refine bx 8 #[.int .i64 0, .int .i64 0, .int .i64 0, .int .i64 0] 87 rfl rfl ?_; intro gb366 hg w36 hbox hb; have n_ := aC (vu (bU BK364.out) hb) (aC (bs hb) (aC hbox (aC (gz hg) (aC (gz hg) (aC (gn hg (bU BK364.out)) (aE (gm hg (bU BK364.out)))))))); clear BK364 HB; obtain ⟨BK364, HB, BK366, GW366, GE366, NB364_366, NB366_364⟩ := n_; clear hb hbox hg; have hnb37 := NB366_364.out; have hnc37 := NB364_366.out; obtain ⟨hcz38_0, hcz38_1, hcz38_2, hcz38_3, hfz38_0, hfz38_1, hfz38_2, hfz38_3⟩ := xC BK366.out; obtain ⟨hcz39_0, hcz39_1, hfz39_0, hfz39_1⟩ := yt BK364.out) | (refine gF 60 23 Tryd.func60 #[.agg #[.int .i64 ((vk l0 x15_1).f0), .int .i64 ((vk l0 x15_1).f1), .int .i64 ((vk l0 x15_1).f2), .int .i64 ((vk l0 x15_1).f3)], .agg #[.bool a1_0, .int .i64 a1_1]] rfl rfl ?_; (with_reducible refine (vW.calls k1 ((vk l0 x15_1).f0) ((vk l0 x15_1).f1) ((vk l0 x15_1).f2) ((vk l0 x15_1).f3) a1_0 a1_1 t367 false _ A7.out).mono ?_); rintro e w40 ⟨rfl, hb⟩; refine ⟨_, rfl, ?_⟩; have n_ := aC (vu (g := gb364) (o := .cells #[.bool a1_0, .int .i64 a1_1] 64 (0, 0)) (by (with_reducible repeat first | apply vl | apply vn | apply vm); refine vV ?_ NB364_366.out _; (with_reducible repeat first | apply vl | apply vn | apply vm); refine vV ?_ NB364_366.out _; (with_reducible repeat first | apply vl | apply vn | apply vm); refine vV ?_ NB364_366.out _; (with_reducible repeat first | apply vl | apply vn | apply vm); refine vV ?_ NB364_366.out _; (with_reducible repeat first | apply vl | apply vn | apply vm); exact BK364.out) hb) (aC (vu (g := gb366) (o := .cells #[.int .i64 ((vk l0 x15_1).f0), .int .i64 ((vk l0 x15_1).f1), .int .i64 ((vk l0 x15_1).f2), .int .i64 ((vk l0 x15_1).f3)] 87 (0, 0)) (by (with_reducible repeat first | apply vl | apply vn | apply vm); refine vv (cs := #[.int .i64 ((vk l0 x15_1).f0), .int .i64 ((vk l0 x15_1).f1), .int .i64 ((vk l0 x15_1).f2), .int .i64 0]) ?_ 3 _ rfl; (with_reducible repeat first | apply vl | apply vn | apply vm); refine vv (cs := #[.int .i64 ((vk l0 x15_1).f0), .int .i64 ((vk l0 x15_1).f1), .int .i64 0, .int .i64 0]) ?_ 2 _ rfl; (with_reducible repeat first | apply vl | apply vn | apply vm); refine vv (cs := #[.int .i64 ((vk l0 x15_1).f0), .int .i64 0, .int .i64 0, .int .i64 0]) ?_ 1 _ rfl; (with_reducible repeat first | apply vl | apply vn | apply vm); refine vv (cs := #[.int .i64 0, .int .i64 0, .int .i64 0, .int .i64 0]) ?_ 0 _ rfl; (with_reducible repeat first | apply vl | apply vn | apply vm); exact BK366.out) hb) (aE (bs hb))); clear BK364 BK366 HB; obtain ⟨BK364, BK366, HB⟩ := n_))
        have n_ := aC (vn BK364.out) (aC (vn BK366.out) (aE (vG HB.out)))
        clear BK364 BK366 HB
        obtain ⟨BK364, BK366, HB⟩ := n_
        refine st 28 (fun w' => w'.cell? ⟨gb366, 0, none⟩ = some (.int .i64 ((vk l0 x15_1).f0)) ∧ w'.cell? ⟨gb366, 1, none⟩ = some (.int .i64 ((vk l0 x15_1).f1)) ∧ w'.cell? ⟨gb366, 2, none⟩ = some (.int .i64 ((vk l0 x15_1).f2)) ∧ w'.cell? ⟨gb366, 3, none⟩ = some (.int .i64 ((vk l0 x15_1).f3))) [] (bv 28 0) vr.tab6 vr.qr ⟨jq BK366.out, jk BK366.out, jC BK366.out, jZ BK366.out⟩ (fun hHeld HT_ HW_ => ?_)
        generalize w40.drew = w41 at BK364 BK366 HB hHeld ⊢
        refine tk 0 26 (bv 28 1) HT_ HW_ hHeld rfl rfl (by rintro w' ⟨s0, s1, s2, s3⟩; exact yl) ?_
        refine yz (i := 1) (N := some 27) (bv 28 3) rfl rfl (xq HT_.out (by kernel_rfl)) (by decide) (fun K hK => ?_)
        refine gK Tryd.func61 rfl #[.agg #[.int .i64 ((vk l0 x15_1).f0), .int .i64 ((vk l0 x15_1).f1), .int .i64 ((vk l0 x15_1).f2), .int .i64 ((vk l0 x15_1).f3)]] rfl rfl ?_
        with_reducible refine (xk.calls ((vk l0 x15_1).f0) ((vk l0 x15_1).f1) ((vk l0 x15_1).f2) ((vk l0 x15_1).f3) true _ A8.out).mono ?_
        rintro e w42 ⟨rfl, hb⟩
        refine ⟨_, rfl, ?_⟩
        have n_ := aC (vu (bU BK364.out) hb) (aC (vu (g := gb366) (o := .cells #[.int .i64 ((vk l0 x15_1).f0), .int .i64 ((vk l0 x15_1).f1), .int .i64 ((vk l0 x15_1).f2), .int .i64 ((vk l0 x15_1).f3)] 87 (0, 0)) (bU BK366.out) hb) (aE (bs hb)))
        clear BK364 BK366 HB
        obtain ⟨BK364, BK366, HB⟩ := n_
        (try clear hb)
        (try clear hb2)
        (try clear hk)
        (try clear hi)
        refine hK.out _ _ ⟨jq BK366.out, jk BK366.out, jC BK366.out, jZ BK366.out⟩ (fun hHeld => ?_)
        clear hK K
        refine nm (some 27) ?_
        refine pu 2 28 (bv 28 7) HT_ rfl rfl ?_
        refine pu 3 29 (bv 28 15) HT_ rfl rfl ?_
        refine pu 4 30 (bv 28 31) HT_ rfl rfl ?_
        refine pu 5 31 (bv 28 63) HT_ rfl rfl ?_
        refine pn 6 32 (bv 28 127) HT_ rfl rfl ?_
        refine pn 7 33 (bv 28 255) HT_ rfl rfl ?_
        refine pn 8 34 (bv 28 511) HT_ rfl rfl ?_
        refine pn 9 35 (bv 28 1023) HT_ rfl rfl ?_
        refine pn 10 36 (bv 28 2047) HT_ rfl rfl ?_
        refine pn 11 37 (bv 28 4095) HT_ rfl rfl ?_
        refine pn 12 38 (bv 28 8191) HT_ rfl rfl ?_
        refine pn 13 39 (bv 28 16383) HT_ rfl rfl ?_
        refine pn 14 40 (bv 28 32767) HT_ rfl rfl ?_
        refine pn 15 41 (bv 28 65535) HT_ rfl rfl ?_
        refine pn 16 42 (bv 28 131071) HT_ rfl rfl ?_
        refine pn 17 43 (bv 28 262143) HT_ rfl rfl ?_
        refine pn 18 44 (bv 28 524287) HT_ rfl rfl ?_
        refine pn 19 45 (bv 28 1048575) HT_ rfl rfl ?_
        refine pn 20 46 (bv 28 2097151) HT_ rfl rfl ?_
        refine pn 21 47 (bv 28 4194303) HT_ rfl rfl ?_
        refine pn 22 48 (bv 28 8388607) HT_ rfl rfl ?_
        refine pn 23 49 (bv 28 16777215) HT_ rfl rfl ?_
        refine pn 24 50 (bv 28 33554431) HT_ rfl rfl ?_
        refine pn 25 51 (bv 28 67108863) HT_ rfl rfl ?_
        refine pn 26 52 (bv 28 134217727) HT_ rfl rfl ?_
        refine pu 27 53 (bv 28 268435455) HT_ rfl rfl ?_
        refine yO (xS HT_.out (by kernel_rfl)) ?_
        try go_wp2
        go_roundg k1
        case measure => have := HK1.out; omega
        case rel => exact ⟨(x6_1), (wrap64 (x15_1 + 1)), rq, rq, H', ⟨by have := HK1.out; omega⟩, ⟨bU BK364.out⟩, ⟨bl⟩⟩
      ·replace c9 := Bool.eq_false_iff.mpr c9
       subst c9
       rw [if_neg Bool.false_ne_true] at H
       have H' := Aside0.mk H
       clear H
       have p365 : 0 ≤ (x15_1 : Int) := dt
       have q365 : x15_1 < (l0.length : Int) := dt
       obtain ⟨ad365, e365, hx365_0, hx365_1, hx365_2, hx365_3⟩ := xw HR0.out x15_1 p365 q365
       cases e365
       replace hx365_0 := hcB HB.out hx365_0
       replace hx365_1 := hcB HB.out hx365_1
       replace hx365_2 := hcB HB.out hx365_2
       replace hx365_3 := hcB HB.out hx365_3
       replace p365 := eq_true p365
       replace q365 := eq_true q365
       try go_wp2_with (first | ((with_reducible refine gd 8 rfl ?_); refine bx 8 #[.int .i64 0, .int .i64 0, .int .i64 0, .int .i64 0] 87 rfl rfl ?_; intro gb366 hg w43 hbox hb; have n_ := aC (vu (bU BK364.out) hb) (aC (bs hb) (aC hbox (aC (gz hg) (aC (gz hg) (aC (gn hg (bU BK364.out)) (aE (gm hg (bU BK364.out)))))))); clear BK364 HB; obtain ⟨BK364, HB, BK366, GW366, GE366, NB364_366, NB366_364⟩ := n_; clear hb hbox hg; have hnb44 := NB366_364.out; have hnc44 := NB364_366.out; obtain ⟨hcz45_0, hcz45_1, hcz45_2, hcz45_3, hfz45_0, hfz45_1, hfz45_2, hfz45_3⟩ := xC BK366.out; obtain ⟨hcz46_0, hcz46_1, hfz46_0, hfz46_1⟩ := yt BK364.out) | (refine gF 60 23 Tryd.func60 #[.agg #[.int .i64 ((vk l0 x15_1).f0), .int .i64 ((vk l0 x15_1).f1), .int .i64 ((vk l0 x15_1).f2), .int .i64 ((vk l0 x15_1).f3)], .agg #[.bool a1_0, .int .i64 a1_1]] rfl rfl ?_; (with_reducible refine (vW.calls k1 ((vk l0 x15_1).f0) ((vk l0 x15_1).f1) ((vk l0 x15_1).f2) ((vk l0 x15_1).f3) a1_0 a1_1 t367 t368 _ A7.out).mono ?_); rintro e w47 ⟨rfl, hb⟩; refine ⟨_, rfl, ?_⟩; have n_ := aC (vu (g := gb364) (o := .cells #[.bool a1_0, .int .i64 a1_1] 64 (0, 0)) (by (with_reducible repeat first | apply vl | apply vn | apply vm); refine vV ?_ NB364_366.out _; (with_reducible repeat first | apply vl | apply vn | apply vm); refine vV ?_ NB364_366.out _; (with_reducible repeat first | apply vl | apply vn | apply vm); refine vV ?_ NB364_366.out _; (with_reducible repeat first | apply vl | apply vn | apply vm); refine vV ?_ NB364_366.out _; (with_reducible repeat first | apply vl | apply vn | apply vm); exact BK364.out) hb) (aC (vu (g := gb366) (o := .cells #[.int .i64 ((vk l0 x15_1).f0), .int .i64 ((vk l0 x15_1).f1), .int .i64 ((vk l0 x15_1).f2), .int .i64 ((vk l0 x15_1).f3)] 87 (0, 0)) (by (with_reducible repeat first | apply vl | apply vn | apply vm); refine vv (cs := #[.int .i64 ((vk l0 x15_1).f0), .int .i64 ((vk l0 x15_1).f1), .int .i64 ((vk l0 x15_1).f2), .int .i64 0]) ?_ 3 _ rfl; (with_reducible repeat first | apply vl | apply vn | apply vm); refine vv (cs := #[.int .i64 ((vk l0 x15_1).f0), .int .i64 ((vk l0 x15_1).f1), .int .i64 0, .int .i64 0]) ?_ 2 _ rfl; (with_reducible repeat first | apply vl | apply vn | apply vm); refine vv (cs := #[.int .i64 ((vk l0 x15_1).f0), .int .i64 0, .int .i64 0, .int .i64 0]) ?_ 1 _ rfl; (with_reducible repeat first | apply vl | apply vn | apply vm); refine vv (cs := #[.int .i64 0, .int .i64 0, .int .i64 0, .int .i64 0]) ?_ 0 _ rfl; (with_reducible repeat first | apply vl | apply vn | apply vm); exact BK366.out) hb) (aE (bs hb))); clear BK364 BK366 HB; obtain ⟨BK364, BK366, HB⟩ := n_))
       have n_ := aC (vn BK364.out) (aC (vn BK366.out) (aE (vG HB.out)))
       clear BK364 BK366 HB
       obtain ⟨BK364, BK366, HB⟩ := n_
       refine st 28 (fun w' => w'.cell? ⟨gb366, 0, none⟩ = some (.int .i64 ((vk l0 x15_1).f0)) ∧ w'.cell? ⟨gb366, 1, none⟩ = some (.int .i64 ((vk l0 x15_1).f1)) ∧ w'.cell? ⟨gb366, 2, none⟩ = some (.int .i64 ((vk l0 x15_1).f2)) ∧ w'.cell? ⟨gb366, 3, none⟩ = some (.int .i64 ((vk l0 x15_1).f3))) [] (bv 28 0) vr.tab6 vr.qr ⟨jq BK366.out, jk BK366.out, jC BK366.out, jZ BK366.out⟩ (fun hHeld HT_ HW_ => ?_)
       generalize w47.drew = w48 at BK364 BK366 HB hHeld ⊢
       refine tk 0 26 (bv 28 1) HT_ HW_ hHeld rfl rfl (by rintro w' ⟨s0, s1, s2, s3⟩; exact yl) ?_
       refine yz (i := 1) (N := some 27) (bv 28 3) rfl rfl (xq HT_.out (by kernel_rfl)) (by decide) (fun K hK => ?_)
       refine gK Tryd.func61 rfl #[.agg #[.int .i64 ((vk l0 x15_1).f0), .int .i64 ((vk l0 x15_1).f1), .int .i64 ((vk l0 x15_1).f2), .int .i64 ((vk l0 x15_1).f3)]] rfl rfl ?_
       with_reducible refine (xk.calls ((vk l0 x15_1).f0) ((vk l0 x15_1).f1) ((vk l0 x15_1).f2) ((vk l0 x15_1).f3) false _ A8.out).mono ?_
       rintro e w49 ⟨rfl, hb⟩
       refine ⟨_, rfl, ?_⟩
       have n_ := aC (vu (bU BK364.out) hb) (aC (vu (g := gb366) (o := .cells #[.int .i64 ((vk l0 x15_1).f0), .int .i64 ((vk l0 x15_1).f1), .int .i64 ((vk l0 x15_1).f2), .int .i64 ((vk l0 x15_1).f3)] 87 (0, 0)) (bU BK366.out) hb) (aE (bs hb)))
       clear BK364 BK366 HB
       obtain ⟨BK364, BK366, HB⟩ := n_
       (try clear hb)
       (try clear hb2)
       (try clear hk)
       (try clear hi)
       refine hK.out _ _ ⟨jq BK366.out, jk BK366.out, jC BK366.out, jZ BK366.out⟩ (fun hHeld => ?_)
       clear hK K
       refine nm (some 27) ?_
       refine pu 2 28 (bv 28 7) HT_ rfl rfl ?_
       refine pn 3 29 (bv 28 15) HT_ rfl rfl ?_
       refine pu 4 30 (bv 28 31) HT_ rfl rfl ?_
       refine pu 5 31 (bv 28 63) HT_ rfl rfl ?_
       refine pn 6 32 (bv 28 127) HT_ rfl rfl ?_
       refine pn 7 33 (bv 28 255) HT_ rfl rfl ?_
       refine pn 8 34 (bv 28 511) HT_ rfl rfl ?_
       refine pn 9 35 (bv 28 1023) HT_ rfl rfl ?_
       refine pn 10 36 (bv 28 2047) HT_ rfl rfl ?_
       refine pn 11 37 (bv 28 4095) HT_ rfl rfl ?_
       refine pn 12 38 (bv 28 8191) HT_ rfl rfl ?_
       refine pn 13 39 (bv 28 16383) HT_ rfl rfl ?_
       refine pn 14 40 (bv 28 32767) HT_ rfl rfl ?_
       refine pn 15 41 (bv 28 65535) HT_ rfl rfl ?_
       refine pn 16 42 (bv 28 131071) HT_ rfl rfl ?_
       refine pn 17 43 (bv 28 262143) HT_ rfl rfl ?_
       refine pn 18 44 (bv 28 524287) HT_ rfl rfl ?_
       refine pn 19 45 (bv 28 1048575) HT_ rfl rfl ?_
       refine pn 20 46 (bv 28 2097151) HT_ rfl rfl ?_
       refine pn 21 47 (bv 28 4194303) HT_ rfl rfl ?_
       refine pn 22 48 (bv 28 8388607) HT_ rfl rfl ?_
       refine pn 23 49 (bv 28 16777215) HT_ rfl rfl ?_
       refine pn 24 50 (bv 28 33554431) HT_ rfl rfl ?_
       refine pn 25 51 (bv 28 67108863) HT_ rfl rfl ?_
       refine pn 26 52 (bv 28 134217727) HT_ rfl rfl ?_
       refine pu 27 53 (bv 28 268435455) HT_ rfl rfl ?_
       refine yO (xS HT_.out (by kernel_rfl)) ?_
       try go_wp2
       go_roundg k1
       case measure => have := HK1.out; omega
       case rel => exact ⟨(x6_1), (wrap64 (x15_1 + 1)), rq, rq, H', ⟨by have := HK1.out; omega⟩, ⟨bU BK364.out⟩, ⟨bl⟩⟩
     ·rw [if_neg c6] at H
      exact absurd H (by simp)
    ·rw [if_neg c5] at H
     exact absurd H (by simp)
   ·rcases iL H with H1 | H1 <;> clear H <;> obtain ⟨H, c50b0⟩ := H1
    ·simp only [Option.some.injEq, Prod.mk.injEq] at H
     obtain ⟨rfl, rfl⟩ := H
     go_wp2
     go_ret2
     exact ⟨_, re, by first | exact Kd.yC _ _ _ _ _ | exact Kd.za _ _ _ _ _ | exact Kd.y9 _ _ _ _ _ | exact Kd.zb _ _ _ _ _ | exact Kd.yZ _ _ _ _ _, bl⟩
    ·by_cases c51 : 0 ≤ x6_1
     ·rw [if_pos c51] at H
      have c51b0 := decide_eq_true c51
      clear c51
      by_cases c52 : x6_1 < (l0.length : Int)
      ·rw [if_pos c52] at H
       have c52b0 := decide_eq_true c52
       clear c52
       obtain ⟨⟨t373, t374⟩, A53, H⟩ := oB H
       try dsimp only at H
       obtain ⟨t375, A54, H⟩ := oB H
       try dsimp only at H
       obtain ⟨t379, A55, H⟩ := oB H
       try dsimp only at H
       by_cases c56 : t375.length + t379.length < 140737488355328
       ·rw [if_pos c56] at H
        have LMc56 := Aside0.mk c56
        clear c56
        obtain ⟨y382, hy_⟩ : ∃ y_ : List Int, y_ = (t375 ++ t379) := ⟨_, rfl⟩
        replace H : (some (y382, true)) = some (r1, r2) := rh
        have Ny382 := aE hy_
        clear hy_
        simp only [Option.some.injEq, Prod.mk.injEq] at H
        obtain ⟨rfl, rfl⟩ := H
        try go_wp2
        have n_ := aC (vn BK364.out) (aE (vG HB.out))
        clear BK364 HB
        obtain ⟨BK364, HB⟩ := n_
        have p372 : 0 ≤ (x6_1 : Int) := dt
        have q372 : x6_1 < (l0.length : Int) := dt
        obtain ⟨ad372, e372, hx372_0, hx372_1, hx372_2, hx372_3⟩ := xw HR0.out x6_1 p372 q372
        have hw372_3 := hx372_3
        have hw372_2 := hx372_2
        have hw372_1 := hx372_1
        have hw372_0 := hx372_0
        cases e372
        replace hx372_0 := hcB HB.out hx372_0
        replace hx372_1 := hcB HB.out hx372_1
        replace hx372_2 := hcB HB.out hx372_2
        replace hx372_3 := hcB HB.out hx372_3
        replace p372 := eq_true p372
        replace q372 := eq_true q372
        refine st 11 (fun w' => w'.cell? ⟨gb364, 0, none⟩ = some (.bool a1_0) ∧ w'.cell? ⟨gb364, 1, none⟩ = some (.int .i64 a1_1) ∧ w'.cell? (ad372.add ((x6_1).toNat * 4)) = some (.int .i64 ((vk l0 x6_1).f0)) ∧ w'.cell? ⟨(ad372.add ((x6_1).toNat * 4)).block, (ad372.add ((x6_1).toNat * 4)).off + 1, none⟩ = some (.int .i64 ((vk l0 x6_1).f1)) ∧ w'.cell? ⟨(ad372.add ((x6_1).toNat * 4)).block, (ad372.add ((x6_1).toNat * 4)).off + 2, none⟩ = some (.int .i64 ((vk l0 x6_1).f2)) ∧ w'.cell? ⟨(ad372.add ((x6_1).toNat * 4)).block, (ad372.add ((x6_1).toNat * 4)).off + 3, none⟩ = some (.int .i64 ((vk l0 x6_1).f3))) [] (bv 11 0) vr.tab11 vr.bits11 ⟨jq BK364.out, jk BK364.out, (hcB HB.out hw372_0), (hcB HB.out hw372_1), (hcB HB.out hw372_2), (hcB HB.out hw372_3)⟩ (fun hHeld HT_ HW_ => ?_)
        generalize wr.drew = w57 at BK364 HB hx372_0 hx372_1 hx372_2 hx372_3 hHeld ⊢
        refine pu 0 59 (bv 11 1) HT_ rfl rfl ?_
        refine pu 1 60 (bv 11 3) HT_ rfl rfl ?_
        refine pu 2 61 (bv 11 7) HT_ rfl rfl ?_
        refine tk 3 62 (bv 11 15) HT_ HW_ hHeld rfl rfl (by rintro w' ⟨s0, s1, s2, s3, s4, s5⟩; exact yl) ?_
        refine tk 4 63 (bv 11 31) HT_ HW_ hHeld rfl rfl (by rintro w' ⟨s0, s1, s2, s3, s4, s5⟩; exact yl) ?_
        refine yz (i := 5) (N := some 64) (bv 11 63) rfl rfl (xq HT_.out (by kernel_rfl)) (by decide) (fun K hK => ?_)
        refine gK Tryd.func60 rfl #[.agg #[.int .i64 ((vk l0 x6_1).f0), .int .i64 ((vk l0 x6_1).f1), .int .i64 ((vk l0 x6_1).f2), .int .i64 ((vk l0 x6_1).f3)], .agg #[.bool a1_0, .int .i64 a1_1]] rfl rfl ?_
        with_reducible refine (vW.calls k1 ((vk l0 x6_1).f0) ((vk l0 x6_1).f1) ((vk l0 x6_1).f2) ((vk l0 x6_1).f3) a1_0 a1_1 t373 t374 _ A53.out).mono ?_
        rintro e w58 ⟨rfl, hb⟩
        refine ⟨_, rfl, ?_⟩
        have n_ := aC (vu (bU BK364.out) hb) (aE (bs hb))
        clear BK364 HB
        obtain ⟨BK364, HB⟩ := n_
        (try clear hb)
        (try clear hb2)
        (try clear hk)
        (try clear hi)
        refine hK.out _ _ ⟨jq BK364.out, jk BK364.out, (hcB HB.out hw372_0), (hcB HB.out hw372_1), (hcB HB.out hw372_2), (hcB HB.out hw372_3)⟩ (fun hHeld => ?_)
        clear hK K
        refine nm (some 64) ?_
        refine pu 6 58 (bv 11 127) HT_ rfl rfl ?_
        refine pu 7 65 (bv 11 255) HT_ rfl rfl ?_
        refine pu 8 66 (bv 11 511) HT_ rfl rfl ?_
        refine pu 9 11 (bv 11 1023) HT_ rfl rfl ?_
        refine pu 10 12 (bv 11 2047) HT_ rfl rfl ?_
        refine yO (xS HT_.out (by kernel_rfl)) ?_
        try go_wp2
        have n_ := aC (vn BK364.out) (aE (vG HB.out))
        clear BK364 HB
        obtain ⟨BK364, HB⟩ := n_
        have p378 : 0 ≤ (x6_1 : Int) := dt
        have q378 : x6_1 < (l0.length : Int) := dt
        obtain ⟨ad378, e378, hx378_0, hx378_1, hx378_2, hx378_3⟩ := xw HR0.out x6_1 p378 q378
        have hw378_3 := hx378_3
        have hw378_2 := hx378_2
        have hw378_1 := hx378_1
        have hw378_0 := hx378_0
        obtain rfl : ad372 = ad378 := (by injection e378)
        replace hx378_0 := hcB HB.out hx378_0
        replace hx378_1 := hcB HB.out hx378_1
        replace hx378_2 := hcB HB.out hx378_2
        replace hx378_3 := hcB HB.out hx378_3
        replace p378 := eq_true p378
        replace q378 := eq_true q378
        refine st 13 (fun w' => w'.cell? (ad372.add ((x6_1).toNat * 4)) = some (.int .i64 ((vk l0 x6_1).f0)) ∧ w'.cell? ⟨(ad372.add ((x6_1).toNat * 4)).block, (ad372.add ((x6_1).toNat * 4)).off + 1, none⟩ = some (.int .i64 ((vk l0 x6_1).f1)) ∧ w'.cell? ⟨(ad372.add ((x6_1).toNat * 4)).block, (ad372.add ((x6_1).toNat * 4)).off + 2, none⟩ = some (.int .i64 ((vk l0 x6_1).f2)) ∧ w'.cell? ⟨(ad372.add ((x6_1).toNat * 4)).block, (ad372.add ((x6_1).toNat * 4)).off + 3, none⟩ = some (.int .i64 ((vk l0 x6_1).f3))) [] (bv 13 0) vr.tab12 vr.bits12 ⟨(hcB HB.out hw378_0), (hcB HB.out hw378_1), (hcB HB.out hw378_2), (hcB HB.out hw378_3)⟩ (fun hHeld HT_ HW_ => ?_)
        generalize w58.drew = w59 at BK364 HB hx378_0 hx378_1 hx378_2 hx378_3 hHeld ⊢
        refine pu 0 67 (bv 13 1) HT_ rfl rfl ?_
        refine pu 1 68 (bv 13 3) HT_ rfl rfl ?_
        refine pu 3 70 (bv 13 11) HT_ rfl rfl ?_
        refine pu 4 71 (bv 13 27) HT_ rfl rfl ?_
        refine pu 5 72 (bv 13 59) HT_ rfl rfl ?_
        refine pu 6 73 (bv 13 123) HT_ rfl rfl ?_
        refine pu 7 74 (bv 13 251) HT_ rfl rfl ?_
        refine tk 8 75 (bv 13 507) HT_ HW_ hHeld rfl rfl (by rintro w' ⟨s0, s1, s2, s3⟩; exact yl) ?_
        refine yz (i := 2) (N := some 69) (bv 13 511) rfl rfl (xq HT_.out (by kernel_rfl)) (by decide) (fun K hK => ?_)
        refine gK Tryd.func62 rfl #[.slice (some ad372) l0.length c0, .int .i64 x6_1] rfl rfl ?_
        with_reducible refine (vw.calls k1 _ _ l0 x6_1 t375 _ ?side1 ?side2 A54.out).mono ?_
        (case side1 => exact cU (Kd.wO HR0.out HB.out))
        (case side2 => exact HC0.out)
        rintro e w60 ⟨v376, rfl, ho0, hb⟩
        refine ⟨_, rfl, ?_⟩
        have n_ := aC (Kd.vX ho0 bz) (aC (vu (bU BK364.out) hb) (aE (bs hb)))
        clear BK364 HB
        obtain ⟨HO377, BK364, HB⟩ := n_
        (try clear hb)
        (try clear hb2)
        (try clear hk)
        (try clear hi)
        (try clear ho0)
        refine hK.out _ _ ⟨(hcB HB.out hw378_0), (hcB HB.out hw378_1), (hcB HB.out hw378_2), (hcB HB.out hw378_3)⟩ (fun hHeld => ?_)
        clear hK K
        refine nm (some 69) ?_
        refine yz (i := 9) (N := some 76) (bv 13 1023) rfl rfl (xq HT_.out (by kernel_rfl)) (by decide) (fun K hK => ?_)
        refine gK Tryd.func63 rfl #[.int .i64 t373, .int .i64 ((vk l0 x6_1).f1)] rfl rfl ?_
        with_reducible refine (vO.calls k1 t373 ((vk l0 x6_1).f1) t379 _ A55.out).mono ?_
        rintro e w61 ⟨v380, rfl, ho0, hb⟩
        refine ⟨_, rfl, ?_⟩
        have n_ := aC (Kd.R_elder' (rU HO377.out) (Kd.xi ho0) hb) (aC (Kd.vX (Kd.R_new' ho0 (Kd.xX (rU HO377.out))) bz) (aC (vu (bU BK364.out) hb) (aE (bs hb))))
        clear HO377 BK364 HB
        obtain ⟨HO377, HO381, BK364, HB⟩ := n_
        (try clear hb)
        (try clear hb2)
        (try clear hk)
        (try clear hi)
        (try clear ho0)
        obtain ⟨Ao63, co63, eo63⟩ := Kd.wq HO381.out
        (first | subst eo63 | (injection eo63 with f1_ f2_ f3_; have f4_ := f1_.symm; have f5_ := f3_.symm; clear f1_ f2_ f3_; subst f4_; subst f5_))
        refine hK.out _ _ ⟨(hcB HB.out hw378_0), (hcB HB.out hw378_1), (hcB HB.out hw378_2), (hcB HB.out hw378_3)⟩ (fun hHeld => ?_)
        clear hK K
        refine nm (some 76) ?_
        refine yz (i := 10) (N := some 77) (bv 13 2047) rfl rfl (xq HT_.out (by kernel_rfl)) (by decide) (fun K hK => ?_)
        refine Kd.zE (Kd.int .u8) (w0 := w) w.heap.size (by rfl) (.tmp 69) (.tmp 76) 22 5 (.int .u8 0) 1 rfl Tryd.underlying22 info5 rfl (by decide) (by omega) v376 t375 t379 _ _ _ (fun k_ => some k_ ≠ (.slice Ao63 t379.length co63 : Value).ownBlock) (fun _ => False) rfl rfl ?aO ?aR (fun _ _ h => h) (fun _ h => h.elim) ?aF ?aB ?aS ?aL ?_
        (case aR => repeat (first | exact (Kd.R_reads' HO381.out).2.2 | (with_reducible refine Kd.yk ?_ _) | (with_reducible refine Kd.yj ?_ _) | (with_reducible refine Kd.yI ?_)))
        (case aB => exact bl)
        (case aF => exact (fun k_ hk => Kd.fresh' (Kd.xX (rU HO381.out)) k_ hk))
        (case aO => exact (rU (Kd.vY HO377.out (fun _ hk => hk.2))))
        (case aS => exact bz)
        (case aL => have := LMc56.out; omega)
        intro v383 w62 ho hb hg hat
        rw [← Ny382.out] at ho
        have n_ := aC (xx (bU BK364.out) hg (Kd.jh HO377.out BK364.out (by decide))) (aC (Kd.yU (ok := (fun _ => True)) (rU HO381.out) hg hat) (aC hb (aE ho)))
        clear BK364 HO381 HB HO377
        obtain ⟨BK364, HO381, HB, HO384⟩ := n_
        clear ho hb hg hat
        refine hK.out _ _ ⟨(hcB HB.out hw378_0), (hcB HB.out hw378_1), (hcB HB.out hw378_2), (hcB HB.out hw378_3)⟩ (fun hHeld => ?_)
        clear hK K
        refine nm (some 77) ?_
        refine pu 11 4 (bv 13 4095) HT_ rfl rfl ?_
        refine pu 12 5 (bv 13 8191) HT_ rfl rfl ?_
        refine yO (xS HT_.out (by kernel_rfl)) ?_
        try go_wp2
        go_ret2
        exact ⟨_, re, rU (Kd.vY HO384.out (fun _ hk => trivial)), bl⟩
       ·rw [if_neg c56] at H
        exact absurd H (by simp)
      ·rw [if_neg c52] at H
       exact absurd H (by simp)
     ·rw [if_neg c51] at H
      exact absurd H (by simp)
end Go.Proofs.YtknclbodinfbeaaDoor.PRunsSame
