-- printed (wip/tools/myprint.py)
import Derived.Test.YtknclbodinfbeaaGreatDoorPRunsBackx0
import Derived.Test.YtknclbodinfbeaaGreatDoorPRunsBackx19
namespace Go.Proofs.YtknclbodinfbeaaGreatDoor.PRunsBack
open Go.RowKit Go.Proofs.YtknclbodinfbeaaGreatDoorW.PrintWords Go.Proofs.YtknclbodinfbeaaGreatDoorW.PrintLast Go.Proofs.YtknclbodinfbeaaGreatDoorW.PrintMore
attribute [local go_sem] yo ym yC yD xU xT yn yq
set_option linter.unusedVariables false
set_option linter.unusedSimpArgs false
set_option maxHeartbeats 8000000
set_option maxRecDepth 100000
def vu.l0 : Nat → List (wb) → Int → List (wb) → Int → Int → Bool → Int → Option (List Int × Bool)
 | 0, _, _, _, _, _, _, _ => none
 | k + 1, x0, x6, q, r, j, d, e => if j < r then (if 0 ≤ j then (if j < (q.length : Int) then ((wq.f k ((vk q j).f0) ((vk q j).f1) ((vk q j).f2) ((vk q j).f3) d e).bind fun u => ((xy.f ((vk q j).f0) ((vk q j).f1) ((vk q j).f2) ((vk q j).f3)).bind fun y => (if y = true then (if u.2 = true then (if x6 < 0 then (vu.l0 k x0 j q r (wrap64 (j + 1)) d e) else (if 0 ≤ x6 then (if x6 < (x0.length : Int) then (if (wrap64 (((vk q j).f0) + ((vk q j).f1))) < (wrap64 (((vk x0 x6).f0) + ((vk x0 x6).f1))) then (vu.l0 k x0 j q r (wrap64 (j + 1)) d e) else (vu.l0 k x0 x6 q r (wrap64 (j + 1)) d e)) else (none)) else (none))) else (vu.l0 k x0 x6 q r (wrap64 (j + 1)) d e)) else (vu.l0 k x0 x6 q r (wrap64 (j + 1)) d e)))) else (none)) else (none)) else (if x6 < 0 then (some (([] : List Int), false)) else (if 0 ≤ x6 then (if x6 < (x0.length : Int) then ((wq.f k ((vk x0 x6).f0) ((vk x0 x6).f1) ((vk x0 x6).f2) ((vk x0 x6).f3) d e).bind fun x => ((vw.f k x0 x6).bind fun s => ((vV.f k x.1 ((vk x0 x6).f1)).bind fun t => (if s.length + t.length < 140737488355328 then (some ((s ++ t), true)) else (none))))) else (none)) else (none)))
def vu.f (k : Nat) (l0 : List (wb)) (d : Bool) (e : Int) : Option (List Int × Bool) := vu.l0 k l0 (-1) l0 (l0.length : Int) 0 d e
theorem vu.wt : ∀ k, (∀ y0 y1 y2 y3 y4 y5 y6, vK (vu.l0 k y0 y1 y2 y3 y4 y5 y6) (vu.l0 (k + 1) y0 y1 y2 y3 y4 y5 y6))
 | 0 => fun _ _ _ _ _ _ _ r h => by simp [vu.l0] at h
 | k + 1 => by
  have ih0 := vu.wt k
  ·intro y0 y1 y2 y3 y4 y5 y6
   unfold vu.l0
   repeat' first
   | (with_reducible exact ih0 _ _ _ _ _ _ _)
   | (with_reducible exact vw.mono _ _ _)
   | (with_reducible exact wq.mono _ _ _ _ _ _ _)
   | (with_reducible exact vV.mono _ _ _)
   | (with_reducible first | exact vK.refl _ | exact vK.none _ | apply vK.ite | apply vK.bind | intro)
theorem vu.mono : ∀ a0 a1 a2 k, vK (vu.f k a0 a1 a2) (vu.f (k + 1) a0 a1 a2) := by
 intro a0 a1 a2 k
 have ih0 := vu.wt k
 unfold vu.f
 repeat' first
   | (with_reducible exact ih0 _ _ _ _ _ _ _)
   | (with_reducible exact vw.mono _ _ _)
   | (with_reducible exact wq.mono _ _ _ _ _ _ _)
   | (with_reducible exact vV.mono _ _ _)
   | (with_reducible first | exact vK.refl _ | exact vK.none _ | apply vK.ite | apply vK.bind | intro)
def vu.T6 : Bool × List (List Nat × List Nat) := (true, [([], []), ([0], [0]), ([1, 1], [1]), ([2], [2]), ([2, 3], [2, 3]), ([4, 2], [4]), ([5], [5]), ([6, 5], [5, 6]), ([7, 5, 5], [5, 7]), ([8], [8]), ([9, 8], [8, 9]), ([8], [8]), ([11, 8], [8, 11]), ([10, 12, 8], [8, 10, 12]), ([8], [8]), ([8], [8]), ([14, 15, 8], [8, 14, 15]), ([16, 8], [8, 16]), ([17, 8], [8, 17]), ([8], [8]), ([8], [8]), ([19, 20, 8], [8, 19, 20]), ([21, 8], [8, 21]), ([22, 8], [8, 22]), ([18, 23, 8], [8, 18, 23]), ([13, 24, 8], [8, 13, 24]), ([8, 25, 5], [5, 8, 25]), ([5, 26], [5, 26])])
def vu.B6 : List Nat := [0, 1, 3, 7, 15, 31, 63, 127, 255, 511, 1023, 511, 2559, 8191, 511, 511, 49663, 115199, 246271, 511, 511, 1573375, 3670527, 7864831, 16761343, 33554431, 67108863, 134217727]
theorem vu.tab6 : zi .any (opsOf Tryz.f48 6) = vu.T6 := by kernel_rfl
theorem vu.qS : yv vu.T6.2 vu.B6 = true := by kernel_rfl
def vu.T11 : Bool × List (List Nat × List Nat) := (true, [([], []), ([], []), ([0, 1], [0, 1]), ([2], [2]), ([], []), ([3, 4], [3, 4]), ([5], [5]), ([6], [6]), ([6], [6]), ([7, 5, 0, 1, 2, 3, 4, 5, 6, 7], [7]), ([8, 9, 0, 1, 2, 3, 4, 5, 6, 7, 8, 9], [8])])
def vu.B11 : List Nat := [0, 0, 3, 7, 0, 31, 63, 127, 127, 255, 1023]
theorem vu.tab11 : zi .any (opsOf Tryz.f48 11) = vu.T11 := by kernel_rfl
theorem vu.bits11 : yv vu.T11.2 vu.B11 = true := by kernel_rfl
def vu.T12 : Bool × List (List Nat × List Nat) := (true, [([], []), ([], []), ([0, 1], [0, 1]), ([], []), ([], []), ([], []), ([4, 5], [4, 5]), ([6], [6]), ([7], [7]), ([3, 8, 2], [3, 8]), ([2, 9, 9], [2, 9]), ([10, 10, 0, 1, 2, 3, 4, 5, 6, 7, 8, 9, 10], [10]), ([11, 0, 1, 2, 3, 4, 5, 6, 7, 8, 9, 10, 11], [])])
def vu.B12 : List Nat := [0, 0, 3, 0, 0, 0, 48, 112, 240, 511, 1023, 2047, 4095]
theorem vu.tab12 : zi .any (opsOf Tryz.f48 12) = vu.T12 := by kernel_rfl
theorem vu.bits12 : yv vu.T12.2 vu.B12 = true := by kernel_rfl
theorem vu.calls (k : Nat) (A0 : Option Addr) (c0 : Nat) (l0 : List (wb)) (E : Bool) (G : Int) (r1 : List Int) (r2 : Bool) (w : World) (hr0 : Kd.C yj w A0 l0.length l0) (i1 : l0.length ≤ c0) (h : vu.f k l0 E G = some (r1, r2)) :
  Calls Tryz.prog 48 #[.slice A0 l0.length c0, .agg #[.bool E, .int .i64 G]] w fun e w' => ∃ i2 : Value, e = .returned (.tuple #[i2, .bool r2]) ∧ Kd.R (Kd.int .u8) 5 w' w.heap.size (fun _ => True) i2 r1 ∧ Below w.heap.size w w' := by
 have hu69 := Tryz.underlying69
 have hu105 := Tryz.underlying105
 have d5 := aE hr0
 have p6 := aE i1
 clear hr0 i1
 have HB := bR w
 have H : (vu.l0 k l0 (-1) l0 (l0.length : Int) 0 E G) = some (r1, r2) := h
 clear h
 have H' := aE H
 clear H
 go_enter Tryz.func48, Tryz.ntmps48
 go_wp2_with (first | ((with_reducible refine gd 3 rfl ?_); refine bx 3 #[.bool E, .int .i64 G] 69 rfl rfl ?_; intro a2 hg w3 hbox hb; have n_ := aC (bs hb) (aC hbox (aC (gz hg) (aE (gz hg)))); clear HB; obtain ⟨HB, j, p7, p8⟩ := n_; clear hb hbox hg))
 go_loopg [6, 15] k (fun kq v6 p9 w' => ∃ (r : Int) (d : Int), v6 = .int .i64 r ∧ p9 = .int .i64 d ∧ Aside0 (vu.l0 kq l0 r l0 (l0.length : Int) d E G = some (r1, r2)) ∧ Aside0 (kq ≤ k) ∧ Aside0 (w'.heap[a2]? = some (.cells #[.bool E, .int .i64 G] 69 (0, 0))) ∧ Aside0 (Below w.heap.size w w'))
 case atStart => exact ⟨((-1)), (0), rq, rq, H', ⟨Nat.le_refl _⟩, ⟨bU j.out⟩, ⟨bl⟩⟩
 case round =>
  clear H'
  obtain ⟨r, d, rfl, rfl, HA, e0, j, HB⟩ := hrel
  cases gk with
  | zero => exact absurd HA.out (by simp [vu.l0])
  | succ k1 =>
   have H := HA.out
   clear HA
   simp only [vu.l0] at H
   rcases iL H with H1 | H1 <;> clear H <;> obtain ⟨H, t8⟩ := H1
   ·by_cases c5 : 0 ≤ d
    ·rw [if_pos c5] at H
     have t9 := decide_eq_true c5
     clear c5
     by_cases c6 : d < (l0.length : Int)
     ·rw [if_pos c6] at H
      have u0 := decide_eq_true c6
      clear c6
      obtain ⟨⟨e5, h5⟩, A7, H⟩ := oB H
      try dsimp only at H
      obtain ⟨i3, A8, H⟩ := oB H
      try dsimp only at H
      by_cases c9 : i3 = true
      ·subst c9
       rw [if_pos rfl] at H
       by_cases c10 : h5 = true
       ·subst c10
        rw [if_pos rfl] at H
        rcases iL H with H1 | H1 <;> clear H <;> obtain ⟨H, q0⟩ := H1
        ·have H' := aE H
         clear H
         have J : 0 ≤ (d : Int) := dt
         have L : d < (l0.length : Int) := dt
         obtain ⟨t, b2, x, y, z, B⟩ := xr d5.out d J L
         cases b2
         replace x := hcB HB.out x
         replace y := hcB HB.out y
         replace z := hcB HB.out z
         replace B := hcB HB.out B
         replace J := eq_true J
         replace L := eq_true L
         try go_wp2_with (first | ((with_reducible refine gd 8 rfl ?_); refine bx 8 #[.int .i64 0, .int .i64 0, .int .i64 0, .int .i64 0] 105 rfl rfl ?_; intro u hg u3 hbox hb; have n_ := aC (vp (bU j.out) hb) (aC (bs hb) (aC hbox (aC (gz hg) (aC (gz hg) (aC (gn hg (bU j.out)) (aE (gm hg (bU j.out)))))))); clear j HB; obtain ⟨j, HB, q, e1, e2, s, D⟩ := n_; clear hb hbox hg; have q1 := D.out; have q2 := s.out; obtain ⟨i4, i5, i6, i7, i8, i9, j2, j3⟩ := xP q.out; obtain ⟨j4, j5, j6, j7⟩ := yM j.out) | ((with_reducible refine gf 68 rfl ?_); refine gL (some 23) rfl rfl Tryz.func68 rfl #[.agg #[.int .i64 ((vk l0 d).f0), .int .i64 ((vk l0 d).f1), .int .i64 ((vk l0 d).f2), .int .i64 ((vk l0 d).f3)], .agg #[.bool E, .int .i64 G]] rfl ?_; (with_reducible refine (wq.calls k1 ((vk l0 d).f0) ((vk l0 d).f1) ((vk l0 d).f2) ((vk l0 d).f3) E G e5 true _ A7.out).mono ?_); rintro e q3 ⟨rfl, hb⟩; refine ⟨_, rfl, ?_⟩; have n_ := aC (vp (g := a2) (o := .cells #[.bool E, .int .i64 G] 69 (0, 0)) (by (with_reducible repeat first | apply vm | apply vn | apply vl); refine wk ?_ s.out _; (with_reducible repeat first | apply vm | apply vn | apply vl); refine wk ?_ s.out _; (with_reducible repeat first | apply vm | apply vn | apply vl); refine wk ?_ s.out _; (with_reducible repeat first | apply vm | apply vn | apply vl); refine wk ?_ s.out _; (with_reducible repeat first | apply vm | apply vn | apply vl); exact j.out) hb) (aC (vp (g := u) (o := .cells #[.int .i64 ((vk l0 d).f0), .int .i64 ((vk l0 d).f1), .int .i64 ((vk l0 d).f2), .int .i64 ((vk l0 d).f3)] 105 (0, 0)) (by (with_reducible repeat first | apply vm | apply vn | apply vl); refine vt (cs := #[.int .i64 ((vk l0 d).f0), .int .i64 ((vk l0 d).f1), .int .i64 ((vk l0 d).f2), .int .i64 0]) ?_ 3 _ rfl; (with_reducible repeat first | apply vm | apply vn | apply vl); refine vt (cs := #[.int .i64 ((vk l0 d).f0), .int .i64 ((vk l0 d).f1), .int .i64 0, .int .i64 0]) ?_ 2 _ rfl; (with_reducible repeat first | apply vm | apply vn | apply vl); refine vt (cs := #[.int .i64 ((vk l0 d).f0), .int .i64 0, .int .i64 0, .int .i64 0]) ?_ 1 _ rfl; (with_reducible repeat first | apply vm | apply vn | apply vl); refine vt (cs := #[.int .i64 0, .int .i64 0, .int .i64 0, .int .i64 0]) ?_ 0 _ rfl; (with_reducible repeat first | apply vm | apply vn | apply vl); exact q.out) hb) (aE (bs hb))); clear j q HB; obtain ⟨j, q, HB⟩ := n_))
         have n_ := aC (vn j.out) (aC (vn q.out) (aE (vy HB.out)))
         clear j q HB
         obtain ⟨j, q, HB⟩ := n_
         refine st 28 (fun w' => w'.cell? ⟨u, 0, none⟩ = some (.int .i64 ((vk l0 d).f0)) ∧ w'.cell? ⟨u, 1, none⟩ = some (.int .i64 ((vk l0 d).f1)) ∧ w'.cell? ⟨u, 2, none⟩ = some (.int .i64 ((vk l0 d).f2)) ∧ w'.cell? ⟨u, 3, none⟩ = some (.int .i64 ((vk l0 d).f3))) [] (bv 28 0) vu.tab6 vu.qS ⟨jB q.out, jz q.out, jK q.out, kw q.out⟩ (fun hHeld HT_ HW_ => ?_)
         generalize q3.drew = u4 at j q HB hHeld ⊢
         refine tk 0 26 (bv 28 1) HT_ HW_ hHeld rfl rfl (by rintro w' ⟨s0, s1, s2, s3⟩; exact yl) ?_
         refine yA (i := 1) (N := some 27) (bv 28 3) rfl rfl (xl HT_.out (by kernel_rfl)) (by decide) (fun K hK => ?_)
         refine gK Tryz.func69 rfl #[.agg #[.int .i64 ((vk l0 d).f0), .int .i64 ((vk l0 d).f1), .int .i64 ((vk l0 d).f2), .int .i64 ((vk l0 d).f3)]] rfl rfl ?_
         with_reducible refine (xy.calls ((vk l0 d).f0) ((vk l0 d).f1) ((vk l0 d).f2) ((vk l0 d).f3) true _ A8.out).mono ?_
         rintro e u5 ⟨rfl, hb⟩
         refine ⟨_, rfl, ?_⟩
         have n_ := aC (vp (bU j.out) hb) (aC (vp (g := u) (o := .cells #[.int .i64 ((vk l0 d).f0), .int .i64 ((vk l0 d).f1), .int .i64 ((vk l0 d).f2), .int .i64 ((vk l0 d).f3)] 105 (0, 0)) (bU q.out) hb) (aE (bs hb)))
         clear j q HB
         obtain ⟨j, q, HB⟩ := n_
         (try clear hb)
         (try clear f5)
         (try clear hk)
         (try clear hi)
         refine hK.out _ _ ⟨jB q.out, jz q.out, jK q.out, kw q.out⟩ (fun hHeld => ?_)
         clear hK K
         refine nm (some 27) ?_
         refine pu 2 28 (bv 28 7) HT_ rfl rfl ?_
         refine pu 3 29 (bv 28 15) HT_ rfl rfl ?_
         refine pu 4 30 (bv 28 31) HT_ rfl rfl ?_
         refine pu 5 31 (bv 28 63) HT_ rfl rfl ?_
         refine pu 6 32 (bv 28 127) HT_ rfl rfl ?_
         refine pu 7 33 (bv 28 255) HT_ rfl rfl ?_
         refine pu 8 34 (bv 28 511) HT_ rfl rfl ?_
         refine pn 9 35 (bv 28 1023) HT_ rfl rfl ?_
         refine pn 10 36 (bv 28 2047) HT_ rfl rfl ?_
         refine pn 11 37 (bv 28 4095) HT_ rfl rfl ?_
         refine pn 12 38 (bv 28 8191) HT_ rfl rfl ?_
         refine pn 13 39 (bv 28 16383) HT_ rfl rfl ?_
         refine pn 14 40 (bv 28 32767) HT_ rfl rfl ?_
         refine pn 15 41 (bv 28 65535) HT_ rfl rfl ?_
         refine pn 16 42 (bv 28 131071) HT_ rfl rfl ?_
         refine pn 17 43 (bv 28 262143) HT_ rfl rfl ?_
         refine pn 18 44 (bv 28 524287) HT_ rfl rfl ?_
         refine pn 19 45 (bv 28 1048575) HT_ rfl rfl ?_
         refine pn 20 46 (bv 28 2097151) HT_ rfl rfl ?_
         refine pn 21 47 (bv 28 4194303) HT_ rfl rfl ?_
         refine pn 22 48 (bv 28 8388607) HT_ rfl rfl ?_
         refine pn 23 49 (bv 28 16777215) HT_ rfl rfl ?_
         refine pn 24 50 (bv 28 33554431) HT_ rfl rfl ?_
         refine pn 25 51 (bv 28 67108863) HT_ rfl rfl ?_
         refine pu 26 52 (bv 28 134217727) HT_ rfl rfl ?_
         refine pu 27 53 (bv 28 268435455) HT_ rfl rfl ?_
         refine zd (xZ HT_.out (by kernel_rfl)) ?_
         try go_wp2
         go_roundg k1
         case measure => have := e0.out; omega
         case rel => exact ⟨(d), (wrap64 (d + 1)), rq, rq, H', ⟨by have := e0.out; omega⟩, ⟨bU j.out⟩, ⟨bl⟩⟩
        ·by_cases g7 : 0 ≤ r
         ·rw [if_pos g7] at H
          have q4 := decide_eq_true g7
          clear g7
          by_cases g8 : r < (l0.length : Int)
          ·rw [if_pos g8] at H
           have q5 := decide_eq_true g8
           clear g8
           rcases iL H with H1 | H1 <;> clear H <;> obtain ⟨H, q6⟩ := H1
           ·have H' := aE H
            clear H
            have J : 0 ≤ (d : Int) := dt
            have L : d < (l0.length : Int) := dt
            obtain ⟨t, b2, x, y, z, B⟩ := xr d5.out d J L
            cases b2
            replace x := hcB HB.out x
            replace y := hcB HB.out y
            replace z := hcB HB.out z
            replace B := hcB HB.out B
            replace J := eq_true J
            replace L := eq_true L
            try go_wp2_with (first | ((with_reducible refine gd 8 rfl ?_); refine bx 8 #[.int .i64 0, .int .i64 0, .int .i64 0, .int .i64 0] 105 rfl rfl ?_; intro u hg u6 hbox hb; have n_ := aC (vp (bU j.out) hb) (aC (bs hb) (aC hbox (aC (gz hg) (aC (gz hg) (aC (gn hg (bU j.out)) (aE (gm hg (bU j.out)))))))); clear j HB; obtain ⟨j, HB, q, e1, e2, s, D⟩ := n_; clear hb hbox hg; have q7 := D.out; have q8 := s.out; obtain ⟨j8, j9, k0, k2, k3, k4, k5, k6⟩ := xP q.out; obtain ⟨k7, k8, k9, l2⟩ := yM j.out) | ((with_reducible refine gf 68 rfl ?_); refine gL (some 23) rfl rfl Tryz.func68 rfl #[.agg #[.int .i64 ((vk l0 d).f0), .int .i64 ((vk l0 d).f1), .int .i64 ((vk l0 d).f2), .int .i64 ((vk l0 d).f3)], .agg #[.bool E, .int .i64 G]] rfl ?_; (with_reducible refine (wq.calls k1 ((vk l0 d).f0) ((vk l0 d).f1) ((vk l0 d).f2) ((vk l0 d).f3) E G e5 true _ A7.out).mono ?_); rintro e q9 ⟨rfl, hb⟩; refine ⟨_, rfl, ?_⟩; have n_ := aC (vp (g := a2) (o := .cells #[.bool E, .int .i64 G] 69 (0, 0)) (by (with_reducible repeat first | apply vm | apply vn | apply vl); refine wk ?_ s.out _; (with_reducible repeat first | apply vm | apply vn | apply vl); refine wk ?_ s.out _; (with_reducible repeat first | apply vm | apply vn | apply vl); refine wk ?_ s.out _; (with_reducible repeat first | apply vm | apply vn | apply vl); refine wk ?_ s.out _; (with_reducible repeat first | apply vm | apply vn | apply vl); exact j.out) hb) (aC (vp (g := u) (o := .cells #[.int .i64 ((vk l0 d).f0), .int .i64 ((vk l0 d).f1), .int .i64 ((vk l0 d).f2), .int .i64 ((vk l0 d).f3)] 105 (0, 0)) (by (with_reducible repeat first | apply vm | apply vn | apply vl); refine vt (cs := #[.int .i64 ((vk l0 d).f0), .int .i64 ((vk l0 d).f1), .int .i64 ((vk l0 d).f2), .int .i64 0]) ?_ 3 _ rfl; (with_reducible repeat first | apply vm | apply vn | apply vl); refine vt (cs := #[.int .i64 ((vk l0 d).f0), .int .i64 ((vk l0 d).f1), .int .i64 0, .int .i64 0]) ?_ 2 _ rfl; (with_reducible repeat first | apply vm | apply vn | apply vl); refine vt (cs := #[.int .i64 ((vk l0 d).f0), .int .i64 0, .int .i64 0, .int .i64 0]) ?_ 1 _ rfl; (with_reducible repeat first | apply vm | apply vn | apply vl); refine vt (cs := #[.int .i64 0, .int .i64 0, .int .i64 0, .int .i64 0]) ?_ 0 _ rfl; (with_reducible repeat first | apply vm | apply vn | apply vl); exact q.out) hb) (aE (bs hb))); clear j q HB; obtain ⟨j, q, HB⟩ := n_))
            have n_ := aC (vn j.out) (aC (vn q.out) (aE (vy HB.out)))
            clear j q HB
            obtain ⟨j, q, HB⟩ := n_
            have d6 : 0 ≤ (r : Int) := dt
            have d7 : r < (l0.length : Int) := dt
            obtain ⟨f6, g0, M, O, T, X⟩ := xr d5.out r d6 d7
            have a3 := X
            have a4 := T
            have a5 := O
            have a6 := M
            obtain rfl : t = f6 := (by injection g0)
            replace M := hcB HB.out M
            replace O := hcB HB.out O
            replace T := hcB HB.out T
            replace X := hcB HB.out X
            replace d6 := eq_true d6
            replace d7 := eq_true d7
            have d8 : 0 ≤ (r : Int) := dt
            have d9 : r < (l0.length : Int) := dt
            obtain ⟨f7, g1, Y, Z, a0, a1⟩ := xr d5.out r d8 d9
            have a7 := a1
            have a8 := a0
            have a9 := Z
            have b0 := Y
            obtain rfl : t = f7 := (by injection g1)
            replace Y := hcB HB.out Y
            replace Z := hcB HB.out Z
            replace a0 := hcB HB.out a0
            replace a1 := hcB HB.out a1
            replace d8 := eq_true d8
            replace d9 := eq_true d9
            refine st 28 (fun w' => w'.cell? ⟨u, 0, none⟩ = some (.int .i64 ((vk l0 d).f0)) ∧ w'.cell? ⟨u, 1, none⟩ = some (.int .i64 ((vk l0 d).f1)) ∧ w'.cell? ⟨u, 2, none⟩ = some (.int .i64 ((vk l0 d).f2)) ∧ w'.cell? ⟨u, 3, none⟩ = some (.int .i64 ((vk l0 d).f3)) ∧ w'.cell? (t.add ((r).toNat * 4)) = some (.int .i64 ((vk l0 r).f0)) ∧ w'.cell? ⟨(t.add ((r).toNat * 4)).block, (t.add ((r).toNat * 4)).off + 1, none⟩ = some (.int .i64 ((vk l0 r).f1)) ∧ w'.cell? ⟨(t.add ((r).toNat * 4)).block, (t.add ((r).toNat * 4)).off + 2, none⟩ = some (.int .i64 ((vk l0 r).f2)) ∧ w'.cell? ⟨(t.add ((r).toNat * 4)).block, (t.add ((r).toNat * 4)).off + 3, none⟩ = some (.int .i64 ((vk l0 r).f3)) ∧ w'.cell? (t.add ((r).toNat * 4)) = some (.int .i64 ((vk l0 r).f0)) ∧ w'.cell? ⟨(t.add ((r).toNat * 4)).block, (t.add ((r).toNat * 4)).off + 1, none⟩ = some (.int .i64 ((vk l0 r).f1)) ∧ w'.cell? ⟨(t.add ((r).toNat * 4)).block, (t.add ((r).toNat * 4)).off + 2, none⟩ = some (.int .i64 ((vk l0 r).f2)) ∧ w'.cell? ⟨(t.add ((r).toNat * 4)).block, (t.add ((r).toNat * 4)).off + 3, none⟩ = some (.int .i64 ((vk l0 r).f3))) [] (bv 28 0) vu.tab6 vu.qS ⟨jB q.out, jz q.out, jK q.out, kw q.out, (hcB HB.out a6), (hcB HB.out a5), (hcB HB.out a4), (hcB HB.out a3), (hcB HB.out b0), (hcB HB.out a9), (hcB HB.out a8), (hcB HB.out a7)⟩ (fun hHeld HT_ HW_ => ?_)
            generalize q9.drew = u7 at j q HB M O T X Y Z a0 a1 hHeld ⊢
            refine tk 0 26 (bv 28 1) HT_ HW_ hHeld rfl rfl (by rintro w' ⟨s0, s1, s2, s3, s4, s5, s6, s7, s8, s9, e3, e4⟩; exact yl) ?_
            refine yA (i := 1) (N := some 27) (bv 28 3) rfl rfl (xl HT_.out (by kernel_rfl)) (by decide) (fun K hK => ?_)
            refine gK Tryz.func69 rfl #[.agg #[.int .i64 ((vk l0 d).f0), .int .i64 ((vk l0 d).f1), .int .i64 ((vk l0 d).f2), .int .i64 ((vk l0 d).f3)]] rfl rfl ?_
            with_reducible refine (xy.calls ((vk l0 d).f0) ((vk l0 d).f1) ((vk l0 d).f2) ((vk l0 d).f3) true _ A8.out).mono ?_
            rintro e u9 ⟨rfl, hb⟩
            refine ⟨_, rfl, ?_⟩
            have n_ := aC (vp (bU j.out) hb) (aC (vp (g := u) (o := .cells #[.int .i64 ((vk l0 d).f0), .int .i64 ((vk l0 d).f1), .int .i64 ((vk l0 d).f2), .int .i64 ((vk l0 d).f3)] 105 (0, 0)) (bU q.out) hb) (aE (bs hb)))
            clear j q HB
            obtain ⟨j, q, HB⟩ := n_
            (try clear hb)
            (try clear f5)
            (try clear hk)
            (try clear hi)
            refine hK.out _ _ ⟨jB q.out, jz q.out, jK q.out, kw q.out, (hcB HB.out a6), (hcB HB.out a5), (hcB HB.out a4), (hcB HB.out a3), (hcB HB.out b0), (hcB HB.out a9), (hcB HB.out a8), (hcB HB.out a7)⟩ (fun hHeld => ?_)
            clear hK K
            refine nm (some 27) ?_
            refine pu 2 28 (bv 28 7) HT_ rfl rfl ?_
            refine pu 3 29 (bv 28 15) HT_ rfl rfl ?_
            refine pu 4 30 (bv 28 31) HT_ rfl rfl ?_
            refine pu 5 31 (bv 28 63) HT_ rfl rfl ?_
            refine pu 6 32 (bv 28 127) HT_ rfl rfl ?_
            refine pu 7 33 (bv 28 255) HT_ rfl rfl ?_
            refine pu 8 34 (bv 28 511) HT_ rfl rfl ?_
            refine pu 9 35 (bv 28 1023) HT_ rfl rfl ?_
            refine pu 11 37 (bv 28 3071) HT_ rfl rfl ?_
            refine pu 14 40 (bv 28 19455) HT_ rfl rfl ?_
            refine pu 15 41 (bv 28 52223) HT_ rfl rfl ?_
            refine pu 16 42 (bv 28 117759) HT_ rfl rfl ?_
            refine pu 17 43 (bv 28 248831) HT_ rfl rfl ?_
            refine pu 19 45 (bv 28 773119) HT_ rfl rfl ?_
            refine pu 20 46 (bv 28 1821695) HT_ rfl rfl ?_
            refine pu 21 47 (bv 28 3918847) HT_ rfl rfl ?_
            refine pu 22 48 (bv 28 8113151) HT_ rfl rfl ?_
            refine tk 10 36 (bv 28 8114175) HT_ HW_ hHeld rfl rfl (by rintro w' ⟨s0, s1, s2, s3, s4, s5, s6, s7, s8, s9, e3, e4⟩; exact yl) ?_
            refine tk 12 38 (bv 28 8118271) HT_ HW_ hHeld rfl rfl (by rintro w' ⟨s0, s1, s2, s3, s4, s5, s6, s7, s8, s9, e3, e4⟩; exact yl) ?_
            refine pu 13 39 (bv 28 8126463) HT_ rfl rfl ?_
            refine tk 18 44 (bv 28 8388607) HT_ HW_ hHeld rfl rfl (by rintro w' ⟨s0, s1, s2, s3, s4, s5, s6, s7, s8, s9, e3, e4⟩; exact yl) ?_
            refine tk 23 49 (bv 28 16777215) HT_ HW_ hHeld rfl rfl (by rintro w' ⟨s0, s1, s2, s3, s4, s5, s6, s7, s8, s9, e3, e4⟩; exact yl) ?_
            refine pu 24 50 (bv 28 33554431) HT_ rfl rfl ?_
            refine pu 25 51 (bv 28 67108863) HT_ rfl rfl ?_
            refine pu 26 52 (bv 28 134217727) HT_ rfl rfl ?_
            refine pu 27 53 (bv 28 268435455) HT_ rfl rfl ?_
            refine zd (xZ HT_.out (by kernel_rfl)) ?_
            try go_wp2
            go_roundg k1
            case measure => have := e0.out; omega
            case rel => exact ⟨(d), (wrap64 (d + 1)), rq, rq, H', ⟨by have := e0.out; omega⟩, ⟨bU j.out⟩, ⟨bl⟩⟩
           ·have H' := aE H
            clear H
            have J : 0 ≤ (d : Int) := dt
            have L : d < (l0.length : Int) := dt
            obtain ⟨t, b2, x, y, z, B⟩ := xr d5.out d J L
            cases b2
            replace x := hcB HB.out x
            replace y := hcB HB.out y
            replace z := hcB HB.out z
            replace B := hcB HB.out B
            replace J := eq_true J
            replace L := eq_true L
            try go_wp2_with (first | ((with_reducible refine gd 8 rfl ?_); refine bx 8 #[.int .i64 0, .int .i64 0, .int .i64 0, .int .i64 0] 105 rfl rfl ?_; intro u hg v0 hbox hb; have n_ := aC (vp (bU j.out) hb) (aC (bs hb) (aC hbox (aC (gz hg) (aC (gz hg) (aC (gn hg (bU j.out)) (aE (gm hg (bU j.out)))))))); clear j HB; obtain ⟨j, HB, q, e1, e2, s, D⟩ := n_; clear hb hbox hg; have r0 := D.out; have r3 := s.out; obtain ⟨l3, l4, l5, l6, l7, l8, l9, m0⟩ := xP q.out; obtain ⟨m1, m2, m3, m4⟩ := yM j.out) | ((with_reducible refine gf 68 rfl ?_); refine gL (some 23) rfl rfl Tryz.func68 rfl #[.agg #[.int .i64 ((vk l0 d).f0), .int .i64 ((vk l0 d).f1), .int .i64 ((vk l0 d).f2), .int .i64 ((vk l0 d).f3)], .agg #[.bool E, .int .i64 G]] rfl ?_; (with_reducible refine (wq.calls k1 ((vk l0 d).f0) ((vk l0 d).f1) ((vk l0 d).f2) ((vk l0 d).f3) E G e5 true _ A7.out).mono ?_); rintro e r4 ⟨rfl, hb⟩; refine ⟨_, rfl, ?_⟩; have n_ := aC (vp (g := a2) (o := .cells #[.bool E, .int .i64 G] 69 (0, 0)) (by (with_reducible repeat first | apply vm | apply vn | apply vl); refine wk ?_ s.out _; (with_reducible repeat first | apply vm | apply vn | apply vl); refine wk ?_ s.out _; (with_reducible repeat first | apply vm | apply vn | apply vl); refine wk ?_ s.out _; (with_reducible repeat first | apply vm | apply vn | apply vl); refine wk ?_ s.out _; (with_reducible repeat first | apply vm | apply vn | apply vl); exact j.out) hb) (aC (vp (g := u) (o := .cells #[.int .i64 ((vk l0 d).f0), .int .i64 ((vk l0 d).f1), .int .i64 ((vk l0 d).f2), .int .i64 ((vk l0 d).f3)] 105 (0, 0)) (by (with_reducible repeat first | apply vm | apply vn | apply vl); refine vt (cs := #[.int .i64 ((vk l0 d).f0), .int .i64 ((vk l0 d).f1), .int .i64 ((vk l0 d).f2), .int .i64 0]) ?_ 3 _ rfl; (with_reducible repeat first | apply vm | apply vn | apply vl); refine vt (cs := #[.int .i64 ((vk l0 d).f0), .int .i64 ((vk l0 d).f1), .int .i64 0, .int .i64 0]) ?_ 2 _ rfl; (with_reducible repeat first | apply vm | apply vn | apply vl); refine vt (cs := #[.int .i64 ((vk l0 d).f0), .int .i64 0, .int .i64 0, .int .i64 0]) ?_ 1 _ rfl; (with_reducible repeat first | apply vm | apply vn | apply vl); refine vt (cs := #[.int .i64 0, .int .i64 0, .int .i64 0, .int .i64 0]) ?_ 0 _ rfl; (with_reducible repeat first | apply vm | apply vn | apply vl); exact q.out) hb) (aE (bs hb))); clear j q HB; obtain ⟨j, q, HB⟩ := n_))
            have n_ := aC (vn j.out) (aC (vn q.out) (aE (vy HB.out)))
            clear j q HB
            obtain ⟨j, q, HB⟩ := n_
            have d6 : 0 ≤ (r : Int) := dt
            have d7 : r < (l0.length : Int) := dt
            obtain ⟨f6, g0, M, O, T, X⟩ := xr d5.out r d6 d7
            have a3 := X
            have a4 := T
            have a5 := O
            have a6 := M
            obtain rfl : t = f6 := (by injection g0)
            replace M := hcB HB.out M
            replace O := hcB HB.out O
            replace T := hcB HB.out T
            replace X := hcB HB.out X
            replace d6 := eq_true d6
            replace d7 := eq_true d7
            have d8 : 0 ≤ (r : Int) := dt
            have d9 : r < (l0.length : Int) := dt
            obtain ⟨f7, g1, Y, Z, a0, a1⟩ := xr d5.out r d8 d9
            have a7 := a1
            have a8 := a0
            have a9 := Z
            have b0 := Y
            obtain rfl : t = f7 := (by injection g1)
            replace Y := hcB HB.out Y
            replace Z := hcB HB.out Z
            replace a0 := hcB HB.out a0
            replace a1 := hcB HB.out a1
            replace d8 := eq_true d8
            replace d9 := eq_true d9
            refine st 28 (fun w' => w'.cell? ⟨u, 0, none⟩ = some (.int .i64 ((vk l0 d).f0)) ∧ w'.cell? ⟨u, 1, none⟩ = some (.int .i64 ((vk l0 d).f1)) ∧ w'.cell? ⟨u, 2, none⟩ = some (.int .i64 ((vk l0 d).f2)) ∧ w'.cell? ⟨u, 3, none⟩ = some (.int .i64 ((vk l0 d).f3)) ∧ w'.cell? (t.add ((r).toNat * 4)) = some (.int .i64 ((vk l0 r).f0)) ∧ w'.cell? ⟨(t.add ((r).toNat * 4)).block, (t.add ((r).toNat * 4)).off + 1, none⟩ = some (.int .i64 ((vk l0 r).f1)) ∧ w'.cell? ⟨(t.add ((r).toNat * 4)).block, (t.add ((r).toNat * 4)).off + 2, none⟩ = some (.int .i64 ((vk l0 r).f2)) ∧ w'.cell? ⟨(t.add ((r).toNat * 4)).block, (t.add ((r).toNat * 4)).off + 3, none⟩ = some (.int .i64 ((vk l0 r).f3)) ∧ w'.cell? (t.add ((r).toNat * 4)) = some (.int .i64 ((vk l0 r).f0)) ∧ w'.cell? ⟨(t.add ((r).toNat * 4)).block, (t.add ((r).toNat * 4)).off + 1, none⟩ = some (.int .i64 ((vk l0 r).f1)) ∧ w'.cell? ⟨(t.add ((r).toNat * 4)).block, (t.add ((r).toNat * 4)).off + 2, none⟩ = some (.int .i64 ((vk l0 r).f2)) ∧ w'.cell? ⟨(t.add ((r).toNat * 4)).block, (t.add ((r).toNat * 4)).off + 3, none⟩ = some (.int .i64 ((vk l0 r).f3))) [] (bv 28 0) vu.tab6 vu.qS ⟨jB q.out, jz q.out, jK q.out, kw q.out, (hcB HB.out a6), (hcB HB.out a5), (hcB HB.out a4), (hcB HB.out a3), (hcB HB.out b0), (hcB HB.out a9), (hcB HB.out a8), (hcB HB.out a7)⟩ (fun hHeld HT_ HW_ => ?_)
            generalize r4.drew = v1 at j q HB M O T X Y Z a0 a1 hHeld ⊢
            refine tk 0 26 (bv 28 1) HT_ HW_ hHeld rfl rfl (by rintro w' ⟨s0, s1, s2, s3, s4, s5, s6, s7, s8, s9, e3, e4⟩; exact yl) ?_
            refine yA (i := 1) (N := some 27) (bv 28 3) rfl rfl (xl HT_.out (by kernel_rfl)) (by decide) (fun K hK => ?_)
            refine gK Tryz.func69 rfl #[.agg #[.int .i64 ((vk l0 d).f0), .int .i64 ((vk l0 d).f1), .int .i64 ((vk l0 d).f2), .int .i64 ((vk l0 d).f3)]] rfl rfl ?_
            with_reducible refine (xy.calls ((vk l0 d).f0) ((vk l0 d).f1) ((vk l0 d).f2) ((vk l0 d).f3) true _ A8.out).mono ?_
            rintro e v2 ⟨rfl, hb⟩
            refine ⟨_, rfl, ?_⟩
            have n_ := aC (vp (bU j.out) hb) (aC (vp (g := u) (o := .cells #[.int .i64 ((vk l0 d).f0), .int .i64 ((vk l0 d).f1), .int .i64 ((vk l0 d).f2), .int .i64 ((vk l0 d).f3)] 105 (0, 0)) (bU q.out) hb) (aE (bs hb)))
            clear j q HB
            obtain ⟨j, q, HB⟩ := n_
            (try clear hb)
            (try clear f5)
            (try clear hk)
            (try clear hi)
            refine hK.out _ _ ⟨jB q.out, jz q.out, jK q.out, kw q.out, (hcB HB.out a6), (hcB HB.out a5), (hcB HB.out a4), (hcB HB.out a3), (hcB HB.out b0), (hcB HB.out a9), (hcB HB.out a8), (hcB HB.out a7)⟩ (fun hHeld => ?_)
            clear hK K
            refine nm (some 27) ?_
            refine pu 2 28 (bv 28 7) HT_ rfl rfl ?_
            refine pu 3 29 (bv 28 15) HT_ rfl rfl ?_
            refine pu 4 30 (bv 28 31) HT_ rfl rfl ?_
            refine pu 5 31 (bv 28 63) HT_ rfl rfl ?_
            refine pu 6 32 (bv 28 127) HT_ rfl rfl ?_
            refine pu 7 33 (bv 28 255) HT_ rfl rfl ?_
            refine pu 8 34 (bv 28 511) HT_ rfl rfl ?_
            refine pu 9 35 (bv 28 1023) HT_ rfl rfl ?_
            refine pu 11 37 (bv 28 3071) HT_ rfl rfl ?_
            refine pu 14 40 (bv 28 19455) HT_ rfl rfl ?_
            refine pu 15 41 (bv 28 52223) HT_ rfl rfl ?_
            refine pu 16 42 (bv 28 117759) HT_ rfl rfl ?_
            refine pu 17 43 (bv 28 248831) HT_ rfl rfl ?_
            refine pu 19 45 (bv 28 773119) HT_ rfl rfl ?_
            refine pu 20 46 (bv 28 1821695) HT_ rfl rfl ?_
            refine pu 21 47 (bv 28 3918847) HT_ rfl rfl ?_
            refine pu 22 48 (bv 28 8113151) HT_ rfl rfl ?_
            refine tk 10 36 (bv 28 8114175) HT_ HW_ hHeld rfl rfl (by rintro w' ⟨s0, s1, s2, s3, s4, s5, s6, s7, s8, s9, e3, e4⟩; exact yl) ?_
            refine tk 12 38 (bv 28 8118271) HT_ HW_ hHeld rfl rfl (by rintro w' ⟨s0, s1, s2, s3, s4, s5, s6, s7, s8, s9, e3, e4⟩; exact yl) ?_
            refine pu 13 39 (bv 28 8126463) HT_ rfl rfl ?_
            refine tk 18 44 (bv 28 8388607) HT_ HW_ hHeld rfl rfl (by rintro w' ⟨s0, s1, s2, s3, s4, s5, s6, s7, s8, s9, e3, e4⟩; exact yl) ?_
            refine tk 23 49 (bv 28 16777215) HT_ HW_ hHeld rfl rfl (by rintro w' ⟨s0, s1, s2, s3, s4, s5, s6, s7, s8, s9, e3, e4⟩; exact yl) ?_
            refine pu 24 50 (bv 28 33554431) HT_ rfl rfl ?_
            refine pu 25 51 (bv 28 67108863) HT_ rfl rfl ?_
            refine pu 26 52 (bv 28 134217727) HT_ rfl rfl ?_
            refine pu 27 53 (bv 28 268435455) HT_ rfl rfl ?_
            refine zd (xZ HT_.out (by kernel_rfl)) ?_
            try go_wp2
            go_roundg k1
            case measure => have := e0.out; omega
            case rel => exact ⟨(r), (wrap64 (d + 1)), rq, rq, H', ⟨by have := e0.out; omega⟩, ⟨bU j.out⟩, ⟨bl⟩⟩
          ·rw [if_neg g8] at H
           exact nB H
         ·rw [if_neg g7] at H
          exact nB H
       ·replace c10 := Bool.eq_false_iff.mpr c10
        subst c10
        rw [if_neg Bool.false_ne_true] at H
        have H' := aE H
        clear H
        have J : 0 ≤ (d : Int) := dt
        have L : d < (l0.length : Int) := dt
        obtain ⟨t, b2, x, y, z, B⟩ := xr d5.out d J L
        cases b2
        replace x := hcB HB.out x
        replace y := hcB HB.out y
        replace z := hcB HB.out z
        replace B := hcB HB.out B
        replace J := eq_true J
        replace L := eq_true L
        try go_wp2_with (first | ((with_reducible refine gd 8 rfl ?_); refine bx 8 #[.int .i64 0, .int .i64 0, .int .i64 0, .int .i64 0] 105 rfl rfl ?_; intro u hg v3 hbox hb; have n_ := aC (vp (bU j.out) hb) (aC (bs hb) (aC hbox (aC (gz hg) (aC (gz hg) (aC (gn hg (bU j.out)) (aE (gm hg (bU j.out)))))))); clear j HB; obtain ⟨j, HB, q, e1, e2, s, D⟩ := n_; clear hb hbox hg; have r5 := D.out; have r6 := s.out; obtain ⟨m5, m6, m7, m8, m9, n0, n1, n2⟩ := xP q.out; obtain ⟨n3, n4, n5, n6⟩ := yM j.out) | ((with_reducible refine gf 68 rfl ?_); refine gL (some 23) rfl rfl Tryz.func68 rfl #[.agg #[.int .i64 ((vk l0 d).f0), .int .i64 ((vk l0 d).f1), .int .i64 ((vk l0 d).f2), .int .i64 ((vk l0 d).f3)], .agg #[.bool E, .int .i64 G]] rfl ?_; (with_reducible refine (wq.calls k1 ((vk l0 d).f0) ((vk l0 d).f1) ((vk l0 d).f2) ((vk l0 d).f3) E G e5 false _ A7.out).mono ?_); rintro e r7 ⟨rfl, hb⟩; refine ⟨_, rfl, ?_⟩; have n_ := aC (vp (g := a2) (o := .cells #[.bool E, .int .i64 G] 69 (0, 0)) (by (with_reducible repeat first | apply vm | apply vn | apply vl); refine wk ?_ s.out _; (with_reducible repeat first | apply vm | apply vn | apply vl); refine wk ?_ s.out _; (with_reducible repeat first | apply vm | apply vn | apply vl); refine wk ?_ s.out _; (with_reducible repeat first | apply vm | apply vn | apply vl); refine wk ?_ s.out _; (with_reducible repeat first | apply vm | apply vn | apply vl); exact j.out) hb) (aC (vp (g := u) (o := .cells #[.int .i64 ((vk l0 d).f0), .int .i64 ((vk l0 d).f1), .int .i64 ((vk l0 d).f2), .int .i64 ((vk l0 d).f3)] 105 (0, 0)) (by (with_reducible repeat first | apply vm | apply vn | apply vl); refine vt (cs := #[.int .i64 ((vk l0 d).f0), .int .i64 ((vk l0 d).f1), .int .i64 ((vk l0 d).f2), .int .i64 0]) ?_ 3 _ rfl; (with_reducible repeat first | apply vm | apply vn | apply vl); refine vt (cs := #[.int .i64 ((vk l0 d).f0), .int .i64 ((vk l0 d).f1), .int .i64 0, .int .i64 0]) ?_ 2 _ rfl; (with_reducible repeat first | apply vm | apply vn | apply vl); refine vt (cs := #[.int .i64 ((vk l0 d).f0), .int .i64 0, .int .i64 0, .int .i64 0]) ?_ 1 _ rfl; (with_reducible repeat first | apply vm | apply vn | apply vl); refine vt (cs := #[.int .i64 0, .int .i64 0, .int .i64 0, .int .i64 0]) ?_ 0 _ rfl; (with_reducible repeat first | apply vm | apply vn | apply vl); exact q.out) hb) (aE (bs hb))); clear j q HB; obtain ⟨j, q, HB⟩ := n_))
        have n_ := aC (vn j.out) (aC (vn q.out) (aE (vy HB.out)))
        clear j q HB
        obtain ⟨j, q, HB⟩ := n_
        refine st 28 (fun w' => w'.cell? ⟨u, 0, none⟩ = some (.int .i64 ((vk l0 d).f0)) ∧ w'.cell? ⟨u, 1, none⟩ = some (.int .i64 ((vk l0 d).f1)) ∧ w'.cell? ⟨u, 2, none⟩ = some (.int .i64 ((vk l0 d).f2)) ∧ w'.cell? ⟨u, 3, none⟩ = some (.int .i64 ((vk l0 d).f3))) [] (bv 28 0) vu.tab6 vu.qS ⟨jB q.out, jz q.out, jK q.out, kw q.out⟩ (fun hHeld HT_ HW_ => ?_)
        generalize r7.drew = v4 at j q HB hHeld ⊢
        refine tk 0 26 (bv 28 1) HT_ HW_ hHeld rfl rfl (by rintro w' ⟨s0, s1, s2, s3⟩; exact yl) ?_
        refine yA (i := 1) (N := some 27) (bv 28 3) rfl rfl (xl HT_.out (by kernel_rfl)) (by decide) (fun K hK => ?_)
        refine gK Tryz.func69 rfl #[.agg #[.int .i64 ((vk l0 d).f0), .int .i64 ((vk l0 d).f1), .int .i64 ((vk l0 d).f2), .int .i64 ((vk l0 d).f3)]] rfl rfl ?_
        with_reducible refine (xy.calls ((vk l0 d).f0) ((vk l0 d).f1) ((vk l0 d).f2) ((vk l0 d).f3) true _ A8.out).mono ?_
        rintro e v5 ⟨rfl, hb⟩
        refine ⟨_, rfl, ?_⟩
        have n_ := aC (vp (bU j.out) hb) (aC (vp (g := u) (o := .cells #[.int .i64 ((vk l0 d).f0), .int .i64 ((vk l0 d).f1), .int .i64 ((vk l0 d).f2), .int .i64 ((vk l0 d).f3)] 105 (0, 0)) (bU q.out) hb) (aE (bs hb)))
        clear j q HB
        obtain ⟨j, q, HB⟩ := n_
        (try clear hb)
        (try clear f5)
        (try clear hk)
        (try clear hi)
        refine hK.out _ _ ⟨jB q.out, jz q.out, jK q.out, kw q.out⟩ (fun hHeld => ?_)
        clear hK K
        refine nm (some 27) ?_
        refine pu 2 28 (bv 28 7) HT_ rfl rfl ?_
        refine pu 3 29 (bv 28 15) HT_ rfl rfl ?_
        refine pu 4 30 (bv 28 31) HT_ rfl rfl ?_
        refine pu 5 31 (bv 28 63) HT_ rfl rfl ?_
        refine pn 6 32 (bv 28 127) HT_ rfl rfl ?_
        refine pn 7 33 (bv 28 255) HT_ rfl rfl ?_
        refine pn 8 34 (bv 28 511) HT_ rfl rfl ?_
        refine pn 9 35 (bv 28 1023) HT_ rfl rfl ?_
        refine pn 10 36 (bv 28 2047) HT_ rfl rfl ?_
        refine pn 11 37 (bv 28 4095) HT_ rfl rfl ?_
        refine pn 12 38 (bv 28 8191) HT_ rfl rfl ?_
        refine pn 13 39 (bv 28 16383) HT_ rfl rfl ?_
        refine pn 14 40 (bv 28 32767) HT_ rfl rfl ?_
        refine pn 15 41 (bv 28 65535) HT_ rfl rfl ?_
        refine pn 16 42 (bv 28 131071) HT_ rfl rfl ?_
        refine pn 17 43 (bv 28 262143) HT_ rfl rfl ?_
        refine pn 18 44 (bv 28 524287) HT_ rfl rfl ?_
        refine pn 19 45 (bv 28 1048575) HT_ rfl rfl ?_
        refine pn 20 46 (bv 28 2097151) HT_ rfl rfl ?_
        refine pn 21 47 (bv 28 4194303) HT_ rfl rfl ?_
        refine pn 22 48 (bv 28 8388607) HT_ rfl rfl ?_
        refine pn 23 49 (bv 28 16777215) HT_ rfl rfl ?_
        refine pn 24 50 (bv 28 33554431) HT_ rfl rfl ?_
        refine pn 25 51 (bv 28 67108863) HT_ rfl rfl ?_
        refine pn 26 52 (bv 28 134217727) HT_ rfl rfl ?_
        refine pu 27 53 (bv 28 268435455) HT_ rfl rfl ?_
        refine zd (xZ HT_.out (by kernel_rfl)) ?_
        try go_wp2
        go_roundg k1
        case measure => have := e0.out; omega
        case rel => exact ⟨(r), (wrap64 (d + 1)), rq, rq, H', ⟨by have := e0.out; omega⟩, ⟨bU j.out⟩, ⟨bl⟩⟩
      ·replace c9 := Bool.eq_false_iff.mpr c9
       subst c9
       rw [if_neg Bool.false_ne_true] at H
       have H' := aE H
       clear H
       have J : 0 ≤ (d : Int) := dt
       have L : d < (l0.length : Int) := dt
       obtain ⟨t, b2, x, y, z, B⟩ := xr d5.out d J L
       cases b2
       replace x := hcB HB.out x
       replace y := hcB HB.out y
       replace z := hcB HB.out z
       replace B := hcB HB.out B
       replace J := eq_true J
       replace L := eq_true L
       try go_wp2_with (first | ((with_reducible refine gd 8 rfl ?_); refine bx 8 #[.int .i64 0, .int .i64 0, .int .i64 0, .int .i64 0] 105 rfl rfl ?_; intro u hg v7 hbox hb; have n_ := aC (vp (bU j.out) hb) (aC (bs hb) (aC hbox (aC (gz hg) (aC (gz hg) (aC (gn hg (bU j.out)) (aE (gm hg (bU j.out)))))))); clear j HB; obtain ⟨j, HB, q, e1, e2, s, D⟩ := n_; clear hb hbox hg; have r8 := D.out; have r9 := s.out; obtain ⟨n7, n8, n9, o0, o1, o2, o3, o4⟩ := xP q.out; obtain ⟨o5, o6, o7, o8⟩ := yM j.out) | ((with_reducible refine gf 68 rfl ?_); refine gL (some 23) rfl rfl Tryz.func68 rfl #[.agg #[.int .i64 ((vk l0 d).f0), .int .i64 ((vk l0 d).f1), .int .i64 ((vk l0 d).f2), .int .i64 ((vk l0 d).f3)], .agg #[.bool E, .int .i64 G]] rfl ?_; (with_reducible refine (wq.calls k1 ((vk l0 d).f0) ((vk l0 d).f1) ((vk l0 d).f2) ((vk l0 d).f3) E G e5 h5 _ A7.out).mono ?_); rintro e t0 ⟨rfl, hb⟩; refine ⟨_, rfl, ?_⟩; have n_ := aC (vp (g := a2) (o := .cells #[.bool E, .int .i64 G] 69 (0, 0)) (by (with_reducible repeat first | apply vm | apply vn | apply vl); refine wk ?_ s.out _; (with_reducible repeat first | apply vm | apply vn | apply vl); refine wk ?_ s.out _; (with_reducible repeat first | apply vm | apply vn | apply vl); refine wk ?_ s.out _; (with_reducible repeat first | apply vm | apply vn | apply vl); refine wk ?_ s.out _; (with_reducible repeat first | apply vm | apply vn | apply vl); exact j.out) hb) (aC (vp (g := u) (o := .cells #[.int .i64 ((vk l0 d).f0), .int .i64 ((vk l0 d).f1), .int .i64 ((vk l0 d).f2), .int .i64 ((vk l0 d).f3)] 105 (0, 0)) (by (with_reducible repeat first | apply vm | apply vn | apply vl); refine vt (cs := #[.int .i64 ((vk l0 d).f0), .int .i64 ((vk l0 d).f1), .int .i64 ((vk l0 d).f2), .int .i64 0]) ?_ 3 _ rfl; (with_reducible repeat first | apply vm | apply vn | apply vl); refine vt (cs := #[.int .i64 ((vk l0 d).f0), .int .i64 ((vk l0 d).f1), .int .i64 0, .int .i64 0]) ?_ 2 _ rfl; (with_reducible repeat first | apply vm | apply vn | apply vl); refine vt (cs := #[.int .i64 ((vk l0 d).f0), .int .i64 0, .int .i64 0, .int .i64 0]) ?_ 1 _ rfl; (with_reducible repeat first | apply vm | apply vn | apply vl); refine vt (cs := #[.int .i64 0, .int .i64 0, .int .i64 0, .int .i64 0]) ?_ 0 _ rfl; (with_reducible repeat first | apply vm | apply vn | apply vl); exact q.out) hb) (aE (bs hb))); clear j q HB; obtain ⟨j, q, HB⟩ := n_))
       have n_ := aC (vn j.out) (aC (vn q.out) (aE (vy HB.out)))
       clear j q HB
       obtain ⟨j, q, HB⟩ := n_
       refine st 28 (fun w' => w'.cell? ⟨u, 0, none⟩ = some (.int .i64 ((vk l0 d).f0)) ∧ w'.cell? ⟨u, 1, none⟩ = some (.int .i64 ((vk l0 d).f1)) ∧ w'.cell? ⟨u, 2, none⟩ = some (.int .i64 ((vk l0 d).f2)) ∧ w'.cell? ⟨u, 3, none⟩ = some (.int .i64 ((vk l0 d).f3))) [] (bv 28 0) vu.tab6 vu.qS ⟨jB q.out, jz q.out, jK q.out, kw q.out⟩ (fun hHeld HT_ HW_ => ?_)
       generalize t0.drew = v8 at j q HB hHeld ⊢
       refine tk 0 26 (bv 28 1) HT_ HW_ hHeld rfl rfl (by rintro w' ⟨s0, s1, s2, s3⟩; exact yl) ?_
       refine yA (i := 1) (N := some 27) (bv 28 3) rfl rfl (xl HT_.out (by kernel_rfl)) (by decide) (fun K hK => ?_)
       refine gK Tryz.func69 rfl #[.agg #[.int .i64 ((vk l0 d).f0), .int .i64 ((vk l0 d).f1), .int .i64 ((vk l0 d).f2), .int .i64 ((vk l0 d).f3)]] rfl rfl ?_
       with_reducible refine (xy.calls ((vk l0 d).f0) ((vk l0 d).f1) ((vk l0 d).f2) ((vk l0 d).f3) false _ A8.out).mono ?_
       rintro e v9 ⟨rfl, hb⟩
       refine ⟨_, rfl, ?_⟩
       have n_ := aC (vp (bU j.out) hb) (aC (vp (g := u) (o := .cells #[.int .i64 ((vk l0 d).f0), .int .i64 ((vk l0 d).f1), .int .i64 ((vk l0 d).f2), .int .i64 ((vk l0 d).f3)] 105 (0, 0)) (bU q.out) hb) (aE (bs hb)))
       clear j q HB
       obtain ⟨j, q, HB⟩ := n_
       (try clear hb)
       (try clear f5)
       (try clear hk)
       (try clear hi)
       refine hK.out _ _ ⟨jB q.out, jz q.out, jK q.out, kw q.out⟩ (fun hHeld => ?_)
       clear hK K
       refine nm (some 27) ?_
       refine pu 2 28 (bv 28 7) HT_ rfl rfl ?_
       refine pn 3 29 (bv 28 15) HT_ rfl rfl ?_
       refine pu 4 30 (bv 28 31) HT_ rfl rfl ?_
       refine pu 5 31 (bv 28 63) HT_ rfl rfl ?_
       refine pn 6 32 (bv 28 127) HT_ rfl rfl ?_
       refine pn 7 33 (bv 28 255) HT_ rfl rfl ?_
       refine pn 8 34 (bv 28 511) HT_ rfl rfl ?_
       refine pn 9 35 (bv 28 1023) HT_ rfl rfl ?_
       refine pn 10 36 (bv 28 2047) HT_ rfl rfl ?_
       refine pn 11 37 (bv 28 4095) HT_ rfl rfl ?_
       refine pn 12 38 (bv 28 8191) HT_ rfl rfl ?_
       refine pn 13 39 (bv 28 16383) HT_ rfl rfl ?_
       refine pn 14 40 (bv 28 32767) HT_ rfl rfl ?_
       refine pn 15 41 (bv 28 65535) HT_ rfl rfl ?_
       refine pn 16 42 (bv 28 131071) HT_ rfl rfl ?_
       refine pn 17 43 (bv 28 262143) HT_ rfl rfl ?_
       refine pn 18 44 (bv 28 524287) HT_ rfl rfl ?_
       refine pn 19 45 (bv 28 1048575) HT_ rfl rfl ?_
       refine pn 20 46 (bv 28 2097151) HT_ rfl rfl ?_
       refine pn 21 47 (bv 28 4194303) HT_ rfl rfl ?_
       refine pn 22 48 (bv 28 8388607) HT_ rfl rfl ?_
       refine pn 23 49 (bv 28 16777215) HT_ rfl rfl ?_
       refine pn 24 50 (bv 28 33554431) HT_ rfl rfl ?_
       refine pn 25 51 (bv 28 67108863) HT_ rfl rfl ?_
       refine pn 26 52 (bv 28 134217727) HT_ rfl rfl ?_
       refine pu 27 53 (bv 28 268435455) HT_ rfl rfl ?_
       refine zd (xZ HT_.out (by kernel_rfl)) ?_
       try go_wp2
       go_roundg k1
       case measure => have := e0.out; omega
       case rel => exact ⟨(r), (wrap64 (d + 1)), rq, rq, H', ⟨by have := e0.out; omega⟩, ⟨bU j.out⟩, ⟨bl⟩⟩
     ·rw [if_neg c6] at H
      exact nB H
    ·rw [if_neg c5] at H
     exact nB H
   ·rcases iL H with H1 | H1 <;> clear H <;> obtain ⟨H, t1⟩ := H1
    ·simp only [Option.some.injEq, Prod.mk.injEq] at H
     obtain ⟨rfl, rfl⟩ := H
     go_wp2
     go_ret2
     exact ⟨_, re, by first | exact Kd.yu _ _ _ _ _ | exact Kd.yR _ _ _ _ _ | exact Kd.yS _ _ _ _ _ | exact Kd.yP _ _ _ _ _ | exact Kd.yV _ _ _ _ _, bl⟩
    ·by_cases g9 : 0 ≤ r
     ·rw [if_pos g9] at H
      have t2 := decide_eq_true g9
      clear g9
      by_cases h3 : r < (l0.length : Int)
      ·rw [if_pos h3] at H
       have t3 := decide_eq_true h3
       clear h3
       obtain ⟨⟨g2, o9⟩, t4, H⟩ := oB H
       try dsimp only at H
       obtain ⟨f8, t5, H⟩ := oB H
       try dsimp only at H
       obtain ⟨e6, t6, H⟩ := oB H
       try dsimp only at H
       by_cases h4 : f8.length + e6.length < 140737488355328
       ·rw [if_pos h4] at H
        have h7 := aE h4
        clear h4
        obtain ⟨p0, hy_⟩ : ∃ y_ : List Int, y_ = (f8 ++ e6) := ⟨_, rfl⟩
        replace H : (some (p0, true)) = some (r1, r2) := rh
        have h8 := aE hy_
        clear hy_
        simp only [Option.some.injEq, Prod.mk.injEq] at H
        obtain ⟨rfl, rfl⟩ := H
        try go_wp2
        have n_ := aC (vn j.out) (aE (vy HB.out))
        clear j HB
        obtain ⟨j, HB⟩ := n_
        have g3 : 0 ≤ (r : Int) := dt
        have g4 : r < (l0.length : Int) := dt
        obtain ⟨I, p1, b3, b4, b5, b6⟩ := xr d5.out r g3 g4
        have e7 := b6
        have e8 := b5
        have e9 := b4
        have f4 := b3
        cases p1
        replace b3 := hcB HB.out b3
        replace b4 := hcB HB.out b4
        replace b5 := hcB HB.out b5
        replace b6 := hcB HB.out b6
        replace g3 := eq_true g3
        replace g4 := eq_true g4
        refine st 11 (fun w' => w'.cell? ⟨a2, 0, none⟩ = some (.bool E) ∧ w'.cell? ⟨a2, 1, none⟩ = some (.int .i64 G) ∧ w'.cell? (I.add ((r).toNat * 4)) = some (.int .i64 ((vk l0 r).f0)) ∧ w'.cell? ⟨(I.add ((r).toNat * 4)).block, (I.add ((r).toNat * 4)).off + 1, none⟩ = some (.int .i64 ((vk l0 r).f1)) ∧ w'.cell? ⟨(I.add ((r).toNat * 4)).block, (I.add ((r).toNat * 4)).off + 2, none⟩ = some (.int .i64 ((vk l0 r).f2)) ∧ w'.cell? ⟨(I.add ((r).toNat * 4)).block, (I.add ((r).toNat * 4)).off + 3, none⟩ = some (.int .i64 ((vk l0 r).f3))) [] (bv 11 0) vu.tab11 vu.bits11 ⟨jB j.out, jz j.out, (hcB HB.out f4), (hcB HB.out e9), (hcB HB.out e8), (hcB HB.out e7)⟩ (fun hHeld HT_ HW_ => ?_)
        generalize wr.drew = w1 at j HB b3 b4 b5 b6 hHeld ⊢
        refine pu 0 59 (bv 11 1) HT_ rfl rfl ?_
        refine pu 1 60 (bv 11 3) HT_ rfl rfl ?_
        refine pu 2 61 (bv 11 7) HT_ rfl rfl ?_
        refine tk 3 62 (bv 11 15) HT_ HW_ hHeld rfl rfl (by rintro w' ⟨s0, s1, s2, s3, s4, s5⟩; exact yl) ?_
        refine tk 4 63 (bv 11 31) HT_ HW_ hHeld rfl rfl (by rintro w' ⟨s0, s1, s2, s3, s4, s5⟩; exact yl) ?_
        refine yA (i := 5) (N := some 64) (bv 11 63) rfl rfl (xl HT_.out (by kernel_rfl)) (by decide) (fun K hK => ?_)
        refine gK Tryz.func68 rfl #[.agg #[.int .i64 ((vk l0 r).f0), .int .i64 ((vk l0 r).f1), .int .i64 ((vk l0 r).f2), .int .i64 ((vk l0 r).f3)], .agg #[.bool E, .int .i64 G]] rfl rfl ?_
        with_reducible refine (wq.calls k1 ((vk l0 r).f0) ((vk l0 r).f1) ((vk l0 r).f2) ((vk l0 r).f3) E G g2 o9 _ t4.out).mono ?_
        rintro e t7 ⟨rfl, hb⟩
        refine ⟨_, rfl, ?_⟩
        have n_ := aC (vp (bU j.out) hb) (aE (bs hb))
        clear j HB
        obtain ⟨j, HB⟩ := n_
        (try clear hb)
        (try clear f5)
        (try clear hk)
        (try clear hi)
        refine hK.out _ _ ⟨jB j.out, jz j.out, (hcB HB.out f4), (hcB HB.out e9), (hcB HB.out e8), (hcB HB.out e7)⟩ (fun hHeld => ?_)
        clear hK K
        refine nm (some 64) ?_
        refine pu 6 58 (bv 11 127) HT_ rfl rfl ?_
        refine pu 7 65 (bv 11 255) HT_ rfl rfl ?_
        refine pu 8 66 (bv 11 511) HT_ rfl rfl ?_
        refine pu 9 11 (bv 11 1023) HT_ rfl rfl ?_
        refine pu 10 12 (bv 11 2047) HT_ rfl rfl ?_
        refine zd (xZ HT_.out (by kernel_rfl)) ?_
        try go_wp2
        have n_ := aC (vn j.out) (aE (vy HB.out))
        clear j HB
        obtain ⟨j, HB⟩ := n_
        have g5 : 0 ≤ (r : Int) := dt
        have g6 : r < (l0.length : Int) := dt
        obtain ⟨h9, p2, b7, b8, b9, c1⟩ := xr d5.out r g5 g6
        have d0 := c1
        have d1 := b9
        have d2 := b8
        have d3 := b7
        obtain rfl : I = h9 := (by injection p2)
        replace b7 := hcB HB.out b7
        replace b8 := hcB HB.out b8
        replace b9 := hcB HB.out b9
        replace c1 := hcB HB.out c1
        replace g5 := eq_true g5
        replace g6 := eq_true g6
        refine st 13 (fun w' => w'.cell? (I.add ((r).toNat * 4)) = some (.int .i64 ((vk l0 r).f0)) ∧ w'.cell? ⟨(I.add ((r).toNat * 4)).block, (I.add ((r).toNat * 4)).off + 1, none⟩ = some (.int .i64 ((vk l0 r).f1)) ∧ w'.cell? ⟨(I.add ((r).toNat * 4)).block, (I.add ((r).toNat * 4)).off + 2, none⟩ = some (.int .i64 ((vk l0 r).f2)) ∧ w'.cell? ⟨(I.add ((r).toNat * 4)).block, (I.add ((r).toNat * 4)).off + 3, none⟩ = some (.int .i64 ((vk l0 r).f3))) [] (bv 13 0) vu.tab12 vu.bits12 ⟨(hcB HB.out d3), (hcB HB.out d2), (hcB HB.out d1), (hcB HB.out d0)⟩ (fun hHeld HT_ HW_ => ?_)
        generalize t7.drew = w2 at j HB b7 b8 b9 c1 hHeld ⊢
        refine pu 0 67 (bv 13 1) HT_ rfl rfl ?_
        refine pu 1 68 (bv 13 3) HT_ rfl rfl ?_
        refine pu 3 70 (bv 13 11) HT_ rfl rfl ?_
        refine pu 4 71 (bv 13 27) HT_ rfl rfl ?_
        refine pu 5 72 (bv 13 59) HT_ rfl rfl ?_
        refine pu 6 73 (bv 13 123) HT_ rfl rfl ?_
        refine pu 7 74 (bv 13 251) HT_ rfl rfl ?_
        refine tk 8 75 (bv 13 507) HT_ HW_ hHeld rfl rfl (by rintro w' ⟨s0, s1, s2, s3⟩; exact yl) ?_
        refine yA (i := 2) (N := some 69) (bv 13 511) rfl rfl (xl HT_.out (by kernel_rfl)) (by decide) (fun K hK => ?_)
        refine gK Tryz.func70 rfl #[.slice (some I) l0.length c0, .int .i64 r] rfl rfl ?_
        with_reducible refine (vw.calls k1 _ _ l0 r f8 _ ?side1 ?side2 t5.out).mono ?_
        (case side1 => exact cU (Kd.wz d5.out HB.out))
        (case side2 => exact p6.out)
        rintro e w4 ⟨p3, rfl, f9, hb⟩
        refine ⟨_, rfl, ?_⟩
        have n_ := aC (Kd.vS f9 bz) (aC (vp (bU j.out) hb) (aE (bs hb)))
        clear j HB
        obtain ⟨b1, j, HB⟩ := n_
        (try clear hb)
        (try clear f5)
        (try clear hk)
        (try clear hi)
        (try clear f9)
        refine hK.out _ _ ⟨(hcB HB.out d3), (hcB HB.out d2), (hcB HB.out d1), (hcB HB.out d0)⟩ (fun hHeld => ?_)
        clear hK K
        refine nm (some 69) ?_
        refine yA (i := 9) (N := some 76) (bv 13 1023) rfl rfl (xl HT_.out (by kernel_rfl)) (by decide) (fun K hK => ?_)
        refine gK Tryz.func71 rfl #[.int .i64 g2, .int .i64 ((vk l0 r).f1)] rfl rfl ?_
        with_reducible refine (vV.calls k1 g2 ((vk l0 r).f1) e6 _ t6.out).mono ?_
        rintro e w5 ⟨u1, rfl, f9, hb⟩
        refine ⟨_, rfl, ?_⟩
        have n_ := aC (Kd.R_elder' (rU b1.out) (Kd.xc f9) hb) (aC (Kd.vS (Kd.R_new' f9 (Kd.xW (rU b1.out))) bz) (aC (vp (bU j.out) hb) (aE (bs hb))))
        clear b1 j HB
        obtain ⟨b1, d4, j, HB⟩ := n_
        (try clear hb)
        (try clear f5)
        (try clear hk)
        (try clear hi)
        (try clear f9)
        obtain ⟨p4, p5, h6⟩ := Kd.vY d4.out
        (first | subst h6 | (injection h6 with f1_ f2_ f3_; have f4_ := f1_.symm; have f5_ := f3_.symm; clear f1_ f2_ f3_; subst f4_; subst f5_))
        refine hK.out _ _ ⟨(hcB HB.out d3), (hcB HB.out d2), (hcB HB.out d1), (hcB HB.out d0)⟩ (fun hHeld => ?_)
        clear hK K
        refine nm (some 76) ?_
        refine yA (i := 10) (N := some 77) (bv 13 2047) rfl rfl (xl HT_.out (by kernel_rfl)) (by decide) (fun K hK => ?_)
        refine Kd.xJ (Kd.int .u8) (w0 := w) w.heap.size (by rfl) (.tmp 69) (.tmp 76) 22 5 (.int .u8 0) 1 rfl Tryz.underlying22 info5 rfl (by decide) (by omega) p3 f8 e6 _ _ _ (fun k_ => some k_ ≠ (.slice p4 e6.length p5 : Value).ownBlock) (fun _ => False) rfl rfl ?aO ?aR (fun _ _ h => h) (fun _ h => h.elim) ?aF ?aB ?aS ?aL ?_
        (case aR => repeat (first | exact (Kd.R_reads' d4.out).2.2 | (with_reducible refine Kd.yi ?_ _) | (with_reducible refine Kd.yg ?_ _) | (with_reducible refine Kd.yr ?_)))
        (case aB => exact bl)
        (case aF => exact (fun k_ hk => Kd.fresh' (Kd.xW (rU d4.out)) k_ hk))
        (case aO => exact (rU (Kd.vU b1.out (fun _ hk => hk.2))))
        (case aS => exact bz)
        (case aL => have := h7.out; omega)
        intro u2 w6 ho hb hg hat
        rw [← h8.out] at ho
        have n_ := aC (xz (bU j.out) hg (Kd.ja b1.out j.out (by decide))) (aC (Kd.yG (ok := (fun _ => True)) (rU d4.out) hg hat) (aC hb (aE ho)))
        clear j d4 HB b1
        obtain ⟨j, d4, HB, i0⟩ := n_
        clear ho hb hg hat
        refine hK.out _ _ ⟨(hcB HB.out d3), (hcB HB.out d2), (hcB HB.out d1), (hcB HB.out d0)⟩ (fun hHeld => ?_)
        clear hK K
        refine nm (some 77) ?_
        refine pu 11 4 (bv 13 4095) HT_ rfl rfl ?_
        refine pu 12 5 (bv 13 8191) HT_ rfl rfl ?_
        refine zd (xZ HT_.out (by kernel_rfl)) ?_
        try go_wp2
        go_ret2
        exact ⟨_, re, rU (Kd.vU i0.out (fun _ hk => trivial)), bl⟩
       ·rw [if_neg h4] at H
        exact nB H
      ·rw [if_neg h3] at H
       exact nB H
     ·rw [if_neg g9] at H
      exact nB H
end Go.Proofs.YtknclbodinfbeaaGreatDoor.PRunsBack
