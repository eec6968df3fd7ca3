-- printed (wip/tools/myprint.py)
import Derived.Test.YtknclbodinfbeaaGreatDoorPRunsBackx0
import Derived.Test.YtknclbodinfbeaaGreatDoorPRunsBackx20
namespace Go.Proofs.YtknclbodinfbeaaGreatDoor.PRunsBack
open Go.RowKit Go.Proofs.YtknclbodinfbeaaGreatDoorW.PrintWords Go.Proofs.YtknclbodinfbeaaGreatDoorW.PrintLast Go.Proofs.YtknclbodinfbeaaGreatDoorW.PrintMore
attribute [local go_sem] yo ym yC yD xU xT yn yq
set_option linter.unusedVariables false
set_option linter.unusedSimpArgs false
set_option maxHeartbeats 8000000
set_option maxRecDepth 100000
mutual
def vx.j0 : Nat → Bool → Int → Int → List Int → Int → Int → List Int → Option (Bool)
 | 0, _, _, _, _, _, _, _ => none
 | k + 1, t, e, j, d, q, r, s => if t = true then (some false) else (vx.l0 k (d.length : Int) 0 e j d q r s)
def vx.l0 : Nat → Int → Int → Int → Int → List Int → Int → Int → List Int → Option (Bool)
 | 0, _, _, _, _, _, _, _, _ => none
 | k + 1, u, j, q, r, d, s, t, e => if j < u then (if 0 ≤ j then (if j < (d.length : Int) then (if j < (e.length : Int) then (if (rd d j) = (rd e j) then (vx.l0 k u (wrap64 (j + 1)) q r d s t e) else (some false)) else (none)) else (none)) else (none)) else (some true)
end
def vx.f (k : Nat) (d : Int) (e : Int) (j : List Int) (q : Int) (r : Int) (s : List Int) : Option (Bool) := if d = q then (if e = r then (vx.j0 k ((j.length : Int) != (s.length : Int)) d e j q r s) else (vx.j0 k true d e j q r s)) else (vx.j0 k true d e j q r s)
theorem vx.wt : ∀ k, (∀ y0 y1 y2 y3 y4 y5 y6, vK (vx.j0 k y0 y1 y2 y3 y4 y5 y6) (vx.j0 (k + 1) y0 y1 y2 y3 y4 y5 y6)) ∧ (∀ y0 y1 y2 y3 y4 y5 y6 y7, vK (vx.l0 k y0 y1 y2 y3 y4 y5 y6 y7) (vx.l0 (k + 1) y0 y1 y2 y3 y4 y5 y6 y7))
 | 0 => ⟨fun _ _ _ _ _ _ _ r h => by simp [vx.j0] at h, fun _ _ _ _ _ _ _ _ r h => by simp [vx.l0] at h⟩
 | k + 1 => by
  obtain ⟨ih0, ih1⟩ := vx.wt k
  refine ⟨?_, ?_⟩
  ·intro y0 y1 y2 y3 y4 y5 y6
   unfold vx.j0
   repeat' first
   | (with_reducible exact ih0 _ _ _ _ _ _ _)
   | (with_reducible exact ih1 _ _ _ _ _ _ _ _)
   | (with_reducible first | exact vK.refl _ | exact vK.none _ | apply vK.ite | apply vK.bind | intro)
  ·intro y0 y1 y2 y3 y4 y5 y6 y7
   unfold vx.l0
   repeat' first
   | (with_reducible exact ih0 _ _ _ _ _ _ _)
   | (with_reducible exact ih1 _ _ _ _ _ _ _ _)
   | (with_reducible first | exact vK.refl _ | exact vK.none _ | apply vK.ite | apply vK.bind | intro)
theorem vx.mono : ∀ a0 a1 a2 a3 a4 a5 k, vK (vx.f k a0 a1 a2 a3 a4 a5) (vx.f (k + 1) a0 a1 a2 a3 a4 a5) := by
 intro a0 a1 a2 a3 a4 a5 k
 obtain ⟨ih0, ih1⟩ := vx.wt k
 unfold vx.f
 repeat' first
   | (with_reducible exact ih0 _ _ _ _ _ _ _)
   | (with_reducible exact ih1 _ _ _ _ _ _ _ _)
   | (with_reducible first | exact vK.refl _ | exact vK.none _ | apply vK.ite | apply vK.bind | intro)
theorem vx.calls (k : Nat) (B : Int) (D : Int) (T : Option Addr) (X : Nat) (u : List Int) (E : Int) (G : Int) (Y : Option Addr) (Z : Nat) (x : List Int) (r : Bool) (w : World) (hr0_2 : Kd.C (Kd.int .u8) w T u.length u) (a1 : u.length ≤ X) (hr1_2 : Kd.C (Kd.int .u8) w Y x.length x) (a2 : x.length ≤ Z) (h : vx.f k B D u E G x = some r) :
  Calls Tryz.prog 10 #[.agg #[.int .i64 B, .int .i64 D, .slice T u.length X], .agg #[.int .i64 E, .int .i64 G, .slice Y x.length Z]] w fun e w' => e = .returned (.bool r) ∧ Below w.heap.size w w' := by
 have hu24 := Tryz.underlying24
 have a3 := aE hr0_2
 have j7 := aE a1
 clear hr0_2 a1
 have a4 := aE hr1_2
 have j8 := aE a2
 clear hr1_2 a2
 have HB := bR w
 have H := h
 unfold vx.f at H
 clear h
 have b3 := aE H
 clear H
 go_enter Tryz.func10, Tryz.ntmps10
 go_upto_region 1 with (first | ((with_reducible refine gd 2 rfl ?_); (try (refine xK (by rfl) ?_; dsimp only)); refine bx 2 #[.int .i64 B, .int .i64 D, .slice T u.length X] 24 rfl rfl ?_; intro a5 hg w4 hbox hb; have n_ := aC (bs hb) (aC hbox (aC (gz hg) (aE (gz hg)))); clear HB; obtain ⟨HB, j, j9, k0⟩ := n_; clear hb hbox hg) | ((with_reducible refine gd 3 rfl ?_); (try (refine xK (by rfl) ?_; dsimp only)); refine bx 3 #[.int .i64 E, .int .i64 G, .slice Y x.length Z] 24 rfl rfl ?_; intro a6 hg w5 hbox hb; have n_ := aC (vp (bU j.out) hb) (aC (bs hb) (aC hbox (aC (gz hg) (aC (gz hg) (aC (gn hg (bU j.out)) (aE (gm hg (bU j.out)))))))); clear j HB; obtain ⟨j, HB, t, k1, k3, q, s⟩ := n_; clear hb hbox hg))
 (try simp only [Act.put, List.setIfInBounds_toArray, List.set_cons_zero, List.set_cons_succ])
 go_cut [26] (fun k4 wc => ∃ (kq : Nat) (O : Bool), k4 = .bool O ∧ Aside0 (vx.j0 kq O B D u E G x = some r) ∧ Aside0 (kq ≤ k) ∧ Aside0 (wc.heap[a5]? = some (.cells #[.int .i64 B, .int .i64 D, (.slice T u.length X)] 24 (0, 0))) ∧ Aside0 (wc.heap[a6]? = some (.cells #[.int .i64 E, .int .i64 G, (.slice Y x.length Z)] 24 (0, 0))) ∧ Aside0 (Below w.heap.size w wc))
 case first =>
  have H := b3.out
  clear b3
  rcases iE H with H1 | H1 <;> clear H <;> obtain ⟨H, a0, m4, c6⟩ := H1
  ·(first | rw [a0] | (simp only [xS, zK]; rw [a0]) | skip)
   rcases iE H with H1 | H1 <;> clear H <;> obtain ⟨H, m5, m6, c7⟩ := H1
   ·have H' := aE H
    clear H
    have m7 := q.out
    have m8 := s.out
    obtain ⟨i9, j2, j3, j4, j5, j6⟩ := yk j.out
    obtain ⟨b6, b7, b8, b9, c0, c1⟩ := yk t.out
    go_wp2
    go_meet
    case rel => exact ⟨_, (((u.length : Int) != (x.length : Int))), rq, H', ⟨by first | omega | exact Nat.le_refl _⟩, ⟨bU j.out⟩, ⟨bU t.out⟩, ⟨bl⟩⟩
   ·have H' := aE H
    clear H
    have k5 := q.out
    have k6 := s.out
    obtain ⟨d0, d1, d2, d3, d4, d5⟩ := yk j.out
    obtain ⟨d6, d7, d8, d9, e0, e1⟩ := yk t.out
    go_wp2
    go_meet
    case rel => exact ⟨_, (true), rq, H', ⟨by first | omega | exact Nat.le_refl _⟩, ⟨bU j.out⟩, ⟨bU t.out⟩, ⟨bl⟩⟩
  ·(first | rw [a0] | (simp only [xS, zK]; rw [a0]) | skip)
   have H' := aE H
   clear H
   have k7 := q.out
   have k8 := s.out
   obtain ⟨e2, e3, e4, e5, e6, e7⟩ := yk j.out
   obtain ⟨e8, e9, f0, f1, f2, f3⟩ := yk t.out
   go_wp2
   go_meet
   case rel => exact ⟨_, (true), rq, H', ⟨by first | omega | exact Nat.le_refl _⟩, ⟨bU j.out⟩, ⟨bU t.out⟩, ⟨bl⟩⟩
 case rest =>
  clear b3
  obtain ⟨kq, O, rfl, HA, f4, j, t, HB⟩ := hcut
  cases kq with
  | zero => exact absurd HA.out (by simp [vx.j0])
  | succ kj2 =>
   have H := HA.out
   clear HA
   simp only [vx.j0] at H
   by_cases a9 : O = true
   ·subst a9
    rw [if_pos rfl] at H
    obtain rfl := Option.some.inj H
    go_wp2
    go_ret
    exact ⟨re, bl⟩
   ·replace a9 := Bool.eq_false_iff.mpr a9
    subst a9
    rw [if_neg Bool.false_ne_true] at H
    have H' := aE H
    clear H
    have k9 := q.out
    have l2 := s.out
    obtain ⟨f5, f6, f7, f8, f9, g0⟩ := yk j.out
    go_wp2
    go_loopg [30] kj2 (fun kq l3 w' => ∃ (d : Int), l3 = .int .i64 d ∧ Aside0 (vx.l0 kq (u.length : Int) d B D u E G x = some r) ∧ Aside0 (kq ≤ kj2) ∧ Aside0 (w'.heap[a5]? = some (.cells #[.int .i64 B, .int .i64 D, (.slice T u.length X)] 24 (0, 0))) ∧ Aside0 (w'.heap[a6]? = some (.cells #[.int .i64 E, .int .i64 G, (.slice Y x.length Z)] 24 (0, 0))) ∧ Aside0 (Below w.heap.size w w'))
    case atStart => exact ⟨(0), rq, H', ⟨Nat.le_refl _⟩, ⟨bU j.out⟩, ⟨bU t.out⟩, ⟨bl⟩⟩
    case round =>
     clear H'
     obtain ⟨d, rfl, HA, g1, j, t, HB⟩ := hrel
     cases gk with
     | zero => exact absurd HA.out (by simp [vx.l0])
     | succ k2 =>
      have H := HA.out
      clear HA
      simp only [vx.l0] at H
      rcases iL H with H1 | H1 <;> clear H <;> obtain ⟨H, l4⟩ := H1
      ·by_cases b0 : 0 ≤ d
       ·rw [if_pos b0] at H
        have l5 := decide_eq_true b0
        clear b0
        by_cases b1 : d < (u.length : Int)
        ·rw [if_pos b1] at H
         have l6 := decide_eq_true b1
         clear b1
         by_cases b2 : d < (x.length : Int)
         ·rw [if_pos b2] at H
          have l7 := decide_eq_true b2
          clear b2
          rcases iE H with H1 | H1 <;> clear H <;> obtain ⟨H, l8, l9, m9⟩ := H1
          ·have H' := aE H
           clear H
           have m0 := q.out
           have m1 := s.out
           obtain ⟨g2, g3, g4, g5, g6, g7⟩ := yk j.out
           have I : 0 ≤ (d : Int) := dt
           have J : d < (u.length : Int) := dt
           obtain ⟨b4, a7, y⟩ := Kd.yc a3.out d I J
           cases a7
           replace y := hcB HB.out y
           replace I := eq_true I
           replace J := eq_true J
           obtain ⟨g8, g9, h3, h4, h5, h6⟩ := yk t.out
           have L : 0 ≤ (d : Int) := dt
           have M : d < (x.length : Int) := dt
           obtain ⟨b5, a8, z⟩ := Kd.yc a4.out d L M
           cases a8
           replace z := hcB HB.out z
           replace L := eq_true L
           replace M := eq_true M
           go_wp2
           repeat (go_quiet (fail); try go_wp2)
           go_roundg k2
           case measure => have := f4.out; have := g1.out; omega
           case rel => exact ⟨(wrap64 (d + 1)), rq, H', ⟨by have := f4.out; have := g1.out; omega⟩, ⟨bU j.out⟩, ⟨bU t.out⟩, ⟨bl⟩⟩
          ·obtain rfl := Option.some.inj H
           have m2 := q.out
           have m3 := s.out
           obtain ⟨h7, h8, h9, i0, i1, i2⟩ := yk j.out
           have I : 0 ≤ (d : Int) := dt
           have J : d < (u.length : Int) := dt
           obtain ⟨b4, a7, y⟩ := Kd.yc a3.out d I J
           cases a7
           replace y := hcB HB.out y
           replace I := eq_true I
           replace J := eq_true J
           obtain ⟨i3, i4, i5, i6, i7, i8⟩ := yk t.out
           have L : 0 ≤ (d : Int) := dt
           have M : d < (x.length : Int) := dt
           obtain ⟨b5, a8, z⟩ := Kd.yc a4.out d L M
           cases a8
           replace z := hcB HB.out z
           replace L := eq_true L
           replace M := eq_true M
           go_wp2
           repeat (go_quiet (fail); try go_wp2)
           go_ret
           exact ⟨re, bl⟩
         ·rw [if_neg b2] at H
          exact nB H
        ·rw [if_neg b1] at H
         exact nB H
       ·rw [if_neg b0] at H
        exact nB H
      ·obtain rfl := Option.some.inj H
       go_wp2
       go_ret
       exact ⟨re, bl⟩
mutual
def vB.l0 : Nat → List Int → List Int → Int → Int → Option (List Int)
 | 0, _, _, _, _ => none
 | k + 1, x0, x3, x4, x5 => if x5 < (x0.length : Int) then (vB.l1 k x0 x3 x4 x5 0) else (some x3)
def vB.l1 : Nat → List Int → List Int → Int → Int → Int → Option (List Int)
 | 0, _, _, _, _, _ => none
 | k + 1, x0, x3, x4, x5, x6 => if (wrap64 (x5 + x6)) < (x0.length : Int) then (if 0 ≤ (wrap64 (x5 + x6)) then (if (rd x0 (wrap64 (x5 + x6))) = x4 then (vB.l1 k x0 x3 x4 x5 (wrap64 (x6 + 1))) else (if x3.length < 17592186044416 then (vB.l0 k x0 (x3 ++ [x6]) ((1 - x4) % 256) (wrap64 (x5 + x6))) else (none))) else (none)) else (if x3.length < 17592186044416 then (vB.l0 k x0 (x3 ++ [x6]) ((1 - x4) % 256) (wrap64 (x5 + x6))) else (none))
end
def vB.f (k : Nat) (l0 : List Int) : Option (List Int) := vB.l0 k l0 ([] : List Int) 0 0
theorem vB.wt : ∀ k, (∀ y0 y1 y2 y3, vK (vB.l0 k y0 y1 y2 y3) (vB.l0 (k + 1) y0 y1 y2 y3)) ∧ (∀ y0 y1 y2 y3 y4, vK (vB.l1 k y0 y1 y2 y3 y4) (vB.l1 (k + 1) y0 y1 y2 y3 y4))
 | 0 => ⟨fun _ _ _ _ r h => by simp [vB.l0] at h, fun _ _ _ _ _ r h => by simp [vB.l1] at h⟩
 | k + 1 => by
  obtain ⟨ih0, ih1⟩ := vB.wt k
  refine ⟨?_, ?_⟩
  ·intro y0 y1 y2 y3
   unfold vB.l0
   repeat' first
   | (with_reducible exact ih0 _ _ _ _)
   | (with_reducible exact ih1 _ _ _ _ _)
   | (with_reducible first | exact vK.refl _ | exact vK.none _ | apply vK.ite | apply vK.bind | intro)
  ·intro y0 y1 y2 y3 y4
   unfold vB.l1
   repeat' first
   | (with_reducible exact ih0 _ _ _ _)
   | (with_reducible exact ih1 _ _ _ _ _)
   | (with_reducible first | exact vK.refl _ | exact vK.none _ | apply vK.ite | apply vK.bind | intro)
theorem vB.mono : ∀ a0 k, vK (vB.f k a0) (vB.f (k + 1) a0) := by
 intro a0 k
 obtain ⟨ih0, ih1⟩ := vB.wt k
 unfold vB.f
 repeat' first
   | (with_reducible exact ih0 _ _ _ _)
   | (with_reducible exact ih1 _ _ _ _ _)
   | (with_reducible first | exact vK.refl _ | exact vK.none _ | apply vK.ite | apply vK.bind | intro)
theorem vB.calls (k : Nat) (A0 : Option Addr) (c0 : Nat) (l0 : List Int) (r : List Int) (w : World) (hr0 : Kd.C (Kd.int .u8) w A0 l0.length l0) (Y : l0.length ≤ c0) (h : vB.f k l0 = some r) :
  Calls Tryz.prog 28 #[.slice A0 l0.length c0] w fun e w' => ∃ Z : Value, e = .returned (Z) ∧ Kd.R (Kd.int .i64) 3 w' w.heap.size (fun _ => True) Z r ∧ Below w.heap.size w w' := by
 have a0 := aE hr0
 have b1 := aE Y
 clear hr0 Y
 have HB := bR w
 have H : (vB.l0 k l0 ([] : List Int) 0 0) = some r := h
 clear h
 have H' := aE H
 clear H
 go_enter Tryz.func28, Tryz.ntmps28
 go_wp2
 go_loopg [3, 4, 5] k (fun kq v3 v4 v5 w' => ∃ (j : List Int) (q : Int) (t : Int), v4 = .int .u8 q ∧ v5 = .int .i64 t ∧ Aside0 (vB.l0 kq l0 j q t = some r) ∧ Aside0 (kq ≤ k) ∧ Aside0 (Kd.R (Kd.int .i64) 3 w' w.heap.size (fun _ => True) v3 j) ∧ Aside0 (Below w.heap.size w w'))
 case atStart => exact ⟨(([] : List Int)), (0), (0), rq, rq, H', ⟨Nat.le_refl _⟩, ⟨by first | exact Kd.yu _ _ _ _ _ | exact Kd.yR _ _ _ _ _ | exact Kd.yS _ _ _ _ _ | exact Kd.yP _ _ _ _ _ | exact Kd.yV _ _ _ _ _⟩, ⟨bl⟩⟩
 case round =>
  clear H'
  obtain ⟨j, q, t, rfl, rfl, HA, D, x, HB⟩ := hrel
  cases gk with
  | zero => exact absurd HA.out (by simp [vB.l0])
  | succ k1 =>
   have H := HA.out
   clear HA
   simp only [vB.l0] at H
   rcases iL H with H1 | H1 <;> clear H <;> obtain ⟨H, a5⟩ := H1
   ·have H' := aE H
    clear H
    go_wp2
    go_loopg [6] k1 (fun kq v6 w' => ∃ (d : Int), v6 = .int .i64 d ∧ Aside0 (vB.l1 kq l0 j q t d = some r) ∧ Aside0 (kq ≤ k1) ∧ Aside0 (Kd.R (Kd.int .i64) 3 w' w.heap.size (fun _ => True) u3 j) ∧ Aside0 (Below w.heap.size w w'))
    case atStart => exact ⟨(0), rq, H', ⟨Nat.le_refl _⟩, ⟨rU x.out⟩, ⟨bl⟩⟩
    case round =>
     clear H'
     obtain ⟨d, rfl, HA, E, x, HB⟩ := hrel
     cases gk with
     | zero => exact absurd HA.out (by simp [vB.l1])
     | succ k2 =>
      have H := HA.out
      clear HA
      simp only [vB.l1] at H
      rcases iL H with H1 | H1 <;> clear H <;> obtain ⟨H, a1⟩ := H1
      ·obtain ⟨u, B⟩ : ∃ j_ : Int, (wrap64 (t + d)) = j_ := ⟨_, rfl⟩
       replace H : (if 0 ≤ (u) then (if (rd l0 (u)) = q then (vB.l1 k2 l0 j q t (wrap64 (d + 1))) else (if j.length < 17592186044416 then (vB.l0 k2 l0 (j ++ [d]) ((1 - q) % 256) u) else (none))) else (none)) = some r := by first | (rw [B] at H; exact H) | (simp only [B] at H ⊢; exact H)
       (try rw [B] at a1)
       have a4 : (IntKind.i64.wrap (t + d)) = u := (xS _).trans B
       by_cases c5 : 0 ≤ (u)
       ·rw [if_pos c5] at H
        have a6 := decide_eq_true c5
        clear c5
        rcases iE H with H1 | H1 <;> clear H <;> obtain ⟨H, a7, a8, c6⟩ := H1
        ·have H' := aE H
         clear H
         have y : 0 ≤ ((u) : Int) := dt
         have z : (u) < (l0.length : Int) := dt
         obtain ⟨L, G, s⟩ := Kd.yc a0.out (u) y z
         cases G
         replace s := hcB HB.out s
         replace y := eq_true y
         replace z := eq_true z
         go_wp2
         go_roundg k2
         case measure => have := D.out; have := E.out; omega
         case rel => exact ⟨(wrap64 (d + 1)), rq, H', ⟨by have := D.out; have := E.out; omega⟩, ⟨rU x.out⟩, ⟨bl⟩⟩
        ·by_cases c7 : j.length < 17592186044416
         ·rw [if_pos c7] at H
          have a2 := aE c7
          clear c7
          obtain ⟨I, hy_⟩ : ∃ y_ : List Int, y_ = (j ++ [d]) := ⟨_, rfl⟩
          replace H : (vB.l0 k2 l0 I ((1 - q) % 256) u) = some r := rh
          have M := aE hy_
          clear hy_
          have H' := aE H
          clear H
          have y : 0 ≤ ((u) : Int) := dt
          have z : (u) < (l0.length : Int) := dt
          obtain ⟨L, G, s⟩ := Kd.yc a0.out (u) y z
          cases G
          replace s := hcB HB.out s
          replace y := eq_true y
          replace z := eq_true z
          go_wp2_with (first | ((with_reducible refine wU (b := .append) (xs := #[.tmp 29, .tmp 31]) rfl ?_); at_builtin; refine Kd.za (Kd.int .i64) (w0 := w) w.heap.size rfl (.tmp 29) (.tmp 31) 44 3 (.int .i64 0) 8 rfl Tryz.underlying44 info3 rfl (by decide) (by omega) u3 j d [.int .i64 d] (fun _ => True) (fun _ => False) rfl rfl ?aP (fun _ hk => hk.elim) ?aF ?aO ?aB ?aS ?aL ?_; (case aP => exact rfl); (case aB => exact bl); (case aF => exact (fun _ _ => trivial)); (case aO => exact (rU x.out)); (case aS => exact bz); (case aL => have := a2.out; omega); intro a9 w8 ho hb hg hat; rw [← M.out] at ho; have n_ := aC hb (aE ho); clear HB x; obtain ⟨HB, O⟩ := n_; clear ho hb hg hat))
          go_roundg k2
          case measure => have := D.out; have := E.out; omega
          case rel => exact ⟨(I), ((1 - q) % 256), (u), rq, (by first | rfl | (simp; done) | (simp only [← B] <;> (first | rfl | simp)) | (simp [*]; done)), H', ⟨by have := D.out; have := E.out; omega⟩, ⟨rU O.out⟩, ⟨bl⟩⟩
         ·rw [if_neg c7] at H
          exact nB H
       ·rw [if_neg c5] at H
        exact nB H
      ·by_cases c9 : j.length < 17592186044416
       ·rw [if_pos c9] at H
        have a3 := aE c9
        clear c9
        obtain ⟨J, hy_⟩ : ∃ y_ : List Int, y_ = (j ++ [d]) := ⟨_, rfl⟩
        replace H : (vB.l0 k2 l0 J ((1 - q) % 256) (wrap64 (t + d))) = some r := rh
        have T := aE hy_
        clear hy_
        have H' := aE H
        clear H
        go_wp2_with (first | ((with_reducible refine wU (b := .append) (xs := #[.tmp 29, .tmp 31]) rfl ?_); at_builtin; refine Kd.za (Kd.int .i64) (w0 := w) w.heap.size rfl (.tmp 29) (.tmp 31) 44 3 (.int .i64 0) 8 rfl Tryz.underlying44 info3 rfl (by decide) (by omega) u3 j d [.int .i64 d] (fun _ => True) (fun _ => False) rfl rfl ?aP (fun _ hk => hk.elim) ?aF ?aO ?aB ?aS ?aL ?_; (case aP => exact rfl); (case aB => exact bl); (case aF => exact (fun _ _ => trivial)); (case aO => exact (rU x.out)); (case aS => exact bz); (case aL => have := a3.out; omega); intro b0 b2 ho hb hg hat; rw [← T.out] at ho; have n_ := aC hb (aE ho); clear HB x; obtain ⟨HB, X⟩ := n_; clear ho hb hg hat))
        go_roundg k2
        case measure => have := D.out; have := E.out; omega
        case rel => exact ⟨(J), ((1 - q) % 256), (wrap64 (t + d)), rq, rq, H', ⟨by have := D.out; have := E.out; omega⟩, ⟨rU X.out⟩, ⟨bl⟩⟩
       ·rw [if_neg c9] at H
        exact nB H
   ·obtain rfl := Option.some.inj H
    go_wp2
    go_ret
    exact ⟨_, re, rU x.out, bl⟩
def xm.f (d : Int) (k : Int) (e : List Int) (a1 : Int) : Option (List Int) := if a1 < 0 then (if 0 ≤ d then (if (d : Int).toNat ≤ 281474976710656 then (some (List.replicate (d : Int).toNat 0)) else (none)) else (none)) else ((some (([] : List Int) : List Int)).bind fun j => (if 0 ≤ (wrap64 (a1 * d)) then (if (wrap64 (a1 * d)) ≤ (wrap64 ((wrap64 (a1 + 1)) * d)) then (if (wrap64 ((wrap64 (a1 + 1)) * d)) ≤ (e.length : Int) then (if j.length + ((e.take ((wrap64 ((wrap64 (a1 + 1)) * d)) : Int).toNat).drop ((wrap64 (a1 * d)) : Int).toNat).length < 140737488355328 then (some (j ++ ((e.take ((wrap64 ((wrap64 (a1 + 1)) * d)) : Int).toNat).drop ((wrap64 (a1 * d)) : Int).toNat))) else (none)) else (none)) else (none)) else (none)))
theorem xm.calls (d : Int) (B : Int) (u : Option Addr) (x : Nat) (j : List Int) (a1 : Int) (r : List Int) (w : World) (hr0_2 : Kd.C (Kd.int .u8) w u j.length j) (D : j.length ≤ x) (h : xm.f d B j a1 = some r) :
  Calls Tryz.prog 29 #[.agg #[.int .i64 d, .int .i64 B, .slice u j.length x], .int .i64 a1] w fun e w' => ∃ a8 : Value, e = .returned (a8) ∧ Kd.R (Kd.int .u8) 5 w' w.heap.size (fun _ => True) a8 r ∧ Below w.heap.size w w' := by
 have hu24 := Tryz.underlying24
 have Y := aE hr0_2
 have Z := aE D
 clear hr0_2 D
 have HB := bR w
 have H := h
 unfold xm.f at H
 clear h
 rcases iL H with H1 | H1 <;> clear H <;> obtain ⟨H, e0⟩ := H1
 ·by_cases c4 : 0 ≤ d
  ·rw [if_pos c4] at H
   have e1 := eq_true c4
   have e2 := decide_eq_true c4
   clear c4
   by_cases c5 : (d : Int).toNat ≤ 281474976710656
   ·rw [if_pos c5] at H
    have e3 := eq_true c5
    have e4 := decide_eq_true c5
    clear c5
    obtain ⟨a9, hy_⟩ : ∃ y_ : List Int, y_ = (List.replicate (d : Int).toNat 0) := ⟨_, rfl⟩
    replace H : (some a9) = some r := rh
    have E := aE hy_
    clear hy_
    obtain rfl := Option.some.inj H
    go_enter Tryz.func29, Tryz.ntmps29
    go_wp2_with (first | ((with_reducible refine gd 2 rfl ?_); refine bx 2 #[.int .i64 d, .int .i64 B, .slice u j.length x] 24 rfl rfl ?_; intro a0 hg w6 hbox hb; have n_ := aC (bs hb) (aC hbox (aC (gz hg) (aE (gz hg)))); clear HB; obtain ⟨HB, k, a2, a3⟩ := n_; clear hb hbox hg; obtain ⟨b8, b9, c0, c1, d0, d1⟩ := yk k.out) | ((with_reducible refine gd 9 rfl ?_); refine Kd.jN (Kd.int .u8) _ 5 rfl (N := 9) rfl 22 _ _ rfl d rfl rfl Tryz.underlying22 (.int .u8 0) 1 info5 rfl (by decide) (by omega) 0 (ok := fun _ => True) (okp := fun _ => True) rfl (fun _ hk => hk) trivial (dt) (Nat.le_trans (Nat.mul_le_mul_right _ (dt : d.toNat ≤ 281474976710656)) (by omega)) (Below.refl _ _) (Nat.le_refl _) ?_; intro e5 w8 G hb hg_ hnew_; clear hg_ hnew_; (first | rw [← E.out] at G | (simp only [Int.reduceToNat] at G; rw [← E.out] at G)); have n_ := aC (Kd.vS G bz) (aC (vp (bU k.out) hb) (aE (bs hb))); clear k HB; obtain ⟨a4, k, HB⟩ := n_; clear hb G))
    go_ret
    exact ⟨_, re, rU a4.out, bl⟩
   ·rw [if_neg c5] at H
    exact nB H
  ·rw [if_neg c4] at H
   exact nB H
 ·obtain ⟨s, hy_⟩ : ∃ y_ : List Int, y_ = (([] : List Int)) := ⟨_, rfl⟩
  replace H : (if 0 ≤ (wrap64 (a1 * d)) then (if (wrap64 (a1 * d)) ≤ (wrap64 ((wrap64 (a1 + 1)) * d)) then (if (wrap64 ((wrap64 (a1 + 1)) * d)) ≤ (j.length : Int) then (if s.length + ((j.take ((wrap64 ((wrap64 (a1 + 1)) * d)) : Int).toNat).drop ((wrap64 (a1 * d)) : Int).toNat).length < 140737488355328 then (some (s ++ ((j.take ((wrap64 ((wrap64 (a1 + 1)) * d)) : Int).toNat).drop ((wrap64 (a1 * d)) : Int).toNat))) else (none)) else (none)) else (none)) else (none)) = some r := rh
  have I := aE hy_
  clear hy_
  obtain ⟨q, t⟩ : ∃ j_ : Int, (wrap64 (a1 * d)) = j_ := ⟨_, rfl⟩
  replace H : (if 0 ≤ (q) then (if (q) ≤ (wrap64 ((wrap64 (a1 + 1)) * d)) then (if (wrap64 ((wrap64 (a1 + 1)) * d)) ≤ (j.length : Int) then (if s.length + ((j.take ((wrap64 ((wrap64 (a1 + 1)) * d)) : Int).toNat).drop ((q) : Int).toNat).length < 140737488355328 then (some (s ++ ((j.take ((wrap64 ((wrap64 (a1 + 1)) * d)) : Int).toNat).drop ((q) : Int).toNat))) else (none)) else (none)) else (none)) else (none)) = some r := by first | (rw [t] at H; exact H) | (simp only [t] at H ⊢; exact H)
  have d2 : (IntKind.i64.wrap (a1 * d)) = q := (xS _).trans t
  by_cases J : 0 ≤ (q)
  ·rw [if_pos J] at H
   have d3 := eq_true J
   have d4 := decide_eq_true J
   clear J
   by_cases O : (q) ≤ (wrap64 ((wrap64 (a1 + 1)) * d))
   ·rw [if_pos O] at H
    have d5 := eq_true O
    have d6 := decide_eq_true O
    by_cases T : (wrap64 ((wrap64 (a1 + 1)) * d)) ≤ (j.length : Int)
    ·rw [if_pos T] at H
     have d7 := eq_true T
     have d8 := decide_eq_true T
     by_cases X : s.length + ((j.take ((wrap64 ((wrap64 (a1 + 1)) * d)) : Int).toNat).drop ((q) : Int).toNat).length < 140737488355328
     ·rw [if_pos X] at H
      have a5 := aE X
      clear X
      obtain ⟨b0, hy_⟩ : ∃ y_ : List Int, y_ = (s ++ ((j.take ((wrap64 ((wrap64 (a1 + 1)) * d)) : Int).toNat).drop ((q) : Int).toNat)) := ⟨_, rfl⟩
      replace H : (some b0) = some r := rh
      have a6 := aE hy_
      clear hy_
      obtain rfl := Option.some.inj H
      go_enter Tryz.func29, Tryz.ntmps29
      go_wp2_with (first | ((with_reducible refine gd 2 rfl ?_); refine bx 2 #[.int .i64 d, .int .i64 B, .slice u j.length x] 24 rfl rfl ?_; intro a0 hg e8 hbox hb; have n_ := aC (bs hb) (aC hbox (aC (gz hg) (aE (gz hg)))); clear HB; obtain ⟨HB, k, a2, a3⟩ := n_; clear hb hbox hg) | ((with_reducible refine gd 10 rfl ?_); refine Kd.zZ (Kd.int .u8) _ 5 ?hg (N := 10) ?hd (xs := ([] : List Int)) (inner := []) (ok := fun _ => True) (okp := fun _ => True) ?hr ?hp (fun _ hk => hk) trivial (Below.refl _ _) (Nat.le_refl _) (by simp) ?_; (case hd => rfl); (case hg => rfl); (case hr => first | (go_simp; done) | (go_simp; rfl)); (case hp => exact (xe.none _ _)); intro b1 e9 y hb hg_ hnew_; clear hg_ hnew_; (first | rw [← I.out] at y | (simp only [Int.reduceToNat] at y; rw [← I.out] at y)); have n_ := aC (Kd.vS y bz) (aC (vp (bU k.out) hb) (aE (bs hb))); clear k HB; obtain ⟨z, k, HB⟩ := n_; clear hb y; obtain ⟨b2, b3, b4, b5, b6, b7⟩ := yk k.out; obtain ⟨e6, L, _, hsz19, _⟩ := info_parts info5; obtain ⟨f0, hcut19, hA19, hC19⟩ := print_mid_of (P := Tryz.prog) (Value.int .u8) 0 22 5 .i64 .i64 Tryz.underlying22 L hsz19 u x j (q) (wrap64 ((wrap64 (a1 + 1)) * d)) (dt) (by first | omega | exact dt) (dt) Z.out; have M := aE (Kd.jQ (h1 := fun _ => rfl) (hA19 _ (Kd.zT Y.out))); have d9 := aE hC19; clear hA19 hC19 L hsz19) | ((with_reducible refine wU (b := .append) (xs := #[.tmp 10, .tmp 22]) rfl ?_); at_builtin; refine Kd.xO (Kd.int .u8) (w0 := w) w.heap.size rfl (.tmp 10) (.tmp 22) 22 5 (.int .u8 0) 1 rfl Tryz.underlying22 info5 rfl (by decide) (by omega) b1 s ((j.take ((wrap64 ((wrap64 (a1 + 1)) * d)) : Int).toNat).drop ((q) : Int).toNat) _ _ _ (fun _ => True) (fun _ => False) rfl rfl ?aO ?aR (fun _ _ h => h) (fun _ h => h.elim) ?aF ?aB ?aS ?aL ?_; (case aR => first | (rw [← show ((j.take ((wrap64 ((wrap64 (a1 + 1)) * d)) : Int).toNat).drop ((q) : Int).toNat).length = ((wrap64 ((wrap64 (a1 + 1)) * d)).toNat - (q).toNat) from (by rw [List.length_drop, List.length_take]; have h_ : ((wrap64 ((wrap64 (a1 + 1)) * d)) : Int) ≤ (j.length : Int) := dt; omega)]; repeat (first | exact (Kd.wz M.out HB.out) | (with_reducible refine Kd.yi ?_ _) | (with_reducible refine Kd.yg ?_ _) | (with_reducible refine Kd.yr ?_))) | (repeat (first | exact (Kd.wz M.out HB.out) | (with_reducible refine Kd.yi ?_ _) | (with_reducible refine Kd.yg ?_ _) | (with_reducible refine Kd.yr ?_)))); (case aB => exact bl); (case aF => exact (fun _ _ => trivial)); (case aO => exact (rU z.out)); (case aS => exact bz); (case aL => have := a5.out; have hlx_ := (show ((j.take ((wrap64 ((wrap64 (a1 + 1)) * d)) : Int).toNat).drop ((q) : Int).toNat).length = ((wrap64 ((wrap64 (a1 + 1)) * d)).toNat - (q).toNat) from (by rw [List.length_drop, List.length_take]; have h_ : ((wrap64 ((wrap64 (a1 + 1)) * d)) : Int) ≤ (j.length : Int) := dt; omega)); omega); intro e7 f1 ho hb hg hat; rw [← a6.out] at ho; have n_ := aC (xz (bU k.out) hg (Kd.ja z.out k.out (by decide))) (aC hb (aE ho)); clear k HB z; obtain ⟨k, HB, a7⟩ := n_; clear ho hb hg hat))
      go_ret
      exact ⟨_, by first | rfl | (simp [wP, wQ] <;> rfl) | (simp only [← t]; first | rfl | (simp [wP, wQ] <;> rfl)) | (simp [*, wP, wQ] <;> rfl), rU a7.out, bl⟩
     ·rw [if_neg X] at H
      exact nB H
    ·rw [if_neg T] at H
     exact nB H
   ·rw [if_neg O] at H
    exact nB H
  ·rw [if_neg J] at H
   exact nB H
set_option maxHeartbeats 8000000
set_option maxRecDepth 100000
def yB.f (a0 : Int) : Option ((List (wb))) := if a0 = 0 then (some (([(⟨1, 0, 0, 0⟩ : wb), (⟨2, 1, 1, 0⟩ : wb), (⟨3, 3, 3, 0⟩ : wb), (⟨4, 5, 11, 0⟩ : wb), (⟨5, 8, 43, 0⟩ : wb), (⟨5, 20, 299, 0⟩ : wb)] : List (wb)))) else (if a0 = 1 then (some (([(⟨1, 2, 0, 0⟩ : wb), (⟨2, 4, 4, 0⟩ : wb), (⟨3, 8, 20, 0⟩ : wb), (⟨4, 20, (-1), 1⟩ : wb), (⟨4, 0, 0, 2⟩ : wb)] : List (wb)))) else (if a0 = 2 then (some (([(⟨1, 0, 0, 0⟩ : wb), (⟨3, 2, 1, 0⟩ : wb), (⟨3, 2, (-1), 1⟩ : wb), (⟨3, 20, 5, 0⟩ : wb), (⟨3, 20, (-5), 1⟩ : wb)] : List (wb)))) else (some ([] : List (wb)))))
theorem yB.calls (a0 : Int) (r : List (wb)) (w : World) (h : yB.f a0 = some r) :
  Calls Tryz.prog 49 #[.int .i64 a0] w fun e w' => ∃ z : Value, e = .returned (z) ∧ Kd.R yj 105 w' w.heap.size (fun _ => True) z r ∧ Below w.heap.size w w' := by
 have hu105 := Tryz.underlying105
 have HB := bR w
 have H := h
 unfold yB.f at H
 clear h
 rcases iE H with H1 | H1 <;> clear H <;> obtain ⟨H, G, I, c2⟩ := H1
 ·obtain ⟨B, hy_⟩ : ∃ y_ : List (wb), y_ = (([(⟨1, 0, 0, 0⟩ : wb), (⟨2, 1, 1, 0⟩ : wb), (⟨3, 3, 3, 0⟩ : wb), (⟨4, 5, 11, 0⟩ : wb), (⟨5, 8, 43, 0⟩ : wb), (⟨5, 20, 299, 0⟩ : wb)] : List (wb))) := ⟨_, rfl⟩
  replace H : (some B) = some r := rh
  have j := aE hy_
  clear hy_
  obtain rfl := Option.some.inj H
  go_enter Tryz.func49, Tryz.ntmps49
  go_wp2_with (first | ((with_reducible refine gd 12 rfl ?_); refine Kd.zZ yj _ 105 ?hg (N := 12) ?hd (xs := ([(⟨1, 0, 0, 0⟩ : wb), (⟨2, 1, 1, 0⟩ : wb), (⟨3, 3, 3, 0⟩ : wb), (⟨4, 5, 11, 0⟩ : wb), (⟨5, 8, 43, 0⟩ : wb), (⟨5, 20, 299, 0⟩ : wb)] : List (wb))) (inner := [.int .i64 1, .int .i64 0, .int .i64 0, .int .i64 0, .int .i64 2, .int .i64 1, .int .i64 1, .int .i64 0, .int .i64 3, .int .i64 3, .int .i64 3, .int .i64 0, .int .i64 4, .int .i64 5, .int .i64 11, .int .i64 0, .int .i64 5, .int .i64 8, .int .i64 43, .int .i64 0, .int .i64 5, .int .i64 20, .int .i64 299, .int .i64 0]) (ok := fun _ => True) (okp := fun _ => True) ?hr ?hp (fun _ hk => hk) trivial (Below.refl _ _) (Nat.le_refl _) (by simp) ?_; (case hd => rfl); (case hg => rfl); (case hr => first | (go_simp; done) | (go_simp; rfl)); (case hp => exact (xe.c4 (show Kd.M yj _ _ _ (⟨1, 0, 0, 0⟩ : wb) [.int .i64 1, .int .i64 0, .int .i64 0, .int .i64 0] from (xG _ _ _ (⟨1, 0, 0, 0⟩ : wb) )) (xe.c4 (show Kd.M yj _ _ _ (⟨2, 1, 1, 0⟩ : wb) [.int .i64 2, .int .i64 1, .int .i64 1, .int .i64 0] from (xG _ _ _ (⟨2, 1, 1, 0⟩ : wb) )) (xe.c4 (show Kd.M yj _ _ _ (⟨3, 3, 3, 0⟩ : wb) [.int .i64 3, .int .i64 3, .int .i64 3, .int .i64 0] from (xG _ _ _ (⟨3, 3, 3, 0⟩ : wb) )) (xe.c4 (show Kd.M yj _ _ _ (⟨4, 5, 11, 0⟩ : wb) [.int .i64 4, .int .i64 5, .int .i64 11, .int .i64 0] from (xG _ _ _ (⟨4, 5, 11, 0⟩ : wb) )) (xe.c4 (show Kd.M yj _ _ _ (⟨5, 8, 43, 0⟩ : wb) [.int .i64 5, .int .i64 8, .int .i64 43, .int .i64 0] from (xG _ _ _ (⟨5, 8, 43, 0⟩ : wb) )) (xe.c4 (show Kd.M yj _ _ _ (⟨5, 20, 299, 0⟩ : wb) [.int .i64 5, .int .i64 20, .int .i64 299, .int .i64 0] from (xG _ _ _ (⟨5, 20, 299, 0⟩ : wb) )) (xe.none _ _)))))))); intro J w3 k hb hg_ hnew_; clear hg_ hnew_; (first | rw [← j.out] at k | (simp only [Int.reduceToNat] at k; rw [← j.out] at k)); have n_ := aC (Kd.vS k bz) (aE (bs hb)); clear HB; obtain ⟨u, HB⟩ := n_; clear hb k))
  go_ret
  exact ⟨_, re, rU u.out, bl⟩
 ·rcases iE H with H1 | H1 <;> clear H <;> obtain ⟨H, L, O, c5⟩ := H1
  ·obtain ⟨D, hy_⟩ : ∃ y_ : List (wb), y_ = (([(⟨1, 2, 0, 0⟩ : wb), (⟨2, 4, 4, 0⟩ : wb), (⟨3, 8, 20, 0⟩ : wb), (⟨4, 20, (-1), 1⟩ : wb), (⟨4, 0, 0, 2⟩ : wb)] : List (wb))) := ⟨_, rfl⟩
   replace H : (some D) = some r := rh
   have q := aE hy_
   clear hy_
   obtain rfl := Option.some.inj H
   go_enter Tryz.func49, Tryz.ntmps49
   go_wp2_with (first | ((with_reducible refine gd 20 rfl ?_); refine Kd.zZ yj _ 105 ?hg (N := 20) ?hd (xs := ([(⟨1, 2, 0, 0⟩ : wb), (⟨2, 4, 4, 0⟩ : wb), (⟨3, 8, 20, 0⟩ : wb), (⟨4, 20, (-1), 1⟩ : wb), (⟨4, 0, 0, 2⟩ : wb)] : List (wb))) (inner := [.int .i64 1, .int .i64 2, .int .i64 0, .int .i64 0, .int .i64 2, .int .i64 4, .int .i64 4, .int .i64 0, .int .i64 3, .int .i64 8, .int .i64 20, .int .i64 0, .int .i64 4, .int .i64 20, .int .i64 (-1), .int .i64 1, .int .i64 4, .int .i64 0, .int .i64 0, .int .i64 2]) (ok := fun _ => True) (okp := fun _ => True) ?hr ?hp (fun _ hk => hk) trivial (Below.refl _ _) (Nat.le_refl _) (by simp) ?_; (case hd => rfl); (case hg => rfl); (case hr => first | (go_simp; done) | (go_simp; rfl)); (case hp => exact (xe.c4 (show Kd.M yj _ _ _ (⟨1, 2, 0, 0⟩ : wb) [.int .i64 1, .int .i64 2, .int .i64 0, .int .i64 0] from (xG _ _ _ (⟨1, 2, 0, 0⟩ : wb) )) (xe.c4 (show Kd.M yj _ _ _ (⟨2, 4, 4, 0⟩ : wb) [.int .i64 2, .int .i64 4, .int .i64 4, .int .i64 0] from (xG _ _ _ (⟨2, 4, 4, 0⟩ : wb) )) (xe.c4 (show Kd.M yj _ _ _ (⟨3, 8, 20, 0⟩ : wb) [.int .i64 3, .int .i64 8, .int .i64 20, .int .i64 0] from (xG _ _ _ (⟨3, 8, 20, 0⟩ : wb) )) (xe.c4 (show Kd.M yj _ _ _ (⟨4, 20, (-1), 1⟩ : wb) [.int .i64 4, .int .i64 20, .int .i64 (-1), .int .i64 1] from (xG _ _ _ (⟨4, 20, (-1), 1⟩ : wb) )) (xe.c4 (show Kd.M yj _ _ _ (⟨4, 0, 0, 2⟩ : wb) [.int .i64 4, .int .i64 0, .int .i64 0, .int .i64 2] from (xG _ _ _ (⟨4, 0, 0, 2⟩ : wb) )) (xe.none _ _))))))); intro T w6 s hb hg_ hnew_; clear hg_ hnew_; (first | rw [← q.out] at s | (simp only [Int.reduceToNat] at s; rw [← q.out] at s)); have n_ := aC (Kd.vS s bz) (aE (bs hb)); clear HB; obtain ⟨x, HB⟩ := n_; clear hb s))
   go_ret
   exact ⟨_, re, rU x.out, bl⟩
  ·rcases iE H with H1 | H1 <;> clear H <;> obtain ⟨H, X, Y, c8⟩ := H1
   ·obtain ⟨E, hy_⟩ : ∃ y_ : List (wb), y_ = (([(⟨1, 0, 0, 0⟩ : wb), (⟨3, 2, 1, 0⟩ : wb), (⟨3, 2, (-1), 1⟩ : wb), (⟨3, 20, 5, 0⟩ : wb), (⟨3, 20, (-5), 1⟩ : wb)] : List (wb))) := ⟨_, rfl⟩
    replace H : (some E) = some r := rh
    have t := aE hy_
    clear hy_
    obtain rfl := Option.some.inj H
    go_enter Tryz.func49, Tryz.ntmps49
    go_wp2_with (first | ((with_reducible refine gd 28 rfl ?_); refine Kd.zZ yj _ 105 ?hg (N := 28) ?hd (xs := ([(⟨1, 0, 0, 0⟩ : wb), (⟨3, 2, 1, 0⟩ : wb), (⟨3, 2, (-1), 1⟩ : wb), (⟨3, 20, 5, 0⟩ : wb), (⟨3, 20, (-5), 1⟩ : wb)] : List (wb))) (inner := [.int .i64 1, .int .i64 0, .int .i64 0, .int .i64 0, .int .i64 3, .int .i64 2, .int .i64 1, .int .i64 0, .int .i64 3, .int .i64 2, .int .i64 (-1), .int .i64 1, .int .i64 3, .int .i64 20, .int .i64 5, .int .i64 0, .int .i64 3, .int .i64 20, .int .i64 (-5), .int .i64 1]) (ok := fun _ => True) (okp := fun _ => True) ?hr ?hp (fun _ hk => hk) trivial (Below.refl _ _) (Nat.le_refl _) (by simp) ?_; (case hd => rfl); (case hg => rfl); (case hr => first | (go_simp; done) | (go_simp; rfl)); (case hp => exact (xe.c4 (show Kd.M yj _ _ _ (⟨1, 0, 0, 0⟩ : wb) [.int .i64 1, .int .i64 0, .int .i64 0, .int .i64 0] from (xG _ _ _ (⟨1, 0, 0, 0⟩ : wb) )) (xe.c4 (show Kd.M yj _ _ _ (⟨3, 2, 1, 0⟩ : wb) [.int .i64 3, .int .i64 2, .int .i64 1, .int .i64 0] from (xG _ _ _ (⟨3, 2, 1, 0⟩ : wb) )) (xe.c4 (show Kd.M yj _ _ _ (⟨3, 2, (-1), 1⟩ : wb) [.int .i64 3, .int .i64 2, .int .i64 (-1), .int .i64 1] from (xG _ _ _ (⟨3, 2, (-1), 1⟩ : wb) )) (xe.c4 (show Kd.M yj _ _ _ (⟨3, 20, 5, 0⟩ : wb) [.int .i64 3, .int .i64 20, .int .i64 5, .int .i64 0] from (xG _ _ _ (⟨3, 20, 5, 0⟩ : wb) )) (xe.c4 (show Kd.M yj _ _ _ (⟨3, 20, (-5), 1⟩ : wb) [.int .i64 3, .int .i64 20, .int .i64 (-5), .int .i64 1] from (xG _ _ _ (⟨3, 20, (-5), 1⟩ : wb) )) (xe.none _ _))))))); intro Z w9 d hb hg_ hnew_; clear hg_ hnew_; (first | rw [← t.out] at d | (simp only [Int.reduceToNat] at d; rw [← t.out] at d)); have n_ := aC (Kd.vS d bz) (aE (bs hb)); clear HB; obtain ⟨y, HB⟩ := n_; clear hb d))
    go_ret
    exact ⟨_, re, rU y.out, bl⟩
   ·obtain rfl := Option.some.inj H
    go_enter Tryz.func49, Tryz.ntmps49
    go_wp2
    go_ret
    exact ⟨_, re, by first | exact Kd.yu _ _ _ _ _ | exact Kd.yR _ _ _ _ _ | exact Kd.yS _ _ _ _ _ | exact Kd.yP _ _ _ _ _ | exact Kd.yV _ _ _ _ _, bl⟩
def yT.f (a0 : Int) : Option ((List (wb))) := if a0 = 0 then (some (([(⟨2, 2, 0, 0⟩ : wb), (⟨2, 3, 4, 0⟩ : wb), (⟨2, 4, 12, 0⟩ : wb), (⟨2, 6, 28, 0⟩ : wb)] : List (wb)))) else (some (([(⟨1, 1, 0, 0⟩ : wb), (⟨2, 1, 2, 0⟩ : wb), (⟨3, 2, 4, 0⟩ : wb), (⟨3, 6, 8, 0⟩ : wb)] : List (wb))))
theorem yT.calls (a0 : Int) (r : List (wb)) (w : World) (h : yT.f a0 = some r) :
  Calls Tryz.prog 50 #[.int .i64 a0] w fun e w' => ∃ u : Value, e = .returned (u) ∧ Kd.R yj 105 w' w.heap.size (fun _ => True) u r ∧ Below w.heap.size w w' := by
 have hu105 := Tryz.underlying105
 have HB := bR w
 have H := h
 unfold yT.f at H
 clear h
 rcases iE H with H1 | H1 <;> clear H <;> obtain ⟨H, z, B, c2⟩ := H1
 ·obtain ⟨x, hy_⟩ : ∃ y_ : List (wb), y_ = (([(⟨2, 2, 0, 0⟩ : wb), (⟨2, 3, 4, 0⟩ : wb), (⟨2, 4, 12, 0⟩ : wb), (⟨2, 6, 28, 0⟩ : wb)] : List (wb))) := ⟨_, rfl⟩
  replace H : (some x) = some r := rh
  have d := aE hy_
  clear hy_
  obtain rfl := Option.some.inj H
  go_enter Tryz.func50, Tryz.ntmps50
  go_wp2_with (first | ((with_reducible refine gd 9 rfl ?_); refine Kd.zZ yj _ 105 ?hg (N := 9) ?hd (xs := ([(⟨2, 2, 0, 0⟩ : wb), (⟨2, 3, 4, 0⟩ : wb), (⟨2, 4, 12, 0⟩ : wb), (⟨2, 6, 28, 0⟩ : wb)] : List (wb))) (inner := [.int .i64 2, .int .i64 2, .int .i64 0, .int .i64 0, .int .i64 2, .int .i64 3, .int .i64 4, .int .i64 0, .int .i64 2, .int .i64 4, .int .i64 12, .int .i64 0, .int .i64 2, .int .i64 6, .int .i64 28, .int .i64 0]) (ok := fun _ => True) (okp := fun _ => True) ?hr ?hp (fun _ hk => hk) trivial (Below.refl _ _) (Nat.le_refl _) (by simp) ?_; (case hd => rfl); (case hg => rfl); (case hr => first | (go_simp; done) | (go_simp; rfl)); (case hp => exact (xe.c4 (show Kd.M yj _ _ _ (⟨2, 2, 0, 0⟩ : wb) [.int .i64 2, .int .i64 2, .int .i64 0, .int .i64 0] from (xG _ _ _ (⟨2, 2, 0, 0⟩ : wb) )) (xe.c4 (show Kd.M yj _ _ _ (⟨2, 3, 4, 0⟩ : wb) [.int .i64 2, .int .i64 3, .int .i64 4, .int .i64 0] from (xG _ _ _ (⟨2, 3, 4, 0⟩ : wb) )) (xe.c4 (show Kd.M yj _ _ _ (⟨2, 4, 12, 0⟩ : wb) [.int .i64 2, .int .i64 4, .int .i64 12, .int .i64 0] from (xG _ _ _ (⟨2, 4, 12, 0⟩ : wb) )) (xe.c4 (show Kd.M yj _ _ _ (⟨2, 6, 28, 0⟩ : wb) [.int .i64 2, .int .i64 6, .int .i64 28, .int .i64 0] from (xG _ _ _ (⟨2, 6, 28, 0⟩ : wb) )) (xe.none _ _)))))); intro D w3 j hb hg_ hnew_; clear hg_ hnew_; (first | rw [← d.out] at j | (simp only [Int.reduceToNat] at j; rw [← d.out] at j)); have n_ := aC (Kd.vS j bz) (aE (bs hb)); clear HB; obtain ⟨s, HB⟩ := n_; clear hb j))
  go_ret
  exact ⟨_, re, rU s.out, bl⟩
 ·obtain ⟨y, hy_⟩ : ∃ y_ : List (wb), y_ = (([(⟨1, 1, 0, 0⟩ : wb), (⟨2, 1, 2, 0⟩ : wb), (⟨3, 2, 4, 0⟩ : wb), (⟨3, 6, 8, 0⟩ : wb)] : List (wb))) := ⟨_, rfl⟩
  replace H : (some y) = some r := rh
  have k := aE hy_
  clear hy_
  obtain rfl := Option.some.inj H
  go_enter Tryz.func50, Tryz.ntmps50
  go_wp2_with (first | ((with_reducible refine gd 14 rfl ?_); refine Kd.zZ yj _ 105 ?hg (N := 14) ?hd (xs := ([(⟨1, 1, 0, 0⟩ : wb), (⟨2, 1, 2, 0⟩ : wb), (⟨3, 2, 4, 0⟩ : wb), (⟨3, 6, 8, 0⟩ : wb)] : List (wb))) (inner := [.int .i64 1, .int .i64 1, .int .i64 0, .int .i64 0, .int .i64 2, .int .i64 1, .int .i64 2, .int .i64 0, .int .i64 3, .int .i64 2, .int .i64 4, .int .i64 0, .int .i64 3, .int .i64 6, .int .i64 8, .int .i64 0]) (ok := fun _ => True) (okp := fun _ => True) ?hr ?hp (fun _ hk => hk) trivial (Below.refl _ _) (Nat.le_refl _) (by simp) ?_; (case hd => rfl); (case hg => rfl); (case hr => first | (go_simp; done) | (go_simp; rfl)); (case hp => exact (xe.c4 (show Kd.M yj _ _ _ (⟨1, 1, 0, 0⟩ : wb) [.int .i64 1, .int .i64 1, .int .i64 0, .int .i64 0] from (xG _ _ _ (⟨1, 1, 0, 0⟩ : wb) )) (xe.c4 (show Kd.M yj _ _ _ (⟨2, 1, 2, 0⟩ : wb) [.int .i64 2, .int .i64 1, .int .i64 2, .int .i64 0] from (xG _ _ _ (⟨2, 1, 2, 0⟩ : wb) )) (xe.c4 (show Kd.M yj _ _ _ (⟨3, 2, 4, 0⟩ : wb) [.int .i64 3, .int .i64 2, .int .i64 4, .int .i64 0] from (xG _ _ _ (⟨3, 2, 4, 0⟩ : wb) )) (xe.c4 (show Kd.M yj _ _ _ (⟨3, 6, 8, 0⟩ : wb) [.int .i64 3, .int .i64 6, .int .i64 8, .int .i64 0] from (xG _ _ _ (⟨3, 6, 8, 0⟩ : wb) )) (xe.none _ _)))))); intro E w5 q hb hg_ hnew_; clear hg_ hnew_; (first | rw [← k.out] at q | (simp only [Int.reduceToNat] at q; rw [← k.out] at q)); have n_ := aC (Kd.vS q bz) (aE (bs hb)); clear HB; obtain ⟨t, HB⟩ := n_; clear hb q))
  go_ret
  exact ⟨_, re, rU t.out, bl⟩
def wo.f (k : Nat) (a0 : Int) (a1 : Int) : Option (List Int) := (yB.f 0).bind fun r => ((vu.f k r false (wrap64 (Int.tdiv a0 64))).bind fun d => ((yT.f a1).bind fun s => ((vu.f k s false (Int.tmod a0 64)).bind fun e => ((some (([] : List Int) : List Int)).bind fun j => (if j.length + d.1.length < 140737488355328 then ((some (j ++ d.1 : List Int)).bind fun q => (if q.length + e.1.length < 140737488355328 then (some (q ++ e.1)) else (none))) else (none))))))
theorem wo.mono : ∀ a0 a1 k, vK (wo.f k a0 a1) (wo.f (k + 1) a0 a1) := by
 intro a0 a1 k
 unfold wo.f
 repeat' first
   | (with_reducible exact vu.mono _ _ _ _)
   | (with_reducible first | exact vK.refl _ | exact vK.none _ | apply vK.ite | apply vK.bind | intro)
theorem wo.calls (k : Nat) (a0 : Int) (a1 : Int) (r : List Int) (w : World) (h : wo.f k a0 a1 = some r) :
  Calls Tryz.prog 30 #[.int .i64 a0, .int .i64 a1] w fun e w' => ∃ a3 : Value, e = .returned (a3) ∧ Kd.R (Kd.int .u8) 5 w' w.heap.size (fun _ => True) a3 r ∧ Below w.heap.size w w' := by
 have hu69 := Tryz.underlying69
 have HB := bR w
 have H := h
 unfold wo.f at H
 clear h
 obtain ⟨J, A3, H⟩ := oB H
 try dsimp only at H
 obtain ⟨⟨t, a4⟩, A4, H⟩ := oB H
 try dsimp only at H
 obtain ⟨L, A5, H⟩ := oB H
 try dsimp only at H
 obtain ⟨⟨u, a5⟩, A6, H⟩ := oB H
 try dsimp only at H
 obtain ⟨E, hy_⟩ : ∃ y_ : List Int, y_ = (([] : List Int)) := ⟨_, rfl⟩
 replace H : (if E.length + t.length < 140737488355328 then ((some (E ++ t : List Int)).bind fun x => (if x.length + u.length < 140737488355328 then (some (x ++ u)) else (none))) else (none)) = some r := rh
 have M := aE hy_
 clear hy_
 by_cases c7 : E.length + t.length < 140737488355328
 ·rw [if_pos c7] at H
  have a6 := aE c7
  clear c7
  obtain ⟨x, hy_⟩ : ∃ y_ : List Int, y_ = (E ++ t) := ⟨_, rfl⟩
  replace H : (if x.length + u.length < 140737488355328 then (some (x ++ u)) else (none)) = some r := rh
  have Y := aE hy_
  clear hy_
  by_cases c8 : x.length + u.length < 140737488355328
  ·rw [if_pos c8] at H
   have a7 := aE c8
   clear c8
   obtain ⟨a8, hy_⟩ : ∃ y_ : List Int, y_ = (x ++ u) := ⟨_, rfl⟩
   replace H : (some a8) = some r := rh
   have Z := aE hy_
   clear hy_
   obtain rfl := Option.some.inj H
   go_enter Tryz.func30, Tryz.ntmps30
   go_wp2_with (first | ((with_reducible refine gf 49 rfl ?_); refine gL (some 10) rfl rfl Tryz.func49 rfl #[.int .i64 0] rfl ?_; (with_reducible refine (yB.calls 0 J _ A3.out).mono ?_); rintro e w9 ⟨b9, rfl, z, hb⟩; refine ⟨_, rfl, ?_⟩; have n_ := aC (Kd.vS z bz) (aE (bs hb)); clear HB; obtain ⟨d, HB⟩ := n_; obtain ⟨a9, b0, b1⟩ := Kd.vY d.out; subst b1) | ((with_reducible refine gf 48 rfl ?_); refine gL (some 14) rfl rfl Tryz.func48 rfl #[.slice a9 J.length b0, .agg #[.bool false, .int .i64 (wrap64 (Int.tdiv a0 64))]] rfl ?_; (with_reducible refine (vu.calls k _ _ J false (wrap64 (Int.tdiv a0 64)) t a4 _ ?side1 ?side2 A4.out).mono ?_); (case side1 => exact cU (Kd.R_reads' d.out).2.2); (case side2 => exact (Kd.R_reads' d.out).2.1); rintro e d1 ⟨c0, rfl, z, hb⟩; refine ⟨_, rfl, ?_⟩; have n_ := aC (Kd.wg (rU d.out) hb) (aC (Kd.vS z bz) (aE (bs hb))); clear d HB; obtain ⟨d, j, HB⟩ := n_) | ((with_reducible refine gf 50 rfl ?_); refine gL (some 19) rfl rfl Tryz.func50 rfl #[.int .i64 a1] rfl ?_; (with_reducible refine (yT.calls a1 L _ A5.out).mono ?_); rintro e d2 ⟨c1, rfl, z, hb⟩; refine ⟨_, rfl, ?_⟩; have n_ := aC (Kd.R_elder' (rU d.out) (Kd.xc z) hb) (aC (Kd.wg (rU j.out) hb) (aC (Kd.vS (Kd.R_new' z (Kd.xW (rU d.out))) bz) (aE (bs hb)))); clear d j HB; obtain ⟨d, j, q, HB⟩ := n_; obtain ⟨b2, b3, b4⟩ := Kd.vY q.out; subst b4) | ((with_reducible refine gf 48 rfl ?_); refine gL (some 23) rfl rfl Tryz.func48 rfl #[.slice b2 L.length b3, .agg #[.bool false, .int .i64 (Int.tmod a0 64)]] rfl ?_; (with_reducible refine (vu.calls k _ _ L false (Int.tmod a0 64) u a5 _ ?side1 ?side2 A6.out).mono ?_); (case side1 => exact cU (Kd.R_reads' q.out).2.2); (case side2 => exact (Kd.R_reads' q.out).2.1); rintro e d3 ⟨O, rfl, z, hb⟩; refine ⟨_, rfl, ?_⟩; have n_ := aC (Kd.wg (rU d.out) hb) (aC (Kd.R_elder' (rU j.out) (Kd.xc z) hb) (aC (Kd.wg (rU q.out) hb) (aC (Kd.vS (Kd.R_new' z (Kd.xW (rU j.out))) bz) (aE (bs hb))))); clear d j q HB; obtain ⟨d, j, q, s, HB⟩ := n_) | ((with_reducible refine gd 26 rfl ?_); refine Kd.zZ (Kd.int .u8) _ 5 ?hg (N := 26) ?hd (xs := ([] : List Int)) (inner := []) (ok := fun _ => True) (okp := fun _ => True) ?hr ?hp (fun _ hk => hk) trivial (Below.refl _ _) (Nat.le_refl _) (by simp) ?_; (case hd => rfl); (case hg => rfl); (case hr => first | (go_simp; done) | (go_simp; rfl)); (case hp => exact (xe.none _ _)); intro b5 d4 y hb hg_ hnew_; clear hg_ hnew_; (first | rw [← M.out] at y | (simp only [Int.reduceToNat] at y; rw [← M.out] at y)); have n_ := aC (Kd.wg (rU d.out) hb) (aC (Kd.R_elder' (rU j.out) (Kd.xc y) hb) (aC (Kd.wg (rU q.out) hb) (aC (Kd.R_elder' (rU s.out) (Kd.xc y) hb) (aC (Kd.vS (Kd.R_new' (Kd.R_new' y (Kd.xW (rU j.out))) (Kd.xW (rU s.out))) bz) (aE (bs hb)))))); clear d j q s HB; obtain ⟨d, j, q, s, B, HB⟩ := n_; clear hb y; obtain ⟨G, I, b6⟩ := Kd.vY j.out; subst b6) | ((with_reducible refine wU (b := .append) (xs := #[.tmp 26, .tmp 27]) rfl ?_); at_builtin; refine Kd.xO (Kd.int .u8) (w0 := w) w.heap.size rfl (.tmp 26) (.tmp 27) 22 5 (.int .u8 0) 1 rfl Tryz.underlying22 info5 rfl (by decide) (by omega) b5 E t _ _ _ (fun k_ => some k_ ≠ (.slice G t.length I : Value).ownBlock ∧ some k_ ≠ (O : Value).ownBlock) (fun _ => False) rfl rfl ?aO ?aR (fun _ _ h => h) (fun _ h => h.elim) ?aF ?aB ?aS ?aL ?_; (case aR => repeat (first | exact (Kd.R_reads' j.out).2.2 | (with_reducible refine Kd.yi ?_ _) | (with_reducible refine Kd.yg ?_ _) | (with_reducible refine Kd.yr ?_))); (case aB => exact bl); (case aF => exact (fun k_ hk => ⟨Kd.fresh' (Kd.xW (rU j.out)) k_ hk, Kd.fresh' (Kd.xW (rU s.out)) k_ hk⟩)); (case aO => exact (rU (Kd.vU B.out (fun _ hk => ⟨hk.1.2, hk.2⟩)))); (case aS => exact bz); (case aL => have := a6.out; omega); intro b7 d5 ho hb hg hat; rw [← Y.out] at ho; have n_ := aC (Kd.R_over' (rU d.out) (Kd.zI (rU B.out)) (by decide) hg) (aC (Kd.yG (ok := (fun k_ => some k_ ≠ (O : Value).ownBlock)) (rU (Kd.vU j.out (fun _ hk => ⟨hk.1.2, hk.2⟩))) hg hat) (aC (Kd.R_over' (rU q.out) (Kd.zI (rU B.out)) (by decide) hg) (aC (Kd.yG (ok := (fun k_ => some k_ ≠ (.slice G t.length I : Value).ownBlock)) (rU (Kd.vU s.out (fun _ hk => ⟨hk.1.2, hk.2⟩))) hg hat) (aC hb (aE ho))))); clear d j q s HB B; obtain ⟨d, j, q, s, HB, D⟩ := n_; clear ho hb hg hat; obtain ⟨T, X, b8⟩ := Kd.vY s.out; subst b8) | ((with_reducible refine wU (b := .append) (xs := #[.tmp 28, .tmp 29]) rfl ?_); at_builtin; refine Kd.xO (Kd.int .u8) (w0 := w) w.heap.size rfl (.tmp 28) (.tmp 29) 22 5 (.int .u8 0) 1 rfl Tryz.underlying22 info5 rfl (by decide) (by omega) b7 x u _ _ _ (fun k_ => some k_ ≠ (.slice G t.length I : Value).ownBlock ∧ some k_ ≠ (.slice T u.length X : Value).ownBlock) (fun _ => False) rfl rfl ?aO ?aR (fun _ _ h => h) (fun _ h => h.elim) ?aF ?aB ?aS ?aL ?_; (case aR => repeat (first | exact (Kd.R_reads' s.out).2.2 | (with_reducible refine Kd.yi ?_ _) | (with_reducible refine Kd.yg ?_ _) | (with_reducible refine Kd.yr ?_))); (case aB => exact bl); (case aF => exact (fun k_ hk => ⟨Kd.fresh' (Kd.xW (rU j.out)) k_ hk, Kd.fresh' (Kd.xW (rU s.out)) k_ hk⟩)); (case aO => exact (rU D.out)); (case aS => exact bz); (case aL => have := a7.out; omega); intro d0 d6 ho hb hg hat; rw [← Z.out] at ho; have n_ := aC (Kd.R_over' (rU d.out) (Kd.zI (rU D.out)) (by decide) hg) (aC (Kd.yG (ok := (fun k_ => some k_ ≠ (.slice T u.length X : Value).ownBlock)) (rU j.out) hg hat) (aC (Kd.R_over' (rU q.out) (Kd.zI (rU D.out)) (by decide) hg) (aC (Kd.yG (ok := (fun k_ => some k_ ≠ (.slice G t.length I : Value).ownBlock)) (rU s.out) hg hat) (aC hb (aE ho))))); clear d j q s HB D; obtain ⟨d, j, q, s, HB, a2⟩ := n_; clear ho hb hg hat))
   go_ret
   exact ⟨_, re, rU (Kd.vU a2.out (fun _ hk => trivial)), bl⟩
  ·rw [if_neg c8] at H
   exact nB H
 ·rw [if_neg c7] at H
  exact nB H
mutual
def vA.l0 : Nat → List Int → Int → Int → Int → List Int → Option (List Int)
 | 0, _, _, _, _, _ => none
 | k + 1, x3, x4, e, d, j => if x4 < d then ((xm.f e d j x4).bind fun r => ((vB.f k r).bind fun q => (vA.l1 k x3 x4 q (q.length : Int) 0 e d j))) else (some x3)
def vA.l1 : Nat → List Int → Int → List Int → Int → Int → Int → Int → List Int → Option (List Int)
 | 0, _, _, _, _, _, _, _, _ => none
 | k + 1, x3, x4, s, t, q, d, e, j => if q < t then (if 0 ≤ q then (if q < (s.length : Int) then ((wo.f k (rd s q) (Int.tmod q 2)).bind fun r => (if x3.length + r.length < 140737488355328 then (vA.l1 k (x3 ++ r) x4 s t (wrap64 (q + 1)) d e j) else (none))) else (none)) else (none)) else (vA.l0 k x3 (wrap64 (x4 + 1)) d e j)
end
def vA.f (k : Nat) (d : Int) (e : Int) (j : List Int) : Option (List Int) := vA.l0 k ([] : List Int) 0 d e j
theorem vA.wt : ∀ k, (∀ y0 y1 y2 y3 y4, vK (vA.l0 k y0 y1 y2 y3 y4) (vA.l0 (k + 1) y0 y1 y2 y3 y4)) ∧ (∀ y0 y1 y2 y3 y4 y5 y6 y7, vK (vA.l1 k y0 y1 y2 y3 y4 y5 y6 y7) (vA.l1 (k + 1) y0 y1 y2 y3 y4 y5 y6 y7))
 | 0 => ⟨fun _ _ _ _ _ r h => by simp [vA.l0] at h, fun _ _ _ _ _ _ _ _ r h => by simp [vA.l1] at h⟩
 | k + 1 => by
  obtain ⟨ih0, ih1⟩ := vA.wt k
  refine ⟨?_, ?_⟩
  ·intro y0 y1 y2 y3 y4
   unfold vA.l0
   repeat' first
   | (with_reducible exact ih0 _ _ _ _ _)
   | (with_reducible exact ih1 _ _ _ _ _ _ _ _)
   | (with_reducible exact vB.mono _ _)
   | (with_reducible exact wo.mono _ _ _)
   | (with_reducible first | exact vK.refl _ | exact vK.none _ | apply vK.ite | apply vK.bind | intro)
  ·intro y0 y1 y2 y3 y4 y5 y6 y7
   unfold vA.l1
   repeat' first
   | (with_reducible exact ih0 _ _ _ _ _)
   | (with_reducible exact ih1 _ _ _ _ _ _ _ _)
   | (with_reducible exact vB.mono _ _)
   | (with_reducible exact wo.mono _ _ _)
   | (with_reducible first | exact vK.refl _ | exact vK.none _ | apply vK.ite | apply vK.bind | intro)
theorem vA.mono : ∀ a0 a1 a2 k, vK (vA.f k a0 a1 a2) (vA.f (k + 1) a0 a1 a2) := by
 intro a0 a1 a2 k
 obtain ⟨ih0, ih1⟩ := vA.wt k
 unfold vA.f
 repeat' first
   | (with_reducible exact ih0 _ _ _ _ _)
   | (with_reducible exact ih1 _ _ _ _ _ _ _ _)
   | (with_reducible exact vB.mono _ _)
   | (with_reducible exact wo.mono _ _ _)
   | (with_reducible first | exact vK.refl _ | exact vK.none _ | apply vK.ite | apply vK.bind | intro)
theorem vA.calls (k : Nat) (t : Int) (u : Int) (G : Option Addr) (I : Nat) (s : List Int) (r : List Int) (w : World) (hr0_2 : Kd.C (Kd.int .u8) w G s.length s) (O : s.length ≤ I) (h : vA.f k t u s = some r) :
  Calls Tryz.prog 11 #[.agg #[.int .i64 t, .int .i64 u, .slice G s.length I]] w fun e w' => ∃ b2 : Value, e = .returned (b2) ∧ Kd.R (Kd.int .u8) 5 w' w.heap.size (fun _ => True) b2 r ∧ Below w.heap.size w w' := by
 have hu24 := Tryz.underlying24
 have a7 := aE hr0_2
 have a8 := aE O
 clear hr0_2 O
 have HB := bR w
 have H : (vA.l0 k ([] : List Int) 0 t u s) = some r := h
 clear h
 have H' := aE H
 clear H
 go_enter Tryz.func11, Tryz.ntmps11
 go_wp2_with (first | ((with_reducible refine gd 1 rfl ?_); refine bx 1 #[.int .i64 t, .int .i64 u, .slice G s.length I] 24 rfl rfl ?_; intro T hg w2 hbox hb; have n_ := aC (bs hb) (aC hbox (aC (gz hg) (aE (gz hg)))); clear HB; obtain ⟨HB, d, e1, e2⟩ := n_; clear hb hbox hg))
 go_loopg [3, 4] k (fun kq v3 v4 w' => ∃ (M : List Int) (D : Int), v4 = .int .i64 D ∧ Aside0 (vA.l0 kq M D t u s = some r) ∧ Aside0 (kq ≤ k) ∧ Aside0 (Kd.R (Kd.int .u8) 5 w' w.heap.size (fun _ => True) v3 M) ∧ Aside0 (w'.heap[T]? = some (.cells #[.int .i64 t, .int .i64 u, (.slice G s.length I)] 24 (0, 0))) ∧ Aside0 (Below w.heap.size w w'))
 case atStart => exact ⟨(([] : List Int)), (0), rq, H', ⟨Nat.le_refl _⟩, ⟨by first | exact Kd.yu _ _ _ _ _ | exact Kd.yR _ _ _ _ _ | exact Kd.yS _ _ _ _ _ | exact Kd.yP _ _ _ _ _ | exact Kd.yV _ _ _ _ _⟩, ⟨bU d.out⟩, ⟨bl⟩⟩
 case round =>
  clear H'
  obtain ⟨M, D, rfl, HA, a1, j, d, HB⟩ := hrel
  cases gk with
  | zero => exact absurd HA.out (by simp [vA.l0])
  | succ k1 =>
   have H := HA.out
   clear HA
   simp only [vA.l0] at H
   rcases iL H with H1 | H1 <;> clear H <;> obtain ⟨H, f2⟩ := H1
   ·obtain ⟨X, A4, H⟩ := oB H
    try dsimp only at H
    obtain ⟨x, A5, H⟩ := oB H
    try dsimp only at H
    have H' := aE H
    clear H
    obtain ⟨d5, d6, d7, d8, d9, e0⟩ := yk d.out
    go_wp2_with (first | ((with_reducible refine gf 29 rfl ?_); refine gL (some 15) rfl rfl Tryz.func29 rfl #[.agg #[.int .i64 t, .int .i64 u, .slice G s.length I], .int .i64 D] rfl ?_; (with_reducible refine (xm.calls t u _ _ s D X _ ?side1 ?side2 A4.out).mono ?_); (case side1 => exact cU (Kd.wz a7.out HB.out)); (case side2 => exact a8.out); rintro e w7 ⟨f3, rfl, L, hb⟩; refine ⟨_, rfl, ?_⟩; have n_ := aC (Kd.R_elder' (rU j.out) (Kd.xc L) hb) (aC (Kd.vS (Kd.R_new' L (Kd.xW (rU j.out))) bz) (aC (vp (bU d.out) hb) (aE (bs hb)))); clear j d HB; obtain ⟨j, z, d, HB⟩ := n_; obtain ⟨e3, e4, e5⟩ := Kd.vY z.out; subst e5) | ((with_reducible refine gf 28 rfl ?_); refine gL (some 16) rfl rfl Tryz.func28 rfl #[.slice e3 X.length e4] rfl ?_; (with_reducible refine (vB.calls k1 _ _ X x _ ?side1 ?side2 A5.out).mono ?_); (case side1 => exact cU (Kd.R_reads' z.out).2.2); (case side2 => exact (Kd.R_reads' z.out).2.1); rintro e w9 ⟨f4, rfl, L, hb⟩; refine ⟨_, rfl, ?_⟩; have n_ := aC (Kd.wg (rU j.out) hb) (aC (Kd.wg (rU z.out) hb) (aC (Kd.vS L bz) (aC (vp (bU d.out) hb) (aE (bs hb))))); clear j z d HB; obtain ⟨j, z, Y, d, HB⟩ := n_; obtain ⟨b3, b4, b5⟩ := Kd.vY Y.out; subst b5))
    go_loopg [3, 18] k1 (fun kq v3 e6 w' => ∃ (E : List Int) (q : Int), e6 = .int .i64 q ∧ Aside0 (vA.l1 kq E D x (x.length : Int) q t u s = some r) ∧ Aside0 (kq ≤ k1) ∧ Aside0 (Kd.R (Kd.int .u8) 5 w' w.heap.size (fun _ => True) v3 E) ∧ Aside0 (Kd.R (Kd.int .i64) 3 w' w.heap.size (fun _ => True) (.slice b3 x.length b4) x) ∧ Aside0 (w'.heap[T]? = some (.cells #[.int .i64 t, .int .i64 u, (.slice G s.length I)] 24 (0, 0))) ∧ Aside0 (Below w.heap.size w w'))
    case atStart => exact ⟨(M), (0), rq, H', ⟨Nat.le_refl _⟩, ⟨rU (Kd.vU j.out (fun _ hk => trivial))⟩, ⟨rU Y.out⟩, ⟨bU d.out⟩, ⟨bl⟩⟩
    case round =>
     clear H'
     obtain ⟨E, q, rfl, HA, a2, j, y, d, HB⟩ := hrel
     cases gk with
     | zero => exact absurd HA.out (by simp [vA.l1])
     | succ k2 =>
      have H := HA.out
      clear HA
      simp only [vA.l1] at H
      rcases iL H with H1 | H1 <;> clear H <;> obtain ⟨H, e7⟩ := H1
      ·by_cases a3 : 0 ≤ q
       ·rw [if_pos a3] at H
        have e8 := decide_eq_true a3
        clear a3
        by_cases a4 : q < (x.length : Int)
        ·rw [if_pos a4] at H
         have e9 := decide_eq_true a4
         clear a4
         obtain ⟨J, f0, H⟩ := oB H
         try dsimp only at H
         by_cases a5 : E.length + J.length < 140737488355328
         ·rw [if_pos a5] at H
          have a9 := aE a5
          clear a5
          obtain ⟨a6, hy_⟩ : ∃ y_ : List Int, y_ = (E ++ J) := ⟨_, rfl⟩
          replace H : (vA.l1 k2 a6 D x (x.length : Int) (wrap64 (q + 1)) t u s) = some r := rh
          have b0 := aE hy_
          clear hy_
          have H' := aE H
          clear H
          have Z : 0 ≤ (q : Int) := dt
          have a0 : q < (x.length : Int) := dt
          obtain ⟨f1, b6, b7⟩ := Kd.yc (Kd.R_reads' y.out).2.2 q Z a0
          cases b6
          replace Z := eq_true Z
          replace a0 := eq_true a0
          go_wp2_with (first | ((with_reducible refine gf 30 rfl ?_); refine gL (some 27) rfl rfl Tryz.func30 rfl #[.int .i64 (rd x q), .int .i64 (Int.tmod q 2)] rfl ?_; (with_reducible refine (wo.calls k2 (rd x q) (Int.tmod q 2) J _ f0.out).mono ?_); rintro e f7 ⟨f5, rfl, L, hb⟩; refine ⟨_, rfl, ?_⟩; have n_ := aC (Kd.R_elder' (rU j.out) (Kd.xc L) hb) (aC (Kd.wg (rU y.out) hb) (aC (Kd.vS (Kd.R_new' L (Kd.xW (rU j.out))) bz) (aC (vp (bU d.out) hb) (aE (bs hb))))); clear j y d HB; obtain ⟨j, y, B, d, HB⟩ := n_; obtain ⟨b8, b9, c0⟩ := Kd.vY B.out; subst c0) | ((with_reducible refine wU (b := .append) (xs := #[.tmp 23, .tmp 27]) rfl ?_); at_builtin; refine Kd.xO (Kd.int .u8) (w0 := w) w.heap.size rfl (.tmp 23) (.tmp 27) 22 5 (.int .u8 0) 1 rfl Tryz.underlying22 info5 rfl (by decide) (by omega) u3 E J _ _ _ (fun k_ => some k_ ≠ (.slice b8 J.length b9 : Value).ownBlock) (fun _ => False) rfl rfl ?aO ?aR (fun _ _ h => h) (fun _ h => h.elim) ?aF ?aB ?aS ?aL ?_; (case aR => repeat (first | exact (Kd.R_reads' B.out).2.2 | (with_reducible refine Kd.yi ?_ _) | (with_reducible refine Kd.yg ?_ _) | (with_reducible refine Kd.yr ?_))); (case aB => exact bl); (case aF => exact (fun k_ hk => Kd.fresh' (Kd.xW (rU B.out)) k_ hk)); (case aO => exact (rU (Kd.vU j.out (fun _ hk => hk.2)))); (case aS => exact bz); (case aL => have := a9.out; omega); intro f6 f8 ho hb hg hat; rw [← b0.out] at ho; have n_ := aC (Kd.R_over' (rU y.out) (Kd.zI (rU j.out)) (by decide) hg) (aC (xz (bU d.out) hg (Kd.ja j.out d.out (by decide))) (aC (Kd.yG (ok := (fun _ => True)) (rU B.out) hg hat) (aC hb (aE ho)))); clear y d B HB j; obtain ⟨y, d, B, HB, b1⟩ := n_; clear ho hb hg hat))
          go_roundg k2
          case measure => have := a1.out; have := a2.out; omega
          case rel => exact ⟨(a6), (wrap64 (q + 1)), rq, H', ⟨by have := a1.out; have := a2.out; omega⟩, ⟨rU (Kd.vU b1.out (fun _ hk => trivial))⟩, ⟨rU y.out⟩, ⟨bU d.out⟩, ⟨bl⟩⟩
         ·rw [if_neg a5] at H
          exact nB H
        ·rw [if_neg a4] at H
         exact nB H
       ·rw [if_neg a3] at H
        exact nB H
      ·have H' := aE H
       clear H
       go_wp2
       go_roundg k2
       case measure => have := a1.out; have := a2.out; omega
       case rel => exact ⟨(E), (wrap64 (D + 1)), rq, H', ⟨by have := a1.out; have := a2.out; omega⟩, ⟨rU j.out⟩, ⟨bU d.out⟩, ⟨bl⟩⟩
   ·obtain rfl := Option.some.inj H
    obtain ⟨c1, d0, d1, d2, d3, d4⟩ := yk d.out
    go_wp2
    go_ret
    exact ⟨_, re, rU j.out, bl⟩
def xo.f (l0 : List Int) (a1 : Int) : Option (Int) := if a1 < 0 then (some 0) else (if 0 ≤ a1 then (if a1 < (l0.length : Int) then (some (wrap64 (rd l0 a1))) else (none)) else (none))
theorem xo.calls (A0 : Option Addr) (c0 : Nat) (l0 : List Int) (a1 : Int) (r : Int) (w : World) (hr0 : Kd.C (Kd.int .u8) w A0 l0.length l0) (k : l0.length ≤ c0) (h : xo.f l0 a1 = some r) :
  Calls Tryz.prog 91 #[.slice A0 l0.length c0, .int .i64 a1] w fun e w' => e = .returned (.int .i64 r) ∧ wl w w' := by
 have t := aE hr0
 have B := aE k
 clear hr0 k
 have H := h
 unfold xo.f at H
 clear h
 rcases iL H with H1 | H1 <;> clear H <;> obtain ⟨H, x⟩ := H1
 ·obtain rfl := Option.some.inj H
  go_enter Tryz.func91, Tryz.ntmps91
  go_wp2
  go_ret
  exact ⟨by first | rfl | (simp; done) | (simp [*]; done), by repeat (first | exact wl.refl _ | apply wl.step)⟩
 ·by_cases c4 : 0 ≤ a1
  ·rw [if_pos c4] at H
   have y := decide_eq_true c4
   clear c4
   by_cases c5 : a1 < (l0.length : Int)
   ·rw [if_pos c5] at H
    have z := decide_eq_true c5
    clear c5
    obtain rfl := Option.some.inj H
    have d : 0 ≤ (a1 : Int) := dt
    have j : a1 < (l0.length : Int) := dt
    obtain ⟨u, q, s⟩ := Kd.yc t.out a1 d j
    cases q
    replace d := eq_true d
    replace j := eq_true j
    go_enter Tryz.func91, Tryz.ntmps91
    go_wp2
    go_ret
    exact ⟨by first | rfl | (simp; done) | (simp [*]; done), by repeat (first | exact wl.refl _ | apply wl.step)⟩
   ·rw [if_neg c5] at H
    exact nB H
  ·rw [if_neg c4] at H
   exact nB H
def vP.l0 : Nat → List Int → Int → Int → Option (Int)
 | 0, _, _, _ => none
 | k + 1, x0, x2, x7 => if x7 < (x0.length : Int) then ((xo.f x0 x7).bind fun d => (if d = x2 then (vP.l0 k x0 x2 (wrap64 (x7 + 1))) else ((xo.f x0 (wrap64 (x7 - 1))).bind fun e => (if e = x2 then (some x7) else (vP.l0 k x0 x2 (wrap64 (x7 + 1))))))) else (some (x0.length : Int))
def vP.f (k : Nat) (l0 : List Int) (a1 : Int) (a2 : Int) : Option (Int) := vP.l0 k l0 a2 (wrap64 (a1 + 1))
theorem vP.wt : ∀ k, (∀ y0 y1 y2, vK (vP.l0 k y0 y1 y2) (vP.l0 (k + 1) y0 y1 y2))
 | 0 => fun _ _ _ r h => by simp [vP.l0] at h
 | k + 1 => by
  have ih0 := vP.wt k
  ·intro y0 y1 y2
   unfold vP.l0
   repeat' first
   | (with_reducible exact ih0 _ _ _)
   | (with_reducible first | exact vK.refl _ | exact vK.none _ | apply vK.ite | apply vK.bind | intro)
theorem vP.mono : ∀ a0 a1 a2 k, vK (vP.f k a0 a1 a2) (vP.f (k + 1) a0 a1 a2) := by
 intro a0 a1 a2 k
 have ih0 := vP.wt k
 unfold vP.f
 repeat' first
   | (with_reducible exact ih0 _ _ _)
   | (with_reducible first | exact vK.refl _ | exact vK.none _ | apply vK.ite | apply vK.bind | intro)
theorem vP.calls (k : Nat) (A0 : Option Addr) (c0 : Nat) (l0 : List Int) (a1 : Int) (a2 : Int) (r : Int) (w : World) (hr0 : Kd.C (Kd.int .u8) w A0 l0.length l0) (x : l0.length ≤ c0) (h : vP.f k l0 a1 a2 = some r) :
  Calls Tryz.prog 72 #[.slice A0 l0.length c0, .int .i64 a1, .int .i64 a2] w fun e w' => e = .returned (.int .i64 r) ∧ wl w w' := by
 have j := aE hr0
 have q := aE x
 clear hr0 x
 have H : (vP.l0 k l0 a2 (wrap64 (a1 + 1))) = some r := h
 clear h
 have H' := aE H
 clear H
 go_enter Tryz.func72, Tryz.ntmps72
 go_wp2
 go_loopg [7] k (fun kq v7 w' => ∃ (d : Int), v7 = .int .i64 d ∧ Aside0 (vP.l0 kq l0 a2 d = some r) ∧ Aside0 (kq ≤ k) ∧ wl w w')
 case atStart => exact ⟨(wrap64 (a1 + 1)), rq, H', ⟨Nat.le_refl _⟩, by repeat (first | exact wl.refl _ | apply wl.step)⟩
 case round =>
  clear H'
  obtain ⟨d, rfl, HA, t, ⟨m1, rfl⟩⟩ := hrel
  cases gk with
  | zero => exact absurd HA.out (by simp [vP.l0])
  | succ k1 =>
   have H := HA.out
   clear HA
   simp only [vP.l0] at H
   rcases iL H with H1 | H1 <;> clear H <;> obtain ⟨H, y⟩ := H1
   ·obtain ⟨s, A5, H⟩ := oB H
    try dsimp only at H
    rcases iE H with H1 | H1 <;> clear H <;> obtain ⟨H, z, B, c6⟩ := H1
    ·have H' := aE H
     clear H
     go_wp2_with (first | ((with_reducible refine gf 91 rfl ?_); refine gL (some 18) rfl rfl Tryz.func91 rfl #[.slice A0 l0.length c0, .int .i64 d] rfl ?_; (with_reducible refine (xo.calls _ _ l0 d s _ ?side1 ?side2 A5.out).mono ?_); (case side1 => exact cU j.out); (case side2 => exact q.out); rintro e w' ⟨rfl, ⟨nd, rfl⟩⟩; refine ⟨_, rfl, ?_⟩))
     go_roundg k1
     case measure => have := t.out; omega
     case rel => exact ⟨(wrap64 (d + 1)), rq, H', ⟨by have := t.out; omega⟩, by repeat (first | exact wl.refl _ | apply wl.step)⟩
    ·obtain ⟨u, A7, H⟩ := oB H
     try dsimp only at H
     rcases iE H with H1 | H1 <;> clear H <;> obtain ⟨H, D, E, c8⟩ := H1
     ·obtain rfl := Option.some.inj H
      go_wp2_with (first | ((with_reducible refine gf 91 rfl ?_); refine gL (some 18) rfl rfl Tryz.func91 rfl #[.slice A0 l0.length c0, .int .i64 d] rfl ?_; (with_reducible refine (xo.calls _ _ l0 d s _ ?side1 ?side2 A5.out).mono ?_); (case side1 => exact cU j.out); (case side2 => exact q.out); rintro e w' ⟨rfl, ⟨nd, rfl⟩⟩; refine ⟨_, rfl, ?_⟩) | (go_at_call 91; (with_reducible refine (xo.calls _ _ l0 (wrap64 (d - 1)) u _ ?side1 ?side2 A7.out).mono ?_); (case side1 => exact cU j.out); (case side2 => exact q.out); rintro e w' ⟨rfl, ⟨nd, rfl⟩⟩))
      go_ret
      exact ⟨by first | rfl | (simp; done) | (simp [*]; done), by repeat (first | exact wl.refl _ | apply wl.step)⟩
     ·have H' := aE H
      clear H
      go_wp2_with (first | ((with_reducible refine gf 91 rfl ?_); refine gL (some 18) rfl rfl Tryz.func91 rfl #[.slice A0 l0.length c0, .int .i64 d] rfl ?_; (with_reducible refine (xo.calls _ _ l0 d s _ ?side1 ?side2 A5.out).mono ?_); (case side1 => exact cU j.out); (case side2 => exact q.out); rintro e w' ⟨rfl, ⟨nd, rfl⟩⟩; refine ⟨_, rfl, ?_⟩) | (go_at_call 91; (with_reducible refine (xo.calls _ _ l0 (wrap64 (d - 1)) u _ ?side1 ?side2 A7.out).mono ?_); (case side1 => exact cU j.out); (case side2 => exact q.out); rintro e w' ⟨rfl, ⟨nd, rfl⟩⟩))
      go_roundg k1
      case measure => have := t.out; omega
      case rel => exact ⟨(wrap64 (d + 1)), rq, H', ⟨by have := t.out; omega⟩, by repeat (first | exact wl.refl _ | apply wl.step)⟩
   ·obtain rfl := Option.some.inj H
    go_wp2
    go_ret
    exact ⟨by first | rfl | (simp; done) | (simp [*]; done), by repeat (first | exact wl.refl _ | apply wl.step)⟩
def vF.l0 : Nat → List Int → Int → Int → Option (Int)
 | 0, _, _, _ => none
 | k + 1, x0, x2, x7 => if x7 < (x0.length : Int) then ((xo.f x0 x7).bind fun d => (if d = x2 then (some x7) else (vF.l0 k x0 x2 (wrap64 (x7 + 1))))) else (some (x0.length : Int))
def vF.f (k : Nat) (l0 : List Int) (a1 : Int) (a2 : Int) : Option (Int) := vF.l0 k l0 a2 (wrap64 (a1 + 1))
theorem vF.wt : ∀ k, (∀ y0 y1 y2, vK (vF.l0 k y0 y1 y2) (vF.l0 (k + 1) y0 y1 y2))
 | 0 => fun _ _ _ r h => by simp [vF.l0] at h
 | k + 1 => by
  have ih0 := vF.wt k
  ·intro y0 y1 y2
   unfold vF.l0
   repeat' first
   | (with_reducible exact ih0 _ _ _)
   | (with_reducible first | exact vK.refl _ | exact vK.none _ | apply vK.ite | apply vK.bind | intro)
theorem vF.mono : ∀ a0 a1 a2 k, vK (vF.f k a0 a1 a2) (vF.f (k + 1) a0 a1 a2) := by
 intro a0 a1 a2 k
 have ih0 := vF.wt k
 unfold vF.f
 repeat' first
   | (with_reducible exact ih0 _ _ _)
   | (with_reducible first | exact vK.refl _ | exact vK.none _ | apply vK.ite | apply vK.bind | intro)
theorem vF.calls (k : Nat) (A0 : Option Addr) (c0 : Nat) (l0 : List Int) (a1 : Int) (a2 : Int) (r : Int) (w : World) (hr0 : Kd.C (Kd.int .u8) w A0 l0.length l0) (q : l0.length ≤ c0) (h : vF.f k l0 a1 a2 = some r) :
  Calls Tryz.prog 73 #[.slice A0 l0.length c0, .int .i64 a1, .int .i64 a2] w fun e w' => e = .returned (.int .i64 r) ∧ wl w w' := by
 have s := aE hr0
 have t := aE q
 clear hr0 q
 have H : (vF.l0 k l0 a2 (wrap64 (a1 + 1))) = some r := h
 clear h
 have H' := aE H
 clear H
 go_enter Tryz.func73, Tryz.ntmps73
 go_wp2
 go_loopg [7] k (fun kq v7 w' => ∃ (d : Int), v7 = .int .i64 d ∧ Aside0 (vF.l0 kq l0 a2 d = some r) ∧ Aside0 (kq ≤ k) ∧ wl w w')
 case atStart => exact ⟨(wrap64 (a1 + 1)), rq, H', ⟨Nat.le_refl _⟩, by repeat (first | exact wl.refl _ | apply wl.step)⟩
 case round =>
  clear H'
  obtain ⟨d, rfl, HA, u, ⟨m1, rfl⟩⟩ := hrel
  cases gk with
  | zero => exact absurd HA.out (by simp [vF.l0])
  | succ k1 =>
   have H := HA.out
   clear HA
   simp only [vF.l0] at H
   rcases iL H with H1 | H1 <;> clear H <;> obtain ⟨H, x⟩ := H1
   ·obtain ⟨j, A5, H⟩ := oB H
    try dsimp only at H
    rcases iE H with H1 | H1 <;> clear H <;> obtain ⟨H, y, z, c6⟩ := H1
    ·obtain rfl := Option.some.inj H
     go_wp2_with (first | ((with_reducible refine gf 91 rfl ?_); refine gL (some 18) rfl rfl Tryz.func91 rfl #[.slice A0 l0.length c0, .int .i64 d] rfl ?_; (with_reducible refine (xo.calls _ _ l0 d j _ ?side1 ?side2 A5.out).mono ?_); (case side1 => exact cU s.out); (case side2 => exact t.out); rintro e w' ⟨rfl, ⟨nd, rfl⟩⟩; refine ⟨_, rfl, ?_⟩))
     go_ret
     exact ⟨by first | rfl | (simp; done) | (simp [*]; done), by repeat (first | exact wl.refl _ | apply wl.step)⟩
    ·have H' := aE H
     clear H
     go_wp2_with (first | ((with_reducible refine gf 91 rfl ?_); refine gL (some 18) rfl rfl Tryz.func91 rfl #[.slice A0 l0.length c0, .int .i64 d] rfl ?_; (with_reducible refine (xo.calls _ _ l0 d j _ ?side1 ?side2 A5.out).mono ?_); (case side1 => exact cU s.out); (case side2 => exact t.out); rintro e w' ⟨rfl, ⟨nd, rfl⟩⟩; refine ⟨_, rfl, ?_⟩))
     go_roundg k1
     case measure => have := u.out; omega
     case rel => exact ⟨(wrap64 (d + 1)), rq, H', ⟨by have := u.out; omega⟩, by repeat (first | exact wl.refl _ | apply wl.step)⟩
   ·obtain rfl := Option.some.inj H
    go_wp2
    go_ret
    exact ⟨by first | rfl | (simp; done) | (simp [*]; done), by repeat (first | exact wl.refl _ | apply wl.step)⟩
def vC.l0 : Nat → ByteArray → List Int → Int → Option (List Int)
 | 0, _, _, _ => none
 | k + 1, x0, x3, x4 => if x4 < (x0.size : Int) then (if 0 ≤ x4 then (if x3.length < 140737488355328 then (vC.l0 k x0 (x3 ++ [((bt x0 x4) - 48) % 256]) (wrap64 (x4 + 1))) else (none)) else (none)) else (some x3)
def vC.f (k : Nat) (a0 : ByteArray) : Option (List Int) := vC.l0 k a0 ([] : List Int) 0
theorem vC.wt : ∀ k, (∀ y0 y1 y2, vK (vC.l0 k y0 y1 y2) (vC.l0 (k + 1) y0 y1 y2))
 | 0 => fun _ _ _ r h => by simp [vC.l0] at h
 | k + 1 => by
  have ih0 := vC.wt k
  ·intro y0 y1 y2
   unfold vC.l0
   repeat' first
   | (with_reducible exact ih0 _ _ _)
   | (with_reducible first | exact vK.refl _ | exact vK.none _ | apply vK.ite | apply vK.bind | intro)
theorem vC.mono : ∀ a0 k, vK (vC.f k a0) (vC.f (k + 1) a0) := by
 intro a0 k
 have ih0 := vC.wt k
 unfold vC.f
 repeat' first
   | (with_reducible exact ih0 _ _ _)
   | (with_reducible first | exact vK.refl _ | exact vK.none _ | apply vK.ite | apply vK.bind | intro)
theorem vC.calls (k : Nat) (a0 : ByteArray) (r : List Int) (w : World) (h : vC.f k a0 = some r) :
  Calls Tryz.prog 74 #[.string a0] w fun e w' => ∃ x : Value, e = .returned (x) ∧ Kd.R (Kd.int .u8) 5 w' w.heap.size (fun _ => True) x r ∧ Below w.heap.size w w' := by
 have HB := bR w
 have H : (vC.l0 k a0 ([] : List Int) 0) = some r := h
 clear h
 have H' := aE H
 clear H
 go_enter Tryz.func74, Tryz.ntmps74
 go_wp2
 go_loopg [3, 4] k (fun kq v3 v4 w' => ∃ (j : List Int) (d : Int), v4 = .int .i64 d ∧ Aside0 (vC.l0 kq a0 j d = some r) ∧ Aside0 (kq ≤ k) ∧ Aside0 (Kd.R (Kd.int .u8) 5 w' w.heap.size (fun _ => True) v3 j) ∧ Aside0 (Below w.heap.size w w'))
 case atStart => exact ⟨(([] : List Int)), (0), rq, H', ⟨Nat.le_refl _⟩, ⟨by first | exact Kd.yu _ _ _ _ _ | exact Kd.yR _ _ _ _ _ | exact Kd.yS _ _ _ _ _ | exact Kd.yP _ _ _ _ _ | exact Kd.yV _ _ _ _ _⟩, ⟨bl⟩⟩
 case round =>
  clear H'
  obtain ⟨j, d, rfl, HA, y, q, HB⟩ := hrel
  cases gk with
  | zero => exact absurd HA.out (by simp [vC.l0])
  | succ k1 =>
   have H := HA.out
   clear HA
   simp only [vC.l0] at H
   rcases iL H with H1 | H1 <;> clear H <;> obtain ⟨H, B⟩ := H1
   ·by_cases c3 : 0 ≤ d
    ·rw [if_pos c3] at H
     have D := decide_eq_true c3
     clear c3
     by_cases c5 : j.length < 140737488355328
     ·rw [if_pos c5] at H
      have z := aE c5
      clear c5
      obtain ⟨s, hy_⟩ : ∃ y_ : List Int, y_ = (j ++ [((bt a0 d) - 48) % 256]) := ⟨_, rfl⟩
      replace H : (vC.l0 k1 a0 s (wrap64 (d + 1))) = some r := rh
      have t := aE hy_
      clear hy_
      have H' := aE H
      clear H
      have p4 : 0 ≤ (d : Int) := dt
      have q4 : d < (a0.size : Int) := dt
      have G := bt_at a0 d
      replace p4 := eq_true p4
      replace q4 := eq_true q4
      go_wp2_with (first | ((with_reducible refine wU (b := .append) (xs := #[.tmp 11, .tmp 16]) rfl ?_); at_builtin; refine Kd.za (Kd.int .u8) (w0 := w) w.heap.size rfl (.tmp 11) (.tmp 16) 22 5 (.int .u8 0) 1 rfl Tryz.underlying22 info5 rfl (by decide) (by omega) u3 j (((bt a0 d) - 48) % 256) [.int .u8 (((bt a0 d) - 48) % 256)] (fun _ => True) (fun _ => False) rfl rfl ?aP (fun _ hk => hk.elim) ?aF ?aO ?aB ?aS ?aL ?_; (case aP => exact rfl); (case aB => exact bl); (case aF => exact (fun _ _ => trivial)); (case aO => exact (rU q.out)); (case aS => exact bz); (case aL => have := z.out; omega); intro E w6 ho hb hg hat; rw [← t.out] at ho; have n_ := aC hb (aE ho); clear HB q; obtain ⟨HB, u⟩ := n_; clear ho hb hg hat))
      go_roundg k1
      case measure => have := y.out; omega
      case rel => exact ⟨(s), (wrap64 (d + 1)), rq, H', ⟨by have := y.out; omega⟩, ⟨rU u.out⟩, ⟨bl⟩⟩
     ·rw [if_neg c5] at H
      exact nB H
    ·rw [if_neg c3] at H
     exact nB H
   ·obtain rfl := Option.some.inj H
    go_wp2
    go_ret
    exact ⟨_, re, rU q.out, bl⟩
def yw.f (a0 : Int) : Option (ByteArray) := if a0 = (-3) then (some (⟨#[117, 112, 45, 51]⟩ : ByteArray)) else (if a0 = (-2) then (some (⟨#[117, 112, 45, 50]⟩ : ByteArray)) else (if a0 = (-1) then (some (⟨#[117, 112, 45, 49]⟩ : ByteArray)) else (if a0 = 0 then (some (⟨#[117, 112, 48]⟩ : ByteArray)) else (if a0 = 1 then (some (⟨#[117, 112, 49]⟩ : ByteArray)) else (if a0 = 2 then (some (⟨#[117, 112, 50]⟩ : ByteArray)) else (some (⟨#[117, 112, 51]⟩ : ByteArray)))))))
theorem yw.calls (a0 : Int) (r : ByteArray) (w : World) (h : yw.f a0 = some r) :
  Calls Tryz.prog 75 #[.int .i64 a0] w fun e w' => e = .returned (.string r) ∧ wl w w' := by
 have H := h
 unfold yw.f at H
 clear h
 rcases iE H with H1 | H1 <;> clear H <;> obtain ⟨H, d, j, c2⟩ := H1
 ·obtain rfl := Option.some.inj H
  go_enter Tryz.func75, Tryz.ntmps75
  go_wp2
  go_ret
  exact ⟨by first | rfl | (simp; done) | (simp [*]; done), by repeat (first | exact wl.refl _ | apply wl.step)⟩
 ·rcases iE H with H1 | H1 <;> clear H <;> obtain ⟨H, k, q, c3⟩ := H1
  ·obtain rfl := Option.some.inj H
   go_enter Tryz.func75, Tryz.ntmps75
   go_wp2
   go_ret
   exact ⟨by first | rfl | (simp; done) | (simp [*]; done), by repeat (first | exact wl.refl _ | apply wl.step)⟩
  ·rcases iE H with H1 | H1 <;> clear H <;> obtain ⟨H, s, t, c4⟩ := H1
   ·obtain rfl := Option.some.inj H
    go_enter Tryz.func75, Tryz.ntmps75
    go_wp2
    go_ret
    exact ⟨by first | rfl | (simp; done) | (simp [*]; done), by repeat (first | exact wl.refl _ | apply wl.step)⟩
   ·rcases iE H with H1 | H1 <;> clear H <;> obtain ⟨H, u, x, c5⟩ := H1
    ·obtain rfl := Option.some.inj H
     go_enter Tryz.func75, Tryz.ntmps75
     go_wp2
     go_ret
     exact ⟨by first | rfl | (simp; done) | (simp [*]; done), by repeat (first | exact wl.refl _ | apply wl.step)⟩
    ·rcases iE H with H1 | H1 <;> clear H <;> obtain ⟨H, y, z, c6⟩ := H1
     ·obtain rfl := Option.some.inj H
      go_enter Tryz.func75, Tryz.ntmps75
      go_wp2
      go_ret
      exact ⟨by first | rfl | (simp; done) | (simp [*]; done), by repeat (first | exact wl.refl _ | apply wl.step)⟩
     ·rcases iE H with H1 | H1 <;> clear H <;> obtain ⟨H, B, D, c7⟩ := H1
      ·obtain rfl := Option.some.inj H
       go_enter Tryz.func75, Tryz.ntmps75
       go_wp2
       go_ret
       exact ⟨by first | rfl | (simp; done) | (simp [*]; done), by repeat (first | exact wl.refl _ | apply wl.step)⟩
      ·obtain rfl := Option.some.inj H
       go_enter Tryz.func75, Tryz.ntmps75
       go_wp2
       go_ret
       exact ⟨by first | rfl | (simp; done) | (simp [*]; done), by repeat (first | exact wl.refl _ | apply wl.step)⟩
end Go.Proofs.YtknclbodinfbeaaGreatDoor.PRunsBack
