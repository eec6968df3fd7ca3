-- printed (wip/tools/myprint.py)
import Derived.Test.YtknclbodinfbeaaGreatDoorPRunsBackx0
namespace Go.Proofs.YtknclbodinfbeaaGreatDoor.PRunsBack
open Go.RowKit Go.Proofs.YtknclbodinfbeaaGreatDoorW.PrintWords Go.Proofs.YtknclbodinfbeaaGreatDoorW.PrintLast Go.Proofs.YtknclbodinfbeaaGreatDoorW.PrintMore
attribute [local go_sem] yo ym yC yD xU xT yn yq
set_option linter.unusedVariables false
set_option linter.unusedSimpArgs false
set_option maxHeartbeats 8000000
set_option maxRecDepth 100000
def wq.j0 : Nat → Bool → Int → Int → Int → Int → Bool → Int → Option (Int × Bool)
 | 0, _, _, _, _, _, _, _ => none
 | k + 1, t, s, j, e, q, r, d => if t = true then (if q = 2 then (if r = true then (some (0, (d == 0))) else (some (0, false))) else (some (0, false))) else (if q = 1 then (if d < (-4194304) then (some (wrap64 (e - d), false)) else (if d > 4194304 then (some (wrap64 (e - d), false)) else (if (wrap64 (e - d)) ≥ 0 then (if 0 ≤ j then (some (wrap64 (e - d), decide ((wrap64 (e - d)) < (shl .i64 1 j)))) else (none)) else (some (wrap64 (e - d), false))))) else (if d < (-4194304) then (some (wrap64 (d - e), false)) else (if d > 4194304 then (some (wrap64 (d - e), false)) else (if (wrap64 (d - e)) ≥ 0 then (if 0 ≤ j then (some (wrap64 (d - e), decide ((wrap64 (d - e)) < (shl .i64 1 j)))) else (none)) else (some (wrap64 (d - e), false))))))
def wq.f (k : Nat) (j : Int) (q : Int) (r : Int) (d : Int) (e : Bool) (s : Int) : Option (Int × Bool) := if d = 2 then (wq.j0 k true j q r d e s) else (wq.j0 k e j q r d e s)
theorem wq.wt : ∀ k, (∀ y0 y1 y2 y3 y4 y5 y6, vK (wq.j0 k y0 y1 y2 y3 y4 y5 y6) (wq.j0 (k + 1) y0 y1 y2 y3 y4 y5 y6))
 | 0 => fun _ _ _ _ _ _ _ r h => by simp [wq.j0] at h
 | k + 1 => by
  have ih0 := wq.wt k
  ·intro y0 y1 y2 y3 y4 y5 y6
   unfold wq.j0
   repeat' first
   | (with_reducible exact ih0 _ _ _ _ _ _ _)
   | (with_reducible first | exact vK.refl _ | exact vK.none _ | apply vK.ite | apply vK.bind | intro)
theorem wq.mono : ∀ a0 a1 a2 a3 a4 a5 k, vK (wq.f k a0 a1 a2 a3 a4 a5) (wq.f (k + 1) a0 a1 a2 a3 a4 a5) := by
 intro a0 a1 a2 a3 a4 a5 k
 have ih0 := wq.wt k
 unfold wq.f
 repeat' first
   | (with_reducible exact ih0 _ _ _ _ _ _ _)
   | (with_reducible first | exact vK.refl _ | exact vK.none _ | apply vK.ite | apply vK.bind | intro)
theorem wq.calls (k : Nat) (G : Int) (r : Int) (t : Int) (I : Int) (x : Bool) (u : Int) (r1 : Int) (r2 : Bool) (w : World) (h : wq.f k G r t I x u = some (r1, r2)) :
  Calls Tryz.prog 68 #[.agg #[.int .i64 G, .int .i64 r, .int .i64 t, .int .i64 I], .agg #[.bool x, .int .i64 u]] w fun e w' => e = .returned (.tuple #[.int .i64 r1, .bool r2]) ∧ Below w.heap.size w w' := by
 have hu105 := Tryz.underlying105
 have hu69 := Tryz.underlying69
 have HB := bR w
 have H := h
 unfold wq.f at H
 clear h
 have a1 := aE H
 clear H
 go_enter Tryz.func68, Tryz.ntmps68
 go_upto_region 1 with (first | ((with_reducible refine gd 2 rfl ?_); refine bx 2 #[.int .i64 G, .int .i64 r, .int .i64 t, .int .i64 I] 105 rfl rfl ?_; intro a2 hg w4 hbox hb; have n_ := aC (bs hb) (aC hbox (aC (gz hg) (aE (gz hg)))); clear HB; obtain ⟨HB, q, r7, r8⟩ := n_; clear hb hbox hg) | ((with_reducible refine gd 3 rfl ?_); refine bx 3 #[.bool x, .int .i64 u] 69 rfl rfl ?_; intro a3 hg w5 hbox hb; have n_ := aC (vp (bU q.out) hb) (aC (bs hb) (aC hbox (aC (gz hg) (aC (gz hg) (aC (gn hg (bU q.out)) (aE (gm hg (bU q.out)))))))); clear q HB; obtain ⟨q, HB, s, r9, s0, d, j⟩ := n_; clear hb hbox hg))
 (try simp only [Act.put, List.setIfInBounds_toArray, List.set_cons_zero, List.set_cons_succ])
 go_cut [14] (fun s1 wc => ∃ (kq : Nat) (E : Bool), s1 = .bool E ∧ Aside0 (wq.j0 kq E G r t I x u = some (r1, r2)) ∧ Aside0 (kq ≤ k) ∧ Aside0 (wc.heap[a2]? = some (.cells #[.int .i64 G, .int .i64 r, .int .i64 t, .int .i64 I] 105 (0, 0))) ∧ Aside0 (wc.heap[a3]? = some (.cells #[.bool x, .int .i64 u] 69 (0, 0))) ∧ Aside0 (Below w.heap.size w wc))
 case first =>
  have H := a1.out
  clear a1
  rcases iE H with H1 | H1 <;> clear H <;> obtain ⟨H, J, v8, c6⟩ := H1
  ·(first | rw [J] | (simp only [xS, zK]; rw [J]) | skip)
   have H' := aE H
   clear H
   have v9 := d.out
   have w0 := j.out
   obtain ⟨p9, q0, q1, q2, q3, q4, q5, q6⟩ := xP q.out
   go_wp2
   go_meet
   case rel => exact ⟨_, (true), rq, H', ⟨by first | omega | exact Nat.le_refl _⟩, ⟨bU q.out⟩, ⟨bU s.out⟩, ⟨bl⟩⟩
  ·(first | rw [J] | (simp only [xS, zK]; rw [J]) | skip)
   have H' := aE H
   clear H
   have w1 := d.out
   have w2 := j.out
   obtain ⟨a4, a5, a6, a7, a8, a9, b0, b1⟩ := xP q.out
   obtain ⟨b2, b3, b4, b5⟩ := yM s.out
   go_wp2
   go_meet
   case rel => exact ⟨_, (x), rq, H', ⟨by first | omega | exact Nat.le_refl _⟩, ⟨bU q.out⟩, ⟨bU s.out⟩, ⟨bl⟩⟩
 case rest =>
  clear a1
  obtain ⟨kq, E, rfl, HA, w3, q, s, HB⟩ := hcut
  cases kq with
  | zero => exact absurd HA.out (by simp [wq.j0])
  | succ kj2 =>
   have H := HA.out
   clear HA
   simp only [wq.j0] at H
   by_cases Z : E = true
   ·subst Z
    rw [if_pos rfl] at H
    rcases iE H with H1 | H1 <;> clear H <;> obtain ⟨H, s2, s3, w6⟩ := H1
    ·by_cases a0 : x = true
     ·subst a0
      rw [if_pos rfl] at H
      simp only [Option.some.injEq, Prod.mk.injEq] at H
      obtain ⟨rfl, rfl⟩ := H
      have s4 := d.out
      have s5 := j.out
      obtain ⟨b6, b7, b8, b9, c0, c1, d0, d1⟩ := xP q.out
      obtain ⟨d2, d3, d4, d5⟩ := yM s.out
      go_wp2
      repeat (go_quiet (fail); try go_wp2)
      go_ret2
      exact ⟨re, bl⟩
     ·replace a0 := Bool.eq_false_iff.mpr a0
      subst a0
      rw [if_neg Bool.false_ne_true] at H
      simp only [Option.some.injEq, Prod.mk.injEq] at H
      obtain ⟨rfl, rfl⟩ := H
      have s6 := d.out
      have s7 := j.out
      obtain ⟨d6, d7, d8, d9, e0, e1, e2, e3⟩ := xP q.out
      obtain ⟨e4, e5, e6, e7⟩ := yM s.out
      go_wp2
      repeat (go_quiet (fail); try go_wp2)
      go_ret2
      exact ⟨re, bl⟩
    ·simp only [Option.some.injEq, Prod.mk.injEq] at H
     obtain ⟨rfl, rfl⟩ := H
     have s8 := d.out
     have s9 := j.out
     obtain ⟨e8, e9, f0, f1, f2, f3, f4, f5⟩ := xP q.out
     go_wp2
     repeat (go_quiet (fail); try go_wp2)
     go_ret2
     exact ⟨re, bl⟩
   ·replace Z := Bool.eq_false_iff.mpr Z
    subst Z
    rw [if_neg Bool.false_ne_true] at H
    rcases iE H with H1 | H1 <;> clear H <;> obtain ⟨H, t0, t1, w7⟩ := H1
    ·rcases iL H with H1 | H1 <;> clear H <;> obtain ⟨H, t2⟩ := H1
     ·simp only [Option.some.injEq, Prod.mk.injEq] at H
      obtain ⟨rfl, rfl⟩ := H
      have t3 := j.out
      have t4 := d.out
      obtain ⟨f6, f7, f8, f9⟩ := yM s.out
      obtain ⟨g0, g1, g2, g3, g4, g5, g6, g7⟩ := xP q.out
      go_wp2
      repeat (go_quiet (fail); try go_wp2)
      go_ret2
      exact ⟨re, bl⟩
     ·rcases iL H with H1 | H1 <;> clear H <;> obtain ⟨H, t5⟩ := H1
      ·simp only [Option.some.injEq, Prod.mk.injEq] at H
       obtain ⟨rfl, rfl⟩ := H
       have t6 := j.out
       have t7 := d.out
       obtain ⟨g8, g9, h3, h4⟩ := yM s.out
       obtain ⟨h5, h6, h7, h8, h9, i0, i1, i2⟩ := xP q.out
       go_wp2
       repeat (go_quiet (fail); try go_wp2)
       go_ret2
       exact ⟨re, bl⟩
      ·rcases iL H with H1 | H1 <;> clear H <;> obtain ⟨H, t8⟩ := H1
       ·by_cases X : 0 ≤ r
        ·rw [if_pos X] at H
         have t9 := eq_true X
         have u0 := decide_eq_true X
         clear X
         obtain ⟨y, z⟩ : ∃ j_ : Int, (shl .i64 1 r) = j_ := ⟨_, rfl⟩
         replace H : (some (wrap64 (t - u), decide ((wrap64 (t - u)) < (y)))) = some (r1, r2) := by first | (rw [z] at H; exact H) | (simp only [z] at H ⊢; exact H)
         have L : (IntKind.i64.wrap (1 * 2 ^ min r.toNat 64)) = y := z
         have M : r ≤ 64 → (IntKind.i64.wrap (1 * 2 ^ r.toNat)) = y := zP z
         have q7 : (IntKind.i64.wrap (2 ^ min r.toNat 64)) = y := by have h_ := L; rw [Int.one_mul] at h_; exact h_
         have q8 : r ≤ 64 → (IntKind.i64.wrap (2 ^ r.toNat)) = y := fun hle_ => by have h_ := M hle_; rw [Int.one_mul] at h_; exact h_
         have q9 : (wrap64 (1 * 2 ^ min r.toNat 64)) = y := (xS _).symm.trans L
         have r0 : r ≤ 64 → (wrap64 (1 * 2 ^ r.toNat)) = y := fun h_ => (xS _).symm.trans (M h_)
         simp only [Option.some.injEq, Prod.mk.injEq] at H
         obtain ⟨rfl, rfl⟩ := H
         have u1 := j.out
         have u2 := d.out
         obtain ⟨i3, i4, i5, i6⟩ := yM s.out
         obtain ⟨i7, i8, i9, j2, j3, j4, j5, j6⟩ := xP q.out
         go_wp2
         repeat (go_quiet (fail); try go_wp2)
         go_ret2
         exact ⟨by first | rfl | (simp [wP, wQ] <;> rfl) | (simp only [← z]; first | rfl | (simp [wP, wQ] <;> rfl)) | (simp [*, wP, wQ] <;> rfl), bl⟩
        ·rw [if_neg X] at H
         exact nB H
       ·simp only [Option.some.injEq, Prod.mk.injEq] at H
        obtain ⟨rfl, rfl⟩ := H
        have u3 := j.out
        have u4 := d.out
        obtain ⟨j7, j8, j9, k0⟩ := yM s.out
        obtain ⟨k1, k2, k3, k4, k5, k6, k7, k8⟩ := xP q.out
        go_wp2
        repeat (go_quiet (fail); try go_wp2)
        go_ret2
        exact ⟨re, bl⟩
    ·rcases iL H with H1 | H1 <;> clear H <;> obtain ⟨H, u5⟩ := H1
     ·simp only [Option.some.injEq, Prod.mk.injEq] at H
      obtain ⟨rfl, rfl⟩ := H
      have u6 := j.out
      have u7 := d.out
      obtain ⟨k9, l2, l3, l4⟩ := yM s.out
      obtain ⟨l5, l6, l7, l8, l9, m0, m1, m2⟩ := xP q.out
      go_wp2
      repeat (go_quiet (fail); try go_wp2)
      go_ret2
      exact ⟨re, bl⟩
     ·rcases iL H with H1 | H1 <;> clear H <;> obtain ⟨H, u8⟩ := H1
      ·simp only [Option.some.injEq, Prod.mk.injEq] at H
       obtain ⟨rfl, rfl⟩ := H
       have u9 := j.out
       have v0 := d.out
       obtain ⟨m3, m4, m5, m6⟩ := yM s.out
       obtain ⟨m7, m8, m9, n0, n1, n2, n3, n4⟩ := xP q.out
       go_wp2
       repeat (go_quiet (fail); try go_wp2)
       go_ret2
       exact ⟨re, bl⟩
      ·rcases iL H with H1 | H1 <;> clear H <;> obtain ⟨H, v1⟩ := H1
       ·by_cases Y : 0 ≤ r
        ·rw [if_pos Y] at H
         have v2 := eq_true Y
         have v3 := decide_eq_true Y
         clear Y
         obtain ⟨B, D⟩ : ∃ j_ : Int, (shl .i64 1 r) = j_ := ⟨_, rfl⟩
         replace H : (some (wrap64 (u - t), decide ((wrap64 (u - t)) < (B)))) = some (r1, r2) := by first | (rw [D] at H; exact H) | (simp only [D] at H ⊢; exact H)
         have O : (IntKind.i64.wrap (1 * 2 ^ min r.toNat 64)) = B := D
         have T : r ≤ 64 → (IntKind.i64.wrap (1 * 2 ^ r.toNat)) = B := zP D
         have r3 : (IntKind.i64.wrap (2 ^ min r.toNat 64)) = B := by have h_ := O; rw [Int.one_mul] at h_; exact h_
         have r4 : r ≤ 64 → (IntKind.i64.wrap (2 ^ r.toNat)) = B := fun hle_ => by have h_ := T hle_; rw [Int.one_mul] at h_; exact h_
         have r5 : (wrap64 (1 * 2 ^ min r.toNat 64)) = B := (xS _).symm.trans O
         have r6 : r ≤ 64 → (wrap64 (1 * 2 ^ r.toNat)) = B := fun h_ => (xS _).symm.trans (T h_)
         simp only [Option.some.injEq, Prod.mk.injEq] at H
         obtain ⟨rfl, rfl⟩ := H
         have v4 := j.out
         have v5 := d.out
         obtain ⟨n5, n6, n7, n8⟩ := yM s.out
         obtain ⟨n9, o0, o1, o2, o3, o4, o5, o6⟩ := xP q.out
         go_wp2
         repeat (go_quiet (fail); try go_wp2)
         go_ret2
         exact ⟨by first | rfl | (simp [wP, wQ] <;> rfl) | (simp only [← D]; first | rfl | (simp [wP, wQ] <;> rfl)) | (simp [*, wP, wQ] <;> rfl), bl⟩
        ·rw [if_neg Y] at H
         exact nB H
       ·simp only [Option.some.injEq, Prod.mk.injEq] at H
        obtain ⟨rfl, rfl⟩ := H
        have v6 := j.out
        have v7 := d.out
        obtain ⟨o7, o8, o9, p0⟩ := yM s.out
        obtain ⟨p1, p2, p3, p4, p5, p6, p7, p8⟩ := xP q.out
        go_wp2
        repeat (go_quiet (fail); try go_wp2)
        go_ret2
        exact ⟨re, bl⟩
def xy.f (d : Int) (e : Int) (j : Int) (k : Int) : Option (Bool) := some (decide (d > 0))
theorem xy.calls (d : Int) (j : Int) (k : Int) (q : Int) (r : Bool) (w : World) (h : xy.f d j k q = some r) :
  Calls Tryz.prog 69 #[.agg #[.int .i64 d, .int .i64 j, .int .i64 k, .int .i64 q]] w fun e w' => e = .returned (.bool r) ∧ Below w.heap.size w w' := by
 have hu105 := Tryz.underlying105
 have HB := bR w
 have H : (some (decide (d > 0))) = some r := h
 clear h
 obtain rfl := Option.some.inj H
 go_enter Tryz.func69, Tryz.ntmps69
 go_wp2_with (first | ((with_reducible refine gd 1 rfl ?_); refine bx 1 #[.int .i64 d, .int .i64 j, .int .i64 k, .int .i64 q] 105 rfl rfl ?_; intro G hg w2 hbox hb; have n_ := aC (bs hb) (aC hbox (aC (gz hg) (aE (gz hg)))); clear HB; obtain ⟨HB, s, I, J⟩ := n_; clear hb hbox hg; obtain ⟨t, u, x, y, z, B, D, E⟩ := xP s.out))
 go_ret
 exact ⟨re, bl⟩
def vV.l0 : Nat → Int → List Int → Int → Option (List Int)
 | 0, _, _, _ => none
 | k + 1, x0, x5, x6 => if x6 ≥ 0 then (if 0 ≤ x6 then (if x5.length < 140737488355328 then (vV.l0 k x0 (x5 ++ [(Int.tmod (shr .i64 x0 x6) 2) % 256]) (wrap64 (x6 - 1))) else (none)) else (none)) else (some x5)
def vV.f (k : Nat) (a0 : Int) (a1 : Int) : Option (List Int) := vV.l0 k a0 ([] : List Int) (wrap64 (a1 - 1))
theorem vV.wt : ∀ k, (∀ y0 y1 y2, vK (vV.l0 k y0 y1 y2) (vV.l0 (k + 1) y0 y1 y2))
 | 0 => fun _ _ _ r h => by simp [vV.l0] at h
 | k + 1 => by
  have ih0 := vV.wt k
  ·intro y0 y1 y2
   unfold vV.l0
   repeat' first
   | (with_reducible exact ih0 _ _ _)
   | (with_reducible first | exact vK.refl _ | exact vK.none _ | apply vK.ite | apply vK.bind | intro)
theorem vV.mono : ∀ a0 a1 k, vK (vV.f k a0 a1) (vV.f (k + 1) a0 a1) := by
 intro a0 a1 k
 have ih0 := vV.wt k
 unfold vV.f
 repeat' first
   | (with_reducible exact ih0 _ _ _)
   | (with_reducible first | exact vK.refl _ | exact vK.none _ | apply vK.ite | apply vK.bind | intro)
theorem vV.calls (k : Nat) (a0 : Int) (a1 : Int) (r : List Int) (w : World) (h : vV.f k a0 a1 = some r) :
  Calls Tryz.prog 71 #[.int .i64 a0, .int .i64 a1] w fun e w' => ∃ z : Value, e = .returned (z) ∧ Kd.R (Kd.int .u8) 5 w' w.heap.size (fun _ => True) z r ∧ Below w.heap.size w w' := by
 have HB := bR w
 have H : (vV.l0 k a0 ([] : List Int) (wrap64 (a1 - 1))) = some r := h
 clear h
 have H' := aE H
 clear H
 go_enter Tryz.func71, Tryz.ntmps71
 go_wp2
 go_loopg [5, 6] k (fun kq v5 v6 w' => ∃ (j : List Int) (d : Int), v6 = .int .i64 d ∧ Aside0 (vV.l0 kq a0 j d = some r) ∧ Aside0 (kq ≤ k) ∧ Aside0 (Kd.R (Kd.int .u8) 5 w' w.heap.size (fun _ => True) v5 j) ∧ Aside0 (Below w.heap.size w w'))
 case atStart => exact ⟨(([] : List Int)), (wrap64 (a1 - 1)), rq, H', ⟨Nat.le_refl _⟩, ⟨by first | exact Kd.yu _ _ _ _ _ | exact Kd.yR _ _ _ _ _ | exact Kd.yS _ _ _ _ _ | exact Kd.yP _ _ _ _ _ | exact Kd.yV _ _ _ _ _⟩, ⟨bl⟩⟩
 case round =>
  clear H'
  obtain ⟨j, d, rfl, HA, B, t, HB⟩ := hrel
  cases gk with
  | zero => exact absurd HA.out (by simp [vV.l0])
  | succ k1 =>
   have H := HA.out
   clear HA
   simp only [vV.l0] at H
   rcases iL H with H1 | H1 <;> clear H <;> obtain ⟨H, I⟩ := H1
   ·by_cases c4 : 0 ≤ d
    ·rw [if_pos c4] at H
     have J := eq_true c4
     have L := decide_eq_true c4
     clear c4
     obtain ⟨s, q⟩ : ∃ j_ : Int, (shr .i64 a0 d) = j_ := ⟨_, rfl⟩
     replace H : (if j.length < 140737488355328 then (vV.l0 k1 a0 (j ++ [(Int.tmod (s) 2) % 256]) (wrap64 (d - 1))) else (none)) = some r := by first | (rw [q] at H; exact H) | (simp only [q] at H ⊢; exact H)
     have E : (a0 / 2 ^ min d.toNat 64) = s := q
     have G : d ≤ 64 → (a0 / 2 ^ d.toNat) = s := kj q
     by_cases c6 : j.length < 140737488355328
     ·rw [if_pos c6] at H
      have D := aE c6
      clear c6
      obtain ⟨u, hy_⟩ : ∃ y_ : List Int, y_ = (j ++ [(Int.tmod (s) 2) % 256]) := ⟨_, rfl⟩
      replace H : (vV.l0 k1 a0 u (wrap64 (d - 1))) = some r := rh
      have x := aE hy_
      clear hy_
      have H' := aE H
      clear H
      go_wp2_with (first | ((with_reducible refine wU (b := .append) (xs := #[.tmp 13, .tmp 19]) rfl ?_); at_builtin; refine Kd.za (Kd.int .u8) (w0 := w) w.heap.size rfl (.tmp 13) (.tmp 19) 22 5 (.int .u8 0) 1 rfl Tryz.underlying22 info5 rfl (by decide) (by omega) u5 j ((Int.tmod (s) 2) % 256) [.int .u8 ((Int.tmod (s) 2) % 256)] (fun _ => True) (fun _ => False) rfl rfl ?aP (fun _ hk => hk.elim) ?aF ?aO ?aB ?aS ?aL ?_; (case aP => exact rfl); (case aB => exact bl); (case aF => exact (fun _ _ => trivial)); (case aO => exact (rU t.out)); (case aS => exact bz); (case aL => have := D.out; omega); intro M w7 ho hb hg hat; rw [← x.out] at ho; have n_ := aC hb (aE ho); clear HB t; obtain ⟨HB, y⟩ := n_; clear ho hb hg hat))
      go_roundg k1
      case measure => have := B.out; omega
      case rel => exact ⟨(u), (wrap64 (d - 1)), rq, H', ⟨by have := B.out; omega⟩, ⟨rU y.out⟩, ⟨bl⟩⟩
     ·rw [if_neg c6] at H
      exact nB H
    ·rw [if_neg c4] at H
     exact nB H
   ·obtain rfl := Option.some.inj H
    go_wp2
    go_ret
    exact ⟨_, re, rU t.out, bl⟩
set_option maxHeartbeats 8000000
set_option maxRecDepth 100000
def vw.l0 : Nat → List (wb) → Int → Int → List (wb) → Int → Int → Option (List Int)
 | 0, _, _, _, _, _, _ => none
 | k + 1, x0, x1, x5, x8, x9, d => if d < x9 then (if 0 ≤ d then (if d < (x8.length : Int) then ((xy.f ((vk x8 d).f0) ((vk x8 d).f1) ((vk x8 d).f2) ((vk x8 d).f3)).bind fun e => (if e = true then (if 0 ≤ x1 then (if x1 < (x0.length : Int) then (if ((vk x8 d).f0) < ((vk x0 x1).f0) then (if 0 ≤ (wrap64 (15 - ((vk x8 d).f0))) then (vw.l0 k x0 x1 (wrap64 (x5 + (shl .i64 1 (wrap64 (15 - ((vk x8 d).f0)))))) x8 x9 (wrap64 (d + 1))) else (none)) else (if ((vk x8 d).f0) = ((vk x0 x1).f0) then (if d < x1 then (if 0 ≤ (wrap64 (15 - ((vk x8 d).f0))) then (vw.l0 k x0 x1 (wrap64 (x5 + (shl .i64 1 (wrap64 (15 - ((vk x8 d).f0)))))) x8 x9 (wrap64 (d + 1))) else (none)) else (vw.l0 k x0 x1 x5 x8 x9 (wrap64 (d + 1)))) else (vw.l0 k x0 x1 x5 x8 x9 (wrap64 (d + 1))))) else (none)) else (none)) else (vw.l0 k x0 x1 x5 x8 x9 (wrap64 (d + 1))))) else (none)) else (none)) else (if 0 ≤ x1 then (if x1 < (x0.length : Int) then (if 0 ≤ (wrap64 (15 - ((vk x0 x1).f0))) then ((vV.f k (shr .i64 x5 (wrap64 (15 - ((vk x0 x1).f0)))) ((vk x0 x1).f0)).bind fun j => (some j)) else (none)) else (none)) else (none))
def vw.f (k : Nat) (l0 : List (wb)) (a1 : Int) : Option (List Int) := vw.l0 k l0 a1 0 l0 (l0.length : Int) 0
theorem vw.wt : ∀ k, (∀ y0 y1 y2 y3 y4 y5, vK (vw.l0 k y0 y1 y2 y3 y4 y5) (vw.l0 (k + 1) y0 y1 y2 y3 y4 y5))
 | 0 => fun _ _ _ _ _ _ r h => by simp [vw.l0] at h
 | k + 1 => by
  have ih0 := vw.wt k
  ·intro y0 y1 y2 y3 y4 y5
   unfold vw.l0
   repeat' first
   | (with_reducible exact ih0 _ _ _ _ _ _)
   | (with_reducible exact vV.mono _ _ _)
   | (with_reducible first | exact vK.refl _ | exact vK.none _ | apply vK.ite | apply vK.bind | intro)
theorem vw.mono : ∀ a0 a1 k, vK (vw.f k a0 a1) (vw.f (k + 1) a0 a1) := by
 intro a0 a1 k
 have ih0 := vw.wt k
 unfold vw.f
 repeat' first
   | (with_reducible exact ih0 _ _ _ _ _ _)
   | (with_reducible exact vV.mono _ _ _)
   | (with_reducible first | exact vK.refl _ | exact vK.none _ | apply vK.ite | apply vK.bind | intro)
def vw.T5 : Bool × List (List Nat × List Nat) := (true, [([], []), ([0], [0]), ([1, 1], [1]), ([2], [2]), ([3, 2], [2, 3]), ([2], [2]), ([2], [2]), ([5, 6, 2], [2, 5, 6]), ([7, 2], [2, 7]), ([8, 2], [2, 8]), ([4, 9, 2], [2, 4, 9]), ([10, 2, 2], [2, 10]), ([11], [11]), ([12, 11], [11, 12]), ([11], [11]), ([11], [11]), ([14, 15, 11], [11, 14, 15]), ([16, 11], [11, 16]), ([17, 11], [11, 17]), ([13, 18, 11], [11, 13, 18]), ([19, 11, 11], [11, 19]), ([20], [20]), ([20], [20]), ([21, 22, 20], [20, 21, 22]), ([20, 23, 11], [11, 20, 23]), ([11, 24, 2], [2, 11, 24]), ([2, 25], [2, 25])])
def vw.B5 : List Nat := [0, 1, 3, 7, 15, 7, 7, 103, 231, 487, 1023, 2047, 4095, 8191, 4095, 4095, 53247, 118783, 249855, 524287, 1048575, 2097151, 2097151, 8388607, 16777215, 33554431, 67108863]
theorem vw.tab5 : zi .any (opsOf Tryz.f70 5) = vw.T5 := by kernel_rfl
theorem vw.kI : yv vw.T5.2 vw.B5 = true := by kernel_rfl
def vw.T8 : Bool × List (List Nat × List Nat) := (true, [([], []), ([], []), ([], []), ([1, 2], [1, 2]), ([3], [3]), ([4], [4]), ([5], [5]), ([0, 6], [0, 6]), ([], []), ([], []), ([8, 9], [8, 9]), ([10], [10]), ([11], [11]), ([7, 12], [7, 12]), ([13, 13, 0, 1, 2, 3, 4, 5, 6, 7, 8, 9, 10, 11, 12, 13], [13])])
def vw.B8 : List Nat := [0, 0, 0, 6, 14, 30, 62, 127, 0, 0, 768, 1792, 3840, 8191, 16383]
theorem vw.tab8 : zi .any (opsOf Tryz.f70 8) = vw.T8 := by kernel_rfl
theorem vw.bits8 : yv vw.T8.2 vw.B8 = true := by kernel_rfl
theorem vw.calls (k : Nat) (A0 : Option Addr) (c0 : Nat) (l0 : List (wb)) (a1 : Int) (r : List Int) (w : World) (hr0 : Kd.C yj w A0 l0.length l0) (j2 : l0.length ≤ c0) (h : vw.f k l0 a1 = some r) :
  Calls Tryz.prog 70 #[.slice A0 l0.length c0, .int .i64 a1] w fun e w' => ∃ j3 : Value, e = .returned (j3) ∧ Kd.R (Kd.int .u8) 5 w' w.heap.size (fun _ => True) j3 r ∧ Below w.heap.size w w' := by
 have hu105 := Tryz.underlying105
 have b6 := aE hr0
 have u5 := aE j2
 clear hr0 j2
 have HB := bR w
 have H : (vw.l0 k l0 a1 0 l0 (l0.length : Int) 0) = some r := h
 clear h
 have H' := aE H
 clear H
 go_enter Tryz.func70, Tryz.ntmps70
 go_wp2
 go_loopg [5, 10] k (fun kq v5 r0 w' => ∃ (a6 : Int) (d : Int), v5 = .int .i64 a6 ∧ r0 = .int .i64 d ∧ Aside0 (vw.l0 kq l0 a1 a6 l0 (l0.length : Int) d = some r) ∧ Aside0 (kq ≤ k) ∧ Aside0 (Below w.heap.size w w'))
 case atStart => exact ⟨(0), (0), rq, rq, H', ⟨Nat.le_refl _⟩, ⟨bl⟩⟩
 case round =>
  clear H'
  obtain ⟨a6, d, rfl, rfl, HA, e5, HB⟩ := hrel
  cases gk with
  | zero => exact absurd HA.out (by simp [vw.l0])
  | succ k1 =>
   have H := HA.out
   clear HA
   simp only [vw.l0] at H
   rcases iL H with H1 | H1 <;> clear H <;> obtain ⟨H, t9⟩ := H1
   ·by_cases c4 : 0 ≤ d
    ·rw [if_pos c4] at H
     have u0 := decide_eq_true c4
     clear c4
     by_cases c5 : d < (l0.length : Int)
     ·rw [if_pos c5] at H
      have u1 := decide_eq_true c5
      clear c5
      obtain ⟨j4, A6, H⟩ := oB H
      try dsimp only at H
      by_cases c7 : j4 = true
      ·subst c7
       rw [if_pos rfl] at H
       by_cases c8 : 0 ≤ a1
       ·rw [if_pos c8] at H
        have u2 := decide_eq_true c8
        clear c8
        by_cases c9 : a1 < (l0.length : Int)
        ·rw [if_pos c9] at H
         have u3 := decide_eq_true c9
         clear c9
         rcases iL H with H1 | H1 <;> clear H <;> obtain ⟨H, r1⟩ := H1
         ·obtain ⟨a9, e6⟩ : ∃ j_ : Int, (wrap64 (15 - ((vk l0 d).f0))) = j_ := ⟨_, rfl⟩
          replace H : (if 0 ≤ (a9) then (vw.l0 k1 l0 a1 (wrap64 (a6 + (shl .i64 1 (a9)))) l0 (l0.length : Int) (wrap64 (d + 1))) else (none)) = some r := by first | (rw [e6] at H; exact H) | (simp only [e6] at H ⊢; exact H)
          (try rw [e6] at A6)
          have p7 : (IntKind.i64.wrap (15 - ((vk l0 d).f0))) = a9 := (xS _).trans e6
          by_cases h3 : 0 ≤ (a9)
          ·rw [if_pos h3] at H
           have r2 := eq_true h3
           have r3 := decide_eq_true h3
           clear h3
           obtain ⟨e0, d7⟩ : ∃ j_ : Int, (shl .i64 1 (a9)) = j_ := ⟨_, rfl⟩
           replace H : (vw.l0 k1 l0 a1 (wrap64 (a6 + (e0))) l0 (l0.length : Int) (wrap64 (d + 1))) = some r := by first | (rw [d7] at H; exact H) | (simp only [d7] at H ⊢; exact H)
           (try rw [d7] at A6)
           have g6 : (IntKind.i64.wrap (1 * 2 ^ min (a9).toNat 64)) = e0 := d7
           have g7 : (a9) ≤ 64 → (IntKind.i64.wrap (1 * 2 ^ (a9).toNat)) = e0 := zP d7
           have p8 : (IntKind.i64.wrap (2 ^ min (a9).toNat 64)) = e0 := by have h_ := g6; rw [Int.one_mul] at h_; exact h_
           have p9 : (a9) ≤ 64 → (IntKind.i64.wrap (2 ^ (a9).toNat)) = e0 := fun hle_ => by have h_ := g7 hle_; rw [Int.one_mul] at h_; exact h_
           have q0 : (wrap64 (1 * 2 ^ min (a9).toNat 64)) = e0 := (xS _).symm.trans g6
           have q1 : (a9) ≤ 64 → (wrap64 (1 * 2 ^ (a9).toNat)) = e0 := fun h_ => (xS _).symm.trans (g7 h_)
           have H' := aE H
           clear H
           have Z : 0 ≤ (d : Int) := dt
           have a0 : d < (l0.length : Int) := dt
           obtain ⟨s, b7, z, B, D, E⟩ := xr b6.out d Z a0
           cases b7
           replace z := hcB HB.out z
           replace B := hcB HB.out B
           replace D := hcB HB.out D
           replace E := hcB HB.out E
           replace Z := eq_true Z
           replace a0 := eq_true a0
           try go_wp2_with (first | ((with_reducible refine gd 7 rfl ?_); refine bx 7 #[.int .i64 0, .int .i64 0, .int .i64 0, .int .i64 0] 105 rfl rfl ?_; intro q hg i3 hbox hb; have n_ := aC (bs hb) (aC hbox (aC (gz hg) (aE (gz hg)))); clear HB; obtain ⟨HB, j, e7, e8⟩ := n_; clear hb hbox hg; obtain ⟨j5, j6, j7, j8, j9, k0, k2, k3⟩ := xP j.out))
           have b1 : Aside0 (((((i3.setCell ⟨q, 0, none⟩ (.int .i64 ((vk l0 d).f0))).setCell ⟨q, 1, none⟩ (.int .i64 ((vk l0 d).f1))).setCell ⟨q, 2, none⟩ (.int .i64 ((vk l0 d).f2))).setCell ⟨q, 3, none⟩ (.int .i64 ((vk l0 d).f3))).heap[q]? = some (.cells #[.int .i64 ((vk l0 d).f0), .int .i64 ((vk l0 d).f1), .int .i64 ((vk l0 d).f2), .int .i64 ((vk l0 d).f3)] 105 (0, 0))) := ⟨by (with_reducible repeat first | apply vm | apply vn | apply vl); refine vt (cs := #[.int .i64 ((vk l0 d).f0), .int .i64 ((vk l0 d).f1), .int .i64 ((vk l0 d).f2), .int .i64 0]) ?_ 3 _ rfl; (with_reducible repeat first | apply vm | apply vn | apply vl); refine vt (cs := #[.int .i64 ((vk l0 d).f0), .int .i64 ((vk l0 d).f1), .int .i64 0, .int .i64 0]) ?_ 2 _ rfl; (with_reducible repeat first | apply vm | apply vn | apply vl); refine vt (cs := #[.int .i64 ((vk l0 d).f0), .int .i64 0, .int .i64 0, .int .i64 0]) ?_ 1 _ rfl; (with_reducible repeat first | apply vm | apply vn | apply vl); refine vt (cs := #[.int .i64 0, .int .i64 0, .int .i64 0, .int .i64 0]) ?_ 0 _ rfl; (with_reducible repeat first | apply vm | apply vn | apply vl); exact j.out⟩
           have b2 : Aside0 (Below w.heap.size w ((((i3.setCell ⟨q, 0, none⟩ (.int .i64 ((vk l0 d).f0))).setCell ⟨q, 1, none⟩ (.int .i64 ((vk l0 d).f1))).setCell ⟨q, 2, none⟩ (.int .i64 ((vk l0 d).f2))).setCell ⟨q, 3, none⟩ (.int .i64 ((vk l0 d).f3)))) := ⟨bl⟩
           (try clear j)
           (try clear HB)
           generalize ((((i3.setCell ⟨q, 0, none⟩ (.int .i64 ((vk l0 d).f0))).setCell ⟨q, 1, none⟩ (.int .i64 ((vk l0 d).f1))).setCell ⟨q, 2, none⟩ (.int .i64 ((vk l0 d).f2))).setCell ⟨q, 3, none⟩ (.int .i64 ((vk l0 d).f3))) = r4 at b1 b2 ⊢
           have j := b1
           have HB := b2
           clear b1 b2
           have n_ := aC (vn j.out) (aE (vy HB.out))
           clear j HB
           obtain ⟨j, HB⟩ := n_
           have a7 : 0 ≤ (a1 : Int) := dt
           have a8 : a1 < (l0.length : Int) := dt
           obtain ⟨b5, e3, t, u, x, y⟩ := xr b6.out a1 a7 a8
           have M := y
           have O := x
           have T := u
           have X := t
           obtain rfl : s = b5 := (by injection e3)
           replace t := hcB HB.out t
           replace u := hcB HB.out u
           replace x := hcB HB.out x
           replace y := hcB HB.out y
           replace a7 := eq_true a7
           replace a8 := eq_true a8
           refine st 27 (fun w' => w'.cell? ⟨q, 0, none⟩ = some (.int .i64 ((vk l0 d).f0)) ∧ w'.cell? ⟨q, 1, none⟩ = some (.int .i64 ((vk l0 d).f1)) ∧ w'.cell? ⟨q, 2, none⟩ = some (.int .i64 ((vk l0 d).f2)) ∧ w'.cell? ⟨q, 3, none⟩ = some (.int .i64 ((vk l0 d).f3)) ∧ w'.cell? (s.add ((a1).toNat * 4)) = some (.int .i64 ((vk l0 a1).f0)) ∧ w'.cell? ⟨(s.add ((a1).toNat * 4)).block, (s.add ((a1).toNat * 4)).off + 1, none⟩ = some (.int .i64 ((vk l0 a1).f1)) ∧ w'.cell? ⟨(s.add ((a1).toNat * 4)).block, (s.add ((a1).toNat * 4)).off + 2, none⟩ = some (.int .i64 ((vk l0 a1).f2)) ∧ w'.cell? ⟨(s.add ((a1).toNat * 4)).block, (s.add ((a1).toNat * 4)).off + 3, none⟩ = some (.int .i64 ((vk l0 a1).f3))) [] (bv 27 0) vw.tab5 vw.kI ⟨jB j.out, jz j.out, jK j.out, kw j.out, (hcB HB.out X), (hcB HB.out T), (hcB HB.out O), (hcB HB.out M)⟩ (fun hHeld HT_ HW_ => ?_)
           generalize r4.drew = u6 at j HB t u x y hHeld ⊢
           refine tk 0 15 (bv 27 1) HT_ HW_ hHeld rfl rfl (by rintro w' ⟨s0, s1, s2, s3, s4, s5, s6, s7⟩; exact yl) ?_
           refine yA (i := 1) (N := some 16) (bv 27 3) rfl rfl (xl HT_.out (by kernel_rfl)) (by decide) (fun K hK => ?_)
           refine gK Tryz.func69 rfl #[.agg #[.int .i64 ((vk l0 d).f0), .int .i64 ((vk l0 d).f1), .int .i64 ((vk l0 d).f2), .int .i64 ((vk l0 d).f3)]] rfl rfl ?_
           with_reducible refine (xy.calls ((vk l0 d).f0) ((vk l0 d).f1) ((vk l0 d).f2) ((vk l0 d).f3) true _ A6.out).mono ?_
           rintro e u7 ⟨rfl, hb⟩
           refine ⟨_, rfl, ?_⟩
           have n_ := aC (vp (g := q) (o := .cells #[.int .i64 ((vk l0 d).f0), .int .i64 ((vk l0 d).f1), .int .i64 ((vk l0 d).f2), .int .i64 ((vk l0 d).f3)] 105 (0, 0)) (bU j.out) hb) (aE (bs hb))
           clear j HB
           obtain ⟨j, HB⟩ := n_
           (try clear hb)
           (try clear h4)
           (try clear hk)
           (try clear hi)
           refine hK.out _ _ ⟨jB j.out, jz j.out, jK j.out, kw j.out, (hcB HB.out X), (hcB HB.out T), (hcB HB.out O), (hcB HB.out M)⟩ (fun hHeld => ?_)
           clear hK K
           refine nm (some 16) ?_
           refine pu 2 17 (bv 27 7) HT_ rfl rfl ?_
           refine pu 3 18 (bv 27 15) HT_ rfl rfl ?_
           refine pu 5 20 (bv 27 47) HT_ rfl rfl ?_
           refine pu 6 21 (bv 27 111) HT_ rfl rfl ?_
           refine pu 7 22 (bv 27 239) HT_ rfl rfl ?_
           refine pu 8 23 (bv 27 495) HT_ rfl rfl ?_
           refine tk 4 19 (bv 27 511) HT_ HW_ hHeld rfl rfl (by rintro w' ⟨s0, s1, s2, s3, s4, s5, s6, s7⟩; exact yl) ?_
           refine tk 9 24 (bv 27 1023) HT_ HW_ hHeld rfl rfl (by rintro w' ⟨s0, s1, s2, s3, s4, s5, s6, s7⟩; exact yl) ?_
           refine pu 10 25 (bv 27 2047) HT_ rfl rfl ?_
           refine pu 11 26 (bv 27 4095) HT_ rfl rfl ?_
           refine pn 12 27 (bv 27 8191) HT_ rfl rfl ?_
           refine pn 13 28 (bv 27 16383) HT_ rfl rfl ?_
           refine pn 14 29 (bv 27 32767) HT_ rfl rfl ?_
           refine pn 15 30 (bv 27 65535) HT_ rfl rfl ?_
           refine pn 16 31 (bv 27 131071) HT_ rfl rfl ?_
           refine pn 17 32 (bv 27 262143) HT_ rfl rfl ?_
           refine pn 18 33 (bv 27 524287) HT_ rfl rfl ?_
           refine pn 19 34 (bv 27 1048575) HT_ rfl rfl ?_
           refine pn 20 35 (bv 27 2097151) HT_ rfl rfl ?_
           refine pn 21 36 (bv 27 4194303) HT_ rfl rfl ?_
           refine pn 22 37 (bv 27 8388607) HT_ rfl rfl ?_
           refine pn 23 38 (bv 27 16777215) HT_ rfl rfl ?_
           refine pn 24 39 (bv 27 33554431) HT_ rfl rfl ?_
           refine pu 25 40 (bv 27 67108863) HT_ rfl rfl ?_
           refine pu 26 41 (bv 27 134217727) HT_ rfl rfl ?_
           refine zd (xZ HT_.out (by kernel_rfl)) ?_
           obtain ⟨k4, k5, k6, k7, k8, k9, l2, l3⟩ := xP j.out
           try go_wp2
           go_roundg k1
           case measure => have := e5.out; omega
           case rel => exact ⟨(wrap64 (a6 + (e0))), (wrap64 (d + 1)), (by first | rfl | (simp; done) | (simp only [← d7] <;> (first | rfl | simp)) | (simp [*]; done)), rq, H', ⟨by have := e5.out; omega⟩, ⟨bl⟩⟩
          ·rw [if_neg h3] at H
           exact nB H
         ·rcases iE H with H1 | H1 <;> clear H <;> obtain ⟨H, r5, r6, u9⟩ := H1
          ·rcases iL H with H1 | H1 <;> clear H <;> obtain ⟨H, r7⟩ := H1
           ·obtain ⟨b0, e9⟩ : ∃ j_ : Int, (wrap64 (15 - ((vk l0 d).f0))) = j_ := ⟨_, rfl⟩
            replace H : (if 0 ≤ (b0) then (vw.l0 k1 l0 a1 (wrap64 (a6 + (shl .i64 1 (b0)))) l0 (l0.length : Int) (wrap64 (d + 1))) else (none)) = some r := by first | (rw [e9] at H; exact H) | (simp only [e9] at H ⊢; exact H)
            (try rw [e9] at A6)
            have q2 : (IntKind.i64.wrap (15 - ((vk l0 d).f0))) = b0 := (xS _).trans e9
            by_cases h5 : 0 ≤ (b0)
            ·rw [if_pos h5] at H
             have r8 := eq_true h5
             have r9 := decide_eq_true h5
             clear h5
             obtain ⟨e1, d8⟩ : ∃ j_ : Int, (shl .i64 1 (b0)) = j_ := ⟨_, rfl⟩
             replace H : (vw.l0 k1 l0 a1 (wrap64 (a6 + (e1))) l0 (l0.length : Int) (wrap64 (d + 1))) = some r := by first | (rw [d8] at H; exact H) | (simp only [d8] at H ⊢; exact H)
             (try rw [d8] at A6)
             have g8 : (IntKind.i64.wrap (1 * 2 ^ min (b0).toNat 64)) = e1 := d8
             have g9 : (b0) ≤ 64 → (IntKind.i64.wrap (1 * 2 ^ (b0).toNat)) = e1 := zP d8
             have q3 : (IntKind.i64.wrap (2 ^ min (b0).toNat 64)) = e1 := by have h_ := g8; rw [Int.one_mul] at h_; exact h_
             have q4 : (b0) ≤ 64 → (IntKind.i64.wrap (2 ^ (b0).toNat)) = e1 := fun hle_ => by have h_ := g9 hle_; rw [Int.one_mul] at h_; exact h_
             have q5 : (wrap64 (1 * 2 ^ min (b0).toNat 64)) = e1 := (xS _).symm.trans g8
             have q6 : (b0) ≤ 64 → (wrap64 (1 * 2 ^ (b0).toNat)) = e1 := fun h_ => (xS _).symm.trans (g9 h_)
             have H' := aE H
             clear H
             have Z : 0 ≤ (d : Int) := dt
             have a0 : d < (l0.length : Int) := dt
             obtain ⟨s, b7, z, B, D, E⟩ := xr b6.out d Z a0
             cases b7
             replace z := hcB HB.out z
             replace B := hcB HB.out B
             replace D := hcB HB.out D
             replace E := hcB HB.out E
             replace Z := eq_true Z
             replace a0 := eq_true a0
             try go_wp2_with (first | ((with_reducible refine gd 7 rfl ?_); refine bx 7 #[.int .i64 0, .int .i64 0, .int .i64 0, .int .i64 0] 105 rfl rfl ?_; intro q hg i4 hbox hb; have n_ := aC (bs hb) (aC hbox (aC (gz hg) (aE (gz hg)))); clear HB; obtain ⟨HB, j, e7, e8⟩ := n_; clear hb hbox hg; obtain ⟨l4, l5, l6, l7, l8, l9, m0, m1⟩ := xP j.out))
             have b1 : Aside0 (((((i4.setCell ⟨q, 0, none⟩ (.int .i64 ((vk l0 d).f0))).setCell ⟨q, 1, none⟩ (.int .i64 ((vk l0 d).f1))).setCell ⟨q, 2, none⟩ (.int .i64 ((vk l0 d).f2))).setCell ⟨q, 3, none⟩ (.int .i64 ((vk l0 d).f3))).heap[q]? = some (.cells #[.int .i64 ((vk l0 d).f0), .int .i64 ((vk l0 d).f1), .int .i64 ((vk l0 d).f2), .int .i64 ((vk l0 d).f3)] 105 (0, 0))) := ⟨by (with_reducible repeat first | apply vm | apply vn | apply vl); refine vt (cs := #[.int .i64 ((vk l0 d).f0), .int .i64 ((vk l0 d).f1), .int .i64 ((vk l0 d).f2), .int .i64 0]) ?_ 3 _ rfl; (with_reducible repeat first | apply vm | apply vn | apply vl); refine vt (cs := #[.int .i64 ((vk l0 d).f0), .int .i64 ((vk l0 d).f1), .int .i64 0, .int .i64 0]) ?_ 2 _ rfl; (with_reducible repeat first | apply vm | apply vn | apply vl); refine vt (cs := #[.int .i64 ((vk l0 d).f0), .int .i64 0, .int .i64 0, .int .i64 0]) ?_ 1 _ rfl; (with_reducible repeat first | apply vm | apply vn | apply vl); refine vt (cs := #[.int .i64 0, .int .i64 0, .int .i64 0, .int .i64 0]) ?_ 0 _ rfl; (with_reducible repeat first | apply vm | apply vn | apply vl); exact j.out⟩
             have b2 : Aside0 (Below w.heap.size w ((((i4.setCell ⟨q, 0, none⟩ (.int .i64 ((vk l0 d).f0))).setCell ⟨q, 1, none⟩ (.int .i64 ((vk l0 d).f1))).setCell ⟨q, 2, none⟩ (.int .i64 ((vk l0 d).f2))).setCell ⟨q, 3, none⟩ (.int .i64 ((vk l0 d).f3)))) := ⟨bl⟩
             (try clear j)
             (try clear HB)
             generalize ((((i4.setCell ⟨q, 0, none⟩ (.int .i64 ((vk l0 d).f0))).setCell ⟨q, 1, none⟩ (.int .i64 ((vk l0 d).f1))).setCell ⟨q, 2, none⟩ (.int .i64 ((vk l0 d).f2))).setCell ⟨q, 3, none⟩ (.int .i64 ((vk l0 d).f3))) = t0 at b1 b2 ⊢
             have j := b1
             have HB := b2
             clear b1 b2
             have n_ := aC (vn j.out) (aE (vy HB.out))
             clear j HB
             obtain ⟨j, HB⟩ := n_
             have a7 : 0 ≤ (a1 : Int) := dt
             have a8 : a1 < (l0.length : Int) := dt
             obtain ⟨b5, e3, t, u, x, y⟩ := xr b6.out a1 a7 a8
             have M := y
             have O := x
             have T := u
             have X := t
             obtain rfl : s = b5 := (by injection e3)
             replace t := hcB HB.out t
             replace u := hcB HB.out u
             replace x := hcB HB.out x
             replace y := hcB HB.out y
             replace a7 := eq_true a7
             replace a8 := eq_true a8
             have b3 : 0 ≤ (a1 : Int) := dt
             have b4 : a1 < (l0.length : Int) := dt
             obtain ⟨e4, f5, G, I, J, L⟩ := xr b6.out a1 b3 b4
             have a2 := L
             have a3 := J
             have a4 := I
             have a5 := G
             obtain rfl : s = e4 := (by injection f5)
             replace G := hcB HB.out G
             replace I := hcB HB.out I
             replace J := hcB HB.out J
             replace L := hcB HB.out L
             replace b3 := eq_true b3
             replace b4 := eq_true b4
             refine st 27 (fun w' => w'.cell? ⟨q, 0, none⟩ = some (.int .i64 ((vk l0 d).f0)) ∧ w'.cell? ⟨q, 1, none⟩ = some (.int .i64 ((vk l0 d).f1)) ∧ w'.cell? ⟨q, 2, none⟩ = some (.int .i64 ((vk l0 d).f2)) ∧ w'.cell? ⟨q, 3, none⟩ = some (.int .i64 ((vk l0 d).f3)) ∧ w'.cell? (s.add ((a1).toNat * 4)) = some (.int .i64 ((vk l0 a1).f0)) ∧ w'.cell? ⟨(s.add ((a1).toNat * 4)).block, (s.add ((a1).toNat * 4)).off + 1, none⟩ = some (.int .i64 ((vk l0 a1).f1)) ∧ w'.cell? ⟨(s.add ((a1).toNat * 4)).block, (s.add ((a1).toNat * 4)).off + 2, none⟩ = some (.int .i64 ((vk l0 a1).f2)) ∧ w'.cell? ⟨(s.add ((a1).toNat * 4)).block, (s.add ((a1).toNat * 4)).off + 3, none⟩ = some (.int .i64 ((vk l0 a1).f3)) ∧ w'.cell? (s.add ((a1).toNat * 4)) = some (.int .i64 ((vk l0 a1).f0)) ∧ w'.cell? ⟨(s.add ((a1).toNat * 4)).block, (s.add ((a1).toNat * 4)).off + 1, none⟩ = some (.int .i64 ((vk l0 a1).f1)) ∧ w'.cell? ⟨(s.add ((a1).toNat * 4)).block, (s.add ((a1).toNat * 4)).off + 2, none⟩ = some (.int .i64 ((vk l0 a1).f2)) ∧ w'.cell? ⟨(s.add ((a1).toNat * 4)).block, (s.add ((a1).toNat * 4)).off + 3, none⟩ = some (.int .i64 ((vk l0 a1).f3))) [] (bv 27 0) vw.tab5 vw.kI ⟨jB j.out, jz j.out, jK j.out, kw j.out, (hcB HB.out X), (hcB HB.out T), (hcB HB.out O), (hcB HB.out M), (hcB HB.out a5), (hcB HB.out a4), (hcB HB.out a3), (hcB HB.out a2)⟩ (fun hHeld HT_ HW_ => ?_)
             generalize t0.drew = v0 at j HB t u x y G I J L hHeld ⊢
             refine tk 0 15 (bv 27 1) HT_ HW_ hHeld rfl rfl (by rintro w' ⟨s0, s1, s2, s3, s4, s5, s6, s7, s8, s9, b8, b9⟩; exact yl) ?_
             refine yA (i := 1) (N := some 16) (bv 27 3) rfl rfl (xl HT_.out (by kernel_rfl)) (by decide) (fun K hK => ?_)
             refine gK Tryz.func69 rfl #[.agg #[.int .i64 ((vk l0 d).f0), .int .i64 ((vk l0 d).f1), .int .i64 ((vk l0 d).f2), .int .i64 ((vk l0 d).f3)]] rfl rfl ?_
             with_reducible refine (xy.calls ((vk l0 d).f0) ((vk l0 d).f1) ((vk l0 d).f2) ((vk l0 d).f3) true _ A6.out).mono ?_
             rintro e v1 ⟨rfl, hb⟩
             refine ⟨_, rfl, ?_⟩
             have n_ := aC (vp (g := q) (o := .cells #[.int .i64 ((vk l0 d).f0), .int .i64 ((vk l0 d).f1), .int .i64 ((vk l0 d).f2), .int .i64 ((vk l0 d).f3)] 105 (0, 0)) (bU j.out) hb) (aE (bs hb))
             clear j HB
             obtain ⟨j, HB⟩ := n_
             (try clear hb)
             (try clear h4)
             (try clear hk)
             (try clear hi)
             refine hK.out _ _ ⟨jB j.out, jz j.out, jK j.out, kw j.out, (hcB HB.out X), (hcB HB.out T), (hcB HB.out O), (hcB HB.out M), (hcB HB.out a5), (hcB HB.out a4), (hcB HB.out a3), (hcB HB.out a2)⟩ (fun hHeld => ?_)
             clear hK K
             refine nm (some 16) ?_
             refine pu 2 17 (bv 27 7) HT_ rfl rfl ?_
             refine pu 3 18 (bv 27 15) HT_ rfl rfl ?_
             refine pu 5 20 (bv 27 47) HT_ rfl rfl ?_
             refine pu 6 21 (bv 27 111) HT_ rfl rfl ?_
             refine pu 7 22 (bv 27 239) HT_ rfl rfl ?_
             refine pu 8 23 (bv 27 495) HT_ rfl rfl ?_
             refine tk 4 19 (bv 27 511) HT_ HW_ hHeld rfl rfl (by rintro w' ⟨s0, s1, s2, s3, s4, s5, s6, s7, s8, s9, b8, b9⟩; exact yl) ?_
             refine tk 9 24 (bv 27 1023) HT_ HW_ hHeld rfl rfl (by rintro w' ⟨s0, s1, s2, s3, s4, s5, s6, s7, s8, s9, b8, b9⟩; exact yl) ?_
             refine pu 10 25 (bv 27 2047) HT_ rfl rfl ?_
             refine pu 11 26 (bv 27 4095) HT_ rfl rfl ?_
             refine pu 12 27 (bv 27 8191) HT_ rfl rfl ?_
             refine pu 14 29 (bv 27 24575) HT_ rfl rfl ?_
             refine pu 15 30 (bv 27 57343) HT_ rfl rfl ?_
             refine pu 16 31 (bv 27 122879) HT_ rfl rfl ?_
             refine pu 17 32 (bv 27 253951) HT_ rfl rfl ?_
             refine tk 13 28 (bv 27 262143) HT_ HW_ hHeld rfl rfl (by rintro w' ⟨s0, s1, s2, s3, s4, s5, s6, s7, s8, s9, b8, b9⟩; exact yl) ?_
             refine tk 18 33 (bv 27 524287) HT_ HW_ hHeld rfl rfl (by rintro w' ⟨s0, s1, s2, s3, s4, s5, s6, s7, s8, s9, b8, b9⟩; exact yl) ?_
             refine pu 19 34 (bv 27 1048575) HT_ rfl rfl ?_
             refine pu 20 35 (bv 27 2097151) HT_ rfl rfl ?_
             refine pu 21 36 (bv 27 4194303) HT_ rfl rfl ?_
             refine pu 22 37 (bv 27 8388607) HT_ rfl rfl ?_
             refine pu 23 38 (bv 27 16777215) HT_ rfl rfl ?_
             refine pu 24 39 (bv 27 33554431) HT_ rfl rfl ?_
             refine pu 25 40 (bv 27 67108863) HT_ rfl rfl ?_
             refine pu 26 41 (bv 27 134217727) HT_ rfl rfl ?_
             refine zd (xZ HT_.out (by kernel_rfl)) ?_
             obtain ⟨m2, m3, m4, m5, m6, m7, m8, m9⟩ := xP j.out
             try go_wp2
             go_roundg k1
             case measure => have := e5.out; omega
             case rel => exact ⟨(wrap64 (a6 + (e1))), (wrap64 (d + 1)), (by first | rfl | (simp; done) | (simp only [← d8] <;> (first | rfl | simp)) | (simp [*]; done)), rq, H', ⟨by have := e5.out; omega⟩, ⟨bl⟩⟩
            ·rw [if_neg h5] at H
             exact nB H
           ·have H' := aE H
            clear H
            have Z : 0 ≤ (d : Int) := dt
            have a0 : d < (l0.length : Int) := dt
            obtain ⟨s, b7, z, B, D, E⟩ := xr b6.out d Z a0
            cases b7
            replace z := hcB HB.out z
            replace B := hcB HB.out B
            replace D := hcB HB.out D
            replace E := hcB HB.out E
            replace Z := eq_true Z
            replace a0 := eq_true a0
            try go_wp2_with (first | ((with_reducible refine gd 7 rfl ?_); refine bx 7 #[.int .i64 0, .int .i64 0, .int .i64 0, .int .i64 0] 105 rfl rfl ?_; intro q hg i5 hbox hb; have n_ := aC (bs hb) (aC hbox (aC (gz hg) (aE (gz hg)))); clear HB; obtain ⟨HB, j, e7, e8⟩ := n_; clear hb hbox hg; obtain ⟨n0, n1, n2, n3, n4, n5, n6, n7⟩ := xP j.out))
            have b1 : Aside0 (((((i5.setCell ⟨q, 0, none⟩ (.int .i64 ((vk l0 d).f0))).setCell ⟨q, 1, none⟩ (.int .i64 ((vk l0 d).f1))).setCell ⟨q, 2, none⟩ (.int .i64 ((vk l0 d).f2))).setCell ⟨q, 3, none⟩ (.int .i64 ((vk l0 d).f3))).heap[q]? = some (.cells #[.int .i64 ((vk l0 d).f0), .int .i64 ((vk l0 d).f1), .int .i64 ((vk l0 d).f2), .int .i64 ((vk l0 d).f3)] 105 (0, 0))) := ⟨by (with_reducible repeat first | apply vm | apply vn | apply vl); refine vt (cs := #[.int .i64 ((vk l0 d).f0), .int .i64 ((vk l0 d).f1), .int .i64 ((vk l0 d).f2), .int .i64 0]) ?_ 3 _ rfl; (with_reducible repeat first | apply vm | apply vn | apply vl); refine vt (cs := #[.int .i64 ((vk l0 d).f0), .int .i64 ((vk l0 d).f1), .int .i64 0, .int .i64 0]) ?_ 2 _ rfl; (with_reducible repeat first | apply vm | apply vn | apply vl); refine vt (cs := #[.int .i64 ((vk l0 d).f0), .int .i64 0, .int .i64 0, .int .i64 0]) ?_ 1 _ rfl; (with_reducible repeat first | apply vm | apply vn | apply vl); refine vt (cs := #[.int .i64 0, .int .i64 0, .int .i64 0, .int .i64 0]) ?_ 0 _ rfl; (with_reducible repeat first | apply vm | apply vn | apply vl); exact j.out⟩
            have b2 : Aside0 (Below w.heap.size w ((((i5.setCell ⟨q, 0, none⟩ (.int .i64 ((vk l0 d).f0))).setCell ⟨q, 1, none⟩ (.int .i64 ((vk l0 d).f1))).setCell ⟨q, 2, none⟩ (.int .i64 ((vk l0 d).f2))).setCell ⟨q, 3, none⟩ (.int .i64 ((vk l0 d).f3)))) := ⟨bl⟩
            (try clear j)
            (try clear HB)
            generalize ((((i5.setCell ⟨q, 0, none⟩ (.int .i64 ((vk l0 d).f0))).setCell ⟨q, 1, none⟩ (.int .i64 ((vk l0 d).f1))).setCell ⟨q, 2, none⟩ (.int .i64 ((vk l0 d).f2))).setCell ⟨q, 3, none⟩ (.int .i64 ((vk l0 d).f3))) = t1 at b1 b2 ⊢
            have j := b1
            have HB := b2
            clear b1 b2
            have n_ := aC (vn j.out) (aE (vy HB.out))
            clear j HB
            obtain ⟨j, HB⟩ := n_
            have a7 : 0 ≤ (a1 : Int) := dt
            have a8 : a1 < (l0.length : Int) := dt
            obtain ⟨b5, e3, t, u, x, y⟩ := xr b6.out a1 a7 a8
            have M := y
            have O := x
            have T := u
            have X := t
            obtain rfl : s = b5 := (by injection e3)
            replace t := hcB HB.out t
            replace u := hcB HB.out u
            replace x := hcB HB.out x
            replace y := hcB HB.out y
            replace a7 := eq_true a7
            replace a8 := eq_true a8
            have b3 : 0 ≤ (a1 : Int) := dt
            have b4 : a1 < (l0.length : Int) := dt
            obtain ⟨e4, f5, G, I, J, L⟩ := xr b6.out a1 b3 b4
            have a2 := L
            have a3 := J
            have a4 := I
            have a5 := G
            obtain rfl : s = e4 := (by injection f5)
            replace G := hcB HB.out G
            replace I := hcB HB.out I
            replace J := hcB HB.out J
            replace L := hcB HB.out L
            replace b3 := eq_true b3
            replace b4 := eq_true b4
            refine st 27 (fun w' => w'.cell? ⟨q, 0, none⟩ = some (.int .i64 ((vk l0 d).f0)) ∧ w'.cell? ⟨q, 1, none⟩ = some (.int .i64 ((vk l0 d).f1)) ∧ w'.cell? ⟨q, 2, none⟩ = some (.int .i64 ((vk l0 d).f2)) ∧ w'.cell? ⟨q, 3, none⟩ = some (.int .i64 ((vk l0 d).f3)) ∧ w'.cell? (s.add ((a1).toNat * 4)) = some (.int .i64 ((vk l0 a1).f0)) ∧ w'.cell? ⟨(s.add ((a1).toNat * 4)).block, (s.add ((a1).toNat * 4)).off + 1, none⟩ = some (.int .i64 ((vk l0 a1).f1)) ∧ w'.cell? ⟨(s.add ((a1).toNat * 4)).block, (s.add ((a1).toNat * 4)).off + 2, none⟩ = some (.int .i64 ((vk l0 a1).f2)) ∧ w'.cell? ⟨(s.add ((a1).toNat * 4)).block, (s.add ((a1).toNat * 4)).off + 3, none⟩ = some (.int .i64 ((vk l0 a1).f3)) ∧ w'.cell? (s.add ((a1).toNat * 4)) = some (.int .i64 ((vk l0 a1).f0)) ∧ w'.cell? ⟨(s.add ((a1).toNat * 4)).block, (s.add ((a1).toNat * 4)).off + 1, none⟩ = some (.int .i64 ((vk l0 a1).f1)) ∧ w'.cell? ⟨(s.add ((a1).toNat * 4)).block, (s.add ((a1).toNat * 4)).off + 2, none⟩ = some (.int .i64 ((vk l0 a1).f2)) ∧ w'.cell? ⟨(s.add ((a1).toNat * 4)).block, (s.add ((a1).toNat * 4)).off + 3, none⟩ = some (.int .i64 ((vk l0 a1).f3))) [] (bv 27 0) vw.tab5 vw.kI ⟨jB j.out, jz j.out, jK j.out, kw j.out, (hcB HB.out X), (hcB HB.out T), (hcB HB.out O), (hcB HB.out M), (hcB HB.out a5), (hcB HB.out a4), (hcB HB.out a3), (hcB HB.out a2)⟩ (fun hHeld HT_ HW_ => ?_)
            generalize t1.drew = v2 at j HB t u x y G I J L hHeld ⊢
            refine tk 0 15 (bv 27 1) HT_ HW_ hHeld rfl rfl (by rintro w' ⟨s0, s1, s2, s3, s4, s5, s6, s7, s8, s9, b8, b9⟩; exact yl) ?_
            refine yA (i := 1) (N := some 16) (bv 27 3) rfl rfl (xl HT_.out (by kernel_rfl)) (by decide) (fun K hK => ?_)
            refine gK Tryz.func69 rfl #[.agg #[.int .i64 ((vk l0 d).f0), .int .i64 ((vk l0 d).f1), .int .i64 ((vk l0 d).f2), .int .i64 ((vk l0 d).f3)]] rfl rfl ?_
            with_reducible refine (xy.calls ((vk l0 d).f0) ((vk l0 d).f1) ((vk l0 d).f2) ((vk l0 d).f3) true _ A6.out).mono ?_
            rintro e v3 ⟨rfl, hb⟩
            refine ⟨_, rfl, ?_⟩
            have n_ := aC (vp (g := q) (o := .cells #[.int .i64 ((vk l0 d).f0), .int .i64 ((vk l0 d).f1), .int .i64 ((vk l0 d).f2), .int .i64 ((vk l0 d).f3)] 105 (0, 0)) (bU j.out) hb) (aE (bs hb))
            clear j HB
            obtain ⟨j, HB⟩ := n_
            (try clear hb)
            (try clear h4)
            (try clear hk)
            (try clear hi)
            refine hK.out _ _ ⟨jB j.out, jz j.out, jK j.out, kw j.out, (hcB HB.out X), (hcB HB.out T), (hcB HB.out O), (hcB HB.out M), (hcB HB.out a5), (hcB HB.out a4), (hcB HB.out a3), (hcB HB.out a2)⟩ (fun hHeld => ?_)
            clear hK K
            refine nm (some 16) ?_
            refine pu 2 17 (bv 27 7) HT_ rfl rfl ?_
            refine pu 3 18 (bv 27 15) HT_ rfl rfl ?_
            refine pu 5 20 (bv 27 47) HT_ rfl rfl ?_
            refine pu 6 21 (bv 27 111) HT_ rfl rfl ?_
            refine pu 7 22 (bv 27 239) HT_ rfl rfl ?_
            refine pu 8 23 (bv 27 495) HT_ rfl rfl ?_
            refine tk 4 19 (bv 27 511) HT_ HW_ hHeld rfl rfl (by rintro w' ⟨s0, s1, s2, s3, s4, s5, s6, s7, s8, s9, b8, b9⟩; exact yl) ?_
            refine tk 9 24 (bv 27 1023) HT_ HW_ hHeld rfl rfl (by rintro w' ⟨s0, s1, s2, s3, s4, s5, s6, s7, s8, s9, b8, b9⟩; exact yl) ?_
            refine pu 10 25 (bv 27 2047) HT_ rfl rfl ?_
            refine pu 11 26 (bv 27 4095) HT_ rfl rfl ?_
            refine pu 12 27 (bv 27 8191) HT_ rfl rfl ?_
            refine pu 14 29 (bv 27 24575) HT_ rfl rfl ?_
            refine pu 15 30 (bv 27 57343) HT_ rfl rfl ?_
            refine pu 16 31 (bv 27 122879) HT_ rfl rfl ?_
            refine pu 17 32 (bv 27 253951) HT_ rfl rfl ?_
            refine tk 13 28 (bv 27 262143) HT_ HW_ hHeld rfl rfl (by rintro w' ⟨s0, s1, s2, s3, s4, s5, s6, s7, s8, s9, b8, b9⟩; exact yl) ?_
            refine tk 18 33 (bv 27 524287) HT_ HW_ hHeld rfl rfl (by rintro w' ⟨s0, s1, s2, s3, s4, s5, s6, s7, s8, s9, b8, b9⟩; exact yl) ?_
            refine pu 19 34 (bv 27 1048575) HT_ rfl rfl ?_
            refine pu 20 35 (bv 27 2097151) HT_ rfl rfl ?_
            refine pu 21 36 (bv 27 4194303) HT_ rfl rfl ?_
            refine pu 22 37 (bv 27 8388607) HT_ rfl rfl ?_
            refine pu 23 38 (bv 27 16777215) HT_ rfl rfl ?_
            refine pu 24 39 (bv 27 33554431) HT_ rfl rfl ?_
            refine pu 25 40 (bv 27 67108863) HT_ rfl rfl ?_
            refine pu 26 41 (bv 27 134217727) HT_ rfl rfl ?_
            refine zd (xZ HT_.out (by kernel_rfl)) ?_
            try go_wp2
            go_roundg k1
            case measure => have := e5.out; omega
            case rel => exact ⟨(a6), (wrap64 (d + 1)), rq, rq, H', ⟨by have := e5.out; omega⟩, ⟨bl⟩⟩
          ·have H' := aE H
           clear H
           have Z : 0 ≤ (d : Int) := dt
           have a0 : d < (l0.length : Int) := dt
           obtain ⟨s, b7, z, B, D, E⟩ := xr b6.out d Z a0
           cases b7
           replace z := hcB HB.out z
           replace B := hcB HB.out B
           replace D := hcB HB.out D
           replace E := hcB HB.out E
           replace Z := eq_true Z
           replace a0 := eq_true a0
           try go_wp2_with (first | ((with_reducible refine gd 7 rfl ?_); refine bx 7 #[.int .i64 0, .int .i64 0, .int .i64 0, .int .i64 0] 105 rfl rfl ?_; intro q hg i6 hbox hb; have n_ := aC (bs hb) (aC hbox (aC (gz hg) (aE (gz hg)))); clear HB; obtain ⟨HB, j, e7, e8⟩ := n_; clear hb hbox hg; obtain ⟨n8, n9, o0, o1, o2, o3, o4, o5⟩ := xP j.out))
           have b1 : Aside0 (((((i6.setCell ⟨q, 0, none⟩ (.int .i64 ((vk l0 d).f0))).setCell ⟨q, 1, none⟩ (.int .i64 ((vk l0 d).f1))).setCell ⟨q, 2, none⟩ (.int .i64 ((vk l0 d).f2))).setCell ⟨q, 3, none⟩ (.int .i64 ((vk l0 d).f3))).heap[q]? = some (.cells #[.int .i64 ((vk l0 d).f0), .int .i64 ((vk l0 d).f1), .int .i64 ((vk l0 d).f2), .int .i64 ((vk l0 d).f3)] 105 (0, 0))) := ⟨by (with_reducible repeat first | apply vm | apply vn | apply vl); refine vt (cs := #[.int .i64 ((vk l0 d).f0), .int .i64 ((vk l0 d).f1), .int .i64 ((vk l0 d).f2), .int .i64 0]) ?_ 3 _ rfl; (with_reducible repeat first | apply vm | apply vn | apply vl); refine vt (cs := #[.int .i64 ((vk l0 d).f0), .int .i64 ((vk l0 d).f1), .int .i64 0, .int .i64 0]) ?_ 2 _ rfl; (with_reducible repeat first | apply vm | apply vn | apply vl); refine vt (cs := #[.int .i64 ((vk l0 d).f0), .int .i64 0, .int .i64 0, .int .i64 0]) ?_ 1 _ rfl; (with_reducible repeat first | apply vm | apply vn | apply vl); refine vt (cs := #[.int .i64 0, .int .i64 0, .int .i64 0, .int .i64 0]) ?_ 0 _ rfl; (with_reducible repeat first | apply vm | apply vn | apply vl); exact j.out⟩
           have b2 : Aside0 (Below w.heap.size w ((((i6.setCell ⟨q, 0, none⟩ (.int .i64 ((vk l0 d).f0))).setCell ⟨q, 1, none⟩ (.int .i64 ((vk l0 d).f1))).setCell ⟨q, 2, none⟩ (.int .i64 ((vk l0 d).f2))).setCell ⟨q, 3, none⟩ (.int .i64 ((vk l0 d).f3)))) := ⟨bl⟩
           (try clear j)
           (try clear HB)
           generalize ((((i6.setCell ⟨q, 0, none⟩ (.int .i64 ((vk l0 d).f0))).setCell ⟨q, 1, none⟩ (.int .i64 ((vk l0 d).f1))).setCell ⟨q, 2, none⟩ (.int .i64 ((vk l0 d).f2))).setCell ⟨q, 3, none⟩ (.int .i64 ((vk l0 d).f3))) = t2 at b1 b2 ⊢
           have j := b1
           have HB := b2
           clear b1 b2
           have n_ := aC (vn j.out) (aE (vy HB.out))
           clear j HB
           obtain ⟨j, HB⟩ := n_
           have a7 : 0 ≤ (a1 : Int) := dt
           have a8 : a1 < (l0.length : Int) := dt
           obtain ⟨b5, e3, t, u, x, y⟩ := xr b6.out a1 a7 a8
           have M := y
           have O := x
           have T := u
           have X := t
           obtain rfl : s = b5 := (by injection e3)
           replace t := hcB HB.out t
           replace u := hcB HB.out u
           replace x := hcB HB.out x
           replace y := hcB HB.out y
           replace a7 := eq_true a7
           replace a8 := eq_true a8
           have b3 : 0 ≤ (a1 : Int) := dt
           have b4 : a1 < (l0.length : Int) := dt
           obtain ⟨e4, f5, G, I, J, L⟩ := xr b6.out a1 b3 b4
           have a2 := L
           have a3 := J
           have a4 := I
           have a5 := G
           obtain rfl : s = e4 := (by injection f5)
           replace G := hcB HB.out G
           replace I := hcB HB.out I
           replace J := hcB HB.out J
           replace L := hcB HB.out L
           replace b3 := eq_true b3
           replace b4 := eq_true b4
           refine st 27 (fun w' => w'.cell? ⟨q, 0, none⟩ = some (.int .i64 ((vk l0 d).f0)) ∧ w'.cell? ⟨q, 1, none⟩ = some (.int .i64 ((vk l0 d).f1)) ∧ w'.cell? ⟨q, 2, none⟩ = some (.int .i64 ((vk l0 d).f2)) ∧ w'.cell? ⟨q, 3, none⟩ = some (.int .i64 ((vk l0 d).f3)) ∧ w'.cell? (s.add ((a1).toNat * 4)) = some (.int .i64 ((vk l0 a1).f0)) ∧ w'.cell? ⟨(s.add ((a1).toNat * 4)).block, (s.add ((a1).toNat * 4)).off + 1, none⟩ = some (.int .i64 ((vk l0 a1).f1)) ∧ w'.cell? ⟨(s.add ((a1).toNat * 4)).block, (s.add ((a1).toNat * 4)).off + 2, none⟩ = some (.int .i64 ((vk l0 a1).f2)) ∧ w'.cell? ⟨(s.add ((a1).toNat * 4)).block, (s.add ((a1).toNat * 4)).off + 3, none⟩ = some (.int .i64 ((vk l0 a1).f3)) ∧ w'.cell? (s.add ((a1).toNat * 4)) = some (.int .i64 ((vk l0 a1).f0)) ∧ w'.cell? ⟨(s.add ((a1).toNat * 4)).block, (s.add ((a1).toNat * 4)).off + 1, none⟩ = some (.int .i64 ((vk l0 a1).f1)) ∧ w'.cell? ⟨(s.add ((a1).toNat * 4)).block, (s.add ((a1).toNat * 4)).off + 2, none⟩ = some (.int .i64 ((vk l0 a1).f2)) ∧ w'.cell? ⟨(s.add ((a1).toNat * 4)).block, (s.add ((a1).toNat * 4)).off + 3, none⟩ = some (.int .i64 ((vk l0 a1).f3))) [] (bv 27 0) vw.tab5 vw.kI ⟨jB j.out, jz j.out, jK j.out, kw j.out, (hcB HB.out X), (hcB HB.out T), (hcB HB.out O), (hcB HB.out M), (hcB HB.out a5), (hcB HB.out a4), (hcB HB.out a3), (hcB HB.out a2)⟩ (fun hHeld HT_ HW_ => ?_)
           generalize t2.drew = v4 at j HB t u x y G I J L hHeld ⊢
           refine tk 0 15 (bv 27 1) HT_ HW_ hHeld rfl rfl (by rintro w' ⟨s0, s1, s2, s3, s4, s5, s6, s7, s8, s9, b8, b9⟩; exact yl) ?_
           refine yA (i := 1) (N := some 16) (bv 27 3) rfl rfl (xl HT_.out (by kernel_rfl)) (by decide) (fun K hK => ?_)
           refine gK Tryz.func69 rfl #[.agg #[.int .i64 ((vk l0 d).f0), .int .i64 ((vk l0 d).f1), .int .i64 ((vk l0 d).f2), .int .i64 ((vk l0 d).f3)]] rfl rfl ?_
           with_reducible refine (xy.calls ((vk l0 d).f0) ((vk l0 d).f1) ((vk l0 d).f2) ((vk l0 d).f3) true _ A6.out).mono ?_
           rintro e v6 ⟨rfl, hb⟩
           refine ⟨_, rfl, ?_⟩
           have n_ := aC (vp (g := q) (o := .cells #[.int .i64 ((vk l0 d).f0), .int .i64 ((vk l0 d).f1), .int .i64 ((vk l0 d).f2), .int .i64 ((vk l0 d).f3)] 105 (0, 0)) (bU j.out) hb) (aE (bs hb))
           clear j HB
           obtain ⟨j, HB⟩ := n_
           (try clear hb)
           (try clear h4)
           (try clear hk)
           (try clear hi)
           refine hK.out _ _ ⟨jB j.out, jz j.out, jK j.out, kw j.out, (hcB HB.out X), (hcB HB.out T), (hcB HB.out O), (hcB HB.out M), (hcB HB.out a5), (hcB HB.out a4), (hcB HB.out a3), (hcB HB.out a2)⟩ (fun hHeld => ?_)
           clear hK K
           refine nm (some 16) ?_
           refine pu 2 17 (bv 27 7) HT_ rfl rfl ?_
           refine pu 3 18 (bv 27 15) HT_ rfl rfl ?_
           refine pu 5 20 (bv 27 47) HT_ rfl rfl ?_
           refine pu 6 21 (bv 27 111) HT_ rfl rfl ?_
           refine pu 7 22 (bv 27 239) HT_ rfl rfl ?_
           refine pu 8 23 (bv 27 495) HT_ rfl rfl ?_
           refine tk 4 19 (bv 27 511) HT_ HW_ hHeld rfl rfl (by rintro w' ⟨s0, s1, s2, s3, s4, s5, s6, s7, s8, s9, b8, b9⟩; exact yl) ?_
           refine tk 9 24 (bv 27 1023) HT_ HW_ hHeld rfl rfl (by rintro w' ⟨s0, s1, s2, s3, s4, s5, s6, s7, s8, s9, b8, b9⟩; exact yl) ?_
           refine pu 10 25 (bv 27 2047) HT_ rfl rfl ?_
           refine pu 11 26 (bv 27 4095) HT_ rfl rfl ?_
           refine pu 12 27 (bv 27 8191) HT_ rfl rfl ?_
           refine pu 14 29 (bv 27 24575) HT_ rfl rfl ?_
           refine pu 15 30 (bv 27 57343) HT_ rfl rfl ?_
           refine pu 16 31 (bv 27 122879) HT_ rfl rfl ?_
           refine pu 17 32 (bv 27 253951) HT_ rfl rfl ?_
           refine tk 13 28 (bv 27 262143) HT_ HW_ hHeld rfl rfl (by rintro w' ⟨s0, s1, s2, s3, s4, s5, s6, s7, s8, s9, b8, b9⟩; exact yl) ?_
           refine tk 18 33 (bv 27 524287) HT_ HW_ hHeld rfl rfl (by rintro w' ⟨s0, s1, s2, s3, s4, s5, s6, s7, s8, s9, b8, b9⟩; exact yl) ?_
           refine pu 19 34 (bv 27 1048575) HT_ rfl rfl ?_
           refine pu 20 35 (bv 27 2097151) HT_ rfl rfl ?_
           refine pn 21 36 (bv 27 4194303) HT_ rfl rfl ?_
           refine pn 22 37 (bv 27 8388607) HT_ rfl rfl ?_
           refine pn 23 38 (bv 27 16777215) HT_ rfl rfl ?_
           refine pu 24 39 (bv 27 33554431) HT_ rfl rfl ?_
           refine pu 25 40 (bv 27 67108863) HT_ rfl rfl ?_
           refine pu 26 41 (bv 27 134217727) HT_ rfl rfl ?_
           refine zd (xZ HT_.out (by kernel_rfl)) ?_
           try go_wp2
           go_roundg k1
           case measure => have := e5.out; omega
           case rel => exact ⟨(a6), (wrap64 (d + 1)), rq, rq, H', ⟨by have := e5.out; omega⟩, ⟨bl⟩⟩
        ·rw [if_neg c9] at H
         exact nB H
       ·rw [if_neg c8] at H
        exact nB H
      ·replace c7 := Bool.eq_false_iff.mpr c7
       subst c7
       rw [if_neg Bool.false_ne_true] at H
       have H' := aE H
       clear H
       have Z : 0 ≤ (d : Int) := dt
       have a0 : d < (l0.length : Int) := dt
       obtain ⟨s, b7, z, B, D, E⟩ := xr b6.out d Z a0
       cases b7
       replace z := hcB HB.out z
       replace B := hcB HB.out B
       replace D := hcB HB.out D
       replace E := hcB HB.out E
       replace Z := eq_true Z
       replace a0 := eq_true a0
       try go_wp2_with (first | ((with_reducible refine gd 7 rfl ?_); refine bx 7 #[.int .i64 0, .int .i64 0, .int .i64 0, .int .i64 0] 105 rfl rfl ?_; intro q hg i7 hbox hb; have n_ := aC (bs hb) (aC hbox (aC (gz hg) (aE (gz hg)))); clear HB; obtain ⟨HB, j, e7, e8⟩ := n_; clear hb hbox hg; obtain ⟨o6, o7, o8, o9, p0, p1, p2, p3⟩ := xP j.out))
       have b1 : Aside0 (((((i7.setCell ⟨q, 0, none⟩ (.int .i64 ((vk l0 d).f0))).setCell ⟨q, 1, none⟩ (.int .i64 ((vk l0 d).f1))).setCell ⟨q, 2, none⟩ (.int .i64 ((vk l0 d).f2))).setCell ⟨q, 3, none⟩ (.int .i64 ((vk l0 d).f3))).heap[q]? = some (.cells #[.int .i64 ((vk l0 d).f0), .int .i64 ((vk l0 d).f1), .int .i64 ((vk l0 d).f2), .int .i64 ((vk l0 d).f3)] 105 (0, 0))) := ⟨by (with_reducible repeat first | apply vm | apply vn | apply vl); refine vt (cs := #[.int .i64 ((vk l0 d).f0), .int .i64 ((vk l0 d).f1), .int .i64 ((vk l0 d).f2), .int .i64 0]) ?_ 3 _ rfl; (with_reducible repeat first | apply vm | apply vn | apply vl); refine vt (cs := #[.int .i64 ((vk l0 d).f0), .int .i64 ((vk l0 d).f1), .int .i64 0, .int .i64 0]) ?_ 2 _ rfl; (with_reducible repeat first | apply vm | apply vn | apply vl); refine vt (cs := #[.int .i64 ((vk l0 d).f0), .int .i64 0, .int .i64 0, .int .i64 0]) ?_ 1 _ rfl; (with_reducible repeat first | apply vm | apply vn | apply vl); refine vt (cs := #[.int .i64 0, .int .i64 0, .int .i64 0, .int .i64 0]) ?_ 0 _ rfl; (with_reducible repeat first | apply vm | apply vn | apply vl); exact j.out⟩
       have b2 : Aside0 (Below w.heap.size w ((((i7.setCell ⟨q, 0, none⟩ (.int .i64 ((vk l0 d).f0))).setCell ⟨q, 1, none⟩ (.int .i64 ((vk l0 d).f1))).setCell ⟨q, 2, none⟩ (.int .i64 ((vk l0 d).f2))).setCell ⟨q, 3, none⟩ (.int .i64 ((vk l0 d).f3)))) := ⟨bl⟩
       (try clear j)
       (try clear HB)
       generalize ((((i7.setCell ⟨q, 0, none⟩ (.int .i64 ((vk l0 d).f0))).setCell ⟨q, 1, none⟩ (.int .i64 ((vk l0 d).f1))).setCell ⟨q, 2, none⟩ (.int .i64 ((vk l0 d).f2))).setCell ⟨q, 3, none⟩ (.int .i64 ((vk l0 d).f3))) = t3 at b1 b2 ⊢
       have j := b1
       have HB := b2
       clear b1 b2
       have n_ := aC (vn j.out) (aE (vy HB.out))
       clear j HB
       obtain ⟨j, HB⟩ := n_
       refine st 27 (fun w' => w'.cell? ⟨q, 0, none⟩ = some (.int .i64 ((vk l0 d).f0)) ∧ w'.cell? ⟨q, 1, none⟩ = some (.int .i64 ((vk l0 d).f1)) ∧ w'.cell? ⟨q, 2, none⟩ = some (.int .i64 ((vk l0 d).f2)) ∧ w'.cell? ⟨q, 3, none⟩ = some (.int .i64 ((vk l0 d).f3))) [] (bv 27 0) vw.tab5 vw.kI ⟨jB j.out, jz j.out, jK j.out, kw j.out⟩ (fun hHeld HT_ HW_ => ?_)
       generalize t3.drew = v7 at j HB hHeld ⊢
       refine tk 0 15 (bv 27 1) HT_ HW_ hHeld rfl rfl (by rintro w' ⟨s0, s1, s2, s3⟩; exact yl) ?_
       refine yA (i := 1) (N := some 16) (bv 27 3) rfl rfl (xl HT_.out (by kernel_rfl)) (by decide) (fun K hK => ?_)
       refine gK Tryz.func69 rfl #[.agg #[.int .i64 ((vk l0 d).f0), .int .i64 ((vk l0 d).f1), .int .i64 ((vk l0 d).f2), .int .i64 ((vk l0 d).f3)]] rfl rfl ?_
       with_reducible refine (xy.calls ((vk l0 d).f0) ((vk l0 d).f1) ((vk l0 d).f2) ((vk l0 d).f3) false _ A6.out).mono ?_
       rintro e v8 ⟨rfl, hb⟩
       refine ⟨_, rfl, ?_⟩
       have n_ := aC (vp (g := q) (o := .cells #[.int .i64 ((vk l0 d).f0), .int .i64 ((vk l0 d).f1), .int .i64 ((vk l0 d).f2), .int .i64 ((vk l0 d).f3)] 105 (0, 0)) (bU j.out) hb) (aE (bs hb))
       clear j HB
       obtain ⟨j, HB⟩ := n_
       (try clear hb)
       (try clear h4)
       (try clear hk)
       (try clear hi)
       refine hK.out _ _ ⟨jB j.out, jz j.out, jK j.out, kw j.out⟩ (fun hHeld => ?_)
       clear hK K
       refine nm (some 16) ?_
       refine pu 2 17 (bv 27 7) HT_ rfl rfl ?_
       refine pn 3 18 (bv 27 15) HT_ rfl rfl ?_
       refine pn 4 19 (bv 27 31) HT_ rfl rfl ?_
       refine pn 5 20 (bv 27 63) HT_ rfl rfl ?_
       refine pn 6 21 (bv 27 127) HT_ rfl rfl ?_
       refine pn 7 22 (bv 27 255) HT_ rfl rfl ?_
       refine pn 8 23 (bv 27 511) HT_ rfl rfl ?_
       refine pn 9 24 (bv 27 1023) HT_ rfl rfl ?_
       refine pn 10 25 (bv 27 2047) HT_ rfl rfl ?_
       refine pn 11 26 (bv 27 4095) HT_ rfl rfl ?_
       refine pn 12 27 (bv 27 8191) HT_ rfl rfl ?_
       refine pn 13 28 (bv 27 16383) HT_ rfl rfl ?_
       refine pn 14 29 (bv 27 32767) HT_ rfl rfl ?_
       refine pn 15 30 (bv 27 65535) HT_ rfl rfl ?_
       refine pn 16 31 (bv 27 131071) HT_ rfl rfl ?_
       refine pn 17 32 (bv 27 262143) HT_ rfl rfl ?_
       refine pn 18 33 (bv 27 524287) HT_ rfl rfl ?_
       refine pn 19 34 (bv 27 1048575) HT_ rfl rfl ?_
       refine pn 20 35 (bv 27 2097151) HT_ rfl rfl ?_
       refine pn 21 36 (bv 27 4194303) HT_ rfl rfl ?_
       refine pn 22 37 (bv 27 8388607) HT_ rfl rfl ?_
       refine pn 23 38 (bv 27 16777215) HT_ rfl rfl ?_
       refine pn 24 39 (bv 27 33554431) HT_ rfl rfl ?_
       refine pn 25 40 (bv 27 67108863) HT_ rfl rfl ?_
       refine pu 26 41 (bv 27 134217727) HT_ rfl rfl ?_
       refine zd (xZ HT_.out (by kernel_rfl)) ?_
       try go_wp2
       go_roundg k1
       case measure => have := e5.out; omega
       case rel => exact ⟨(a6), (wrap64 (d + 1)), rq, rq, H', ⟨by have := e5.out; omega⟩, ⟨bl⟩⟩
     ·rw [if_neg c5] at H
      exact nB H
    ·rw [if_neg c4] at H
     exact nB H
   ·by_cases i1 : 0 ≤ a1
    ·rw [if_pos i1] at H
     have t4 := decide_eq_true i1
     clear i1
     by_cases i2 : a1 < (l0.length : Int)
     ·rw [if_pos i2] at H
      have t5 := decide_eq_true i2
      clear i2
      obtain ⟨e2, f4⟩ : ∃ j_ : Int, (wrap64 (15 - ((vk l0 a1).f0))) = j_ := ⟨_, rfl⟩
      replace H : (if 0 ≤ (e2) then ((vV.f k1 (shr .i64 a6 (e2)) ((vk l0 a1).f0)).bind fun f6 => (some f6)) else (none)) = some r := by first | (rw [f4] at H; exact H) | (simp only [f4] at H ⊢; exact H)
      have q7 : (IntKind.i64.wrap (15 - ((vk l0 a1).f0))) = e2 := (xS _).trans f4
      by_cases h6 : 0 ≤ (e2)
      ·rw [if_pos h6] at H
       have t6 := eq_true h6
       have t7 := decide_eq_true h6
       clear h6
       obtain ⟨f7, d9⟩ : ∃ j_ : Int, (shr .i64 a6 (e2)) = j_ := ⟨_, rfl⟩
       replace H : ((vV.f k1 (f7) ((vk l0 a1).f0)).bind fun f6 => (some f6)) = some r := by first | (rw [d9] at H; exact H) | (simp only [d9] at H ⊢; exact H)
       have q8 : (a6 / 2 ^ min (e2).toNat 64) = f7 := d9
       have q9 : (e2) ≤ 64 → (a6 / 2 ^ (e2).toNat) = f7 := kj d9
       obtain ⟨f6, t8, H⟩ := oB H
       try dsimp only at H
       obtain rfl := Option.some.inj H
       try go_wp2
       have n_ := aE (vy HB.out)
       clear HB
       have HB := n_
       clear n_
       have h7 : 0 ≤ (a1 : Int) := dt
       have h8 : a1 < (l0.length : Int) := dt
       obtain ⟨Y, p4, c1, d0, d1, d2⟩ := xr b6.out a1 h7 h8
       have f8 := d2
       have f9 := d1
       have g0 := d0
       have g1 := c1
       cases p4
       replace c1 := hcB HB.out c1
       replace d0 := hcB HB.out d0
       replace d1 := hcB HB.out d1
       replace d2 := hcB HB.out d2
       replace h7 := eq_true h7
       replace h8 := eq_true h8
       have h9 : 0 ≤ (a1 : Int) := dt
       have i0 : a1 < (l0.length : Int) := dt
       obtain ⟨i8, p5, d3, d4, d5, d6⟩ := xr b6.out a1 h9 i0
       have g2 := d6
       have g3 := d5
       have g4 := d4
       have g5 := d3
       obtain rfl : Y = i8 := (by injection p5)
       replace d3 := hcB HB.out d3
       replace d4 := hcB HB.out d4
       replace d5 := hcB HB.out d5
       replace d6 := hcB HB.out d6
       replace h9 := eq_true h9
       replace i0 := eq_true i0
       refine st 15 (fun w' => w'.cell? (Y.add ((a1).toNat * 4)) = some (.int .i64 ((vk l0 a1).f0)) ∧ w'.cell? ⟨(Y.add ((a1).toNat * 4)).block, (Y.add ((a1).toNat * 4)).off + 1, none⟩ = some (.int .i64 ((vk l0 a1).f1)) ∧ w'.cell? ⟨(Y.add ((a1).toNat * 4)).block, (Y.add ((a1).toNat * 4)).off + 2, none⟩ = some (.int .i64 ((vk l0 a1).f2)) ∧ w'.cell? ⟨(Y.add ((a1).toNat * 4)).block, (Y.add ((a1).toNat * 4)).off + 3, none⟩ = some (.int .i64 ((vk l0 a1).f3)) ∧ w'.cell? (Y.add ((a1).toNat * 4)) = some (.int .i64 ((vk l0 a1).f0)) ∧ w'.cell? ⟨(Y.add ((a1).toNat * 4)).block, (Y.add ((a1).toNat * 4)).off + 1, none⟩ = some (.int .i64 ((vk l0 a1).f1)) ∧ w'.cell? ⟨(Y.add ((a1).toNat * 4)).block, (Y.add ((a1).toNat * 4)).off + 2, none⟩ = some (.int .i64 ((vk l0 a1).f2)) ∧ w'.cell? ⟨(Y.add ((a1).toNat * 4)).block, (Y.add ((a1).toNat * 4)).off + 3, none⟩ = some (.int .i64 ((vk l0 a1).f3))) [] (bv 15 0) vw.tab8 vw.bits8 ⟨(hcB HB.out g1), (hcB HB.out g0), (hcB HB.out f9), (hcB HB.out f8), (hcB HB.out g5), (hcB HB.out g4), (hcB HB.out g3), (hcB HB.out g2)⟩ (fun hHeld HT_ HW_ => ?_)
       generalize wr.drew = v9 at HB c1 d0 d1 d2 d3 d4 d5 d6 hHeld ⊢
       refine pu 0 49 (bv 15 1) HT_ rfl rfl ?_
       refine pu 1 50 (bv 15 3) HT_ rfl rfl ?_
       refine pu 2 51 (bv 15 7) HT_ rfl rfl ?_
       refine pu 3 52 (bv 15 15) HT_ rfl rfl ?_
       refine pu 4 53 (bv 15 31) HT_ rfl rfl ?_
       refine pu 8 57 (bv 15 287) HT_ rfl rfl ?_
       refine pu 9 58 (bv 15 799) HT_ rfl rfl ?_
       refine pu 10 59 (bv 15 1823) HT_ rfl rfl ?_
       refine pu 11 60 (bv 15 3871) HT_ rfl rfl ?_
       refine tk 5 54 (bv 15 3903) HT_ HW_ hHeld rfl rfl (by rintro w' ⟨s0, s1, s2, s3, s4, s5, s6, s7⟩; exact yl) ?_
       refine pu 6 55 (bv 15 3967) HT_ rfl rfl ?_
       refine pu 7 56 (bv 15 4095) HT_ rfl rfl ?_
       refine tk 12 61 (bv 15 8191) HT_ HW_ hHeld rfl rfl (by rintro w' ⟨s0, s1, s2, s3, s4, s5, s6, s7⟩; exact yl) ?_
       refine yA (i := 13) (N := some 62) (bv 15 16383) rfl rfl (xl HT_.out (by kernel_rfl)) (by decide) (fun K hK => ?_)
       refine goes_ Tryz.func71 (by kernel_rfl) rfl #[.int .i64 f7, .int .i64 ((vk l0 a1).f0)] (by rfl) rfl rfl (by (try simp only [List.map_toArray, List.map_cons, List.map_nil]); first | done | (simp only [d9]; rfl) | rfl | (simp only [List.length_drop, List.length_take]; rfl)) ?_
       with_reducible refine (vV.calls k1 f7 ((vk l0 a1).f0) f6 _ t8.out).mono ?_
       rintro e w0 ⟨u4, rfl, p6, hb⟩
       refine ⟨_, rfl, ?_⟩
       have n_ := aC (Kd.vS p6 bz) (aE (bs hb))
       clear HB
       obtain ⟨i9, HB⟩ := n_
       (try clear hb)
       (try clear h4)
       (try clear hk)
       (try clear hi)
       (try clear p6)
       refine hK.out _ _ ⟨(hcB HB.out g1), (hcB HB.out g0), (hcB HB.out f9), (hcB HB.out f8), (hcB HB.out g5), (hcB HB.out g4), (hcB HB.out g3), (hcB HB.out g2)⟩ (fun hHeld => ?_)
       clear hK K
       refine nm (some 62) ?_
       refine pu 14 4 (bv 15 32767) HT_ rfl rfl ?_
       refine zd (xZ HT_.out (by kernel_rfl)) ?_
       try go_wp2
       go_ret
       exact ⟨_, by first | rfl | (simp [wP, wQ] <;> rfl) | (simp only [← f4, ← d9]; first | rfl | (simp [wP, wQ] <;> rfl)) | (simp [*, wP, wQ] <;> rfl), rU i9.out, bl⟩
      ·rw [if_neg h6] at H
       exact nB H
     ·rw [if_neg i2] at H
      exact nB H
    ·rw [if_neg i1] at H
     exact nB H
end Go.Proofs.YtknclbodinfbeaaGreatDoor.PRunsBack
