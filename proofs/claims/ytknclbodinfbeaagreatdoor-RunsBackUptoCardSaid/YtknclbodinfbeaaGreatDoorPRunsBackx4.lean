-- printed (wip/tools/myprint.py)
import Derived.Test.YtknclbodinfbeaaGreatDoorPRunsBackx0
namespace Go.Proofs.YtknclbodinfbeaaGreatDoor.PRunsBack
open Go.RowKit Go.Proofs.YtknclbodinfbeaaGreatDoorW.PrintWords Go.Proofs.YtknclbodinfbeaaGreatDoorW.PrintLast Go.Proofs.YtknclbodinfbeaaGreatDoorW.PrintMore
attribute [local go_sem] yo ym yC yD xU xT yn yq
set_option linter.unusedVariables false
set_option linter.unusedSimpArgs false
set_option maxHeartbeats 8000000
set_option maxRecDepth 100000
mutual
def wu.j0 : Nat → Bool → Int → Int → Int → Int → Bool → Int → Option (Int × Bool)
 | 0, _, _, _, _, _, _, _ => none
 | k + 1, t, q, r, s, e, j, d => if t = true then (if j = true then (if d = 0 then (some (0, (e == 2))) else (some (0, false))) else (some (0, false))) else (if d < (-4194304) then (wu.j1 k true q r s e j d) else (wu.j1 k (decide (d > 4194304)) q r s e j d))
def wu.j1 : Nat → Bool → Int → Int → Int → Int → Bool → Int → Option (Int × Bool)
 | 0, _, _, _, _, _, _, _ => none
 | k + 1, t, r, j, d, q, s, e => if t = true then (some (0, false)) else (if q = 1 then (if (wrap64 (-(wrap64 (e - d)))) ≥ 0 then (if 0 ≤ j then (some (wrap64 (-(wrap64 (e - d))), decide ((wrap64 (-(wrap64 (e - d)))) < (shl .i64 1 j)))) else (none)) else (some (wrap64 (-(wrap64 (e - d))), false))) else (if (wrap64 (e - d)) ≥ 0 then (if 0 ≤ j then (some (wrap64 (e - d), decide ((wrap64 (e - d)) < (shl .i64 1 j)))) else (none)) else (some (wrap64 (e - d), false))))
end
def wu.f (k : Nat) (j : Int) (q : Int) (r : Int) (d : Int) (e : Bool) (s : Int) : Option (Int × Bool) := if e = true then (wu.j0 k true j q r d e s) else (wu.j0 k (d == 2) j q r d e s)
theorem wu.wt : ∀ k, (∀ y0 y1 y2 y3 y4 y5 y6, vK (wu.j0 k y0 y1 y2 y3 y4 y5 y6) (wu.j0 (k + 1) y0 y1 y2 y3 y4 y5 y6)) ∧ (∀ y0 y1 y2 y3 y4 y5 y6, vK (wu.j1 k y0 y1 y2 y3 y4 y5 y6) (wu.j1 (k + 1) y0 y1 y2 y3 y4 y5 y6))
 | 0 => ⟨fun _ _ _ _ _ _ _ r h => by simp [wu.j0] at h, fun _ _ _ _ _ _ _ r h => by simp [wu.j1] at h⟩
 | k + 1 => by
  obtain ⟨ih0, ih1⟩ := wu.wt k
  refine ⟨?_, ?_⟩
  ·intro y0 y1 y2 y3 y4 y5 y6
   unfold wu.j0
   repeat' first
   | (with_reducible exact ih0 _ _ _ _ _ _ _)
   | (with_reducible exact ih1 _ _ _ _ _ _ _)
   | (with_reducible first | exact vK.refl _ | exact vK.none _ | apply vK.ite | apply vK.bind | intro)
  ·intro y0 y1 y2 y3 y4 y5 y6
   unfold wu.j1
   repeat' first
   | (with_reducible exact ih0 _ _ _ _ _ _ _)
   | (with_reducible exact ih1 _ _ _ _ _ _ _)
   | (with_reducible first | exact vK.refl _ | exact vK.none _ | apply vK.ite | apply vK.bind | intro)
theorem wu.mono : ∀ a0 a1 a2 a3 a4 a5 k, vK (wu.f k a0 a1 a2 a3 a4 a5) (wu.f (k + 1) a0 a1 a2 a3 a4 a5) := by
 intro a0 a1 a2 a3 a4 a5 k
 obtain ⟨ih0, ih1⟩ := wu.wt k
 unfold wu.f
 repeat' first
   | (with_reducible exact ih0 _ _ _ _ _ _ _)
   | (with_reducible exact ih1 _ _ _ _ _ _ _)
   | (with_reducible first | exact vK.refl _ | exact vK.none _ | apply vK.ite | apply vK.bind | intro)
theorem wu.calls (k : Nat) (B : Int) (q : Int) (u : Int) (y : Int) (x : Bool) (t : Int) (r1 : Int) (r2 : Bool) (w : World) (h : wu.f k B q u y x t = some (r1, r2)) :
  Calls Tryz.prog 96 #[.agg #[.int .i64 B, .int .i64 q, .int .i64 u, .int .i64 y], .agg #[.bool x, .int .i64 t]] w fun e w' => e = .returned (.tuple #[.int .i64 r1, .bool r2]) ∧ Below w.heap.size w w' := by
 have hu105 := Tryz.underlying105
 have hu69 := Tryz.underlying69
 have HB := bR w
 have H := h
 unfold wu.f at H
 clear h
 have a6 := aE H
 clear H
 go_enter Tryz.func96, Tryz.ntmps96
 go_upto_region 1 with (first | ((with_reducible refine gd 2 rfl ?_); refine bx 2 #[.int .i64 B, .int .i64 q, .int .i64 u, .int .i64 y] 105 rfl rfl ?_; intro Y hg w4 hbox hb; have n_ := aC (bs hb) (aC hbox (aC (gz hg) (aE (gz hg)))); clear HB; obtain ⟨HB, r, m3, m4⟩ := n_; clear hb hbox hg) | ((with_reducible refine gd 3 rfl ?_); refine bx 3 #[.bool x, .int .i64 t] 69 rfl rfl ?_; intro Z hg w5 hbox hb; have n_ := aC (vp (bU r.out) hb) (aC (bs hb) (aC hbox (aC (gz hg) (aC (gz hg) (aC (gn hg (bU r.out)) (aE (gm hg (bU r.out)))))))); clear r HB; obtain ⟨r, HB, s, m5, m6, d, j⟩ := n_; clear hb hbox hg))
 (try simp only [Act.put, List.setIfInBounds_toArray, List.set_cons_zero, List.set_cons_succ])
 go_cut [13] (fun m7 wc => ∃ (kq : Nat) (J : Bool), m7 = .bool J ∧ Aside0 (wu.j0 kq J B q u y x t = some (r1, r2)) ∧ Aside0 (kq ≤ k) ∧ Aside0 (wc.heap[Y]? = some (.cells #[.int .i64 B, .int .i64 q, .int .i64 u, .int .i64 y] 105 (0, 0))) ∧ Aside0 (wc.heap[Z]? = some (.cells #[.bool x, .int .i64 t] 69 (0, 0))) ∧ Aside0 (Below w.heap.size w wc))
 case first =>
  have H := a6.out
  clear a6
  by_cases c6 : x = true
  ·subst c6
   rw [if_pos rfl] at H
   have H' := aE H
   clear H
   have p7 := j.out
   have p8 := d.out
   obtain ⟨k9, l2, l3, l4⟩ := yM s.out
   go_wp2
   go_meet
   case rel => exact ⟨_, (true), rq, H', ⟨by first | omega | exact Nat.le_refl _⟩, ⟨bU r.out⟩, ⟨bU s.out⟩, ⟨bl⟩⟩
  ·replace c6 := Bool.eq_false_iff.mpr c6
   subst c6
   rw [if_neg Bool.false_ne_true] at H
   have H' := aE H
   clear H
   have p9 := j.out
   have q0 := d.out
   obtain ⟨a7, a8, a9, b0⟩ := yM s.out
   obtain ⟨b1, b2, b3, b4, b5, b6, b7, b8⟩ := xP r.out
   go_wp2
   go_meet
   case rel => exact ⟨_, ((y == 2)), rq, H', ⟨by first | omega | exact Nat.le_refl _⟩, ⟨bU r.out⟩, ⟨bU s.out⟩, ⟨bl⟩⟩
 case rest =>
  clear a6
  obtain ⟨kq, J, rfl, HA, b9, r, s, HB⟩ := hcut
  cases kq with
  | zero => exact absurd HA.out (by simp [wu.j0])
  | succ kj2 =>
   have H := HA.out
   clear HA
   simp only [wu.j0] at H
   by_cases a3 : J = true
   ·subst a3
    rw [if_pos rfl] at H
    by_cases a4 : x = true
    ·subst a4
     rw [if_pos rfl] at H
     rcases iE H with H1 | H1 <;> clear H <;> obtain ⟨H, m8, m9, q2⟩ := H1
     ·simp only [Option.some.injEq, Prod.mk.injEq] at H
      obtain ⟨rfl, rfl⟩ := H
      have n0 := j.out
      have n1 := d.out
      obtain ⟨c0, c1, d0, d1⟩ := yM s.out
      obtain ⟨d2, d3, d4, d5, d6, d7, d8, d9⟩ := xP r.out
      go_wp2
      repeat (go_quiet (fail); try go_wp2)
      go_ret2
      exact ⟨re, bl⟩
     ·simp only [Option.some.injEq, Prod.mk.injEq] at H
      obtain ⟨rfl, rfl⟩ := H
      have n2 := j.out
      have n3 := d.out
      obtain ⟨e0, e1, e2, e3⟩ := yM s.out
      go_wp2
      repeat (go_quiet (fail); try go_wp2)
      go_ret2
      exact ⟨re, bl⟩
    ·replace a4 := Bool.eq_false_iff.mpr a4
     subst a4
     rw [if_neg Bool.false_ne_true] at H
     simp only [Option.some.injEq, Prod.mk.injEq] at H
     obtain ⟨rfl, rfl⟩ := H
     have n4 := j.out
     have n5 := d.out
     obtain ⟨e4, e5, e6, e7⟩ := yM s.out
     go_wp2
     repeat (go_quiet (fail); try go_wp2)
     go_ret2
     exact ⟨re, bl⟩
   ·replace a3 := Bool.eq_false_iff.mpr a3
    subst a3
    rw [if_neg Bool.false_ne_true] at H
    have a0 := aE H
    clear H
    go_upto_region 3 with (fail)
    go_cut [33] (fun n6 wc => ∃ (kq : Nat) (z : Bool), n6 = .bool z ∧ Aside0 (wu.j1 kq z B q u y x t = some (r1, r2)) ∧ Aside0 (kq ≤ kj2) ∧ Aside0 (wc.heap[Y]? = some (.cells #[.int .i64 B, .int .i64 q, .int .i64 u, .int .i64 y] 105 (0, 0))) ∧ Aside0 (wc.heap[Z]? = some (.cells #[.bool x, .int .i64 t] 69 (0, 0))) ∧ Aside0 (Below w.heap.size w wc))
    case first =>
     have H := a0.out
     clear a0
     rcases iL H with H1 | H1 <;> clear H <;> obtain ⟨H, L⟩ := H1
     ·(first | rw [L] | (simp only [xS, zK]; rw [L]) | skip)
      have H' := aE H
      clear H
      have n7 := j.out
      have n8 := d.out
      obtain ⟨e8, e9, f0, f1⟩ := yM s.out
      go_wp2
      go_meet
      case rel => exact ⟨_, (true), rq, H', ⟨by have := b9.out; first | omega | exact Nat.le_refl _⟩, ⟨bU r.out⟩, ⟨bU s.out⟩, ⟨bl⟩⟩
     ·(first | rw [L] | (simp only [xS, zK]; rw [L]) | skip)
      have H' := aE H
      clear H
      have n9 := j.out
      have o0 := d.out
      obtain ⟨f2, f3, f4, f5⟩ := yM s.out
      go_wp2
      go_meet
      case rel => exact ⟨_, (decide (t > 4194304)), rq, H', ⟨by have := b9.out; first | omega | exact Nat.le_refl _⟩, ⟨bU r.out⟩, ⟨bU s.out⟩, ⟨bl⟩⟩
    case rest =>
     clear a0
     obtain ⟨kq, z, rfl, HA, q1, r, s, HB⟩ := hcut
     cases kq with
     | zero => exact absurd HA.out (by simp [wu.j1])
     | succ kj21 =>
      have H := HA.out
      clear HA
      simp only [wu.j1] at H
      by_cases a5 : z = true
      ·subst a5
       rw [if_pos rfl] at H
       simp only [Option.some.injEq, Prod.mk.injEq] at H
       obtain ⟨rfl, rfl⟩ := H
       go_wp2
       go_ret2
       exact ⟨re, bl⟩
      ·replace a5 := Bool.eq_false_iff.mpr a5
       subst a5
       rw [if_neg Bool.false_ne_true] at H
       rcases iE H with H1 | H1 <;> clear H <;> obtain ⟨H, o1, o2, q3⟩ := H1
       ·rcases iL H with H1 | H1 <;> clear H <;> obtain ⟨H, o3⟩ := H1
        ·by_cases a1 : 0 ≤ q
         ·rw [if_pos a1] at H
          have o4 := eq_true a1
          have o5 := decide_eq_true a1
          clear a1
          obtain ⟨D, E⟩ : ∃ j_ : Int, (shl .i64 1 q) = j_ := ⟨_, rfl⟩
          replace H : (some (wrap64 (-(wrap64 (t - u))), decide ((wrap64 (-(wrap64 (t - u)))) < (D)))) = some (r1, r2) := by first | (rw [E] at H; exact H) | (simp only [E] at H ⊢; exact H)
          have M : (IntKind.i64.wrap (1 * 2 ^ min q.toNat 64)) = D := E
          have O : q ≤ 64 → (IntKind.i64.wrap (1 * 2 ^ q.toNat)) = D := zP E
          have l5 : (IntKind.i64.wrap (2 ^ min q.toNat 64)) = D := by have h_ := M; rw [Int.one_mul] at h_; exact h_
          have l6 : q ≤ 64 → (IntKind.i64.wrap (2 ^ q.toNat)) = D := fun hle_ => by have h_ := O hle_; rw [Int.one_mul] at h_; exact h_
          have l7 : (wrap64 (1 * 2 ^ min q.toNat 64)) = D := (xS _).symm.trans M
          have l8 : q ≤ 64 → (wrap64 (1 * 2 ^ q.toNat)) = D := fun h_ => (xS _).symm.trans (O h_)
          simp only [Option.some.injEq, Prod.mk.injEq] at H
          obtain ⟨rfl, rfl⟩ := H
          have o6 := j.out
          have o7 := d.out
          obtain ⟨f6, f7, f8, f9⟩ := yM s.out
          obtain ⟨g0, g1, g2, g3, g4, g5, g6, g7⟩ := xP r.out
          go_wp2
          repeat (go_quiet (fail); try go_wp2)
          go_ret2
          exact ⟨by first | rfl | (simp [wP, wQ] <;> rfl) | (simp only [← E]; first | rfl | (simp [wP, wQ] <;> rfl)) | (simp [*, wP, wQ] <;> rfl), bl⟩
         ·rw [if_neg a1] at H
          exact nB H
        ·simp only [Option.some.injEq, Prod.mk.injEq] at H
         obtain ⟨rfl, rfl⟩ := H
         have o8 := j.out
         have o9 := d.out
         obtain ⟨g8, g9, h3, h4⟩ := yM s.out
         obtain ⟨h5, h6, h7, h8, h9, i0, i1, i2⟩ := xP r.out
         go_wp2
         repeat (go_quiet (fail); try go_wp2)
         go_ret2
         exact ⟨re, bl⟩
       ·rcases iL H with H1 | H1 <;> clear H <;> obtain ⟨H, p0⟩ := H1
        ·by_cases a2 : 0 ≤ q
         ·rw [if_pos a2] at H
          have p1 := eq_true a2
          have p2 := decide_eq_true a2
          clear a2
          obtain ⟨G, I⟩ : ∃ j_ : Int, (shl .i64 1 q) = j_ := ⟨_, rfl⟩
          replace H : (some (wrap64 (t - u), decide ((wrap64 (t - u)) < (G)))) = some (r1, r2) := by first | (rw [I] at H; exact H) | (simp only [I] at H ⊢; exact H)
          have T : (IntKind.i64.wrap (1 * 2 ^ min q.toNat 64)) = G := I
          have X : q ≤ 64 → (IntKind.i64.wrap (1 * 2 ^ q.toNat)) = G := zP I
          have l9 : (IntKind.i64.wrap (2 ^ min q.toNat 64)) = G := by have h_ := T; rw [Int.one_mul] at h_; exact h_
          have m0 : q ≤ 64 → (IntKind.i64.wrap (2 ^ q.toNat)) = G := fun hle_ => by have h_ := X hle_; rw [Int.one_mul] at h_; exact h_
          have m1 : (wrap64 (1 * 2 ^ min q.toNat 64)) = G := (xS _).symm.trans T
          have m2 : q ≤ 64 → (wrap64 (1 * 2 ^ q.toNat)) = G := fun h_ => (xS _).symm.trans (X h_)
          simp only [Option.some.injEq, Prod.mk.injEq] at H
          obtain ⟨rfl, rfl⟩ := H
          have p3 := j.out
          have p4 := d.out
          obtain ⟨i3, i4, i5, i6⟩ := yM s.out
          obtain ⟨i7, i8, i9, j2, j3, j4, j5, j6⟩ := xP r.out
          go_wp2
          repeat (go_quiet (fail); try go_wp2)
          go_ret2
          exact ⟨by first | rfl | (simp [wP, wQ] <;> rfl) | (simp only [← I]; first | rfl | (simp [wP, wQ] <;> rfl)) | (simp [*, wP, wQ] <;> rfl), bl⟩
         ·rw [if_neg a2] at H
          exact nB H
        ·simp only [Option.some.injEq, Prod.mk.injEq] at H
         obtain ⟨rfl, rfl⟩ := H
         have p5 := j.out
         have p6 := d.out
         obtain ⟨j7, j8, j9, k0⟩ := yM s.out
         obtain ⟨k1, k2, k3, k4, k5, k6, k7, k8⟩ := xP r.out
         go_wp2
         repeat (go_quiet (fail); try go_wp2)
         go_ret2
         exact ⟨re, bl⟩
def xv.l0 : Nat → List (wb) → Int → Int → List (wb) → Int → Int → Bool → Int → Option (Int × Int)
 | 0, _, _, _, _, _, _, _, _ => none
 | k + 1, x0, x4, x5, q, s, j, d, e => if j < s then (if 0 ≤ j then (if j < (q.length : Int) then ((wu.f k ((vk q j).f0) ((vk q j).f1) ((vk q j).f2) ((vk q j).f3) d e).bind fun r => (if r.2 = true then (if ((vk q j).f0) > 0 then (if x4 < 0 then (xv.l0 k x0 j r.1 q s (wrap64 (j + 1)) d e) else (if 0 ≤ x4 then (if x4 < (x0.length : Int) then (if (wrap64 (((vk q j).f0) + ((vk q j).f1))) < (wrap64 (((vk x0 x4).f0) + ((vk x0 x4).f1))) then (xv.l0 k x0 j r.1 q s (wrap64 (j + 1)) d e) else (xv.l0 k x0 x4 x5 q s (wrap64 (j + 1)) d e)) else (none)) else (none))) else (xv.l0 k x0 x4 x5 q s (wrap64 (j + 1)) d e)) else (xv.l0 k x0 x4 x5 q s (wrap64 (j + 1)) d e))) else (none)) else (none)) else (some (x4, x5))
def xv.f (k : Nat) (l0 : List (wb)) (d : Bool) (e : Int) : Option (Int × Int) := xv.l0 k l0 (-1) 0 l0 (l0.length : Int) 0 d e
theorem xv.wt : ∀ k, (∀ y0 y1 y2 y3 y4 y5 y6 y7, vK (xv.l0 k y0 y1 y2 y3 y4 y5 y6 y7) (xv.l0 (k + 1) y0 y1 y2 y3 y4 y5 y6 y7))
 | 0 => fun _ _ _ _ _ _ _ _ r h => by simp [xv.l0] at h
 | k + 1 => by
  have ih0 := xv.wt k
  ·intro y0 y1 y2 y3 y4 y5 y6 y7
   unfold xv.l0
   repeat' first
   | (with_reducible exact ih0 _ _ _ _ _ _ _ _)
   | (with_reducible exact wu.mono _ _ _ _ _ _ _)
   | (with_reducible first | exact vK.refl _ | exact vK.none _ | apply vK.ite | apply vK.bind | intro)
theorem xv.mono : ∀ a0 a1 a2 k, vK (xv.f k a0 a1 a2) (xv.f (k + 1) a0 a1 a2) := by
 intro a0 a1 a2 k
 have ih0 := xv.wt k
 unfold xv.f
 repeat' first
   | (with_reducible exact ih0 _ _ _ _ _ _ _ _)
   | (with_reducible exact wu.mono _ _ _ _ _ _ _)
   | (with_reducible first | exact vK.refl _ | exact vK.none _ | apply vK.ite | apply vK.bind | intro)
theorem xv.calls (k : Nat) (A0 : Option Addr) (c0 : Nat) (l0 : List (wb)) (x : Bool) (y : Int) (r1 : Int) (r2 : Int) (w : World) (hr0 : Kd.C yj w A0 l0.length l0) (o2 : l0.length ≤ c0) (h : xv.f k l0 x y = some (r1, r2)) :
  Calls Tryz.prog 81 #[.slice A0 l0.length c0, .agg #[.bool x, .int .i64 y]] w fun e w' => e = .returned (.tuple #[.int .i64 r1, .int .i64 r2]) ∧ Below w.heap.size w w' := by
 have hu69 := Tryz.underlying69
 have hu105 := Tryz.underlying105
 have b1 := aE hr0
 have q5 := aE o2
 clear hr0 o2
 have HB := bR w
 have H : (xv.l0 k l0 (-1) 0 l0 (l0.length : Int) 0 x y) = some (r1, r2) := h
 clear h
 have H' := aE H
 clear H
 go_enter Tryz.func81, Tryz.ntmps81
 go_wp2_with (first | ((with_reducible refine gd 3 rfl ?_); refine bx 3 #[.bool x, .int .i64 y] 69 rfl rfl ?_; intro a2 hg w3 hbox hb; have n_ := aC (bs hb) (aC hbox (aC (gz hg) (aE (gz hg)))); clear HB; obtain ⟨HB, q, p4, p5⟩ := n_; clear hb hbox hg))
 go_loopg [4, 5, 12] k (fun kq v4 v5 p6 w' => ∃ (t : Int) (b6 : Int) (d : Int), v4 = .int .i64 t ∧ v5 = .int .i64 b6 ∧ p6 = .int .i64 d ∧ Aside0 (xv.l0 kq l0 t b6 l0 (l0.length : Int) d x y = some (r1, r2)) ∧ Aside0 (kq ≤ k) ∧ Aside0 (w'.heap[a2]? = some (.cells #[.bool x, .int .i64 y] 69 (0, 0))) ∧ Aside0 (Below w.heap.size w w'))
 case atStart => exact ⟨((-1)), (0), (0), rq, rq, rq, H', ⟨Nat.le_refl _⟩, ⟨bU q.out⟩, ⟨bl⟩⟩
 case round =>
  clear H'
  obtain ⟨t, b6, d, rfl, rfl, rfl, HA, b5, q, HB⟩ := hrel
  cases gk with
  | zero => exact absurd HA.out (by simp [xv.l0])
  | succ k1 =>
   have H := HA.out
   clear HA
   simp only [xv.l0] at H
   rcases iL H with H1 | H1 <;> clear H <;> obtain ⟨H, q1⟩ := H1
   ·by_cases c5 : 0 ≤ d
    ·rw [if_pos c5] at H
     have q2 := decide_eq_true c5
     clear c5
     by_cases c6 : d < (l0.length : Int)
     ·rw [if_pos c6] at H
      have q3 := decide_eq_true c6
      clear c6
      obtain ⟨⟨a8, o3⟩, A7, H⟩ := oB H
      try dsimp only at H
      by_cases c8 : o3 = true
      ·subst c8
       rw [if_pos rfl] at H
       rcases iL H with H1 | H1 <;> clear H <;> obtain ⟨H, q4⟩ := H1
       ·rcases iL H with H1 | H1 <;> clear H <;> obtain ⟨H, p7⟩ := H1
        ·have H' := aE H
         clear H
         have a4 : 0 ≤ (d : Int) := dt
         have a5 : d < (l0.length : Int) := dt
         obtain ⟨a3, b4, M, O, T, X⟩ := xr b1.out d a4 a5
         cases b4
         replace M := hcB HB.out M
         replace O := hcB HB.out O
         replace T := hcB HB.out T
         replace X := hcB HB.out X
         replace a4 := eq_true a4
         replace a5 := eq_true a5
         go_wp2_with (first | ((with_reducible refine gd 7 rfl ?_); refine bx 7 #[.int .i64 0, .int .i64 0, .int .i64 0, .int .i64 0] 105 rfl rfl ?_; intro u hg o4 hbox hb; have n_ := aC (vp (bU q.out) hb) (aC (bs hb) (aC hbox (aC (gz hg) (aC (gz hg) (aC (gn hg (bU q.out)) (aE (gm hg (bU q.out)))))))); clear q HB; obtain ⟨q, HB, r, a6, a7, j, s⟩ := n_; clear hb hbox hg; have n0 := s.out; have n1 := j.out; obtain ⟨b7, b8, b9, c1, d0, d1, d2, d3⟩ := xP r.out; obtain ⟨d4, d5, d6, d7⟩ := yM q.out) | (go_at_call 96; (with_reducible refine (wu.calls k1 ((vk l0 d).f0) ((vk l0 d).f1) ((vk l0 d).f2) ((vk l0 d).f3) x y a8 true _ A7.out).mono ?_); rintro e o5 ⟨rfl, hb⟩; have n_ := aC (vp (g := a2) (o := .cells #[.bool x, .int .i64 y] 69 (0, 0)) (by (with_reducible repeat first | apply vm | apply vn | apply vl); refine wk ?_ j.out _; (with_reducible repeat first | apply vm | apply vn | apply vl); refine wk ?_ j.out _; (with_reducible repeat first | apply vm | apply vn | apply vl); refine wk ?_ j.out _; (with_reducible repeat first | apply vm | apply vn | apply vl); refine wk ?_ j.out _; (with_reducible repeat first | apply vm | apply vn | apply vl); exact q.out) hb) (aC (vp (g := u) (o := .cells #[.int .i64 ((vk l0 d).f0), .int .i64 ((vk l0 d).f1), .int .i64 ((vk l0 d).f2), .int .i64 ((vk l0 d).f3)] 105 (0, 0)) (by (with_reducible repeat first | apply vm | apply vn | apply vl); refine vt (cs := #[.int .i64 ((vk l0 d).f0), .int .i64 ((vk l0 d).f1), .int .i64 ((vk l0 d).f2), .int .i64 0]) ?_ 3 _ rfl; (with_reducible repeat first | apply vm | apply vn | apply vl); refine vt (cs := #[.int .i64 ((vk l0 d).f0), .int .i64 ((vk l0 d).f1), .int .i64 0, .int .i64 0]) ?_ 2 _ rfl; (with_reducible repeat first | apply vm | apply vn | apply vl); refine vt (cs := #[.int .i64 ((vk l0 d).f0), .int .i64 0, .int .i64 0, .int .i64 0]) ?_ 1 _ rfl; (with_reducible repeat first | apply vm | apply vn | apply vl); refine vt (cs := #[.int .i64 0, .int .i64 0, .int .i64 0, .int .i64 0]) ?_ 0 _ rfl; (with_reducible repeat first | apply vm | apply vn | apply vl); exact r.out) hb) (aE (bs hb))); clear q r HB; obtain ⟨q, r, HB⟩ := n_; obtain ⟨d8, d9, e0, e1, e2, e3, e4, e5⟩ := xP r.out))
         repeat (go_quiet (first | ((with_reducible refine gd 7 rfl ?_); refine bx 7 #[.int .i64 0, .int .i64 0, .int .i64 0, .int .i64 0] 105 rfl rfl ?_; intro u hg o4 hbox hb; have n_ := aC (vp (bU q.out) hb) (aC (bs hb) (aC hbox (aC (gz hg) (aC (gz hg) (aC (gn hg (bU q.out)) (aE (gm hg (bU q.out)))))))); clear q HB; obtain ⟨q, HB, r, a6, a7, j, s⟩ := n_; clear hb hbox hg; have n0 := s.out; have n1 := j.out; obtain ⟨b7, b8, b9, c1, d0, d1, d2, d3⟩ := xP r.out; obtain ⟨d4, d5, d6, d7⟩ := yM q.out) | (go_at_call 96; (with_reducible refine (wu.calls k1 ((vk l0 d).f0) ((vk l0 d).f1) ((vk l0 d).f2) ((vk l0 d).f3) x y a8 true _ A7.out).mono ?_); rintro e o5 ⟨rfl, hb⟩; have n_ := aC (vp (g := a2) (o := .cells #[.bool x, .int .i64 y] 69 (0, 0)) (by (with_reducible repeat first | apply vm | apply vn | apply vl); refine wk ?_ j.out _; (with_reducible repeat first | apply vm | apply vn | apply vl); refine wk ?_ j.out _; (with_reducible repeat first | apply vm | apply vn | apply vl); refine wk ?_ j.out _; (with_reducible repeat first | apply vm | apply vn | apply vl); refine wk ?_ j.out _; (with_reducible repeat first | apply vm | apply vn | apply vl); exact q.out) hb) (aC (vp (g := u) (o := .cells #[.int .i64 ((vk l0 d).f0), .int .i64 ((vk l0 d).f1), .int .i64 ((vk l0 d).f2), .int .i64 ((vk l0 d).f3)] 105 (0, 0)) (by (with_reducible repeat first | apply vm | apply vn | apply vl); refine vt (cs := #[.int .i64 ((vk l0 d).f0), .int .i64 ((vk l0 d).f1), .int .i64 ((vk l0 d).f2), .int .i64 0]) ?_ 3 _ rfl; (with_reducible repeat first | apply vm | apply vn | apply vl); refine vt (cs := #[.int .i64 ((vk l0 d).f0), .int .i64 ((vk l0 d).f1), .int .i64 0, .int .i64 0]) ?_ 2 _ rfl; (with_reducible repeat first | apply vm | apply vn | apply vl); refine vt (cs := #[.int .i64 ((vk l0 d).f0), .int .i64 0, .int .i64 0, .int .i64 0]) ?_ 1 _ rfl; (with_reducible repeat first | apply vm | apply vn | apply vl); refine vt (cs := #[.int .i64 0, .int .i64 0, .int .i64 0, .int .i64 0]) ?_ 0 _ rfl; (with_reducible repeat first | apply vm | apply vn | apply vl); exact r.out) hb) (aE (bs hb))); clear q r HB; obtain ⟨q, r, HB⟩ := n_; obtain ⟨d8, d9, e0, e1, e2, e3, e4, e5⟩ := xP r.out)); try go_wp2_with (first | ((with_reducible refine gd 7 rfl ?_); refine bx 7 #[.int .i64 0, .int .i64 0, .int .i64 0, .int .i64 0] 105 rfl rfl ?_; intro u hg o4 hbox hb; have n_ := aC (vp (bU q.out) hb) (aC (bs hb) (aC hbox (aC (gz hg) (aC (gz hg) (aC (gn hg (bU q.out)) (aE (gm hg (bU q.out)))))))); clear q HB; obtain ⟨q, HB, r, a6, a7, j, s⟩ := n_; clear hb hbox hg; have n0 := s.out; have n1 := j.out; obtain ⟨b7, b8, b9, c1, d0, d1, d2, d3⟩ := xP r.out; obtain ⟨d4, d5, d6, d7⟩ := yM q.out) | (go_at_call 96; (with_reducible refine (wu.calls k1 ((vk l0 d).f0) ((vk l0 d).f1) ((vk l0 d).f2) ((vk l0 d).f3) x y a8 true _ A7.out).mono ?_); rintro e o5 ⟨rfl, hb⟩; have n_ := aC (vp (g := a2) (o := .cells #[.bool x, .int .i64 y] 69 (0, 0)) (by (with_reducible repeat first | apply vm | apply vn | apply vl); refine wk ?_ j.out _; (with_reducible repeat first | apply vm | apply vn | apply vl); refine wk ?_ j.out _; (with_reducible repeat first | apply vm | apply vn | apply vl); refine wk ?_ j.out _; (with_reducible repeat first | apply vm | apply vn | apply vl); refine wk ?_ j.out _; (with_reducible repeat first | apply vm | apply vn | apply vl); exact q.out) hb) (aC (vp (g := u) (o := .cells #[.int .i64 ((vk l0 d).f0), .int .i64 ((vk l0 d).f1), .int .i64 ((vk l0 d).f2), .int .i64 ((vk l0 d).f3)] 105 (0, 0)) (by (with_reducible repeat first | apply vm | apply vn | apply vl); refine vt (cs := #[.int .i64 ((vk l0 d).f0), .int .i64 ((vk l0 d).f1), .int .i64 ((vk l0 d).f2), .int .i64 0]) ?_ 3 _ rfl; (with_reducible repeat first | apply vm | apply vn | apply vl); refine vt (cs := #[.int .i64 ((vk l0 d).f0), .int .i64 ((vk l0 d).f1), .int .i64 0, .int .i64 0]) ?_ 2 _ rfl; (with_reducible repeat first | apply vm | apply vn | apply vl); refine vt (cs := #[.int .i64 ((vk l0 d).f0), .int .i64 0, .int .i64 0, .int .i64 0]) ?_ 1 _ rfl; (with_reducible repeat first | apply vm | apply vn | apply vl); refine vt (cs := #[.int .i64 0, .int .i64 0, .int .i64 0, .int .i64 0]) ?_ 0 _ rfl; (with_reducible repeat first | apply vm | apply vn | apply vl); exact r.out) hb) (aE (bs hb))); clear q r HB; obtain ⟨q, r, HB⟩ := n_; obtain ⟨d8, d9, e0, e1, e2, e3, e4, e5⟩ := xP r.out)))
         go_roundg k1
         case measure => have := b5.out; omega
         case rel => exact ⟨(d), (a8), (wrap64 (d + 1)), rq, rq, rq, H', ⟨by have := b5.out; omega⟩, ⟨bU q.out⟩, ⟨bl⟩⟩
        ·by_cases o0 : 0 ≤ t
         ·rw [if_pos o0] at H
          have p8 := decide_eq_true o0
          clear o0
          by_cases o1 : t < (l0.length : Int)
          ·rw [if_pos o1] at H
           have p9 := decide_eq_true o1
           clear o1
           rcases iL H with H1 | H1 <;> clear H <;> obtain ⟨H, q0⟩ := H1
           ·have H' := aE H
            clear H
            have a4 : 0 ≤ (d : Int) := dt
            have a5 : d < (l0.length : Int) := dt
            obtain ⟨a3, b4, M, O, T, X⟩ := xr b1.out d a4 a5
            cases b4
            replace M := hcB HB.out M
            replace O := hcB HB.out O
            replace T := hcB HB.out T
            replace X := hcB HB.out X
            replace a4 := eq_true a4
            replace a5 := eq_true a5
            go_wp2_with (first | ((with_reducible refine gd 7 rfl ?_); refine bx 7 #[.int .i64 0, .int .i64 0, .int .i64 0, .int .i64 0] 105 rfl rfl ?_; intro u hg o6 hbox hb; have n_ := aC (vp (bU q.out) hb) (aC (bs hb) (aC hbox (aC (gz hg) (aC (gz hg) (aC (gn hg (bU q.out)) (aE (gm hg (bU q.out)))))))); clear q HB; obtain ⟨q, HB, r, a6, a7, j, s⟩ := n_; clear hb hbox hg; have n2 := s.out; have n3 := j.out; obtain ⟨e6, e7, e8, e9, f4, f5, f6, f7⟩ := xP r.out; obtain ⟨f8, f9, g0, g1⟩ := yM q.out) | (go_at_call 96; (with_reducible refine (wu.calls k1 ((vk l0 d).f0) ((vk l0 d).f1) ((vk l0 d).f2) ((vk l0 d).f3) x y a8 true _ A7.out).mono ?_); rintro e o7 ⟨rfl, hb⟩; have n_ := aC (vp (g := a2) (o := .cells #[.bool x, .int .i64 y] 69 (0, 0)) (by (with_reducible repeat first | apply vm | apply vn | apply vl); refine wk ?_ j.out _; (with_reducible repeat first | apply vm | apply vn | apply vl); refine wk ?_ j.out _; (with_reducible repeat first | apply vm | apply vn | apply vl); refine wk ?_ j.out _; (with_reducible repeat first | apply vm | apply vn | apply vl); refine wk ?_ j.out _; (with_reducible repeat first | apply vm | apply vn | apply vl); exact q.out) hb) (aC (vp (g := u) (o := .cells #[.int .i64 ((vk l0 d).f0), .int .i64 ((vk l0 d).f1), .int .i64 ((vk l0 d).f2), .int .i64 ((vk l0 d).f3)] 105 (0, 0)) (by (with_reducible repeat first | apply vm | apply vn | apply vl); refine vt (cs := #[.int .i64 ((vk l0 d).f0), .int .i64 ((vk l0 d).f1), .int .i64 ((vk l0 d).f2), .int .i64 0]) ?_ 3 _ rfl; (with_reducible repeat first | apply vm | apply vn | apply vl); refine vt (cs := #[.int .i64 ((vk l0 d).f0), .int .i64 ((vk l0 d).f1), .int .i64 0, .int .i64 0]) ?_ 2 _ rfl; (with_reducible repeat first | apply vm | apply vn | apply vl); refine vt (cs := #[.int .i64 ((vk l0 d).f0), .int .i64 0, .int .i64 0, .int .i64 0]) ?_ 1 _ rfl; (with_reducible repeat first | apply vm | apply vn | apply vl); refine vt (cs := #[.int .i64 0, .int .i64 0, .int .i64 0, .int .i64 0]) ?_ 0 _ rfl; (with_reducible repeat first | apply vm | apply vn | apply vl); exact r.out) hb) (aE (bs hb))); clear q r HB; obtain ⟨q, r, HB⟩ := n_; obtain ⟨g2, g3, g4, g5, g6, g7, g8, g9⟩ := xP r.out; have Y : 0 ≤ (t : Int) := dt; have Z : t < (l0.length : Int) := dt; obtain ⟨a9, b2, z, B, D, E⟩ := xr b1.out t Y Z; obtain rfl : a3 = a9 := (by injection b2); replace z := hcB HB.out z; replace B := hcB HB.out B; replace D := hcB HB.out D; replace E := hcB HB.out E; replace Y := eq_true Y; replace Z := eq_true Z; have a0 : 0 ≤ (t : Int) := dt; have a1 : t < (l0.length : Int) := dt; obtain ⟨b0, b3, G, I, J, L⟩ := xr b1.out t a0 a1; obtain rfl : a3 = b0 := (by injection b3); replace G := hcB HB.out G; replace I := hcB HB.out I; replace J := hcB HB.out J; replace L := hcB HB.out L; replace a0 := eq_true a0; replace a1 := eq_true a1))
            repeat (go_quiet (first | ((with_reducible refine gd 7 rfl ?_); refine bx 7 #[.int .i64 0, .int .i64 0, .int .i64 0, .int .i64 0] 105 rfl rfl ?_; intro u hg o6 hbox hb; have n_ := aC (vp (bU q.out) hb) (aC (bs hb) (aC hbox (aC (gz hg) (aC (gz hg) (aC (gn hg (bU q.out)) (aE (gm hg (bU q.out)))))))); clear q HB; obtain ⟨q, HB, r, a6, a7, j, s⟩ := n_; clear hb hbox hg; have n2 := s.out; have n3 := j.out; obtain ⟨e6, e7, e8, e9, f4, f5, f6, f7⟩ := xP r.out; obtain ⟨f8, f9, g0, g1⟩ := yM q.out) | (go_at_call 96; (with_reducible refine (wu.calls k1 ((vk l0 d).f0) ((vk l0 d).f1) ((vk l0 d).f2) ((vk l0 d).f3) x y a8 true _ A7.out).mono ?_); rintro e o7 ⟨rfl, hb⟩; have n_ := aC (vp (g := a2) (o := .cells #[.bool x, .int .i64 y] 69 (0, 0)) (by (with_reducible repeat first | apply vm | apply vn | apply vl); refine wk ?_ j.out _; (with_reducible repeat first | apply vm | apply vn | apply vl); refine wk ?_ j.out _; (with_reducible repeat first | apply vm | apply vn | apply vl); refine wk ?_ j.out _; (with_reducible repeat first | apply vm | apply vn | apply vl); refine wk ?_ j.out _; (with_reducible repeat first | apply vm | apply vn | apply vl); exact q.out) hb) (aC (vp (g := u) (o := .cells #[.int .i64 ((vk l0 d).f0), .int .i64 ((vk l0 d).f1), .int .i64 ((vk l0 d).f2), .int .i64 ((vk l0 d).f3)] 105 (0, 0)) (by (with_reducible repeat first | apply vm | apply vn | apply vl); refine vt (cs := #[.int .i64 ((vk l0 d).f0), .int .i64 ((vk l0 d).f1), .int .i64 ((vk l0 d).f2), .int .i64 0]) ?_ 3 _ rfl; (with_reducible repeat first | apply vm | apply vn | apply vl); refine vt (cs := #[.int .i64 ((vk l0 d).f0), .int .i64 ((vk l0 d).f1), .int .i64 0, .int .i64 0]) ?_ 2 _ rfl; (with_reducible repeat first | apply vm | apply vn | apply vl); refine vt (cs := #[.int .i64 ((vk l0 d).f0), .int .i64 0, .int .i64 0, .int .i64 0]) ?_ 1 _ rfl; (with_reducible repeat first | apply vm | apply vn | apply vl); refine vt (cs := #[.int .i64 0, .int .i64 0, .int .i64 0, .int .i64 0]) ?_ 0 _ rfl; (with_reducible repeat first | apply vm | apply vn | apply vl); exact r.out) hb) (aE (bs hb))); clear q r HB; obtain ⟨q, r, HB⟩ := n_; obtain ⟨g2, g3, g4, g5, g6, g7, g8, g9⟩ := xP r.out; have Y : 0 ≤ (t : Int) := dt; have Z : t < (l0.length : Int) := dt; obtain ⟨a9, b2, z, B, D, E⟩ := xr b1.out t Y Z; obtain rfl : a3 = a9 := (by injection b2); replace z := hcB HB.out z; replace B := hcB HB.out B; replace D := hcB HB.out D; replace E := hcB HB.out E; replace Y := eq_true Y; replace Z := eq_true Z; have a0 : 0 ≤ (t : Int) := dt; have a1 : t < (l0.length : Int) := dt; obtain ⟨b0, b3, G, I, J, L⟩ := xr b1.out t a0 a1; obtain rfl : a3 = b0 := (by injection b3); replace G := hcB HB.out G; replace I := hcB HB.out I; replace J := hcB HB.out J; replace L := hcB HB.out L; replace a0 := eq_true a0; replace a1 := eq_true a1)); try go_wp2_with (first | ((with_reducible refine gd 7 rfl ?_); refine bx 7 #[.int .i64 0, .int .i64 0, .int .i64 0, .int .i64 0] 105 rfl rfl ?_; intro u hg o6 hbox hb; have n_ := aC (vp (bU q.out) hb) (aC (bs hb) (aC hbox (aC (gz hg) (aC (gz hg) (aC (gn hg (bU q.out)) (aE (gm hg (bU q.out)))))))); clear q HB; obtain ⟨q, HB, r, a6, a7, j, s⟩ := n_; clear hb hbox hg; have n2 := s.out; have n3 := j.out; obtain ⟨e6, e7, e8, e9, f4, f5, f6, f7⟩ := xP r.out; obtain ⟨f8, f9, g0, g1⟩ := yM q.out) | (go_at_call 96; (with_reducible refine (wu.calls k1 ((vk l0 d).f0) ((vk l0 d).f1) ((vk l0 d).f2) ((vk l0 d).f3) x y a8 true _ A7.out).mono ?_); rintro e o7 ⟨rfl, hb⟩; have n_ := aC (vp (g := a2) (o := .cells #[.bool x, .int .i64 y] 69 (0, 0)) (by (with_reducible repeat first | apply vm | apply vn | apply vl); refine wk ?_ j.out _; (with_reducible repeat first | apply vm | apply vn | apply vl); refine wk ?_ j.out _; (with_reducible repeat first | apply vm | apply vn | apply vl); refine wk ?_ j.out _; (with_reducible repeat first | apply vm | apply vn | apply vl); refine wk ?_ j.out _; (with_reducible repeat first | apply vm | apply vn | apply vl); exact q.out) hb) (aC (vp (g := u) (o := .cells #[.int .i64 ((vk l0 d).f0), .int .i64 ((vk l0 d).f1), .int .i64 ((vk l0 d).f2), .int .i64 ((vk l0 d).f3)] 105 (0, 0)) (by (with_reducible repeat first | apply vm | apply vn | apply vl); refine vt (cs := #[.int .i64 ((vk l0 d).f0), .int .i64 ((vk l0 d).f1), .int .i64 ((vk l0 d).f2), .int .i64 0]) ?_ 3 _ rfl; (with_reducible repeat first | apply vm | apply vn | apply vl); refine vt (cs := #[.int .i64 ((vk l0 d).f0), .int .i64 ((vk l0 d).f1), .int .i64 0, .int .i64 0]) ?_ 2 _ rfl; (with_reducible repeat first | apply vm | apply vn | apply vl); refine vt (cs := #[.int .i64 ((vk l0 d).f0), .int .i64 0, .int .i64 0, .int .i64 0]) ?_ 1 _ rfl; (with_reducible repeat first | apply vm | apply vn | apply vl); refine vt (cs := #[.int .i64 0, .int .i64 0, .int .i64 0, .int .i64 0]) ?_ 0 _ rfl; (with_reducible repeat first | apply vm | apply vn | apply vl); exact r.out) hb) (aE (bs hb))); clear q r HB; obtain ⟨q, r, HB⟩ := n_; obtain ⟨g2, g3, g4, g5, g6, g7, g8, g9⟩ := xP r.out; have Y : 0 ≤ (t : Int) := dt; have Z : t < (l0.length : Int) := dt; obtain ⟨a9, b2, z, B, D, E⟩ := xr b1.out t Y Z; obtain rfl : a3 = a9 := (by injection b2); replace z := hcB HB.out z; replace B := hcB HB.out B; replace D := hcB HB.out D; replace E := hcB HB.out E; replace Y := eq_true Y; replace Z := eq_true Z; have a0 : 0 ≤ (t : Int) := dt; have a1 : t < (l0.length : Int) := dt; obtain ⟨b0, b3, G, I, J, L⟩ := xr b1.out t a0 a1; obtain rfl : a3 = b0 := (by injection b3); replace G := hcB HB.out G; replace I := hcB HB.out I; replace J := hcB HB.out J; replace L := hcB HB.out L; replace a0 := eq_true a0; replace a1 := eq_true a1)))
            go_roundg k1
            case measure => have := b5.out; omega
            case rel => exact ⟨(d), (a8), (wrap64 (d + 1)), rq, rq, rq, H', ⟨by have := b5.out; omega⟩, ⟨bU q.out⟩, ⟨bl⟩⟩
           ·have H' := aE H
            clear H
            have a4 : 0 ≤ (d : Int) := dt
            have a5 : d < (l0.length : Int) := dt
            obtain ⟨a3, b4, M, O, T, X⟩ := xr b1.out d a4 a5
            cases b4
            replace M := hcB HB.out M
            replace O := hcB HB.out O
            replace T := hcB HB.out T
            replace X := hcB HB.out X
            replace a4 := eq_true a4
            replace a5 := eq_true a5
            go_wp2_with (first | ((with_reducible refine gd 7 rfl ?_); refine bx 7 #[.int .i64 0, .int .i64 0, .int .i64 0, .int .i64 0] 105 rfl rfl ?_; intro u hg o8 hbox hb; have n_ := aC (vp (bU q.out) hb) (aC (bs hb) (aC hbox (aC (gz hg) (aC (gz hg) (aC (gn hg (bU q.out)) (aE (gm hg (bU q.out)))))))); clear q HB; obtain ⟨q, HB, r, a6, a7, j, s⟩ := n_; clear hb hbox hg; have n4 := s.out; have n5 := j.out; obtain ⟨h3, h4, h5, h6, h7, h8, h9, i0⟩ := xP r.out; obtain ⟨i1, i2, i3, i4⟩ := yM q.out) | (go_at_call 96; (with_reducible refine (wu.calls k1 ((vk l0 d).f0) ((vk l0 d).f1) ((vk l0 d).f2) ((vk l0 d).f3) x y a8 true _ A7.out).mono ?_); rintro e o9 ⟨rfl, hb⟩; have n_ := aC (vp (g := a2) (o := .cells #[.bool x, .int .i64 y] 69 (0, 0)) (by (with_reducible repeat first | apply vm | apply vn | apply vl); refine wk ?_ j.out _; (with_reducible repeat first | apply vm | apply vn | apply vl); refine wk ?_ j.out _; (with_reducible repeat first | apply vm | apply vn | apply vl); refine wk ?_ j.out _; (with_reducible repeat first | apply vm | apply vn | apply vl); refine wk ?_ j.out _; (with_reducible repeat first | apply vm | apply vn | apply vl); exact q.out) hb) (aC (vp (g := u) (o := .cells #[.int .i64 ((vk l0 d).f0), .int .i64 ((vk l0 d).f1), .int .i64 ((vk l0 d).f2), .int .i64 ((vk l0 d).f3)] 105 (0, 0)) (by (with_reducible repeat first | apply vm | apply vn | apply vl); refine vt (cs := #[.int .i64 ((vk l0 d).f0), .int .i64 ((vk l0 d).f1), .int .i64 ((vk l0 d).f2), .int .i64 0]) ?_ 3 _ rfl; (with_reducible repeat first | apply vm | apply vn | apply vl); refine vt (cs := #[.int .i64 ((vk l0 d).f0), .int .i64 ((vk l0 d).f1), .int .i64 0, .int .i64 0]) ?_ 2 _ rfl; (with_reducible repeat first | apply vm | apply vn | apply vl); refine vt (cs := #[.int .i64 ((vk l0 d).f0), .int .i64 0, .int .i64 0, .int .i64 0]) ?_ 1 _ rfl; (with_reducible repeat first | apply vm | apply vn | apply vl); refine vt (cs := #[.int .i64 0, .int .i64 0, .int .i64 0, .int .i64 0]) ?_ 0 _ rfl; (with_reducible repeat first | apply vm | apply vn | apply vl); exact r.out) hb) (aE (bs hb))); clear q r HB; obtain ⟨q, r, HB⟩ := n_; obtain ⟨i5, i6, i7, i8, i9, j2, j3, j4⟩ := xP r.out; have Y : 0 ≤ (t : Int) := dt; have Z : t < (l0.length : Int) := dt; obtain ⟨a9, b2, z, B, D, E⟩ := xr b1.out t Y Z; obtain rfl : a3 = a9 := (by injection b2); replace z := hcB HB.out z; replace B := hcB HB.out B; replace D := hcB HB.out D; replace E := hcB HB.out E; replace Y := eq_true Y; replace Z := eq_true Z; have a0 : 0 ≤ (t : Int) := dt; have a1 : t < (l0.length : Int) := dt; obtain ⟨b0, b3, G, I, J, L⟩ := xr b1.out t a0 a1; obtain rfl : a3 = b0 := (by injection b3); replace G := hcB HB.out G; replace I := hcB HB.out I; replace J := hcB HB.out J; replace L := hcB HB.out L; replace a0 := eq_true a0; replace a1 := eq_true a1))
            repeat (go_quiet (first | ((with_reducible refine gd 7 rfl ?_); refine bx 7 #[.int .i64 0, .int .i64 0, .int .i64 0, .int .i64 0] 105 rfl rfl ?_; intro u hg o8 hbox hb; have n_ := aC (vp (bU q.out) hb) (aC (bs hb) (aC hbox (aC (gz hg) (aC (gz hg) (aC (gn hg (bU q.out)) (aE (gm hg (bU q.out)))))))); clear q HB; obtain ⟨q, HB, r, a6, a7, j, s⟩ := n_; clear hb hbox hg; have n4 := s.out; have n5 := j.out; obtain ⟨h3, h4, h5, h6, h7, h8, h9, i0⟩ := xP r.out; obtain ⟨i1, i2, i3, i4⟩ := yM q.out) | (go_at_call 96; (with_reducible refine (wu.calls k1 ((vk l0 d).f0) ((vk l0 d).f1) ((vk l0 d).f2) ((vk l0 d).f3) x y a8 true _ A7.out).mono ?_); rintro e o9 ⟨rfl, hb⟩; have n_ := aC (vp (g := a2) (o := .cells #[.bool x, .int .i64 y] 69 (0, 0)) (by (with_reducible repeat first | apply vm | apply vn | apply vl); refine wk ?_ j.out _; (with_reducible repeat first | apply vm | apply vn | apply vl); refine wk ?_ j.out _; (with_reducible repeat first | apply vm | apply vn | apply vl); refine wk ?_ j.out _; (with_reducible repeat first | apply vm | apply vn | apply vl); refine wk ?_ j.out _; (with_reducible repeat first | apply vm | apply vn | apply vl); exact q.out) hb) (aC (vp (g := u) (o := .cells #[.int .i64 ((vk l0 d).f0), .int .i64 ((vk l0 d).f1), .int .i64 ((vk l0 d).f2), .int .i64 ((vk l0 d).f3)] 105 (0, 0)) (by (with_reducible repeat first | apply vm | apply vn | apply vl); refine vt (cs := #[.int .i64 ((vk l0 d).f0), .int .i64 ((vk l0 d).f1), .int .i64 ((vk l0 d).f2), .int .i64 0]) ?_ 3 _ rfl; (with_reducible repeat first | apply vm | apply vn | apply vl); refine vt (cs := #[.int .i64 ((vk l0 d).f0), .int .i64 ((vk l0 d).f1), .int .i64 0, .int .i64 0]) ?_ 2 _ rfl; (with_reducible repeat first | apply vm | apply vn | apply vl); refine vt (cs := #[.int .i64 ((vk l0 d).f0), .int .i64 0, .int .i64 0, .int .i64 0]) ?_ 1 _ rfl; (with_reducible repeat first | apply vm | apply vn | apply vl); refine vt (cs := #[.int .i64 0, .int .i64 0, .int .i64 0, .int .i64 0]) ?_ 0 _ rfl; (with_reducible repeat first | apply vm | apply vn | apply vl); exact r.out) hb) (aE (bs hb))); clear q r HB; obtain ⟨q, r, HB⟩ := n_; obtain ⟨i5, i6, i7, i8, i9, j2, j3, j4⟩ := xP r.out; have Y : 0 ≤ (t : Int) := dt; have Z : t < (l0.length : Int) := dt; obtain ⟨a9, b2, z, B, D, E⟩ := xr b1.out t Y Z; obtain rfl : a3 = a9 := (by injection b2); replace z := hcB HB.out z; replace B := hcB HB.out B; replace D := hcB HB.out D; replace E := hcB HB.out E; replace Y := eq_true Y; replace Z := eq_true Z; have a0 : 0 ≤ (t : Int) := dt; have a1 : t < (l0.length : Int) := dt; obtain ⟨b0, b3, G, I, J, L⟩ := xr b1.out t a0 a1; obtain rfl : a3 = b0 := (by injection b3); replace G := hcB HB.out G; replace I := hcB HB.out I; replace J := hcB HB.out J; replace L := hcB HB.out L; replace a0 := eq_true a0; replace a1 := eq_true a1)); try go_wp2_with (first | ((with_reducible refine gd 7 rfl ?_); refine bx 7 #[.int .i64 0, .int .i64 0, .int .i64 0, .int .i64 0] 105 rfl rfl ?_; intro u hg o8 hbox hb; have n_ := aC (vp (bU q.out) hb) (aC (bs hb) (aC hbox (aC (gz hg) (aC (gz hg) (aC (gn hg (bU q.out)) (aE (gm hg (bU q.out)))))))); clear q HB; obtain ⟨q, HB, r, a6, a7, j, s⟩ := n_; clear hb hbox hg; have n4 := s.out; have n5 := j.out; obtain ⟨h3, h4, h5, h6, h7, h8, h9, i0⟩ := xP r.out; obtain ⟨i1, i2, i3, i4⟩ := yM q.out) | (go_at_call 96; (with_reducible refine (wu.calls k1 ((vk l0 d).f0) ((vk l0 d).f1) ((vk l0 d).f2) ((vk l0 d).f3) x y a8 true _ A7.out).mono ?_); rintro e o9 ⟨rfl, hb⟩; have n_ := aC (vp (g := a2) (o := .cells #[.bool x, .int .i64 y] 69 (0, 0)) (by (with_reducible repeat first | apply vm | apply vn | apply vl); refine wk ?_ j.out _; (with_reducible repeat first | apply vm | apply vn | apply vl); refine wk ?_ j.out _; (with_reducible repeat first | apply vm | apply vn | apply vl); refine wk ?_ j.out _; (with_reducible repeat first | apply vm | apply vn | apply vl); refine wk ?_ j.out _; (with_reducible repeat first | apply vm | apply vn | apply vl); exact q.out) hb) (aC (vp (g := u) (o := .cells #[.int .i64 ((vk l0 d).f0), .int .i64 ((vk l0 d).f1), .int .i64 ((vk l0 d).f2), .int .i64 ((vk l0 d).f3)] 105 (0, 0)) (by (with_reducible repeat first | apply vm | apply vn | apply vl); refine vt (cs := #[.int .i64 ((vk l0 d).f0), .int .i64 ((vk l0 d).f1), .int .i64 ((vk l0 d).f2), .int .i64 0]) ?_ 3 _ rfl; (with_reducible repeat first | apply vm | apply vn | apply vl); refine vt (cs := #[.int .i64 ((vk l0 d).f0), .int .i64 ((vk l0 d).f1), .int .i64 0, .int .i64 0]) ?_ 2 _ rfl; (with_reducible repeat first | apply vm | apply vn | apply vl); refine vt (cs := #[.int .i64 ((vk l0 d).f0), .int .i64 0, .int .i64 0, .int .i64 0]) ?_ 1 _ rfl; (with_reducible repeat first | apply vm | apply vn | apply vl); refine vt (cs := #[.int .i64 0, .int .i64 0, .int .i64 0, .int .i64 0]) ?_ 0 _ rfl; (with_reducible repeat first | apply vm | apply vn | apply vl); exact r.out) hb) (aE (bs hb))); clear q r HB; obtain ⟨q, r, HB⟩ := n_; obtain ⟨i5, i6, i7, i8, i9, j2, j3, j4⟩ := xP r.out; have Y : 0 ≤ (t : Int) := dt; have Z : t < (l0.length : Int) := dt; obtain ⟨a9, b2, z, B, D, E⟩ := xr b1.out t Y Z; obtain rfl : a3 = a9 := (by injection b2); replace z := hcB HB.out z; replace B := hcB HB.out B; replace D := hcB HB.out D; replace E := hcB HB.out E; replace Y := eq_true Y; replace Z := eq_true Z; have a0 : 0 ≤ (t : Int) := dt; have a1 : t < (l0.length : Int) := dt; obtain ⟨b0, b3, G, I, J, L⟩ := xr b1.out t a0 a1; obtain rfl : a3 = b0 := (by injection b3); replace G := hcB HB.out G; replace I := hcB HB.out I; replace J := hcB HB.out J; replace L := hcB HB.out L; replace a0 := eq_true a0; replace a1 := eq_true a1)))
            go_roundg k1
            case measure => have := b5.out; omega
            case rel => exact ⟨(t), (b6), (wrap64 (d + 1)), rq, rq, rq, H', ⟨by have := b5.out; omega⟩, ⟨bU q.out⟩, ⟨bl⟩⟩
          ·rw [if_neg o1] at H
           exact nB H
         ·rw [if_neg o0] at H
          exact nB H
       ·have H' := aE H
        clear H
        have a4 : 0 ≤ (d : Int) := dt
        have a5 : d < (l0.length : Int) := dt
        obtain ⟨a3, b4, M, O, T, X⟩ := xr b1.out d a4 a5
        cases b4
        replace M := hcB HB.out M
        replace O := hcB HB.out O
        replace T := hcB HB.out T
        replace X := hcB HB.out X
        replace a4 := eq_true a4
        replace a5 := eq_true a5
        go_wp2_with (first | ((with_reducible refine gd 7 rfl ?_); refine bx 7 #[.int .i64 0, .int .i64 0, .int .i64 0, .int .i64 0] 105 rfl rfl ?_; intro u hg p0 hbox hb; have n_ := aC (vp (bU q.out) hb) (aC (bs hb) (aC hbox (aC (gz hg) (aC (gz hg) (aC (gn hg (bU q.out)) (aE (gm hg (bU q.out)))))))); clear q HB; obtain ⟨q, HB, r, a6, a7, j, s⟩ := n_; clear hb hbox hg; have n6 := s.out; have n7 := j.out; obtain ⟨j5, j6, j7, j8, j9, k0, k2, k3⟩ := xP r.out; obtain ⟨k4, k5, k6, k7⟩ := yM q.out) | (go_at_call 96; (with_reducible refine (wu.calls k1 ((vk l0 d).f0) ((vk l0 d).f1) ((vk l0 d).f2) ((vk l0 d).f3) x y a8 true _ A7.out).mono ?_); rintro e p1 ⟨rfl, hb⟩; have n_ := aC (vp (g := a2) (o := .cells #[.bool x, .int .i64 y] 69 (0, 0)) (by (with_reducible repeat first | apply vm | apply vn | apply vl); refine wk ?_ j.out _; (with_reducible repeat first | apply vm | apply vn | apply vl); refine wk ?_ j.out _; (with_reducible repeat first | apply vm | apply vn | apply vl); refine wk ?_ j.out _; (with_reducible repeat first | apply vm | apply vn | apply vl); refine wk ?_ j.out _; (with_reducible repeat first | apply vm | apply vn | apply vl); exact q.out) hb) (aC (vp (g := u) (o := .cells #[.int .i64 ((vk l0 d).f0), .int .i64 ((vk l0 d).f1), .int .i64 ((vk l0 d).f2), .int .i64 ((vk l0 d).f3)] 105 (0, 0)) (by (with_reducible repeat first | apply vm | apply vn | apply vl); refine vt (cs := #[.int .i64 ((vk l0 d).f0), .int .i64 ((vk l0 d).f1), .int .i64 ((vk l0 d).f2), .int .i64 0]) ?_ 3 _ rfl; (with_reducible repeat first | apply vm | apply vn | apply vl); refine vt (cs := #[.int .i64 ((vk l0 d).f0), .int .i64 ((vk l0 d).f1), .int .i64 0, .int .i64 0]) ?_ 2 _ rfl; (with_reducible repeat first | apply vm | apply vn | apply vl); refine vt (cs := #[.int .i64 ((vk l0 d).f0), .int .i64 0, .int .i64 0, .int .i64 0]) ?_ 1 _ rfl; (with_reducible repeat first | apply vm | apply vn | apply vl); refine vt (cs := #[.int .i64 0, .int .i64 0, .int .i64 0, .int .i64 0]) ?_ 0 _ rfl; (with_reducible repeat first | apply vm | apply vn | apply vl); exact r.out) hb) (aE (bs hb))); clear q r HB; obtain ⟨q, r, HB⟩ := n_; obtain ⟨k8, k9, l2, l3, l4, l5, l6, l7⟩ := xP r.out))
        repeat (go_quiet (first | ((with_reducible refine gd 7 rfl ?_); refine bx 7 #[.int .i64 0, .int .i64 0, .int .i64 0, .int .i64 0] 105 rfl rfl ?_; intro u hg p0 hbox hb; have n_ := aC (vp (bU q.out) hb) (aC (bs hb) (aC hbox (aC (gz hg) (aC (gz hg) (aC (gn hg (bU q.out)) (aE (gm hg (bU q.out)))))))); clear q HB; obtain ⟨q, HB, r, a6, a7, j, s⟩ := n_; clear hb hbox hg; have n6 := s.out; have n7 := j.out; obtain ⟨j5, j6, j7, j8, j9, k0, k2, k3⟩ := xP r.out; obtain ⟨k4, k5, k6, k7⟩ := yM q.out) | (go_at_call 96; (with_reducible refine (wu.calls k1 ((vk l0 d).f0) ((vk l0 d).f1) ((vk l0 d).f2) ((vk l0 d).f3) x y a8 true _ A7.out).mono ?_); rintro e p1 ⟨rfl, hb⟩; have n_ := aC (vp (g := a2) (o := .cells #[.bool x, .int .i64 y] 69 (0, 0)) (by (with_reducible repeat first | apply vm | apply vn | apply vl); refine wk ?_ j.out _; (with_reducible repeat first | apply vm | apply vn | apply vl); refine wk ?_ j.out _; (with_reducible repeat first | apply vm | apply vn | apply vl); refine wk ?_ j.out _; (with_reducible repeat first | apply vm | apply vn | apply vl); refine wk ?_ j.out _; (with_reducible repeat first | apply vm | apply vn | apply vl); exact q.out) hb) (aC (vp (g := u) (o := .cells #[.int .i64 ((vk l0 d).f0), .int .i64 ((vk l0 d).f1), .int .i64 ((vk l0 d).f2), .int .i64 ((vk l0 d).f3)] 105 (0, 0)) (by (with_reducible repeat first | apply vm | apply vn | apply vl); refine vt (cs := #[.int .i64 ((vk l0 d).f0), .int .i64 ((vk l0 d).f1), .int .i64 ((vk l0 d).f2), .int .i64 0]) ?_ 3 _ rfl; (with_reducible repeat first | apply vm | apply vn | apply vl); refine vt (cs := #[.int .i64 ((vk l0 d).f0), .int .i64 ((vk l0 d).f1), .int .i64 0, .int .i64 0]) ?_ 2 _ rfl; (with_reducible repeat first | apply vm | apply vn | apply vl); refine vt (cs := #[.int .i64 ((vk l0 d).f0), .int .i64 0, .int .i64 0, .int .i64 0]) ?_ 1 _ rfl; (with_reducible repeat first | apply vm | apply vn | apply vl); refine vt (cs := #[.int .i64 0, .int .i64 0, .int .i64 0, .int .i64 0]) ?_ 0 _ rfl; (with_reducible repeat first | apply vm | apply vn | apply vl); exact r.out) hb) (aE (bs hb))); clear q r HB; obtain ⟨q, r, HB⟩ := n_; obtain ⟨k8, k9, l2, l3, l4, l5, l6, l7⟩ := xP r.out)); try go_wp2_with (first | ((with_reducible refine gd 7 rfl ?_); refine bx 7 #[.int .i64 0, .int .i64 0, .int .i64 0, .int .i64 0] 105 rfl rfl ?_; intro u hg p0 hbox hb; have n_ := aC (vp (bU q.out) hb) (aC (bs hb) (aC hbox (aC (gz hg) (aC (gz hg) (aC (gn hg (bU q.out)) (aE (gm hg (bU q.out)))))))); clear q HB; obtain ⟨q, HB, r, a6, a7, j, s⟩ := n_; clear hb hbox hg; have n6 := s.out; have n7 := j.out; obtain ⟨j5, j6, j7, j8, j9, k0, k2, k3⟩ := xP r.out; obtain ⟨k4, k5, k6, k7⟩ := yM q.out) | (go_at_call 96; (with_reducible refine (wu.calls k1 ((vk l0 d).f0) ((vk l0 d).f1) ((vk l0 d).f2) ((vk l0 d).f3) x y a8 true _ A7.out).mono ?_); rintro e p1 ⟨rfl, hb⟩; have n_ := aC (vp (g := a2) (o := .cells #[.bool x, .int .i64 y] 69 (0, 0)) (by (with_reducible repeat first | apply vm | apply vn | apply vl); refine wk ?_ j.out _; (with_reducible repeat first | apply vm | apply vn | apply vl); refine wk ?_ j.out _; (with_reducible repeat first | apply vm | apply vn | apply vl); refine wk ?_ j.out _; (with_reducible repeat first | apply vm | apply vn | apply vl); refine wk ?_ j.out _; (with_reducible repeat first | apply vm | apply vn | apply vl); exact q.out) hb) (aC (vp (g := u) (o := .cells #[.int .i64 ((vk l0 d).f0), .int .i64 ((vk l0 d).f1), .int .i64 ((vk l0 d).f2), .int .i64 ((vk l0 d).f3)] 105 (0, 0)) (by (with_reducible repeat first | apply vm | apply vn | apply vl); refine vt (cs := #[.int .i64 ((vk l0 d).f0), .int .i64 ((vk l0 d).f1), .int .i64 ((vk l0 d).f2), .int .i64 0]) ?_ 3 _ rfl; (with_reducible repeat first | apply vm | apply vn | apply vl); refine vt (cs := #[.int .i64 ((vk l0 d).f0), .int .i64 ((vk l0 d).f1), .int .i64 0, .int .i64 0]) ?_ 2 _ rfl; (with_reducible repeat first | apply vm | apply vn | apply vl); refine vt (cs := #[.int .i64 ((vk l0 d).f0), .int .i64 0, .int .i64 0, .int .i64 0]) ?_ 1 _ rfl; (with_reducible repeat first | apply vm | apply vn | apply vl); refine vt (cs := #[.int .i64 0, .int .i64 0, .int .i64 0, .int .i64 0]) ?_ 0 _ rfl; (with_reducible repeat first | apply vm | apply vn | apply vl); exact r.out) hb) (aE (bs hb))); clear q r HB; obtain ⟨q, r, HB⟩ := n_; obtain ⟨k8, k9, l2, l3, l4, l5, l6, l7⟩ := xP r.out)))
        go_roundg k1
        case measure => have := b5.out; omega
        case rel => exact ⟨(t), (b6), (wrap64 (d + 1)), rq, rq, rq, H', ⟨by have := b5.out; omega⟩, ⟨bU q.out⟩, ⟨bl⟩⟩
      ·replace c8 := Bool.eq_false_iff.mpr c8
       subst c8
       rw [if_neg Bool.false_ne_true] at H
       have H' := aE H
       clear H
       have a4 : 0 ≤ (d : Int) := dt
       have a5 : d < (l0.length : Int) := dt
       obtain ⟨a3, b4, M, O, T, X⟩ := xr b1.out d a4 a5
       cases b4
       replace M := hcB HB.out M
       replace O := hcB HB.out O
       replace T := hcB HB.out T
       replace X := hcB HB.out X
       replace a4 := eq_true a4
       replace a5 := eq_true a5
       go_wp2_with (first | ((with_reducible refine gd 7 rfl ?_); refine bx 7 #[.int .i64 0, .int .i64 0, .int .i64 0, .int .i64 0] 105 rfl rfl ?_; intro u hg p2 hbox hb; have n_ := aC (vp (bU q.out) hb) (aC (bs hb) (aC hbox (aC (gz hg) (aC (gz hg) (aC (gn hg (bU q.out)) (aE (gm hg (bU q.out)))))))); clear q HB; obtain ⟨q, HB, r, a6, a7, j, s⟩ := n_; clear hb hbox hg; have n8 := s.out; have n9 := j.out; obtain ⟨l8, l9, m0, m1, m2, m3, m4, m5⟩ := xP r.out; obtain ⟨m6, m7, m8, m9⟩ := yM q.out) | (go_at_call 96; (with_reducible refine (wu.calls k1 ((vk l0 d).f0) ((vk l0 d).f1) ((vk l0 d).f2) ((vk l0 d).f3) x y a8 false _ A7.out).mono ?_); rintro e p3 ⟨rfl, hb⟩; have n_ := aC (vp (g := a2) (o := .cells #[.bool x, .int .i64 y] 69 (0, 0)) (by (with_reducible repeat first | apply vm | apply vn | apply vl); refine wk ?_ j.out _; (with_reducible repeat first | apply vm | apply vn | apply vl); refine wk ?_ j.out _; (with_reducible repeat first | apply vm | apply vn | apply vl); refine wk ?_ j.out _; (with_reducible repeat first | apply vm | apply vn | apply vl); refine wk ?_ j.out _; (with_reducible repeat first | apply vm | apply vn | apply vl); exact q.out) hb) (aC (vp (g := u) (o := .cells #[.int .i64 ((vk l0 d).f0), .int .i64 ((vk l0 d).f1), .int .i64 ((vk l0 d).f2), .int .i64 ((vk l0 d).f3)] 105 (0, 0)) (by (with_reducible repeat first | apply vm | apply vn | apply vl); refine vt (cs := #[.int .i64 ((vk l0 d).f0), .int .i64 ((vk l0 d).f1), .int .i64 ((vk l0 d).f2), .int .i64 0]) ?_ 3 _ rfl; (with_reducible repeat first | apply vm | apply vn | apply vl); refine vt (cs := #[.int .i64 ((vk l0 d).f0), .int .i64 ((vk l0 d).f1), .int .i64 0, .int .i64 0]) ?_ 2 _ rfl; (with_reducible repeat first | apply vm | apply vn | apply vl); refine vt (cs := #[.int .i64 ((vk l0 d).f0), .int .i64 0, .int .i64 0, .int .i64 0]) ?_ 1 _ rfl; (with_reducible repeat first | apply vm | apply vn | apply vl); refine vt (cs := #[.int .i64 0, .int .i64 0, .int .i64 0, .int .i64 0]) ?_ 0 _ rfl; (with_reducible repeat first | apply vm | apply vn | apply vl); exact r.out) hb) (aE (bs hb))); clear q r HB; obtain ⟨q, r, HB⟩ := n_))
       repeat (go_quiet (first | ((with_reducible refine gd 7 rfl ?_); refine bx 7 #[.int .i64 0, .int .i64 0, .int .i64 0, .int .i64 0] 105 rfl rfl ?_; intro u hg p2 hbox hb; have n_ := aC (vp (bU q.out) hb) (aC (bs hb) (aC hbox (aC (gz hg) (aC (gz hg) (aC (gn hg (bU q.out)) (aE (gm hg (bU q.out)))))))); clear q HB; obtain ⟨q, HB, r, a6, a7, j, s⟩ := n_; clear hb hbox hg; have n8 := s.out; have n9 := j.out; obtain ⟨l8, l9, m0, m1, m2, m3, m4, m5⟩ := xP r.out; obtain ⟨m6, m7, m8, m9⟩ := yM q.out) | (go_at_call 96; (with_reducible refine (wu.calls k1 ((vk l0 d).f0) ((vk l0 d).f1) ((vk l0 d).f2) ((vk l0 d).f3) x y a8 false _ A7.out).mono ?_); rintro e p3 ⟨rfl, hb⟩; have n_ := aC (vp (g := a2) (o := .cells #[.bool x, .int .i64 y] 69 (0, 0)) (by (with_reducible repeat first | apply vm | apply vn | apply vl); refine wk ?_ j.out _; (with_reducible repeat first | apply vm | apply vn | apply vl); refine wk ?_ j.out _; (with_reducible repeat first | apply vm | apply vn | apply vl); refine wk ?_ j.out _; (with_reducible repeat first | apply vm | apply vn | apply vl); refine wk ?_ j.out _; (with_reducible repeat first | apply vm | apply vn | apply vl); exact q.out) hb) (aC (vp (g := u) (o := .cells #[.int .i64 ((vk l0 d).f0), .int .i64 ((vk l0 d).f1), .int .i64 ((vk l0 d).f2), .int .i64 ((vk l0 d).f3)] 105 (0, 0)) (by (with_reducible repeat first | apply vm | apply vn | apply vl); refine vt (cs := #[.int .i64 ((vk l0 d).f0), .int .i64 ((vk l0 d).f1), .int .i64 ((vk l0 d).f2), .int .i64 0]) ?_ 3 _ rfl; (with_reducible repeat first | apply vm | apply vn | apply vl); refine vt (cs := #[.int .i64 ((vk l0 d).f0), .int .i64 ((vk l0 d).f1), .int .i64 0, .int .i64 0]) ?_ 2 _ rfl; (with_reducible repeat first | apply vm | apply vn | apply vl); refine vt (cs := #[.int .i64 ((vk l0 d).f0), .int .i64 0, .int .i64 0, .int .i64 0]) ?_ 1 _ rfl; (with_reducible repeat first | apply vm | apply vn | apply vl); refine vt (cs := #[.int .i64 0, .int .i64 0, .int .i64 0, .int .i64 0]) ?_ 0 _ rfl; (with_reducible repeat first | apply vm | apply vn | apply vl); exact r.out) hb) (aE (bs hb))); clear q r HB; obtain ⟨q, r, HB⟩ := n_)); try go_wp2_with (first | ((with_reducible refine gd 7 rfl ?_); refine bx 7 #[.int .i64 0, .int .i64 0, .int .i64 0, .int .i64 0] 105 rfl rfl ?_; intro u hg p2 hbox hb; have n_ := aC (vp (bU q.out) hb) (aC (bs hb) (aC hbox (aC (gz hg) (aC (gz hg) (aC (gn hg (bU q.out)) (aE (gm hg (bU q.out)))))))); clear q HB; obtain ⟨q, HB, r, a6, a7, j, s⟩ := n_; clear hb hbox hg; have n8 := s.out; have n9 := j.out; obtain ⟨l8, l9, m0, m1, m2, m3, m4, m5⟩ := xP r.out; obtain ⟨m6, m7, m8, m9⟩ := yM q.out) | (go_at_call 96; (with_reducible refine (wu.calls k1 ((vk l0 d).f0) ((vk l0 d).f1) ((vk l0 d).f2) ((vk l0 d).f3) x y a8 false _ A7.out).mono ?_); rintro e p3 ⟨rfl, hb⟩; have n_ := aC (vp (g := a2) (o := .cells #[.bool x, .int .i64 y] 69 (0, 0)) (by (with_reducible repeat first | apply vm | apply vn | apply vl); refine wk ?_ j.out _; (with_reducible repeat first | apply vm | apply vn | apply vl); refine wk ?_ j.out _; (with_reducible repeat first | apply vm | apply vn | apply vl); refine wk ?_ j.out _; (with_reducible repeat first | apply vm | apply vn | apply vl); refine wk ?_ j.out _; (with_reducible repeat first | apply vm | apply vn | apply vl); exact q.out) hb) (aC (vp (g := u) (o := .cells #[.int .i64 ((vk l0 d).f0), .int .i64 ((vk l0 d).f1), .int .i64 ((vk l0 d).f2), .int .i64 ((vk l0 d).f3)] 105 (0, 0)) (by (with_reducible repeat first | apply vm | apply vn | apply vl); refine vt (cs := #[.int .i64 ((vk l0 d).f0), .int .i64 ((vk l0 d).f1), .int .i64 ((vk l0 d).f2), .int .i64 0]) ?_ 3 _ rfl; (with_reducible repeat first | apply vm | apply vn | apply vl); refine vt (cs := #[.int .i64 ((vk l0 d).f0), .int .i64 ((vk l0 d).f1), .int .i64 0, .int .i64 0]) ?_ 2 _ rfl; (with_reducible repeat first | apply vm | apply vn | apply vl); refine vt (cs := #[.int .i64 ((vk l0 d).f0), .int .i64 0, .int .i64 0, .int .i64 0]) ?_ 1 _ rfl; (with_reducible repeat first | apply vm | apply vn | apply vl); refine vt (cs := #[.int .i64 0, .int .i64 0, .int .i64 0, .int .i64 0]) ?_ 0 _ rfl; (with_reducible repeat first | apply vm | apply vn | apply vl); exact r.out) hb) (aE (bs hb))); clear q r HB; obtain ⟨q, r, HB⟩ := n_)))
       go_roundg k1
       case measure => have := b5.out; omega
       case rel => exact ⟨(t), (b6), (wrap64 (d + 1)), rq, rq, rq, H', ⟨by have := b5.out; omega⟩, ⟨bU q.out⟩, ⟨bl⟩⟩
     ·rw [if_neg c6] at H
      exact nB H
    ·rw [if_neg c5] at H
     exact nB H
   ·simp only [Option.some.injEq, Prod.mk.injEq] at H
    obtain ⟨rfl, rfl⟩ := H
    go_wp2
    go_ret2
    exact ⟨re, bl⟩
def wR.l0 : Nat → Int → Int → List Int → Int → Int → Option (List Int)
 | 0, _, _, _, _, _ => none
 | k + 1, x0, x1, x5, e, d => if d < e then (if 0 ≤ (wrap64 ((wrap64 (x1 - 1)) - d)) then (if 0 ≤ d then (if d < (x5.length : Int) then (wR.l0 k x0 x1 (x5.set (d : Int).toNat ((Go.bits .and .i64 (shr .i64 x0 (wrap64 ((wrap64 (x1 - 1)) - d))) 1) % 256)) e (wrap64 (d + 1))) else (none)) else (none)) else (none)) else (some x5)
def wR.f (k : Nat) (a0 : Int) (a1 : Int) : Option (List Int) := if 0 ≤ a1 then (if (a1 : Int).toNat ≤ 281474976710656 then ((some (List.replicate (a1 : Int).toNat 0 : List Int)).bind fun d => (wR.l0 k a0 a1 d (d.length : Int) 0)) else (none)) else (none)
theorem wR.wt : ∀ k, (∀ y0 y1 y2 y3 y4, vK (wR.l0 k y0 y1 y2 y3 y4) (wR.l0 (k + 1) y0 y1 y2 y3 y4))
 | 0 => fun _ _ _ _ _ r h => by simp [wR.l0] at h
 | k + 1 => by
  have ih0 := wR.wt k
  ·intro y0 y1 y2 y3 y4
   unfold wR.l0
   repeat' first
   | (with_reducible exact ih0 _ _ _ _ _)
   | (with_reducible first | exact vK.refl _ | exact vK.none _ | apply vK.ite | apply vK.bind | intro)
theorem wR.mono : ∀ a0 a1 k, vK (wR.f k a0 a1) (wR.f (k + 1) a0 a1) := by
 intro a0 a1 k
 have ih0 := wR.wt k
 unfold wR.f
 repeat' first
   | (with_reducible exact ih0 _ _ _ _ _)
   | (with_reducible first | exact vK.refl _ | exact vK.none _ | apply vK.ite | apply vK.bind | intro)
theorem wR.calls (k : Nat) (a0 : Int) (a1 : Int) (r : List Int) (w : World) (h : wR.f k a0 a1 = some r) :
  Calls Tryz.prog 82 #[.int .i64 a0, .int .i64 a1] w fun e w' => ∃ a6 : Value, e = .returned (a6) ∧ Kd.R (Kd.int .u8) 5 w' w.heap.size (fun _ => True) a6 r ∧ Below w.heap.size w w' := by
 have HB := bR w
 have H := h
 unfold wR.f at H
 clear h
 by_cases c3 : 0 ≤ a1
 ·rw [if_pos c3] at H
  have b9 := eq_true c3
  have c0 := decide_eq_true c3
  clear c3
  by_cases c4 : (a1 : Int).toNat ≤ 281474976710656
  ·rw [if_pos c4] at H
   have c1 := eq_true c4
   have d0 := decide_eq_true c4
   clear c4
   obtain ⟨u, hy_⟩ : ∃ y_ : List Int, y_ = (List.replicate (a1 : Int).toNat 0) := ⟨_, rfl⟩
   replace H : (wR.l0 k a0 a1 u (u.length : Int) 0) = some r := rh
   have E := aE hy_
   clear hy_
   have H' := aE H
   clear H
   go_enter Tryz.func82, Tryz.ntmps82
   go_wp2_with (first | ((with_reducible refine gd 8 rfl ?_); refine Kd.jN (Kd.int .u8) _ 5 rfl (N := 8) rfl 22 _ _ rfl a1 rfl rfl Tryz.underlying22 (.int .u8 0) 1 info5 rfl (by decide) (by omega) 0 (ok := fun _ => True) (okp := fun _ => True) rfl (fun _ hk => hk) trivial (dt) (Nat.le_trans (Nat.mul_le_mul_right _ (dt : a1.toNat ≤ 281474976710656)) (by omega)) (Below.refl _ _) (Nat.le_refl _) ?_; intro d1 w5 G hb hg_ hnew_; clear hg_ hnew_; (first | rw [← E.out] at G | (simp only [Int.reduceToNat] at G; rw [← E.out] at G)); have n_ := aC (Kd.vS G bz) (aE (bs hb)); clear HB; obtain ⟨I, HB⟩ := n_; clear hb G; obtain ⟨b2, a7, b3⟩ := Kd.vY I.out; subst b3))
   go_loopg [11] k (fun kq b4 w' => ∃ (j : List Int) (d : Int), b4 = .int .i64 d ∧ Aside0 (wR.l0 kq a0 a1 j (u.length : Int) d = some r) ∧ Aside0 (kq ≤ k) ∧ Aside0 (Kd.R (Kd.int .u8) 5 w' w.heap.size (fun _ => True) (.slice b2 u.length a7) j) ∧ Aside0 (Below w.heap.size w w'))
   case atStart => exact ⟨(u), (0), rq, H', ⟨Nat.le_refl _⟩, ⟨rU I.out⟩, ⟨bl⟩⟩
   case round =>
    clear H'
    obtain ⟨j, d, rfl, HA, a8, x, HB⟩ := hrel
    have s := (Kd.R_reads' x.out).1
    rw [s] at x
    (try simp only [s])
    cases gk with
    | zero => exact absurd HA.out (by simp [wR.l0])
    | succ k1 =>
     have H := HA.out
     clear HA
     simp only [wR.l0] at H
     by_cases c8 : d < (u.length : Int)
     ·rw [if_pos c8] at H
      have J := decide_eq_true c8
      (try (have q := J; simp only [s] at q))
      clear c8
      obtain ⟨D, L⟩ : ∃ j_ : Int, (wrap64 ((wrap64 (a1 - 1)) - d)) = j_ := ⟨_, rfl⟩
      replace H : (if 0 ≤ (D) then (if 0 ≤ d then (if d < (j.length : Int) then (wR.l0 k1 a0 a1 (j.set (d : Int).toNat ((Go.bits .and .i64 (shr .i64 a0 (D)) 1) % 256)) (u.length : Int) (wrap64 (d + 1))) else (none)) else (none)) else (none)) = some r := by first | (rw [L] at H; exact H) | (simp only [L] at H ⊢; exact H)
      have b5 : (IntKind.i64.wrap ((wrap64 (a1 - 1)) - d)) = D := (xS _).trans L
      by_cases c10 : 0 ≤ (D)
      ·rw [if_pos c10] at H
       have b6 := eq_true c10
       have b7 := decide_eq_true c10
       clear c10
       obtain ⟨y, z⟩ : ∃ j_ : Int, (shr .i64 a0 (D)) = j_ := ⟨_, rfl⟩
       replace H : (if 0 ≤ d then (if d < (j.length : Int) then (wR.l0 k1 a0 a1 (j.set (d : Int).toNat ((Go.bits .and .i64 (y) 1) % 256)) (u.length : Int) (wrap64 (d + 1))) else (none)) else (none)) = some r := by first | (rw [z] at H; exact H) | (simp only [z] at H ⊢; exact H)
       have a9 : (a0 / 2 ^ min (D).toNat 64) = y := z
       have b0 : (D) ≤ 64 → (a0 / 2 ^ (D).toNat) = y := kj z
       by_cases O : 0 ≤ d
       ·rw [if_pos O] at H
        have b8 := decide_eq_true O
        clear O
        by_cases T : d < (j.length : Int)
        ·rw [if_pos T] at H
         have Z := decide_eq_true T
         (try (have B := Z; simp only [s] at B))
         clear T
         obtain ⟨M, hy_⟩ : ∃ y_ : List Int, y_ = (j.set (d : Int).toNat ((Go.bits .and .i64 (y) 1) % 256)) := ⟨_, rfl⟩
         replace H : (wR.l0 k1 a0 a1 M (u.length : Int) (wrap64 (d + 1))) = some r := rh
         have a2 := aE hy_
         clear hy_
         have H' := aE H
         clear H
         have a3 : 0 ≤ (d : Int) := dt
         have a4 : (d : Int) < ((j.length : Int) : Int) := dt
         obtain ⟨go14, d2, X, Y, gl14, cl14, HG14⟩ := Kd.R_form x.out (by omega)
         (first | cases X | (injection X with ea_ en_ ec_; (first | subst ea_ | (injection ea_ with ea_; subst ea_)); subst ec_; clear en_))
         have GB14 := aE Y
         have GG14 := aE HG14
         clear Y gl14 HG14
         obtain ⟨b1, hf14_0⟩ := Kd.R_celln 0 x.out (d : Int) a3 a4
         replace a3 := eq_true a3
         replace a4 := eq_true a4
         have HP15 := Kd.R_putg x.out (d : Int) ((Go.bits .and .i64 (y) 1) % 256)
         go_wp2_with (first | ((with_reducible refine zM (t := 5) (p := 24) rfl ?_); refine zz (t := 5) (p := 24) (v := ?vo_w16) (w1 := (wr.setCell ⟨go14, (d : Int).toNat, none⟩ (.int .u8 ((Go.bits .and .i64 (y) 1) % 256)))) ?hg ?ho ?hn ?hr ?_; (case ho => rfl); (case hg => rfl); (case hn => rfl); (case hr => first | (go_simp; done) | (go_simp; rfl)); intro a5 hw; have hg : wr.grownBy a5 (some go14) := (by rw [hw]; exact HP15.2); have hp_ : Kd.R (Kd.int .u8) 5 a5 w.heap.size (fun _ => True) (.slice (some ⟨go14, 0, none⟩) j.length a7) M := (by rw [hw, a2.out]; exact HP15.1); clear HP15; have n_ := aC hp_ (aE ((by rw [hw]; exact vW (HB.out) GB14.out : Below w.heap.size w a5))); clear x HB; obtain ⟨x, HB⟩ := n_; clear hg hw hp_))
         (try simp only [← s])
         go_roundg k1
         case measure => have := a8.out; omega
         case rel => exact ⟨(M), (wrap64 (d + 1)), rq, H', ⟨by have := a8.out; omega⟩, ⟨by (try simp only [s]); (with_reducible repeat (first | apply Kd.R_alloc | apply Kd.qE | apply Kd.jT)); exact x.out⟩, ⟨bl⟩⟩
        ·rw [if_neg T] at H
         exact nB H
       ·rw [if_neg O] at H
        exact nB H
      ·rw [if_neg c10] at H
       exact nB H
     ·rw [if_neg c8] at H
      have J := decide_eq_false c8
      (try (have q := J; simp only [s] at q))
      clear c8
      obtain rfl := Option.some.inj H
      go_wp2
      go_ret
      exact ⟨_, re, rU x.out, bl⟩
  ·rw [if_neg c4] at H
   exact nB H
 ·rw [if_neg c3] at H
  exact nB H
end Go.Proofs.YtknclbodinfbeaaGreatDoor.PRunsBack
