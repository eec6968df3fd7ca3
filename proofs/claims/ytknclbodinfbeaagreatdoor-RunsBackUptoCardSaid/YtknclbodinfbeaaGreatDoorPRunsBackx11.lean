-- printed (wip/tools/myprint.py)
import Derived.Test.YtknclbodinfbeaaGreatDoorPRunsBackx0
import Derived.Test.YtknclbodinfbeaaGreatDoorPRunsBackx3
import Derived.Test.YtknclbodinfbeaaGreatDoorPRunsBackx4
import Derived.Test.YtknclbodinfbeaaGreatDoorPRunsBackx5
import Derived.Test.YtknclbodinfbeaaGreatDoorPRunsBackx8
namespace Go.Proofs.YtknclbodinfbeaaGreatDoor.PRunsBack
open Go.RowKit Go.Proofs.YtknclbodinfbeaaGreatDoorW.PrintWords Go.Proofs.YtknclbodinfbeaaGreatDoorW.PrintLast Go.Proofs.YtknclbodinfbeaaGreatDoorW.PrintMore
attribute [local go_sem] yo ym yC yD xU xT yn yq
set_option linter.unusedVariables false
set_option linter.unusedSimpArgs false
set_option maxHeartbeats 8000000
set_option maxRecDepth 100000
def zA.f (a0 : Int) (a1 : Int) : Option (Int × Int × List Int × Int) := (yU.f a0 a1).bind fun d => (if d = true then (if 0 ≤ (wrap64 (a0 * a1)) then (if (wrap64 (a0 * a1) : Int).toNat ≤ 281474976710656 then (some (a0, a1, (List.replicate (wrap64 (a0 * a1) : Int).toNat 0), 0)) else (none)) else (none)) else (some (0, 0, ([] : List Int), 4)))
theorem zA.calls (a0 : Int) (a1 : Int) (r1 : Int) (r2 : Int) (r3 : List Int) (r4 : Int) (w : World) (h : zA.f a0 a1 = some (r1, r2, r3, r4)) :
  Calls Tryz.prog 59 #[.int .i64 a0, .int .i64 a1] w fun e w' => ∃ I : Value, e = .returned (.tuple #[.agg #[.int .i64 r1, .int .i64 r2, I], .int .i64 r4]) ∧ Kd.R (Kd.int .u8) 5 w' w.heap.size (fun _ => True) I r3 ∧ Below w.heap.size w w' := by
 have hu24 := Tryz.underlying24
 have HB := bR w
 have H := h
 unfold zA.f at H
 clear h
 obtain ⟨J, A3, H⟩ := oB H
 try dsimp only at H
 by_cases c4 : J = true
 ·subst c4
  rw [if_pos rfl] at H
  obtain ⟨k, q⟩ : ∃ j_ : Int, (wrap64 (a0 * a1)) = j_ := ⟨_, rfl⟩
  replace H : (if 0 ≤ (k) then (if (k : Int).toNat ≤ 281474976710656 then (some (a0, a1, (List.replicate (k : Int).toNat 0), 0)) else (none)) else (none)) = some (r1, r2, r3, r4) := by first | (rw [q] at H; exact H) | (simp only [q] at H ⊢; exact H)
  (try rw [q] at A3)
  have a8 : (IntKind.i64.wrap (a0 * a1)) = k := (xS _).trans q
  by_cases c6 : 0 ≤ (k)
  ·rw [if_pos c6] at H
   have a9 := eq_true c6
   have b0 := decide_eq_true c6
   clear c6
   by_cases c7 : (k : Int).toNat ≤ 281474976710656
   ·rw [if_pos c7] at H
    have b1 := eq_true c7
    have b2 := decide_eq_true c7
    clear c7
    obtain ⟨s, hy_⟩ : ∃ y_ : List Int, y_ = (List.replicate (k : Int).toNat 0) := ⟨_, rfl⟩
    replace H : (some (a0, a1, s, 0)) = some (r1, r2, r3, r4) := rh
    have t := aE hy_
    clear hy_
    simp only [Option.some.injEq, Prod.mk.injEq] at H
    obtain ⟨rfl, rfl, rfl, rfl⟩ := H
    go_enter Tryz.func59, Tryz.ntmps59
    go_wp2_with (first | ((with_reducible refine gd 4 rfl ?_); refine bx 4 #[.int .i64 0, .int .i64 0, .slice none 0 0] 24 rfl rfl ?_; intro j hg w8 hbox hb; have n_ := aC (bs hb) (aC hbox (aC (gz hg) (aE (gz hg)))); clear HB; obtain ⟨HB, d, E, G⟩ := n_; clear hb hbox hg) | ((with_reducible refine gf 34 rfl ?_); refine gL (some 8) rfl rfl Tryz.func34 rfl #[.int .i64 a0, .int .i64 a1] rfl ?_; (with_reducible refine (yU.calls a0 a1 true _ A3.out).mono ?_); rintro e w' ⟨rfl, ⟨nd, rfl⟩⟩; refine ⟨_, rfl, ?_⟩; (try (rw [zh w8]; generalize hq_ : World.drewN w8 _ = w8; have u : Aside0 (w8.heap[j]? = some (.cells #[.int .i64 0, .int .i64 0, .slice none 0 0] 24 (0, 0))) := ⟨by rw [← hq_]; exact (bU d.out)⟩; have x : Aside0 (Below w.heap.size w w8) := ⟨by rw [← hq_]; exact bl⟩; clear d HB hq_; have d := u; have HB := x; clear u x))) | ((with_reducible refine gd 16 rfl ?_); refine Kd.jN (Kd.int .u8) _ 5 rfl (N := 16) rfl 22 _ _ rfl k rfl rfl Tryz.underlying22 (.int .u8 0) 1 info5 rfl (by decide) (by omega) 0 (ok := fun _ => True) (okp := fun _ => True) rfl (fun _ hk => hk) trivial (dt) (Nat.le_trans (Nat.mul_le_mul_right _ (dt : k.toNat ≤ 281474976710656)) (by omega)) (Below.refl _ _) (Nat.le_refl _) ?_; intro b3 w9 r hb hg_ hnew_; clear hg_ hnew_; (first | rw [← t.out] at r | (simp only [Int.reduceToNat] at r; rw [← t.out] at r)); have n_ := aC (Kd.vS r bz) (aC (vp (bU d.out) hb) (aE (bs hb))); clear d HB; obtain ⟨y, d, HB⟩ := n_; clear hb r; obtain ⟨B, D, L⟩ := Kd.vY y.out; subst L; obtain ⟨M, O, T, X, Y, Z⟩ := yk d.out))
    refine bodyPost_ret (jR rfl _ _ j 24 #[.int .i64 a0, .int .i64 a1, .slice B s.length D] (0, 0) _ rfl (by (with_reducible repeat first | apply vm | apply vn | apply vl); refine vt (cs := #[.int .i64 a0, .int .i64 a1, .slice none 0 0]) ?_ 2 _ rfl; (with_reducible repeat first | apply vm | apply vn | apply vl); refine vt (cs := #[.int .i64 a0, .int .i64 0, .slice none 0 0]) ?_ 1 _ rfl; (with_reducible repeat first | apply vm | apply vn | apply vl); refine vt (cs := #[.int .i64 0, .int .i64 0, .slice none 0 0]) ?_ 0 _ rfl; (with_reducible repeat first | apply vm | apply vn | apply vl); exact d.out) Tryz.underlying24 rfl (by kernel_rfl)) rfl ?_
    exact ⟨_, by first | rfl | (simp [wP, wQ] <;> rfl) | (simp only [← q]; first | rfl | (simp [wP, wQ] <;> rfl)) | (simp [*, wP, wQ] <;> rfl), rU (Kd.vU (Kd.wK (p := ⟨j, 2, none⟩) (Kd.wK (p := ⟨j, 1, none⟩) (Kd.wK (p := ⟨j, 0, none⟩) (Kd.xH y.out d.out (by decide)) (fun _ hk => hk.2) (.int .i64 a0)) (fun _ hk => hk.2) (.int .i64 a1)) (fun _ hk => hk.2) (.slice B s.length D)) (fun _ hk => trivial)), bl⟩
   ·rw [if_neg c7] at H
    exact nB H
  ·rw [if_neg c6] at H
   exact nB H
 ·replace c4 := Bool.eq_false_iff.mpr c4
  subst c4
  rw [if_neg Bool.false_ne_true] at H
  simp only [Option.some.injEq, Prod.mk.injEq] at H
  obtain ⟨rfl, rfl, rfl, rfl⟩ := H
  go_enter Tryz.func59, Tryz.ntmps59
  go_wp2_with (first | ((with_reducible refine gd 4 rfl ?_); refine bx 4 #[.int .i64 0, .int .i64 0, .slice none 0 0] 24 rfl rfl ?_; intro j hg z hbox hb; have n_ := aC (bs hb) (aC hbox (aC (gz hg) (aE (gz hg)))); clear HB; obtain ⟨HB, d, E, G⟩ := n_; clear hb hbox hg) | ((with_reducible refine gf 34 rfl ?_); refine gL (some 8) rfl rfl Tryz.func34 rfl #[.int .i64 a0, .int .i64 a1] rfl ?_; (with_reducible refine (yU.calls a0 a1 false _ A3.out).mono ?_); rintro e w' ⟨rfl, ⟨nd, rfl⟩⟩; refine ⟨_, rfl, ?_⟩; (try (rw [zh z]; generalize hq_ : World.drewN z _ = z; have u : Aside0 (z.heap[j]? = some (.cells #[.int .i64 0, .int .i64 0, .slice none 0 0] 24 (0, 0))) := ⟨by rw [← hq_]; exact (bU d.out)⟩; have x : Aside0 (Below w.heap.size w z) := ⟨by rw [← hq_]; exact bl⟩; clear d HB hq_; have d := u; have HB := x; clear u x)); obtain ⟨a2, a3, a4, a5, a6, a7⟩ := yk d.out))
  refine bodyPost_ret (jR rfl _ _ j 24 #[.int .i64 0, .int .i64 0, .slice none 0 0] (0, 0) _ rfl (by (with_reducible repeat first | apply vm | apply vn | apply vl); refine vt (cs := #[.int .i64 0, .int .i64 0, .slice none 0 0]) ?_ 2 _ rfl; (with_reducible repeat first | apply vm | apply vn | apply vl); refine vt (cs := #[.int .i64 0, .int .i64 0, .slice none 0 0]) ?_ 1 _ rfl; (with_reducible repeat first | apply vm | apply vn | apply vl); refine vt (cs := #[.int .i64 0, .int .i64 0, .slice none 0 0]) ?_ 0 _ rfl; (with_reducible repeat first | apply vm | apply vn | apply vl); exact d.out) Tryz.underlying24 rfl (by kernel_rfl)) rfl ?_
  exact ⟨_, re, by first | exact Kd.yu _ _ _ _ _ | exact Kd.yR _ _ _ _ _ | exact Kd.yS _ _ _ _ _ | exact Kd.yP _ _ _ _ _ | exact Kd.yV _ _ _ _ _, bl⟩
mutual
def wN.j0 : Nat → Int → Int → Int → Bool → Option (Int × Int × List Int × Int)
 | 0, _, _, _, _ => none
 | k + 1, x0, x1, x2, e => if e = true then (some (0, 0, ([] : List Int), 2)) else ((zA.f x0 x1).bind fun d => (wN.l0 k x2 d.2.2.2 (d.2.2.1.length : Int) 0 d.1 d.2.1 d.2.2.1))
def wN.l0 : Nat → Int → Int → Int → Int → Int → Int → List Int → Option (Int × Int × List Int × Int)
 | 0, _, _, _, _, _, _, _ => none
 | k + 1, x2, x9, r, q, e, j, d => if q < r then (if 0 ≤ q then (if q < (d.length : Int) then (wN.l0 k x2 x9 r (wrap64 (q + 1)) e j (d.set (q : Int).toNat ((x2) % 256))) else (none)) else (none)) else (some (e, j, d, x9))
end
def wN.f (k : Nat) (a0 : Int) (a1 : Int) (a2 : Int) : Option (Int × Int × List Int × Int) := if a0 < 0 then (wN.j0 k a0 a1 a2 true) else (if a1 < 0 then (wN.j0 k a0 a1 a2 true) else (if a2 = 0 then (wN.j0 k a0 a1 a2 false) else (wN.j0 k a0 a1 a2 (a2 != 1))))
theorem wN.wt : ∀ k, (∀ y0 y1 y2 y3, vK (wN.j0 k y0 y1 y2 y3) (wN.j0 (k + 1) y0 y1 y2 y3)) ∧ (∀ y0 y1 y2 y3 y4 y5 y6, vK (wN.l0 k y0 y1 y2 y3 y4 y5 y6) (wN.l0 (k + 1) y0 y1 y2 y3 y4 y5 y6))
 | 0 => ⟨fun _ _ _ _ r h => by simp [wN.j0] at h, fun _ _ _ _ _ _ _ r h => by simp [wN.l0] at h⟩
 | k + 1 => by
  obtain ⟨ih0, ih1⟩ := wN.wt k
  refine ⟨?_, ?_⟩
  ·intro y0 y1 y2 y3
   unfold wN.j0
   repeat' first
   | (with_reducible exact ih0 _ _ _ _)
   | (with_reducible exact ih1 _ _ _ _ _ _ _)
   | (with_reducible first | exact vK.refl _ | exact vK.none _ | apply vK.ite | apply vK.bind | intro)
  ·intro y0 y1 y2 y3 y4 y5 y6
   unfold wN.l0
   repeat' first
   | (with_reducible exact ih0 _ _ _ _)
   | (with_reducible exact ih1 _ _ _ _ _ _ _)
   | (with_reducible first | exact vK.refl _ | exact vK.none _ | apply vK.ite | apply vK.bind | intro)
theorem wN.mono : ∀ a0 a1 a2 k, vK (wN.f k a0 a1 a2) (wN.f (k + 1) a0 a1 a2) := by
 intro a0 a1 a2 k
 obtain ⟨ih0, ih1⟩ := wN.wt k
 unfold wN.f
 repeat' first
   | (with_reducible exact ih0 _ _ _ _)
   | (with_reducible exact ih1 _ _ _ _ _ _ _)
   | (with_reducible first | exact vK.refl _ | exact vK.none _ | apply vK.ite | apply vK.bind | intro)
theorem wN.calls (k : Nat) (a0 : Int) (a1 : Int) (a2 : Int) (r1 : Int) (r2 : Int) (r3 : List Int) (r4 : Int) (w : World) (h : wN.f k a0 a1 a2 = some (r1, r2, r3, r4)) :
  Calls Tryz.prog 42 #[.int .i64 a0, .int .i64 a1, .int .i64 a2] w fun e w' => ∃ b2 : Value, e = .returned (.tuple #[.agg #[.int .i64 r1, .int .i64 r2, b2], .int .i64 r4]) ∧ Kd.R (Kd.int .u8) 5 w' w.heap.size (fun _ => True) b2 r3 ∧ Below w.heap.size w w' := by
 have hu24 := Tryz.underlying24
 have HB := bR w
 have H := h
 unfold wN.f at H
 clear h
 have a7 := aE H
 clear H
 go_enter Tryz.func42, Tryz.ntmps42
 go_upto_region 1 with (first | ((with_reducible refine gd 6 rfl ?_); refine bx 6 #[.int .i64 0, .int .i64 0, .slice none 0 0] 24 rfl rfl ?_; intro y hg w5 hbox hb; have n_ := aC (bs hb) (aC hbox (aC (gz hg) (aE (gz hg)))); clear HB; obtain ⟨HB, d, f6, f7⟩ := n_; clear hb hbox hg))
 (try simp only [Act.put, List.setIfInBounds_toArray, List.set_cons_zero, List.set_cons_succ])
 go_cut [24] (fun f8 wc => ∃ (kq : Nat) (G : Bool), f8 = .bool G ∧ Aside0 (wN.j0 kq a0 a1 a2 G = some (r1, r2, r3, r4)) ∧ Aside0 (kq ≤ k) ∧ Aside0 (wc.heap[y]? = some (.cells #[.int .i64 0, .int .i64 0, (.slice none 0 0)] 24 (0, 0))) ∧ Aside0 (Below w.heap.size w wc))
 case first =>
  have H := a7.out
  clear a7
  rcases iL H with H1 | H1 <;> clear H <;> obtain ⟨H, J⟩ := H1
  ·(first | rw [J] | (simp only [xS, zK]; rw [J]) | skip)
   have H' := aE H
   clear H
   go_wp2
   go_meet
   case rel => exact ⟨_, (true), rq, H', ⟨by first | omega | exact Nat.le_refl _⟩, ⟨bU d.out⟩, ⟨bl⟩⟩
  ·(first | rw [J] | (simp only [xS, zK]; rw [J]) | skip)
   rcases iL H with H1 | H1 <;> clear H <;> obtain ⟨H, h6⟩ := H1
   ·have H' := aE H
    clear H
    go_wp2
    go_meet
    case rel => exact ⟨_, (true), rq, H', ⟨by first | omega | exact Nat.le_refl _⟩, ⟨bU d.out⟩, ⟨bl⟩⟩
   ·rcases iE H with H1 | H1 <;> clear H <;> obtain ⟨H, h7, h8, c8⟩ := H1
    ·have H' := aE H
     clear H
     go_wp2
     go_meet
     case rel => exact ⟨_, (false), rq, H', ⟨by first | omega | exact Nat.le_refl _⟩, ⟨bU d.out⟩, ⟨bl⟩⟩
    ·have H' := aE H
     clear H
     go_wp2
     go_meet
     case rel => exact ⟨_, ((a2 != 1)), rq, H', ⟨by first | omega | exact Nat.le_refl _⟩, ⟨bU d.out⟩, ⟨bl⟩⟩
 case rest =>
  clear a7
  obtain ⟨kq, G, rfl, HA, b3, d, HB⟩ := hcut
  cases kq with
  | zero => exact absurd HA.out (by simp [wN.j0])
  | succ kj3 =>
   have H := HA.out
   clear HA
   simp only [wN.j0] at H
   by_cases c9 : G = true
   ·subst c9
    rw [if_pos rfl] at H
    simp only [Option.some.injEq, Prod.mk.injEq] at H
    obtain ⟨rfl, rfl, rfl, rfl⟩ := H
    obtain ⟨b4, b5, b6, b7, b8, b9⟩ := yk d.out
    go_wp2
    refine bodyPost_ret (jR rfl _ _ y 24 #[.int .i64 0, .int .i64 0, .slice none 0 0] (0, 0) _ rfl (by (with_reducible repeat first | apply vm | apply vn | apply vl); refine vt (cs := #[.int .i64 0, .int .i64 0, .slice none 0 0]) ?_ 2 _ rfl; (with_reducible repeat first | apply vm | apply vn | apply vl); refine vt (cs := #[.int .i64 0, .int .i64 0, .slice none 0 0]) ?_ 1 _ rfl; (with_reducible repeat first | apply vm | apply vn | apply vl); refine vt (cs := #[.int .i64 0, .int .i64 0, .slice none 0 0]) ?_ 0 _ rfl; (with_reducible repeat first | apply vm | apply vn | apply vl); exact d.out) Tryz.underlying24 rfl (by kernel_rfl)) rfl ?_
    exact ⟨_, re, by first | exact Kd.yu _ _ _ _ _ | exact Kd.yR _ _ _ _ _ | exact Kd.yS _ _ _ _ _ | exact Kd.yP _ _ _ _ _ | exact Kd.yV _ _ _ _ _, bl⟩
   ·replace c9 := Bool.eq_false_iff.mpr c9
    subst c9
    rw [if_neg Bool.false_ne_true] at H
    obtain ⟨⟨x, B, E, L⟩, f9, H⟩ := oB H
    try dsimp only at H
    have H' := aE H
    clear H
    go_wp2_with (first | ((with_reducible refine gf 59 rfl ?_); refine gL (some 29) rfl rfl Tryz.func59 rfl #[.int .i64 a0, .int .i64 a1] rfl ?_; (with_reducible refine (zA.calls a0 a1 x B E L _ f9.out).mono ?_); rintro e i0 ⟨h9, rfl, g0, hb⟩; refine ⟨_, rfl, ?_⟩; have n_ := aC (Kd.vS g0 bz) (aC (vp (bU d.out) hb) (aE (bs hb))); clear d HB; obtain ⟨D, d, HB⟩ := n_) | ((with_reducible refine gd 8 rfl ?_); refine bx 8 #[.int .i64 0, .int .i64 0, .slice none 0 0] 24 rfl rfl ?_; intro I hg i1 hbox hb; have n_ := aC (Kd.wg (rU D.out) hb) (aC (vp (bU d.out) hb) (aC (bs hb) (aC hbox (aC (gz hg) (aC (gz hg) (aC (gn hg (bU d.out)) (aE (gm hg (bU d.out))))))))); clear D d HB; obtain ⟨D, d, HB, u, g1, g2, r, z⟩ := n_; clear hb hbox hg; have g3 := z.out; have g4 := r.out; obtain ⟨c0, c1, d0, d1, d2, d3⟩ := yk u.out; obtain ⟨X, Y, d4⟩ := Kd.vY D.out; subst d4))
    go_loopg [35] kj3 (fun kq g5 w' => ∃ (s : Int) (j : List Int) (u390002 : Value), g5 = .int .i64 s ∧ Aside0 (wN.l0 kq a2 L (E.length : Int) s x B j = some (r1, r2, r3, r4)) ∧ Aside0 (kq ≤ kj3) ∧ Aside0 (Kd.R (Kd.int .u8) 5 w' w.heap.size (fun _ => True) u390002 j) ∧ Aside0 (w'.heap[y]? = some (.cells #[.int .i64 0, .int .i64 0, (.slice none 0 0)] 24 (0, 0))) ∧ Aside0 (w'.heap[I]? = some (.cells #[.int .i64 x, .int .i64 B, u390002] 24 (0, 0))) ∧ Aside0 (Below w.heap.size w w'))
    case atStart => exact ⟨(0), (E), (.slice X E.length Y), rq, H', ⟨Nat.le_refl _⟩, ⟨rU (Kd.vU (Kd.wK (p := ⟨I, 2, none⟩) (Kd.wK (p := ⟨I, 1, none⟩) (Kd.wK (p := ⟨I, 0, none⟩) (Kd.xH D.out u.out (by decide)) (fun _ hk => hk.2) (.int .i64 x)) (fun _ hk => hk.2) (.int .i64 B)) (fun _ hk => hk.2) (.slice X E.length Y)) (fun _ hk => trivial))⟩, ⟨by (with_reducible repeat first | apply vm | apply vn | apply vl); refine wk ?_ r.out _; (with_reducible repeat first | apply vm | apply vn | apply vl); refine wk ?_ r.out _; (with_reducible repeat first | apply vm | apply vn | apply vl); refine wk ?_ r.out _; (with_reducible repeat first | apply vm | apply vn | apply vl); exact d.out⟩, ⟨by (with_reducible repeat first | apply vm | apply vn | apply vl); refine vt (cs := #[.int .i64 x, .int .i64 B, .slice none 0 0]) ?_ 2 _ rfl; (with_reducible repeat first | apply vm | apply vn | apply vl); refine vt (cs := #[.int .i64 x, .int .i64 0, .slice none 0 0]) ?_ 1 _ rfl; (with_reducible repeat first | apply vm | apply vn | apply vl); refine vt (cs := #[.int .i64 0, .int .i64 0, .slice none 0 0]) ?_ 0 _ rfl; (with_reducible repeat first | apply vm | apply vn | apply vl); exact u.out⟩, ⟨bl⟩⟩
    case round =>
     clear H'
     obtain ⟨s, j, u390002, rfl, HA, d5, q, d, u, HB⟩ := hrel
     cases gk with
     | zero => exact absurd HA.out (by simp [wN.l0])
     | succ k2 =>
      have H := HA.out
      clear HA
      simp only [wN.l0] at H
      rcases iL H with H1 | H1 <;> clear H <;> obtain ⟨H, g6⟩ := H1
      ·by_cases O : 0 ≤ s
       ·rw [if_pos O] at H
        have g7 := decide_eq_true O
        clear O
        by_cases T : s < (j.length : Int)
        ·rw [if_pos T] at H
         have g8 := decide_eq_true T
         clear T
         obtain ⟨M, hy_⟩ : ∃ y_ : List Int, y_ = (j.set (s : Int).toNat ((a2) % 256)) := ⟨_, rfl⟩
         replace H : (wN.l0 k2 a2 L (E.length : Int) (wrap64 (s + 1)) x B M) = some (r1, r2, r3, r4) := rh
         have a8 := aE hy_
         clear hy_
         have H' := aE H
         clear H
         have g9 := z.out
         have h3 := r.out
         obtain ⟨d6, d7, d8, d9, e0, e1⟩ := yk u.out
         have a9 : 0 ≤ (s : Int) := dt
         have b0 : (s : Int) < ((j.length : Int) : Int) := dt
         obtain ⟨go20, Z, a3, a4, gl20, cl20, HG20⟩ := Kd.R_form q.out (by omega)
         (first | cases a3 | (injection a3 with ea_ en_ ec_; (first | subst ea_ | (injection ea_ with ea_; subst ea_)); subst ec_; clear en_))
         have GB20 := aE a4
         have GG20 := aE HG20
         clear a4 gl20 HG20
         obtain ⟨f5, hf20_0⟩ := Kd.R_celln 0 q.out (s : Int) a9 b0
         replace a9 := eq_true a9
         replace b0 := eq_true b0
         have HP23 := Kd.R_putg q.out (s : Int) ((a2) % 256)
         go_wp2_with (first | ((with_reducible refine zM (t := 5) (p := 43) rfl ?_); refine zz (t := 5) (p := 43) (v := ?vo_w24) (w1 := (wr.setCell ⟨go20, (s : Int).toNat, none⟩ (.int .u8 ((a2) % 256)))) ?hg ?ho ?hn ?hr ?_; (case ho => rfl); (case hg => rfl); (case hn => rfl); (case hr => first | (go_simp; done) | (go_simp; rfl)); intro b1 hw; have hg : wr.grownBy b1 (some go20) := (by rw [hw]; exact HP23.2); have hp_ : Kd.R (Kd.int .u8) 5 b1 w.heap.size (fun _ => True) (.slice (some ⟨go20, 0, none⟩) j.length Z) M := (by rw [hw, a8.out]; exact HP23.1); clear HP23; have n_ := aC hp_ (aC (xz (bU d.out) hg (Kd.ja q.out d.out (by decide))) (aC (xz (bU u.out) hg (Kd.ja q.out u.out (by decide))) (aE ((by rw [hw]; exact vW (HB.out) GB20.out : Below w.heap.size w b1))))); clear q d u HB; obtain ⟨q, d, u, HB⟩ := n_; clear hg hw hp_))
         go_roundg k2
         case measure => have := b3.out; have := d5.out; omega
         case rel => exact ⟨(wrap64 (s + 1)), (M), (.slice (some ⟨go20, 0, none⟩) j.length Z), rq, H', ⟨by have := b3.out; have := d5.out; omega⟩, ⟨rU q.out⟩, ⟨bU d.out⟩, ⟨bU u.out⟩, ⟨bl⟩⟩
        ·rw [if_neg T] at H
         exact nB H
       ·rw [if_neg O] at H
        exact nB H
      ·simp only [Option.some.injEq, Prod.mk.injEq] at H
       obtain ⟨rfl, rfl, rfl, rfl⟩ := H
       have h4 := z.out
       have h5 := r.out
       obtain ⟨e2, e3, e4, e5, e6, e7⟩ := yk u.out
       obtain ⟨e8, e9, f0, f1, f2, f3⟩ := yk d.out
       obtain ⟨a5, a6, f4⟩ := Kd.vY q.out
       subst f4
       go_wp2
       refine bodyPost_ret (jR rfl _ _ y 24 #[.int .i64 x, .int .i64 B, .slice a5 j.length a6] (0, 0) _ rfl (by (with_reducible repeat first | apply vm | apply vn | apply vl); refine vt (cs := #[.int .i64 x, .int .i64 B, .slice none 0 0]) ?_ 2 _ rfl; (with_reducible repeat first | apply vm | apply vn | apply vl); refine vt (cs := #[.int .i64 x, .int .i64 0, .slice none 0 0]) ?_ 1 _ rfl; (with_reducible repeat first | apply vm | apply vn | apply vl); refine vt (cs := #[.int .i64 0, .int .i64 0, .slice none 0 0]) ?_ 0 _ rfl; (with_reducible repeat first | apply vm | apply vn | apply vl); exact d.out) Tryz.underlying24 rfl (by kernel_rfl)) rfl ?_
       exact ⟨_, re, rU (Kd.vU (Kd.wK (p := ⟨y, 2, none⟩) (Kd.wK (p := ⟨y, 1, none⟩) (Kd.wK (p := ⟨y, 0, none⟩) (Kd.xH q.out d.out (by decide)) (fun _ hk => hk.2) (.int .i64 x)) (fun _ hk => hk.2) (.int .i64 B)) (fun _ hk => hk.2) (.slice a5 j.length a6)) (fun _ hk => trivial)), bl⟩
def xq.l0 : Nat → List (List Int) → List (z6) → Int → Int → Option ((List (List Int)) × Int)
 | 0, _, _, _, _ => none
 | k + 1, x4, e, j, d => if d < j then (if 0 ≤ d then (if d < (e.length : Int) then ((wR.f k ((yp e d).f0) ((yp e d).f1)).bind fun q => (if x4.length < 5864062014805 then (xq.l0 k (x4 ++ [q]) e j (wrap64 (d + 1))) else (none))) else (none)) else (none)) else (some (x4, 0))
def xq.f (k : Nat) (l0 : List (wb)) : Option ((List (List Int)) × Int) := (xi.f k l0).bind fun e => (if e = true then ((wJ.f k l0).bind fun d => (xq.l0 k ([] : List (List Int)) d (d.length : Int) 0)) else (some (([] : List (List Int)), 20)))
theorem xq.wt : ∀ k, (∀ y0 y1 y2 y3, vK (xq.l0 k y0 y1 y2 y3) (xq.l0 (k + 1) y0 y1 y2 y3))
 | 0 => fun _ _ _ _ r h => by simp [xq.l0] at h
 | k + 1 => by
  have ih0 := xq.wt k
  ·intro y0 y1 y2 y3
   unfold xq.l0
   repeat' first
   | (with_reducible exact ih0 _ _ _ _)
   | (with_reducible exact xi.mono _ _)
   | (with_reducible exact wJ.mono _ _)
   | (with_reducible exact wR.mono _ _ _)
   | (with_reducible first | exact vK.refl _ | exact vK.none _ | apply vK.ite | apply vK.bind | intro)
theorem xq.mono : ∀ a0 k, vK (xq.f k a0) (xq.f (k + 1) a0) := by
 intro a0 k
 have ih0 := xq.wt k
 unfold xq.f
 repeat' first
   | (with_reducible exact ih0 _ _ _ _)
   | (with_reducible exact xi.mono _ _)
   | (with_reducible exact wJ.mono _ _)
   | (with_reducible exact wR.mono _ _ _)
   | (with_reducible first | exact vK.refl _ | exact vK.none _ | apply vK.ite | apply vK.bind | intro)
theorem xq.calls (k : Nat) (A0 : Option Addr) (c0 : Nat) (l0 : List (wb)) (r1 : List (List Int)) (r2 : Int) (w : World) (hr0 : Kd.C yj w A0 l0.length l0) (Z : l0.length ≤ c0) (h : xq.f k l0 = some (r1, r2)) :
  Calls Tryz.prog 83 #[.slice A0 l0.length c0] w fun e w' => ∃ a0 : Value, e = .returned (.tuple #[a0, .int .i64 r2]) ∧ Kd.S (Kd.slice 5 (Kd.int .u8)) 22 w' w.heap.size (fun _ => True) a0 r1 ∧ Below w.heap.size w w' := by
 have hu129 := Tryz.underlying129
 have M := aE hr0
 have O := aE Z
 clear hr0 Z
 have HB := bR w
 have H := h
 unfold xq.f at H
 clear h
 obtain ⟨a1, A2, H⟩ := oB H
 try dsimp only at H
 by_cases c3 : a1 = true
 ·subst c3
  rw [if_pos rfl] at H
  obtain ⟨j, A4, H⟩ := oB H
  try dsimp only at H
  have H' := aE H
  clear H
  go_enter Tryz.func83, Tryz.ntmps83
  go_wp2_with (first | ((with_reducible refine gf 56 rfl ?_); refine gL (some 8) rfl rfl Tryz.func56 rfl #[.slice A0 l0.length c0] rfl ?_; (with_reducible refine (xi.calls k _ _ l0 true _ ?side1 ?side2 A2.out).mono ?_); (case side1 => exact cU M.out); (case side2 => exact O.out); rintro e w5 ⟨rfl, hb⟩; refine ⟨_, rfl, ?_⟩; have n_ := aE (bs hb); clear HB; have HB := n_; clear n_) | ((with_reducible refine gf 58 rfl ?_); refine gL (some 11) rfl rfl Tryz.func58 rfl #[.slice A0 l0.length c0] rfl ?_; (with_reducible refine (wJ.calls k _ _ l0 j _ ?side1 ?side2 A4.out).mono ?_); (case side1 => exact cU (Kd.wz M.out HB.out)); (case side2 => exact O.out); rintro e w6 ⟨c1, rfl, E, hb⟩; refine ⟨_, rfl, ?_⟩; have n_ := aC (Kd.vS E bz) (aE (bs hb)); clear HB; obtain ⟨z, HB⟩ := n_; obtain ⟨b1, b2, b3⟩ := Kd.vY z.out; subst b3))
  go_loopg [4, 13] k (fun kq v4 b4 w' => ∃ (u : List (List Int)) (d : Int), b4 = .int .i64 d ∧ Aside0 (xq.l0 kq u j (j.length : Int) d = some (r1, r2)) ∧ Aside0 (kq ≤ k) ∧ Aside0 (Kd.S (Kd.slice 5 (Kd.int .u8)) 22 w' w.heap.size (fun _ => True) v4 u) ∧ Aside0 (Kd.R jJ 129 w' w.heap.size (fun _ => True) (.slice b1 j.length b2) j) ∧ Aside0 (Below w.heap.size w w'))
  case atStart => exact ⟨(([] : List (List Int))), (0), rq, H', ⟨Nat.le_refl _⟩, ⟨by first | exact Kd.yV _ _ _ _ _ | exact Kd.yR _ _ _ _ _ | exact Kd.yS _ _ _ _ _ | exact Kd.yP _ _ _ _ _ | exact Kd.yu _ _ _ _ _⟩, ⟨rU z.out⟩, ⟨bl⟩⟩
  case round =>
   clear H'
   obtain ⟨u, d, rfl, HA, a2, r, q, HB⟩ := hrel
   cases gk with
   | zero => exact absurd HA.out (by simp [xq.l0])
   | succ k1 =>
    have H := HA.out
    clear HA
    simp only [xq.l0] at H
    rcases iL H with H1 | H1 <;> clear H <;> obtain ⟨H, d0⟩ := H1
    ·by_cases c9 : 0 ≤ d
     ·rw [if_pos c9] at H
      have d1 := decide_eq_true c9
      clear c9
      by_cases c10 : d < (j.length : Int)
      ·rw [if_pos c10] at H
       have b5 := decide_eq_true c10
       clear c10
       obtain ⟨y, b6, H⟩ := oB H
       try dsimp only at H
       by_cases G : u.length < 5864062014805
       ·rw [if_pos G] at H
        have T := aE G
        clear G
        obtain ⟨I, hy_⟩ : ∃ y_ : List (List Int), y_ = (u ++ [y]) := ⟨_, rfl⟩
        replace H : (xq.l0 k1 I j (j.length : Int) (wrap64 (d + 1))) = some (r1, r2) := rh
        have X := aE hy_
        clear hy_
        have H' := aE H
        clear H
        have B : 0 ≤ (d : Int) := dt
        have D : d < (j.length : Int) := dt
        obtain ⟨b7, a3, a4, a5⟩ := at_T129 (Kd.R_reads' q.out).2.2 d B D
        cases a3
        replace B := eq_true B
        replace D := eq_true D
        go_wp2_with (first | ((with_reducible refine gd 6 rfl ?_); refine bx 6 #[.int .i64 0, .int .i64 0] 129 rfl rfl ?_; intro t hg d4 hbox hb; have n_ := aC (Kd.jC (by (with_reducible repeat (first | apply Kd.yh | apply Kd.yb | apply Kd.yE)); exact r.out) hb) (aC (Kd.wg (Kd.kd (rU q.out) t (Nat.le_of_eq hg.symm)) hb) (aC (bs hb) (aC hbox (aC (gz hg) (aE (gz hg)))))); clear r q HB; obtain ⟨r, q, HB, s, b8, b9⟩ := n_; clear hb hbox hg; obtain ⟨a6, a7, a8, a9⟩ := yM s.out) | ((with_reducible refine gf 82 rfl ?_); refine gL (some 22) rfl rfl Tryz.func82 rfl #[.int .i64 ((yp j d).f0), .int .i64 ((yp j d).f1)] rfl ?_; (with_reducible refine (wR.calls k1 ((yp j d).f0) ((yp j d).f1) y _ b6.out).mono ?_); rintro e d5 ⟨d2, rfl, E, hb⟩; refine ⟨_, rfl, ?_⟩; have n_ := aC (Kd.S_elder' (by (with_reducible repeat (first | apply Kd.yh | apply Kd.yb | apply Kd.yE)); exact (Kd.zp (Kd.zX (p := ⟨t, 1, none⟩) (Kd.zX (p := ⟨t, 0, none⟩) (Kd.S_types r.out s.out (by decide)) (fun _ hk => hk.2) (.int .i64 ((yp j d).f0))) (fun _ hk => hk.2) (.int .i64 ((yp j d).f1))) (fun _ h_ => h_.1))) (Kd.xc E) hb) (aC (Kd.wg (rU (Kd.vU (Kd.wK (p := ⟨t, 1, none⟩) (Kd.wK (p := ⟨t, 0, none⟩) (Kd.vU q.out (fun k_ hk => (⟨hk, hk.2⟩ : _ ∧ k_ ≠ t))) (fun _ hk => hk.2) (.int .i64 ((yp j d).f0))) (fun _ hk => hk.2) (.int .i64 ((yp j d).f1))) (fun _ h_ => h_.1))) hb) (aC (Kd.vS E bz) (aC (vp (g := t) (o := .cells #[.int .i64 ((yp j d).f0), .int .i64 ((yp j d).f1)] 129 (0, 0)) (by (with_reducible repeat first | apply vm | apply vn | apply vl); refine vt (cs := #[.int .i64 ((yp j d).f0), .int .i64 0]) ?_ 1 _ rfl; (with_reducible repeat first | apply vm | apply vn | apply vl); refine vt (cs := #[.int .i64 0, .int .i64 0]) ?_ 0 _ rfl; (with_reducible repeat first | apply vm | apply vn | apply vl); exact s.out) hb) (aE (bs hb))))); clear r q s HB; obtain ⟨r, q, x, s, HB⟩ := n_; obtain ⟨J, L, b0⟩ := Kd.vY x.out; subst b0) | ((with_reducible refine wU (b := .append) (xs := #[.tmp 17, .tmp 23]) rfl ?_); at_builtin; refine Kd.kM (Kd.slice 5 (Kd.int .u8)) (w0 := w) w.heap.size rfl (.tmp 17) (.tmp 23) 42 22 (.slice none 0 0) 24 rfl Tryz.underlying42 info22 rfl (by decide) (by omega) u4 u y [.slice J y.length L] (fun _ => True) (fun k_ => some k_ = (.slice J y.length L : Value).ownBlock) rfl rfl ?aP (fun k_ hk_ => ((Kd.vU (ok' := fun k_ => ((fun _ => True)) k_ ∧ some k_ ≠ (u4 : Value).ownBlock) (Kd.R_apart' (x.out) (Kd.jr r.out) (by decide)) (fun k_ hk => ⟨trivial, hk.2⟩))).1 k_ hk_.symm) ?aF ?aO ?aB ?aS ?aL ?_; (case aP => exact Kd.M_row (Kd.vU (Kd.kN rfl (Kd.vU (ok' := fun k_ => ((fun _ => True)) k_ ∧ some k_ ≠ (u4 : Value).ownBlock) (Kd.R_apart' (x.out) (Kd.jr r.out) (by decide)) (fun k_ hk => ⟨trivial, hk.2⟩))) (fun _ h_ => h_))); (case aB => exact bl); (case aF => exact (fun _ _ => trivial)); (case aO => exact (by (with_reducible repeat (first | apply Kd.yh | apply Kd.yb | apply Kd.yE)); exact Kd.zp r.out (fun k_ hk => ⟨trivial, fun e_ => hk.2 e_⟩))); (case aS => exact bz); (case aL => have := T.out; omega); intro d3 d6 ho hb hg hat; rw [← X.out] at ho; have n_ := aC (Kd.R_over' (rU q.out) (Kd.jr (by (with_reducible repeat (first | apply Kd.yh | apply Kd.yb | apply Kd.yE)); exact r.out)) (by decide) hg) (aC (xz (g := t) (o := .cells #[.int .i64 ((yp j d).f0), .int .i64 ((yp j d).f1)] 129 (0, 0)) (bU s.out) hg (Kd.S_ne r.out s.out (by decide))) (aC hb (aE ho))); clear q s HB r x; obtain ⟨q, s, HB, Y⟩ := n_; clear ho hb hg hat))
        go_roundg k1
        case measure => have := a2.out; omega
        case rel => exact ⟨(I), (wrap64 (d + 1)), rq, H', ⟨by have := a2.out; omega⟩, ⟨by (with_reducible repeat (first | apply Kd.yh | apply Kd.yb | apply Kd.yE)); exact Y.out⟩, ⟨rU (Kd.vU q.out (fun _ hk => trivial))⟩, ⟨bl⟩⟩
       ·rw [if_neg G] at H
        exact nB H
      ·rw [if_neg c10] at H
       exact nB H
     ·rw [if_neg c9] at H
      exact nB H
    ·simp only [Option.some.injEq, Prod.mk.injEq] at H
     obtain ⟨rfl, rfl⟩ := H
     go_wp2
     go_ret2
     exact ⟨_, re, by (with_reducible repeat (first | apply Kd.yh | apply Kd.yb | apply Kd.yE)); exact r.out, bl⟩
 ·replace c3 := Bool.eq_false_iff.mpr c3
  subst c3
  rw [if_neg Bool.false_ne_true] at H
  simp only [Option.some.injEq, Prod.mk.injEq] at H
  obtain ⟨rfl, rfl⟩ := H
  go_enter Tryz.func83, Tryz.ntmps83
  go_wp2_with (first | ((with_reducible refine gf 56 rfl ?_); refine gL (some 8) rfl rfl Tryz.func56 rfl #[.slice A0 l0.length c0] rfl ?_; (with_reducible refine (xi.calls k _ _ l0 false _ ?side1 ?side2 A2.out).mono ?_); (case side1 => exact cU M.out); (case side2 => exact O.out); rintro e d7 ⟨rfl, hb⟩; refine ⟨_, rfl, ?_⟩; have n_ := aE (bs hb); clear HB; have HB := n_; clear n_))
  go_ret2
  exact ⟨_, re, by first | exact Kd.yV _ _ _ _ _ | exact Kd.yR _ _ _ _ _ | exact Kd.yS _ _ _ _ _ | exact Kd.yP _ _ _ _ _ | exact Kd.yu _ _ _ _ _, bl⟩
mutual
def wL.l0 : Nat → List (List Int) → Int → Int → List (wb) → List ByteArray → Option ((List (wb)) × List ByteArray)
 | 0, _, _, _, _, _ => none
 | k + 1, q, r, j, d, e => if j < r then (if 0 ≤ j then (if j < (q.length : Int) then (wL.l1 k (⟨#[]⟩ : ByteArray) q r j (zc q j) ((zc q j).length : Int) 0 d e) else (none)) else (none)) else (some (d, e))
def wL.l1 : Nat → ByteArray → List (List Int) → Int → Int → List Int → Int → Int → List (wb) → List ByteArray → Option ((List (wb)) × List ByteArray)
 | 0, _, _, _, _, _, _, _, _, _ => none
 | k + 1, x8, r, s, t, q, u, j, e, d => if j < u then (if 0 ≤ j then (if j < (q.length : Int) then (if x8.size + (Utf8.encode (wrap32 (48 + (wrap32 (rd q j))))).size ≤ 9223372036854775807 then (wL.l1 k (x8 ++ (Utf8.encode (wrap32 (48 + (wrap32 (rd q j)))))) r s t q u (wrap64 (j + 1)) e d) else (none)) else (none)) else (none)) else (if d.length < 8796093022208 then (wL.l0 k r s (wrap64 (t + 1)) e (d ++ [x8])) else (none))
end
def wL.f (k : Nat) (l0 : List (wb)) : Option ((List (wb)) × List ByteArray) := (xq.f k l0).bind fun d => (wL.l0 k d.1 (d.1.length : Int) 0 l0 ([] : List ByteArray))
theorem wL.wt : ∀ k, (∀ y0 y1 y2 y3 y4, vK (wL.l0 k y0 y1 y2 y3 y4) (wL.l0 (k + 1) y0 y1 y2 y3 y4)) ∧ (∀ y0 y1 y2 y3 y4 y5 y6 y7 y8, vK (wL.l1 k y0 y1 y2 y3 y4 y5 y6 y7 y8) (wL.l1 (k + 1) y0 y1 y2 y3 y4 y5 y6 y7 y8))
 | 0 => ⟨fun _ _ _ _ _ r h => by simp [wL.l0] at h, fun _ _ _ _ _ _ _ _ _ r h => by simp [wL.l1] at h⟩
 | k + 1 => by
  obtain ⟨ih0, ih1⟩ := wL.wt k
  refine ⟨?_, ?_⟩
  ·intro y0 y1 y2 y3 y4
   unfold wL.l0
   repeat' first
   | (with_reducible exact ih0 _ _ _ _ _)
   | (with_reducible exact ih1 _ _ _ _ _ _ _ _ _)
   | (with_reducible exact xq.mono _ _)
   | (with_reducible first | exact vK.refl _ | exact vK.none _ | apply vK.ite | apply vK.bind | intro)
  ·intro y0 y1 y2 y3 y4 y5 y6 y7 y8
   unfold wL.l1
   repeat' first
   | (with_reducible exact ih0 _ _ _ _ _)
   | (with_reducible exact ih1 _ _ _ _ _ _ _ _ _)
   | (with_reducible exact xq.mono _ _)
   | (with_reducible first | exact vK.refl _ | exact vK.none _ | apply vK.ite | apply vK.bind | intro)
theorem wL.mono : ∀ a0 k, vK (wL.f k a0) (wL.f (k + 1) a0) := by
 intro a0 k
 obtain ⟨ih0, ih1⟩ := wL.wt k
 unfold wL.f
 repeat' first
   | (with_reducible exact ih0 _ _ _ _ _)
   | (with_reducible exact ih1 _ _ _ _ _ _ _ _ _)
   | (with_reducible exact xq.mono _ _)
   | (with_reducible first | exact vK.refl _ | exact vK.none _ | apply vK.ite | apply vK.bind | intro)
theorem wL.calls (k : Nat) (P0_ : Nat → Prop) (u9000_ : Value) (l0 : List (wb)) (r1 : List (wb)) (r2 : List ByteArray) (w0 w : World) (hB : Below w0.heap.size w0 w) (d0 : Kd.R yj 105 w w0.heap.size P0_ u9000_ l0) (h : wL.f k l0 = some (r1, r2)) :
  Calls Tryz.prog 61 #[u9000_] w fun e w' => ∃ d4 d5 : Value, e = .returned (.agg #[d4, d5]) ∧ Kd.R yj 105 w' w0.heap.size (fun k_ => (P0_ k_ ∨ w.heap.size ≤ k_)) d4 r1 ∧ Kd.R Kd.string 9 w' w0.heap.size (fun k_ => (P0_ k_ ∨ w.heap.size ≤ k_)) d5 r2 ∧ Below w0.heap.size w0 w' ∧ Kept w w' (fun k_ => P0_ k_) := by
 have hu81 := Tryz.underlying81
 have Y := aE (show Kd.R yj 105 w w0.heap.size (fun k_ => (P0_ k_ ∨ w.heap.size ≤ k_)) u9000_ l0 from Kd.vU d0 (fun k_ hk => (.inl hk)))
 have HK := aE (Kept.refl w (fun k_ => P0_ k_))
 have HW0 := aE hB.size
 have HB := aE hB
 clear hB
 have H := h
 unfold wL.f at H
 clear h
 obtain ⟨⟨t, d6⟩, A2, H⟩ := oB H
 try dsimp only at H
 have H' := aE H
 clear H
 go_enter Tryz.func61, Tryz.ntmps61
 go_wp2_with (first | ((with_reducible refine gd 2 rfl ?_); refine bx 2 #[.slice none 0 0, .slice none 0 0] 81 rfl rfl ?_; intro D hg w3 hbox hb; have n_ := aC (Kd.wg (rU Y.out) hb) (aC (Kept.below (S := (fun k_ => P0_ k_)) (by repeat (first | (with_reducible first | exact HK.out | apply Kept.alloc | apply Kept.drewN | apply Kept.drew) | exact HK.out)) hb) (aC (bs hb) (aC hbox (aC ((by rw [hg]; exact (by first | exact HK.out.1 | exact (show Kept w _ (fun k_ => P0_ k_) from by repeat (first | (with_reducible first | exact HK.out | apply Kept.alloc | apply Kept.drewN | apply Kept.drew) | exact HK.out)).1) : w.heap.size ≤ D)) (aE ((by rw [hg]; exact bz : w0.heap.size ≤ D))))))); clear Y HK HB; obtain ⟨Y, HK, HB, q, B, g5⟩ := n_; clear hb hbox hg; obtain ⟨T, L, g6⟩ := Kd.vY Y.out; subst g6) | ((with_reducible refine gd 3 rfl ?_); refine bx 3 #[.slice none 0 0, .slice none 0 0] 81 rfl rfl ?_; intro y hg w5 hbox hb; have n_ := aC (Kd.wg (rU Y.out) hb) (aC (vp (bU q.out) hb) (aC (Kept.below (S := (fun k_ => P0_ k_)) (by repeat (first | (with_reducible first | exact HK.out | apply Kept.alloc | apply Kept.drewN | apply Kept.drew | refine Kept.setCell ?_ (.inr B.out) _) | exact HK.out)) hb) (aC (bs hb) (aC hbox (aC ((by rw [hg]; exact (by first | exact HK.out.1 | exact (show Kept w _ (fun k_ => P0_ k_) from by repeat (first | (with_reducible first | exact HK.out | apply Kept.alloc | apply Kept.drewN | apply Kept.drew | refine Kept.setCell ?_ (.inr B.out) _) | exact HK.out)).1) : w.heap.size ≤ y)) (aC ((by rw [hg]; exact bz : w0.heap.size ≤ y)) (aC (gn hg (bU q.out)) (aE (gm hg (bU q.out)))))))))); clear Y q HK HB; obtain ⟨Y, q, HK, HB, r, I, g7, x, O⟩ := n_; clear hb hbox hg; have i9 := O.out; have j2 := x.out; obtain ⟨g0, g1, g2, g3⟩ := yM r.out) | ((with_reducible refine gf 83 rfl ?_); refine gL (some 15) rfl rfl Tryz.func83 rfl #[.slice T l0.length L] rfl ?_; (with_reducible refine (xq.calls k _ _ l0 t d6 _ ?side1 ?side2 A2.out).mono ?_); (case side1 => refine (Kd.R_reads' (e := 105) (base := w0.heap.size) (ok := fun k_ => (P0_ k_ ∨ w.heap.size ≤ k_)) (n := l0.length) (c := L) ?_).2.2; exact (rU (Kd.vU (Kd.wK (p := ⟨y, 1, none⟩) (Kd.wK (p := ⟨y, 0, none⟩) (Kd.xH Y.out r.out (by decide)) (fun _ hk => hk.2) (.slice T l0.length L)) (fun _ hk => hk.2) (.slice none 0 0)) (fun _ h_ => h_.1)))); (case side2 => exact (Kd.R_reads' Y.out).2.1); rintro e w8 ⟨j3, rfl, d0, hb⟩; refine ⟨_, rfl, ?_⟩; have n_ := aC (Kd.wg (rU (Kd.vU (Kd.wK (p := ⟨y, 1, none⟩) (Kd.wK (p := ⟨y, 0, none⟩) (Kd.xH Y.out r.out (by decide)) (fun _ hk => hk.2) (.slice T l0.length L)) (fun _ hk => hk.2) (.slice none 0 0)) (fun _ h_ => h_.1))) hb) (aC (Kd.S_lower (Kd.S_newM (M := fun k_ => (P0_ k_ ∨ w.heap.size ≤ k_)) d0 (show Kept w _ (fun k_ => P0_ k_) from by repeat (first | (with_reducible first | exact HK.out | apply Kept.alloc | apply Kept.drewN | apply Kept.drew | refine Kept.setCell ?_ (.inr B.out) _ | refine Kept.setCell ?_ (.inr I.out) _) | exact HK.out)).1 (fun k_ h_ => .inr h_)) bz) (aC (vp (g := D) (o := .cells #[.slice none 0 0, .slice none 0 0] 81 (0, 0)) (by (with_reducible repeat first | apply vm | apply vn | apply vl); refine wk ?_ x.out _; (with_reducible repeat first | apply vm | apply vn | apply vl); refine wk ?_ x.out _; (with_reducible repeat first | apply vm | apply vn | apply vl); exact q.out) hb) (aC (vp (g := y) (o := .cells #[.slice T l0.length L, .slice none 0 0] 81 (0, 0)) (by (with_reducible repeat first | apply vm | apply vn | apply vl); refine vt (cs := #[.slice T l0.length L, .slice none 0 0]) ?_ 1 _ rfl; (with_reducible repeat first | apply vm | apply vn | apply vl); refine vt (cs := #[.slice none 0 0, .slice none 0 0]) ?_ 0 _ rfl; (with_reducible repeat first | apply vm | apply vn | apply vl); exact r.out) hb) (aC (Kept.below (S := (fun k_ => P0_ k_)) (by repeat (first | (with_reducible first | exact HK.out | apply Kept.alloc | apply Kept.drewN | apply Kept.drew | refine Kept.setCell ?_ (.inr B.out) _ | refine Kept.setCell ?_ (.inr I.out) _) | exact HK.out)) hb) (aE (bs hb)))))); clear Y q r HK HB; obtain ⟨Y, a6, q, r, HK, HB⟩ := n_; obtain ⟨g8, d7, g9⟩ := Kd.S_slice a6.out; subst g9))
 go_loopg [20] k (fun kq h3 w' => ∃ (s : Int) (j : List ByteArray) (u412001 : Value), h3 = .int .i64 s ∧ Aside0 (wL.l0 kq t (t.length : Int) s l0 j = some (r1, r2)) ∧ Aside0 (kq ≤ k) ∧ Aside0 (Kd.S (Kd.slice 5 (Kd.int .u8)) 22 w' w0.heap.size (fun k_ => (P0_ k_ ∨ w.heap.size ≤ k_)) (.slice g8 t.length d7) t) ∧ Aside0 (Kd.R yj 105 w' w0.heap.size (fun k_ => (P0_ k_ ∨ w.heap.size ≤ k_)) (.slice T l0.length L) l0) ∧ Aside0 (Kd.R Kd.string 9 w' w0.heap.size (fun k_ => (P0_ k_ ∨ w.heap.size ≤ k_)) u412001 j) ∧ Aside0 (w'.heap[D]? = some (.cells #[(.slice none 0 0), (.slice none 0 0)] 81 (0, 0))) ∧ Aside0 (w'.heap[y]? = some (.cells #[(.slice T l0.length L), u412001] 81 (0, 0))) ∧ Aside0 (Kept w w' (fun k_ => P0_ k_)) ∧ Aside0 (Below w0.heap.size w0 w'))
 case atStart => exact ⟨(0), (([] : List ByteArray)), (.slice none 0 0), rq, H', ⟨Nat.le_refl _⟩, ⟨by (with_reducible repeat (first | apply Kd.yh | apply Kd.yb | apply Kd.yE)); exact Kd.zp a6.out (fun _ hk => hk.1)⟩, ⟨rU Y.out⟩, ⟨by first | exact Kd.yu _ _ _ _ _ | exact Kd.yR _ _ _ _ _ | exact Kd.yS _ _ _ _ _ | exact Kd.yP _ _ _ _ _ | exact Kd.yV _ _ _ _ _⟩, ⟨bU q.out⟩, ⟨bU r.out⟩, ⟨by repeat (first | (with_reducible first | exact HK.out | apply Kept.alloc | apply Kept.drewN | apply Kept.drew | refine Kept.setCell ?_ (.inr B.out) _ | refine Kept.setCell ?_ (.inr I.out) _) | exact HK.out)⟩, ⟨bl⟩⟩
 case round =>
  clear H'
  obtain ⟨s, j, u412001, rfl, HA, b4, E, u, d, q, r, HK, HB⟩ := hrel
  cases gk with
  | zero => exact absurd HA.out (by simp [wL.l0])
  | succ k1 =>
   have H := HA.out
   clear HA
   simp only [wL.l0] at H
   rcases iL H with H1 | H1 <;> clear H <;> obtain ⟨H, h4⟩ := H1
   ·by_cases b5 : 0 ≤ s
    ·rw [if_pos b5] at H
     have h5 := decide_eq_true b5
     clear b5
     by_cases b6 : s < (t.length : Int)
     ·rw [if_pos b6] at H
      have h6 := decide_eq_true b6
      clear b6
      have H' := aE H
      clear H
      have a2 : 0 ≤ (s : Int) := dt
      have a3 : s < (t.length : Int) := dt
      obtain ⟨d1, b7, g4, d8, a7, a0, a1⟩ := at_L8 (Kd.S_reads' E.out).2.2 s a2 a3
      cases d8
      obtain ⟨ce416, hce416, hMe416, hcc416⟩ := Kd.S_get E.out [] s a2 (by first | exact a3 | exact dt | (have e_ := (Kd.S_reads' E.out).1; omega))
      obtain ⟨ve416_0, rfl, ge416_0⟩ := hMe416
      have J := hcc416 0 _ rfl
      rw [Nat.add_zero, show ((Kd.slice 5 (Kd.int .u8))).sz = 1 from rfl, Nat.mul_one] at J
      replace J := Option.some.inj (J.symm.trans a7)
      rw [J] at ge416_0
      have HL416_0 := aE (show Kd.R (Kd.int .u8) 5 _ _ _ _ (zc t s) from ge416_0)
      clear J ge416_0
      clear hcc416 hce416
      have G := aE a1
      have d9 := aE a0
      clear a1 a0
      replace a2 := eq_true a2
      replace a3 := eq_true a3
      go_wp2
      go_loopg [8, 26] k1 (fun kq v8 h7 w' => ∃ (X : ByteArray) (z : Int), v8 = .string X ∧ h7 = .int .i64 z ∧ Aside0 (wL.l1 kq X t (t.length : Int) s (zc t s) ((zc t s).length : Int) z l0 j = some (r1, r2)) ∧ Aside0 (kq ≤ k1) ∧ Aside0 (Kd.S (Kd.slice 5 (Kd.int .u8)) 22 w' w0.heap.size (fun k_ => (P0_ k_ ∨ w.heap.size ≤ k_)) (.slice (some d1) t.length d7) t) ∧ Aside0 (Kd.R yj 105 w' w0.heap.size (fun k_ => (P0_ k_ ∨ w.heap.size ≤ k_)) (.slice T l0.length L) l0) ∧ Aside0 (Kd.R Kd.string 9 w' w0.heap.size (fun k_ => (P0_ k_ ∨ w.heap.size ≤ k_)) u412001 j) ∧ Aside0 (w'.heap[D]? = some (.cells #[(.slice none 0 0), (.slice none 0 0)] 81 (0, 0))) ∧ Aside0 (w'.heap[y]? = some (.cells #[(.slice T l0.length L), u412001] 81 (0, 0))) ∧ Aside0 (Kd.C (Kd.int .u8) w' b7 (zc t s).length (zc t s)) ∧ Aside0 (Kept w w' (fun k_ => P0_ k_)) ∧ Aside0 (Below w0.heap.size w0 w'))
      case atStart => exact ⟨((⟨#[]⟩ : ByteArray)), (0), rq, rq, H', ⟨Nat.le_refl _⟩, ⟨by (with_reducible repeat (first | apply Kd.yh | apply Kd.yb | apply Kd.yE)); exact E.out⟩, ⟨rU u.out⟩, ⟨rU d.out⟩, ⟨bU q.out⟩, ⟨bU r.out⟩, ⟨by repeat (first | (with_reducible exact G.out) | (with_reducible refine Kd.yi ?_ _) | (with_reducible refine Kd.yg ?_ _) | (with_reducible refine Kd.yr ?_) | exact G.out)⟩, ⟨by repeat (first | (with_reducible first | exact HK.out | apply Kept.alloc | apply Kept.drewN | apply Kept.drew | refine Kept.setCell ?_ (.inr B.out) _ | refine Kept.setCell ?_ (.inr I.out) _) | exact HK.out)⟩, ⟨bl⟩⟩
      case round =>
       clear H'
       obtain ⟨X, z, rfl, rfl, HA, b8, E, u, d, q, r, G, HK, HB⟩ := hrel
       cases gk with
       | zero => exact absurd HA.out (by simp [wL.l1])
       | succ k2 =>
        have H := HA.out
        clear HA
        simp only [wL.l1] at H
        rcases iL H with H1 | H1 <;> clear H <;> obtain ⟨H, h8⟩ := H1
        ·by_cases b9 : 0 ≤ z
         ·rw [if_pos b9] at H
          have h9 := decide_eq_true b9
          clear b9
          by_cases c0 : z < ((zc t s).length : Int)
          ·rw [if_pos c0] at H
           have i0 := decide_eq_true c0
           clear c0
           by_cases a8 : X.size + (Utf8.encode (wrap32 (48 + (wrap32 (rd (zc t s) z))))).size ≤ 9223372036854775807
           ·rw [if_pos a8] at H
            have i1 := eq_true a8
            have i2 := decide_eq_true a8
            try have i3 : (9223372036854775807 < X.size + (Utf8.encode (wrap32 (48 + (wrap32 (rd (zc t s) z))))).size) = False := eq_false (Nat.not_lt.2 a8)
            have H' := aE H
            clear H
            have a9 : 0 ≤ (z : Int) := dt
            have b0 : z < ((zc t s).length : Int) := dt
            obtain ⟨i4, e0, e1⟩ := Kd.yc G.out z a9 b0
            cases e0
            replace a9 := eq_true a9
            replace b0 := eq_true b0
            go_wp2
            go_roundg k2
            case measure => have := b4.out; have := b8.out; omega
            case rel => exact ⟨(X ++ (Utf8.encode (wrap32 (48 + (wrap32 (rd (zc t s) z)))))), (wrap64 (z + 1)), rq, rq, H', ⟨by have := b4.out; have := b8.out; omega⟩, ⟨by (with_reducible repeat (first | apply Kd.yh | apply Kd.yb | apply Kd.yE)); exact E.out⟩, ⟨rU u.out⟩, ⟨rU d.out⟩, ⟨bU q.out⟩, ⟨bU r.out⟩, ⟨by repeat (first | (with_reducible exact G.out) | (with_reducible refine Kd.yi ?_ _) | (with_reducible refine Kd.yg ?_ _) | (with_reducible refine Kd.yr ?_) | exact G.out)⟩, ⟨by repeat (first | (with_reducible first | exact HK.out | apply Kept.alloc | apply Kept.drewN | apply Kept.drew | refine Kept.setCell ?_ (.inr B.out) _ | refine Kept.setCell ?_ (.inr I.out) _) | exact HK.out)⟩, ⟨bl⟩⟩
           ·rw [if_neg a8] at H
            exact nB H
          ·rw [if_neg c0] at H
           exact nB H
         ·rw [if_neg b9] at H
          exact nB H
        ·by_cases c1 : j.length < 8796093022208
         ·rw [if_pos c1] at H
          have d2 := aE c1
          clear c1
          obtain ⟨Z, hy_⟩ : ∃ y_ : List ByteArray, y_ = (j ++ [X]) := ⟨_, rfl⟩
          replace H : (wL.l0 k2 t (t.length : Int) (wrap64 (s + 1)) l0 Z) = some (r1, r2) := rh
          have d3 := aE hy_
          clear hy_
          have H' := aE H
          clear H
          have i5 := O.out
          have i6 := x.out
          obtain ⟨e2, e3, e4, e5⟩ := yM r.out
          go_wp2_with (first | ((with_reducible refine wU (b := .append) (xs := #[.tmp 38, .tmp 40]) rfl ?_); at_builtin; refine Kd.za Kd.string (w0 := w0) w0.heap.size rfl (.tmp 38) (.tmp 40) 37 9 (.string ⟨#[]⟩) 16 rfl Tryz.underlying37 info9 rfl (by decide) (by omega) u412001 j X [.string X] (fun k_ => (P0_ k_ ∨ w.heap.size ≤ k_)) (fun _ => False) rfl rfl ?aP (fun _ hk => hk.elim) ?aF ?aO ?aB ?aS ?aL ?_; (case aP => exact rfl); (case aB => exact bl); (case aF => exact (fun k_ hk => (.inr (Nat.le_trans (by first | exact HK.out.1 | exact (show Kept w _ (fun k_ => P0_ k_) from by repeat (first | (with_reducible first | exact HK.out | apply Kept.alloc | apply Kept.drewN | apply Kept.drew | refine Kept.setCell ?_ (.inr B.out) _ | refine Kept.setCell ?_ (.inr I.out) _) | exact HK.out)).1) hk)))); (case aO => exact (rU d.out)); (case aS => exact bz); (case aL => have := d2.out; omega); intro j4 j5 ho hb hg hat; rw [← d3.out] at ho; have n_ := aC (Kd.S_over' (by (with_reducible repeat (first | apply Kd.yh | apply Kd.yb | apply Kd.yE)); exact E.out) (Kd.zI (rU d.out)) (by decide) hg) (aC (Kd.R_over' (rU u.out) (Kd.zI (rU d.out)) (by decide) hg) (aC (xz (bU q.out) hg (Kd.ja d.out q.out (by decide))) (aC (xz (bU r.out) hg (Kd.ja d.out r.out (by decide))) (aC hb (aC (Kept.jY (S := (fun k_ => P0_ k_)) hg (by repeat (first | (with_reducible first | exact HK.out | apply Kept.alloc | apply Kept.drewN | apply Kept.drew | refine Kept.setCell ?_ (.inr B.out) _ | refine Kept.setCell ?_ (.inr I.out) _) | exact HK.out)) (fun k_ e_ => (d.out.1 k_ e_))) (aE ho)))))); clear E u q r HB HK d; obtain ⟨E, u, q, r, HB, HK, b1⟩ := n_; clear ho hb hg hat; obtain ⟨a4, a5, e6⟩ := Kd.vY b1.out; subst e6; obtain ⟨e7, e8, e9, f0⟩ := yM r.out))
          go_roundg k2
          case measure => have := b4.out; have := b8.out; omega
          case rel => exact ⟨(wrap64 (s + 1)), (Z), (.slice a4 Z.length a5), rq, H', ⟨by have := b4.out; have := b8.out; omega⟩, ⟨by (with_reducible repeat (first | apply Kd.yh | apply Kd.yb | apply Kd.yE)); exact Kd.zp (Kd.zX (p := ⟨y, 1, none⟩) (Kd.S_types E.out r.out (by decide)) (fun _ hk => hk.2) (.slice a4 Z.length a5)) (fun _ hk => hk.1)⟩, ⟨rU (Kd.vU (Kd.wK (p := ⟨y, 1, none⟩) (Kd.xH u.out r.out (by decide)) (fun _ hk => hk.2) (.slice a4 Z.length a5)) (fun _ hk => hk.1))⟩, ⟨rU (Kd.vU (Kd.wK (p := ⟨y, 1, none⟩) (Kd.xH b1.out r.out (by decide)) (fun _ hk => hk.2) (.slice a4 Z.length a5)) (fun _ hk => hk.1))⟩, ⟨by (with_reducible repeat first | apply vm | apply vn | apply vl); refine wk ?_ x.out _; (with_reducible repeat first | apply vm | apply vn | apply vl); exact q.out⟩, ⟨by (with_reducible repeat first | apply vm | apply vn | apply vl); refine vt (cs := #[.slice T l0.length L, u412001]) ?_ 1 _ rfl; (with_reducible repeat first | apply vm | apply vn | apply vl); exact r.out⟩, ⟨by repeat (first | (with_reducible first | exact HK.out | apply Kept.alloc | apply Kept.drewN | apply Kept.drew | refine Kept.setCell ?_ (.inr B.out) _ | refine Kept.setCell ?_ (.inr I.out) _) | exact HK.out)⟩, ⟨bl⟩⟩
         ·rw [if_neg c1] at H
          exact nB H
     ·rw [if_neg b6] at H
      exact nB H
    ·rw [if_neg b5] at H
     exact nB H
   ·simp only [Option.some.injEq, Prod.mk.injEq] at H
    obtain ⟨rfl, rfl⟩ := H
    have i7 := O.out
    have i8 := x.out
    obtain ⟨f1, f2, f3, f4⟩ := yM r.out
    obtain ⟨f5, f6, f7, f8⟩ := yM q.out
    obtain ⟨b2, b3, f9⟩ := Kd.vY d.out
    subst f9
    go_wp2
    refine bodyPost_ret (results_cell_row rfl _ _ D 81 #[.slice T l0.length L, .slice b2 j.length b3] (0, 0) _ rfl (by (with_reducible repeat first | apply vm | apply vn | apply vl); refine vt (cs := #[.slice T l0.length L, .slice none 0 0]) ?_ 1 _ rfl; (with_reducible repeat first | apply vm | apply vn | apply vl); refine vt (cs := #[.slice none 0 0, .slice none 0 0]) ?_ 0 _ rfl; (with_reducible repeat first | apply vm | apply vn | apply vl); exact q.out) Tryz.underlying81 rfl (by kernel_rfl)) rfl ?_
    exact ⟨_, _, re, rU (Kd.vU (Kd.wK (p := ⟨D, 1, none⟩) (Kd.wK (p := ⟨D, 0, none⟩) (Kd.xH u.out q.out (by decide)) (fun _ hk => hk.2) (.slice T l0.length L)) (fun _ hk => hk.2) (.slice b2 j.length b3)) (fun _ hk => hk.1)), rU (Kd.vU (Kd.wK (p := ⟨D, 1, none⟩) (Kd.wK (p := ⟨D, 0, none⟩) (Kd.xH d.out q.out (by decide)) (fun _ hk => hk.2) (.slice T l0.length L)) (fun _ hk => hk.2) (.slice b2 j.length b3)) (fun _ hk => hk.1)), bl, by repeat (first | (with_reducible first | exact HK.out | apply Kept.alloc | apply Kept.drewN | apply Kept.drew | refine Kept.setCell ?_ (.inr B.out) _ | refine Kept.setCell ?_ (.inr I.out) _) | exact HK.out)⟩
def vo (w0 W : World) (g : Nat) (f0 : List Int) (f1 : Int) (f2 : Bool) : Prop := ∃ A0 c0, W.heap[g]? = some (.cells #[.slice A0 f0.length c0, .int .i64 f1, .bool f2] 110 (0, 0)) ∧ w0.heap.size ≤ g ∧ Kd.C (Kd.int .u8) w0 A0 f0.length f0
theorem vo.grown {w0 W : World} {g : Nat} {f0 : List Int} {f1 : Int} {f2 : Bool} {W1 : World} {row : Option Nat} (h : vo w0 W g f0 f1 f2) (hw : W.grownBy W1 row) (hne : some g ≠ row) : vo w0 W1 g f0 f1 f2 := by
 obtain ⟨A0, c0, hb, hg, hr0⟩ := h
 exact ⟨A0, c0, xz hb hw hne, hg, hr0⟩
theorem vo.own_neN {w0 W : World} {g : Nat} {f0 : List Int} {f1 : Int} {f2 : Bool} {α : Type} {d : Kd α} {e : Nat} {base : Nat} {ok : Nat → Prop} {v : Value} {xs : List α} (h : vo w0 W g f0 f1 f2) (ho : Kd.N d e W base ok v xs) (ht : e ≠ 110) : some g ≠ v.ownBlock := by
 obtain ⟨A0, c0, hb, hg, hr0⟩ := h
 exact Kd.N_ne ho hb ht
theorem vo.fresh {w0 W : World} {g : Nat} {f0 : List Int} {f1 : Int} {f2 : Bool} (h : vo w0 W g f0 f1 f2) : ∀ k, W.heap.size ≤ k → k ≠ g := by
 obtain ⟨A0, c0, hb, hg, hr0⟩ := h
 exact Kd.kz hb
theorem vo.kept {w0 W : World} {g : Nat} {f0 : List Int} {f1 : Int} {f2 : Bool} {W1 : World} {S : Nat → Prop} (h : vo w0 W g f0 f1 f2) (hk : Kept W W1 S) (hne : ¬ S g) : vo w0 W1 g f0 f1 f2 := by
 obtain ⟨A0, c0, hb, hg, hr0⟩ := h
 exact ⟨A0, c0, blk_kept hb hk hne, hg, hr0⟩
theorem vo.below {w0 W : World} {g : Nat} {f0 : List Int} {f1 : Int} {f2 : Bool} {W1 : World} (h : vo w0 W g f0 f1 f2) (hw : Below W.heap.size W W1) : vo w0 W1 g f0 f1 f2 := h.grown (jV hw none) (by simp)
theorem vo.alloc {w0 W : World} {g : Nat} {f0 : List Int} {f1 : Int} {f2 : Bool} (h : vo w0 W g f0 f1 f2) (o : Obj) : vo w0 (W.alloc o) g f0 f1 f2 := h.below (vG (Below.refl _ _) o)
theorem vo.drewN {w0 W : World} {g : Nat} {f0 : List Int} {f1 : Int} {f2 : Bool} (h : vo w0 W g f0 f1 f2) (m : Nat) : vo w0 (W.drewN m) g f0 f1 f2 := h
theorem vo.drew {w0 W : World} {g : Nat} {f0 : List Int} {f1 : Int} {f2 : Bool} (h : vo w0 W g f0 f1 f2) : vo w0 W.drew g f0 f1 f2 := h
theorem vo.at_ {w0 W : World} {g : Nat} {f0 : List Int} {f1 : Int} {f2 : Bool} {w' : World} {m : Nat} (hq : W.drewN m = w') (h : vo w0 W g f0 f1 f2) : vo w0 w' g f0 f1 f2 := by subst hq; exact vo.drewN h m
theorem vo.apart {w0 W : World} {g : Nat} {f0 : List Int} {f1 : Int} {f2 : Bool} {α : Type} {d : Kd α} {e : Nat} {base : Nat} {ok : Nat → Prop} {v : Value} {xs : List α} (h : vo w0 W g f0 f1 f2) (ho : d.R e W base ok v xs) (ht : ∀ q, q ∈ e :: d.E → q ≠ 110) : d.R e W base (fun k => ok k ∧ k ≠ g) v xs := by
 obtain ⟨A0, c0, hb, hg, hr0⟩ := h
 exact Kd.xH ho hb ht
theorem vo.own_ne {w0 W : World} {g : Nat} {f0 : List Int} {f1 : Int} {f2 : Bool} {α : Type} {d : Kd α} {e : Nat} {base : Nat} {ok : Nat → Prop} {v : Value} {xs : List α} (h : vo w0 W g f0 f1 f2) (ho : d.R e W base ok v xs) (ht : e ≠ 110) : some g ≠ v.ownBlock := by
 obtain ⟨A0, c0, hb, hg, hr0⟩ := h
 exact Kd.ja ho hb ht
theorem vo.apartQ {w0 W : World} {g : Nat} {f0 : List Int} {f1 : Int} {f2 : Bool} {α : Type} {d : Kd α} {e : Nat} {base : Nat} {ok : Nat → Prop} {v : Value} {xs : List α} (h : vo w0 W g f0 f1 f2) (ho : d.Q e W base ok v xs) (ht : ∀ q, q ∈ e :: d.E → q ≠ 110) : d.Q e W base (fun k => ok k ∧ k ≠ g) v xs := by
 obtain ⟨A0, c0, hb, hg, hr0⟩ := h
 exact Kd.Q_types ho hb ht
theorem vo.own_neQ {w0 W : World} {g : Nat} {f0 : List Int} {f1 : Int} {f2 : Bool} {α : Type} {d : Kd α} {e : Nat} {base : Nat} {ok : Nat → Prop} {v : Value} {xs : List α} (h : vo w0 W g f0 f1 f2) (ho : d.Q e W base ok v xs) (ht : e ≠ 110) : some g ≠ v.ownBlock := by
 obtain ⟨A0, c0, hb, hg, hr0⟩ := h
 exact Kd.Q_ne ho hb ht
theorem vo.apartS {w0 W : World} {g : Nat} {f0 : List Int} {f1 : Int} {f2 : Bool} {α : Type} {d : Kd α} {e : Nat} {base : Nat} {ok : Nat → Prop} {v : Value} {xs : List α} (h : vo w0 W g f0 f1 f2) (ho : d.S e W base ok v xs) (ht : ∀ q, q ∈ e :: d.E → q ≠ 110) : d.S e W base (fun k => ok k ∧ k ≠ g) v xs := by
 obtain ⟨A0, c0, hb, hg, hr0⟩ := h
 exact Kd.S_types ho hb ht
theorem vo.own_neS {w0 W : World} {g : Nat} {f0 : List Int} {f1 : Int} {f2 : Bool} {α : Type} {d : Kd α} {e : Nat} {base : Nat} {ok : Nat → Prop} {v : Value} {xs : List α} (h : vo w0 W g f0 f1 f2) (ho : d.S e W base ok v xs) (ht : e ≠ 110) : some g ≠ v.ownBlock := by
 obtain ⟨A0, c0, hb, hg, hr0⟩ := h
 exact Kd.S_ne ho hb ht
theorem vo.lt {w0 W : World} {g : Nat} {f0 : List Int} {f1 : Int} {f2 : Bool} (h : vo w0 W g f0 f1 f2) : g < W.heap.size := by
 obtain ⟨A0, c0, hb, hg, hr0⟩ := h
 exact zk hb
theorem vo.ge {w0 W : World} {g : Nat} {f0 : List Int} {f1 : Int} {f2 : Bool} (h : vo w0 W g f0 f1 f2) : w0.heap.size ≤ g := by
 obtain ⟨A0, c0, hb, hg, hr0⟩ := h
 exact hg
theorem vo.ne_blk {w0 W : World} {g : Nat} {f0 : List Int} {f1 : Int} {f2 : Bool} {a : Nat} {cs : Array Value} {t : TypeId} {fr : Nat × Nat} (h : vo w0 W g f0 f1 f2) (d : W.heap[a]? = some (.cells cs t fr)) (ht : t ≠ 110) : g ≠ a := by
 obtain ⟨A0, c0, hb, hg, hr0⟩ := h
 rintro rfl
 rw [hb] at d
 injection d with d
 injection d with _ ht2
 exact ht ht2.symm
theorem vo.far {w0 W : World} {g : Nat} {f0 : List Int} {f1 : Int} {f2 : Bool} {p : Addr} (h : vo w0 W g f0 f1 f2) (hne : g ≠ p.block) (u : Value) : vo w0 (W.setCell p u) g f0 f1 f2 := by
 obtain ⟨A0, c0, hb, hg, hr0⟩ := h
 exact ⟨A0, c0, wk hb hne u, hg, hr0⟩
theorem jd {W : World} {g : Nat} {A0 : Option Addr} {c0 : Nat} {f0 : List Int} {f1 : Int} {f2 : Bool} (h : W.heap[g]? = some (.cells #[.slice A0 f0.length c0, .int .i64 f1, .bool f2] 110 (0, 0))) : W.cell? ⟨g, 0, none⟩ = some (.slice A0 f0.length c0) := (xx h 0).trans rfl
theorem je {W : World} {g : Nat} {A0 : Option Addr} {c0 : Nat} {f0 : List Int} {f1 : Int} {f2 : Bool} (h : W.heap[g]? = some (.cells #[.slice A0 f0.length c0, .int .i64 f1, .bool f2] 110 (0, 0))) : W.cell? ⟨g, 1, none⟩ = some (.int .i64 f1) := (xx h 1).trans rfl
theorem vo.xD {w0 W : World} {g : Nat} {f0 : List Int} {f1 : Int} {f2 : Bool} (h : vo w0 W g f0 f1 f2) (x : Int) : vo w0 (W.setCell ⟨g, 1, none⟩ (.int .i64 x)) g f0 x f2 := by
 obtain ⟨A0, c0, hb, hg, hr0⟩ := h
 exact ⟨A0, c0, by simpa using qF hb 1 (.int .i64 x), hg, hr0⟩
theorem jc {W : World} {g : Nat} {A0 : Option Addr} {c0 : Nat} {f0 : List Int} {f1 : Int} {f2 : Bool} (h : W.heap[g]? = some (.cells #[.slice A0 f0.length c0, .int .i64 f1, .bool f2] 110 (0, 0))) : W.cell? ⟨g, 2, none⟩ = some (.bool f2) := (xx h 2).trans rfl
theorem vo.xC {w0 W : World} {g : Nat} {f0 : List Int} {f1 : Int} {f2 : Bool} (h : vo w0 W g f0 f1 f2) (x : Bool) : vo w0 (W.setCell ⟨g, 2, none⟩ (.bool x)) g f0 f1 x := by
 obtain ⟨A0, c0, hb, hg, hr0⟩ := h
 exact ⟨A0, c0, by simpa using qF hb 2 (.bool x), hg, hr0⟩
theorem vo.new (w0 W : World) (A0 : Option Addr) (c0 : Nat) (f0 : List Int) (f1 : Int) (f2 : Bool) (hB : Below w0.heap.size w0 W) (hr0 : Kd.C (Kd.int .u8) w0 A0 f0.length f0) : vo w0 (W.alloc (.cells #[.slice A0 f0.length c0, .int .i64 f1, .bool f2] 110)) W.heap.size f0 f1 f2 := ⟨A0, c0, by simpa using heap_alloc_new W _, hB.size, hr0⟩
def xA.f (j : List Int) (e : Int) (d : Bool) : Option (Bool × Int × Bool) := some (!d, e, d)
theorem xA.calls (g : Nat) (j : List Int) (k : Int) (d : Bool) (r1 : Bool) (r2 : Int) (r3 : Bool) (w0 w : World) (hI : vo w0 w g j k d) (hB : Below w0.heap.size w0 w) (h : xA.f j k d = some (r1, r2, r3)) :
  Calls Tryz.prog 62 #[.pointer (some ⟨g, 0, none⟩)] w fun e w' => e = .returned (.bool r1) ∧ vo w0 w' g j r2 r3 ∧ Below w0.heap.size w0 w' ∧ vr w w' g none := by
 have q := aE hI
 have HK := aE (vr.refl w g none)
 have HL := aE hB.size
 clear hI
 have HW0 := aE hB.size
 have HB := aE hB
 clear hB
 have H : (some (!d, k, d)) = some (r1, r2, r3) := h
 clear h
 simp only [Option.some.injEq, Prod.mk.injEq] at H
 obtain ⟨rfl, rfl, rfl⟩ := H
 obtain ⟨ASz2_0, cSz2_0, HGz2, hgz2, HSz2_0⟩ := q.out
 have r := jd HGz2
 have s := je HGz2
 have t := jc HGz2
 have u := xh HGz2 1
 have x := xh HGz2 2
 clear HGz2 hgz2
 go_enter Tryz.func62, Tryz.ntmps62
 go_wp2
 go_ret
 exact ⟨re, by repeat (first | (with_reducible first | exact q.out | apply vo.alloc | apply vo.drewN | apply vo.drew | apply vo.xD | apply vo.xC) | exact q.out), by repeat (first | (with_reducible first | exact HB.out | apply vG | apply vz | apply vy | refine vW ?_ (vo.ge q.out)) | exact HB.out), by repeat (first | (with_reducible first | exact HK.out | apply vr.xQ | apply vI | apply vT | apply vH) | exact HK.out)⟩
def yJ.f (e : List Int) (j : Int) (k : Bool) : Option (Int × Int × Bool) := (xA.f e j k).bind fun d => (if d.1 = true then (some (0, d.2.1, d.2.2)) else (some (d.2.1, d.2.1, d.2.2)))
theorem yJ.calls (g : Nat) (j : List Int) (k : Int) (q : Bool) (r1 : Int) (r2 : Int) (r3 : Bool) (w0 w : World) (hI : vo w0 w g j k q) (hB : Below w0.heap.size w0 w) (h : yJ.f j k q = some (r1, r2, r3)) :
  Calls Tryz.prog 44 #[.pointer (some ⟨g, 0, none⟩)] w fun e w' => e = .returned (.int .i64 r1) ∧ vo w0 w' g j r2 r3 ∧ Below w0.heap.size w0 w' ∧ vr w w' g none := by
 have d := aE hI
 have HK := aE (vr.refl w g none)
 have HL := aE hB.size
 clear hI
 have HW0 := aE hB.size
 have HB := aE hB
 clear hB
 have H := h
 unfold yJ.f at H
 clear h
 obtain ⟨⟨t, r, s⟩, A2, H⟩ := oB H
 try dsimp only at H
 by_cases c3 : t = true
 ·subst c3
  rw [if_pos rfl] at H
  simp only [Option.some.injEq, Prod.mk.injEq] at H
  obtain ⟨rfl, rfl, rfl⟩ := H
  go_enter Tryz.func44, Tryz.ntmps44
  go_wp2_with (first | ((with_reducible refine gf 62 rfl ?_); refine gL (some 4) rfl rfl Tryz.func62 rfl #[.pointer (some ⟨g, 0, none⟩)] rfl ?_; (with_reducible refine (xA.calls g j k q true r s w0 _ ?side1 ?side2 A2.out).mono ?_); (case side1 => repeat (first | (with_reducible first | exact d.out | apply vo.alloc | apply vo.drewN | apply vo.drew | apply vo.xD | apply vo.xC) | exact d.out)); (case side2 => repeat (first | (with_reducible first | exact HB.out | apply vG | apply vz | apply vy | refine vW ?_ (vo.ge d.out)) | exact HB.out)); rintro e w4 ⟨rfl, hi, hb, hk⟩; refine ⟨_, rfl, ?_⟩; have n_ := aC (vr.trans (by repeat (first | (with_reducible first | exact HK.out | apply vr.xQ | apply vI | apply vT | apply vH) | exact HK.out)) hk (.inl rfl)) (aC hb (aE hi)); clear HK HB d; obtain ⟨HK, HB, d⟩ := n_))
  go_ret
  exact ⟨re, by repeat (first | (with_reducible first | exact d.out | apply vo.alloc | apply vo.drewN | apply vo.drew | apply vo.xD | apply vo.xC) | exact d.out), by repeat (first | (with_reducible first | exact HB.out | apply vG | apply vz | apply vy | refine vW ?_ (vo.ge d.out)) | exact HB.out), by repeat (first | (with_reducible first | exact HK.out | apply vr.xQ | apply vI | apply vT | apply vH) | exact HK.out)⟩
 ·replace c3 := Bool.eq_false_iff.mpr c3
  subst c3
  rw [if_neg Bool.false_ne_true] at H
  simp only [Option.some.injEq, Prod.mk.injEq] at H
  obtain ⟨rfl, rfl, rfl⟩ := H
  go_enter Tryz.func44, Tryz.ntmps44
  go_wp2_with (first | ((with_reducible refine gf 62 rfl ?_); refine gL (some 4) rfl rfl Tryz.func62 rfl #[.pointer (some ⟨g, 0, none⟩)] rfl ?_; (with_reducible refine (xA.calls g j k q false r s w0 _ ?side1 ?side2 A2.out).mono ?_); (case side1 => repeat (first | (with_reducible first | exact d.out | apply vo.alloc | apply vo.drewN | apply vo.drew | apply vo.xD | apply vo.xC) | exact d.out)); (case side2 => repeat (first | (with_reducible first | exact HB.out | apply vG | apply vz | apply vy | refine vW ?_ (vo.ge d.out)) | exact HB.out)); rintro e w5 ⟨rfl, hi, hb, hk⟩; refine ⟨_, rfl, ?_⟩; have n_ := aC (vr.trans (by repeat (first | (with_reducible first | exact HK.out | apply vr.xQ | apply vI | apply vT | apply vH) | exact HK.out)) hk (.inl rfl)) (aC hb (aE hi)); clear HK HB d; obtain ⟨HK, HB, d⟩ := n_; obtain ⟨ASz6_0, cSz6_0, HGz6, hgz6, HSz6_0⟩ := d.out; have u := jd HGz6; have x := je HGz6; have y := jc HGz6; have z := xh HGz6 1; have B := xh HGz6 2; clear HGz6 hgz6))
  go_ret
  exact ⟨re, by repeat (first | (with_reducible first | exact d.out | apply vo.alloc | apply vo.drewN | apply vo.drew | apply vo.xD | apply vo.xC) | exact d.out), by repeat (first | (with_reducible first | exact HB.out | apply vG | apply vz | apply vy | refine vW ?_ (vo.ge d.out)) | exact HB.out), by repeat (first | (with_reducible first | exact HK.out | apply vr.xQ | apply vI | apply vT | apply vH) | exact HK.out)⟩
end Go.Proofs.YtknclbodinfbeaaGreatDoor.PRunsBack
