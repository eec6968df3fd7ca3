-- printed (wip/tools/myprint.py)
import Derived.Test.YtknclbodinfbeaaGreatDoorPRunsBackx0
namespace Go.Proofs.YtknclbodinfbeaaGreatDoor.PRunsBack
open Go.RowKit Go.Proofs.YtknclbodinfbeaaGreatDoorW.PrintWords Go.Proofs.YtknclbodinfbeaaGreatDoorW.PrintLast Go.Proofs.YtknclbodinfbeaaGreatDoorW.PrintMore
attribute [local go_sem] yo ym yC yD xU xT yn yq
set_option linter.unusedVariables false
set_option linter.unusedSimpArgs false
set_option maxHeartbeats 8000000
set_option maxRecDepth 100000
def xL.f (a0 : Int) (a1 : Int) : Option (Bool) := if a0 ≥ 0 then (if a0 ≤ 200 then (if a1 ≥ 0 then (if a1 ≤ 200 then (some (decide ((wrap64 (a0 * a1)) ≤ 8192))) else (some false)) else (some false)) else (some false)) else (some false)
theorem xL.calls (a0 : Int) (a1 : Int) (r : Bool) (w : World) (h : xL.f a0 a1 = some r) :
  Calls Tryz.prog 13 #[.int .i64 a0, .int .i64 a1] w fun e w' => e = .returned (.bool r) ∧ wl w w' := by
 have H := h
 unfold xL.f at H
 clear h
 rcases iL H with H1 | H1 <;> clear H <;> obtain ⟨H, d⟩ := H1
 ·rcases iL H with H1 | H1 <;> clear H <;> obtain ⟨H, j⟩ := H1
  ·rcases iL H with H1 | H1 <;> clear H <;> obtain ⟨H, k⟩ := H1
   ·rcases iL H with H1 | H1 <;> clear H <;> obtain ⟨H, q⟩ := H1
    ·obtain rfl := Option.some.inj H
     go_enter Tryz.func13, Tryz.ntmps13
     go_wp2
     go_ret
     exact ⟨by first | rfl | (simp; done) | (simp [*]; done), by repeat (first | exact wl.refl _ | apply wl.step)⟩
    ·obtain rfl := Option.some.inj H
     go_enter Tryz.func13, Tryz.ntmps13
     go_wp2
     go_ret
     exact ⟨by first | rfl | (simp; done) | (simp [*]; done), by repeat (first | exact wl.refl _ | apply wl.step)⟩
   ·obtain rfl := Option.some.inj H
    go_enter Tryz.func13, Tryz.ntmps13
    go_wp2
    go_ret
    exact ⟨by first | rfl | (simp; done) | (simp [*]; done), by repeat (first | exact wl.refl _ | apply wl.step)⟩
  ·obtain rfl := Option.some.inj H
   go_enter Tryz.func13, Tryz.ntmps13
   go_wp2
   go_ret
   exact ⟨by first | rfl | (simp; done) | (simp [*]; done), by repeat (first | exact wl.refl _ | apply wl.step)⟩
 ·obtain rfl := Option.some.inj H
  go_enter Tryz.func13, Tryz.ntmps13
  go_wp2
  go_ret
  exact ⟨by first | rfl | (simp; done) | (simp [*]; done), by repeat (first | exact wl.refl _ | apply wl.step)⟩
def wv.l0 : Nat → List Int → Int → Int → Option (Bool)
 | 0, _, _, _ => none
 | k + 1, x5, x6, x7 => if x7 < x6 then (if 0 ≤ x7 then (if x7 < (x5.length : Int) then (if (rd x5 x7) > 1 then (some false) else (wv.l0 k x5 x6 (wrap64 (x7 + 1)))) else (none)) else (none)) else (some true)
def wv.f (k : Nat) (l0 : List Int) : Option (Bool) := wv.l0 k l0 (l0.length : Int) 0
theorem wv.wt : ∀ k, (∀ y0 y1 y2, vK (wv.l0 k y0 y1 y2) (wv.l0 (k + 1) y0 y1 y2))
 | 0 => fun _ _ _ r h => by simp [wv.l0] at h
 | k + 1 => by
  have ih0 := wv.wt k
  ·intro y0 y1 y2
   unfold wv.l0
   repeat' first
   | (with_reducible exact ih0 _ _ _)
   | (with_reducible first | exact vK.refl _ | exact vK.none _ | apply vK.ite | apply vK.bind | intro)
theorem wv.mono : ∀ a0 k, vK (wv.f k a0) (wv.f (k + 1) a0) := by
 intro a0 k
 have ih0 := wv.wt k
 unfold wv.f
 repeat' first
   | (with_reducible exact ih0 _ _ _)
   | (with_reducible first | exact vK.refl _ | exact vK.none _ | apply vK.ite | apply vK.bind | intro)
theorem wv.calls (k : Nat) (A0 : Option Addr) (c0 : Nat) (l0 : List Int) (r : Bool) (w : World) (hr0 : Kd.C (Kd.int .u8) w A0 l0.length l0) (x : l0.length ≤ c0) (h : wv.f k l0 = some r) :
  Calls Tryz.prog 14 #[.slice A0 l0.length c0] w fun e w' => e = .returned (.bool r) ∧ wl w w' := by
 have y := aE hr0
 have I := aE x
 clear hr0 x
 have H : (wv.l0 k l0 (l0.length : Int) 0) = some r := h
 clear h
 have H' := aE H
 clear H
 go_enter Tryz.func14, Tryz.ntmps14
 go_wp2
 go_loopg [7] k (fun kq v7 w' => ∃ (d : Int), v7 = .int .i64 d ∧ Aside0 (wv.l0 kq l0 (l0.length : Int) d = some r) ∧ Aside0 (kq ≤ k) ∧ wl w w')
 case atStart => exact ⟨(0), rq, H', ⟨Nat.le_refl _⟩, by repeat (first | exact wl.refl _ | apply wl.step)⟩
 case round =>
  clear H'
  obtain ⟨d, rfl, HA, z, ⟨m1, rfl⟩⟩ := hrel
  cases gk with
  | zero => exact absurd HA.out (by simp [wv.l0])
  | succ k1 =>
   have H := HA.out
   clear HA
   simp only [wv.l0] at H
   rcases iL H with H1 | H1 <;> clear H <;> obtain ⟨H, B⟩ := H1
   ·by_cases c3 : 0 ≤ d
    ·rw [if_pos c3] at H
     have D := decide_eq_true c3
     clear c3
     by_cases c4 : d < (l0.length : Int)
     ·rw [if_pos c4] at H
      have E := decide_eq_true c4
      clear c4
      rcases iL H with H1 | H1 <;> clear H <;> obtain ⟨H, G⟩ := H1
      ·obtain rfl := Option.some.inj H
       have j : 0 ≤ (d : Int) := dt
       have q : d < (l0.length : Int) := dt
       obtain ⟨u, s, t⟩ := Kd.yc y.out d j q
       cases s
       replace j := eq_true j
       replace q := eq_true q
       go_wp2
       go_ret
       exact ⟨by first | rfl | (simp; done) | (simp [*]; done), by repeat (first | exact wl.refl _ | apply wl.step)⟩
      ·have H' := aE H
       clear H
       have j : 0 ≤ (d : Int) := dt
       have q : d < (l0.length : Int) := dt
       obtain ⟨u, s, t⟩ := Kd.yc y.out d j q
       cases s
       replace j := eq_true j
       replace q := eq_true q
       go_wp2
       go_roundg k1
       case measure => have := z.out; omega
       case rel => exact ⟨(wrap64 (d + 1)), rq, H', ⟨by have := z.out; omega⟩, by repeat (first | exact wl.refl _ | apply wl.step)⟩
     ·rw [if_neg c4] at H
      exact nB H
    ·rw [if_neg c3] at H
     exact nB H
   ·obtain rfl := Option.some.inj H
    go_wp2
    go_ret
    exact ⟨by first | rfl | (simp; done) | (simp [*]; done), by repeat (first | exact wl.refl _ | apply wl.step)⟩
def xk.f (k : Nat) (d : Int) (e : Int) (j : List Int) : Option (Bool) := (xL.f d e).bind fun q => (if q = true then (if (j.length : Int) = (wrap64 (d * e)) then ((wv.f k j).bind fun r => (some r)) else (some false)) else (some false))
theorem xk.mono : ∀ a0 a1 a2 k, vK (xk.f k a0 a1 a2) (xk.f (k + 1) a0 a1 a2) := by
 intro a0 a1 a2 k
 unfold xk.f
 repeat' first
   | (with_reducible exact wv.mono _ _)
   | (with_reducible first | exact vK.refl _ | exact vK.none _ | apply vK.ite | apply vK.bind | intro)
theorem xk.calls (k : Nat) (d : Int) (j : Int) (t : Option Addr) (u : Nat) (q : List Int) (r : Bool) (w : World) (hr0_2 : Kd.C (Kd.int .u8) w t q.length q) (x : q.length ≤ u) (h : xk.f k d j q = some r) :
  Calls Tryz.prog 4 #[.agg #[.int .i64 d, .int .i64 j, .slice t q.length u]] w fun e w' => e = .returned (.bool r) ∧ Below w.heap.size w w' := by
 have hu24 := Tryz.underlying24
 have D := aE hr0_2
 have E := aE x
 clear hr0_2 x
 have HB := bR w
 have H := h
 unfold xk.f at H
 clear h
 obtain ⟨G, A2, H⟩ := oB H
 try dsimp only at H
 by_cases c3 : G = true
 ·subst c3
  rw [if_pos rfl] at H
  rcases iE H with H1 | H1 <;> clear H <;> obtain ⟨H, b0, b1, c4⟩ := H1
  ·obtain ⟨I, A5, H⟩ := oB H
   try dsimp only at H
   obtain rfl := Option.some.inj H
   go_enter Tryz.func4, Tryz.ntmps4
   go_wp2_with (first | ((with_reducible refine gd 1 rfl ?_); (try (refine xK (by rfl) ?_; dsimp only)); refine bx 1 #[.int .i64 d, .int .i64 j, .slice t q.length u] 24 rfl rfl ?_; intro y hg w6 hbox hb; have n_ := aC (bs hb) (aC hbox (aC (gz hg) (aE (gz hg)))); clear HB; obtain ⟨HB, s, z, B⟩ := n_; clear hb hbox hg; obtain ⟨Y, Z, a0, a1, a2, a3⟩ := yk s.out) | ((with_reducible refine gf 13 rfl ?_); refine gL (some 7) rfl rfl Tryz.func13 rfl #[.int .i64 d, .int .i64 j] rfl ?_; (with_reducible refine (xL.calls d j true _ A2.out).mono ?_); rintro e w' ⟨rfl, ⟨nd, rfl⟩⟩; refine ⟨_, rfl, ?_⟩) | (go_at_call 14; (with_reducible refine (wv.calls k _ _ q I _ ?side1 ?side2 A5.out).mono ?_); (case side1 => exact cU (Kd.wz D.out bl)); (case side2 => exact E.out); rintro e w' ⟨rfl, ⟨nd, rfl⟩⟩))
   go_ret
   exact ⟨re, bl⟩
  ·obtain rfl := Option.some.inj H
   go_enter Tryz.func4, Tryz.ntmps4
   go_wp2_with (first | ((with_reducible refine gd 1 rfl ?_); (try (refine xK (by rfl) ?_; dsimp only)); refine bx 1 #[.int .i64 d, .int .i64 j, .slice t q.length u] 24 rfl rfl ?_; intro y hg w8 hbox hb; have n_ := aC (bs hb) (aC hbox (aC (gz hg) (aE (gz hg)))); clear HB; obtain ⟨HB, s, z, B⟩ := n_; clear hb hbox hg; obtain ⟨a4, a5, a6, a7, a8, a9⟩ := yk s.out) | ((with_reducible refine gf 13 rfl ?_); refine gL (some 7) rfl rfl Tryz.func13 rfl #[.int .i64 d, .int .i64 j] rfl ?_; (with_reducible refine (xL.calls d j true _ A2.out).mono ?_); rintro e w' ⟨rfl, ⟨nd, rfl⟩⟩; refine ⟨_, rfl, ?_⟩))
   go_ret
   exact ⟨re, bl⟩
 ·replace c3 := Bool.eq_false_iff.mpr c3
  subst c3
  rw [if_neg Bool.false_ne_true] at H
  obtain rfl := Option.some.inj H
  go_enter Tryz.func4, Tryz.ntmps4
  go_wp2_with (first | ((with_reducible refine gd 1 rfl ?_); (try (refine xK (by rfl) ?_; dsimp only)); refine bx 1 #[.int .i64 d, .int .i64 j, .slice t q.length u] 24 rfl rfl ?_; intro y hg b2 hbox hb; have n_ := aC (bs hb) (aC hbox (aC (gz hg) (aE (gz hg)))); clear HB; obtain ⟨HB, s, z, B⟩ := n_; clear hb hbox hg; obtain ⟨J, L, M, O, T, X⟩ := yk s.out) | ((with_reducible refine gf 13 rfl ?_); refine gL (some 7) rfl rfl Tryz.func13 rfl #[.int .i64 d, .int .i64 j] rfl ?_; (with_reducible refine (xL.calls d j false _ A2.out).mono ?_); rintro e w' ⟨rfl, ⟨nd, rfl⟩⟩; refine ⟨_, rfl, ?_⟩))
  go_ret
  exact ⟨re, bl⟩
def wa.l0 : Nat → List Int → Int → Int → Option (Int)
 | 0, _, _, _ => none
 | k + 1, x0, x2, x7 => if x7 < (x0.length : Int) then (if 0 ≤ x7 then (if (rd x0 x7) = x2 then (some (mn x7 (x0.length : Int))) else (wa.l0 k x0 x2 (wrap64 (x7 + 1)))) else (none)) else (some (mn x7 (x0.length : Int)))
def wa.f (k : Nat) (l0 : List Int) (a1 : Int) (a2 : Int) : Option (Int) := wa.l0 k l0 a2 (wrap64 (a1 + 1))
theorem wa.wt : ∀ k, (∀ y0 y1 y2, vK (wa.l0 k y0 y1 y2) (wa.l0 (k + 1) y0 y1 y2))
 | 0 => fun _ _ _ r h => by simp [wa.l0] at h
 | k + 1 => by
  have ih0 := wa.wt k
  ·intro y0 y1 y2
   unfold wa.l0
   repeat' first
   | (with_reducible exact ih0 _ _ _)
   | (with_reducible first | exact vK.refl _ | exact vK.none _ | apply vK.ite | apply vK.bind | intro)
theorem wa.mono : ∀ a0 a1 a2 k, vK (wa.f k a0 a1 a2) (wa.f (k + 1) a0 a1 a2) := by
 intro a0 a1 a2 k
 have ih0 := wa.wt k
 unfold wa.f
 repeat' first
   | (with_reducible exact ih0 _ _ _)
   | (with_reducible first | exact vK.refl _ | exact vK.none _ | apply vK.ite | apply vK.bind | intro)
theorem wa.calls (k : Nat) (A0 : Option Addr) (c0 : Nat) (l0 : List Int) (a1 : Int) (a2 : Int) (r : Int) (w : World) (hr0 : Kd.C (Kd.int .u8) w A0 l0.length l0) (z : l0.length ≤ c0) (h : wa.f k l0 a1 a2 = some r) :
  Calls Tryz.prog 39 #[.slice A0 l0.length c0, .int .i64 a1, .int .u8 a2] w fun e w' => e = .returned (.int .i64 r) ∧ Below w.heap.size w w' := by
 have B := aE hr0
 have X := aE z
 clear hr0 z
 have HB := bR w
 have H : (wa.l0 k l0 a2 (wrap64 (a1 + 1))) = some r := h
 clear h
 have H' := aE H
 clear H
 go_enter Tryz.func39, Tryz.ntmps39
 go_wp2
 go_loopg [7] k (fun kq v7 w' => ∃ (d : Int), v7 = .int .i64 d ∧ Aside0 (wa.l0 kq l0 a2 d = some r) ∧ Aside0 (kq ≤ k) ∧ Aside0 (Below w.heap.size w w'))
 case atStart => exact ⟨(wrap64 (a1 + 1)), rq, H', ⟨Nat.le_refl _⟩, ⟨bl⟩⟩
 case round =>
  clear H'
  obtain ⟨d, rfl, HA, D, HB⟩ := hrel
  cases gk with
  | zero => exact absurd HA.out (by simp [wa.l0])
  | succ k1 =>
   have H := HA.out
   clear HA
   simp only [wa.l0] at H
   rcases iL H with H1 | H1 <;> clear H <;> obtain ⟨H, L⟩ := H1
   ·by_cases c5 : 0 ≤ d
    ·rw [if_pos c5] at H
     have M := decide_eq_true c5
     clear c5
     rcases iE H with H1 | H1 <;> clear H <;> obtain ⟨H, O, T, c6⟩ := H1
     ·obtain ⟨E, t⟩ : ∃ j_ : Int, (mn d (l0.length : Int)) = j_ := ⟨_, rfl⟩
      replace H : (some E) = some r := by first | (rw [t] at H; exact H) | (simp only [t] at H ⊢; exact H)
      have I : (if (l0.length : Int) < d then (l0.length : Int) else d) = E := t
      obtain rfl := Option.some.inj H
      have q : 0 ≤ (d : Int) := dt
      have s : d < (l0.length : Int) := dt
      obtain ⟨y, x, j⟩ := Kd.yc B.out d q s
      cases x
      replace j := hcB HB.out j
      replace q := eq_true q
      replace s := eq_true s
      go_wp2
      go_ret
      exact ⟨by first | rfl | (simp [wP, wQ] <;> rfl) | (simp only [← t]; first | rfl | (simp [wP, wQ] <;> rfl)) | (simp [*, wP, wQ] <;> rfl), bl⟩
     ·have H' := aE H
      clear H
      have q : 0 ≤ (d : Int) := dt
      have s : d < (l0.length : Int) := dt
      obtain ⟨y, x, j⟩ := Kd.yc B.out d q s
      cases x
      replace j := hcB HB.out j
      replace q := eq_true q
      replace s := eq_true s
      go_wp2
      go_roundg k1
      case measure => have := D.out; omega
      case rel => exact ⟨(wrap64 (d + 1)), rq, H', ⟨by have := D.out; omega⟩, ⟨bl⟩⟩
    ·rw [if_neg c5] at H
     exact nB H
   ·obtain ⟨G, u⟩ : ∃ j_ : Int, (mn d (l0.length : Int)) = j_ := ⟨_, rfl⟩
    replace H : (some G) = some r := by first | (rw [u] at H; exact H) | (simp only [u] at H ⊢; exact H)
    have J : (if (l0.length : Int) < d then (l0.length : Int) else d) = G := u
    obtain rfl := Option.some.inj H
    go_wp2
    go_ret
    exact ⟨by first | rfl | (simp [wP, wQ] <;> rfl) | (simp only [← u]; first | rfl | (simp [wP, wQ] <;> rfl)) | (simp [*, wP, wQ] <;> rfl), bl⟩
def wO.l0 : Nat → List Int → Int → Int → Option (Int × Int)
 | 0, _, _, _ => none
 | k + 1, x0, x2, x6 => if x6 < (x0.length : Int) then (if x6 > 0 then (if 0 ≤ (wrap64 (x6 - 1)) then (if (wrap64 (x6 - 1)) < (x0.length : Int) then (if 0 ≤ x6 then (if (rd x0 x6) = x2 then (wO.l0 k x0 x2 (wrap64 (x6 + 1))) else (if (rd x0 (wrap64 (x6 - 1))) = x2 then ((wa.f k x0 (mn x6 (x0.length : Int)) x2).bind fun d => (some (mn x6 (x0.length : Int), d))) else (wO.l0 k x0 x2 (wrap64 (x6 + 1))))) else (none)) else (none)) else (none)) else (if 0 ≤ x6 then (if (rd x0 x6) = x2 then (wO.l0 k x0 x2 (wrap64 (x6 + 1))) else (if 0 = x2 then ((wa.f k x0 (mn x6 (x0.length : Int)) x2).bind fun e => (some (mn x6 (x0.length : Int), e))) else (wO.l0 k x0 x2 (wrap64 (x6 + 1))))) else (none))) else ((wa.f k x0 (mn x6 (x0.length : Int)) x2).bind fun j => (some (mn x6 (x0.length : Int), j)))
def wO.f (k : Nat) (l0 : List Int) (a1 : Int) (a2 : Int) : Option (Int × Int) := wO.l0 k l0 a2 (wrap64 (a1 + 1))
theorem wO.wt : ∀ k, (∀ y0 y1 y2, vK (wO.l0 k y0 y1 y2) (wO.l0 (k + 1) y0 y1 y2))
 | 0 => fun _ _ _ r h => by simp [wO.l0] at h
 | k + 1 => by
  have ih0 := wO.wt k
  ·intro y0 y1 y2
   unfold wO.l0
   repeat' first
   | (with_reducible exact ih0 _ _ _)
   | (with_reducible exact wa.mono _ _ _ _)
   | (with_reducible first | exact vK.refl _ | exact vK.none _ | apply vK.ite | apply vK.bind | intro)
theorem wO.mono : ∀ a0 a1 a2 k, vK (wO.f k a0 a1 a2) (wO.f (k + 1) a0 a1 a2) := by
 intro a0 a1 a2 k
 have ih0 := wO.wt k
 unfold wO.f
 repeat' first
   | (with_reducible exact ih0 _ _ _)
   | (with_reducible exact wa.mono _ _ _ _)
   | (with_reducible first | exact vK.refl _ | exact vK.none _ | apply vK.ite | apply vK.bind | intro)
theorem wO.calls (k : Nat) (A0 : Option Addr) (c0 : Nat) (l0 : List Int) (a1 : Int) (a2 : Int) (r1 : Int) (r2 : Int) (w : World) (hr0 : Kd.C (Kd.int .u8) w A0 l0.length l0) (b0 : l0.length ≤ c0) (h : wO.f k l0 a1 a2 = some (r1, r2)) :
  Calls Tryz.prog 38 #[.slice A0 l0.length c0, .int .i64 a1, .int .u8 a2] w fun e w' => e = .returned (.tuple #[.int .i64 r1, .int .i64 r2]) ∧ Below w.heap.size w w' := by
 have E := aE hr0
 have a9 := aE b0
 clear hr0 b0
 have HB := bR w
 have H : (wO.l0 k l0 a2 (wrap64 (a1 + 1))) = some (r1, r2) := h
 clear h
 have H' := aE H
 clear H
 go_enter Tryz.func38, Tryz.ntmps38
 go_wp2
 go_loopg [6] k (fun kq v6 w' => ∃ (d : Int), v6 = .int .i64 d ∧ Aside0 (wO.l0 kq l0 a2 d = some (r1, r2)) ∧ Aside0 (kq ≤ k) ∧ Aside0 (Below w.heap.size w w'))
 case atStart => exact ⟨(wrap64 (a1 + 1)), rq, H', ⟨Nat.le_refl _⟩, ⟨bl⟩⟩
 case round =>
  clear H'
  obtain ⟨d, rfl, HA, M, HB⟩ := hrel
  cases gk with
  | zero => exact absurd HA.out (by simp [wO.l0])
  | succ k1 =>
   have H := HA.out
   clear HA
   simp only [wO.l0] at H
   rcases iL H with H1 | H1 <;> clear H <;> obtain ⟨H, d6⟩ := H1
   ·rcases iL H with H1 | H1 <;> clear H <;> obtain ⟨H, d7⟩ := H1
    ·obtain ⟨B, a5⟩ : ∃ j_ : Int, (wrap64 (d - 1)) = j_ := ⟨_, rfl⟩
     replace H : (if 0 ≤ (B) then (if (B) < (l0.length : Int) then (if 0 ≤ d then (if (rd l0 d) = a2 then (wO.l0 k1 l0 a2 (wrap64 (d + 1))) else (if (rd l0 (B)) = a2 then ((wa.f k1 l0 (mn d (l0.length : Int)) a2).bind fun O => (some (mn d (l0.length : Int), O))) else (wO.l0 k1 l0 a2 (wrap64 (d + 1))))) else (none)) else (none)) else (none)) = some (r1, r2) := by first | (rw [a5] at H; exact H) | (simp only [a5] at H ⊢; exact H)
     have b4 : (IntKind.i64.wrap (d - 1)) = B := (xS _).trans a5
     by_cases c7 : 0 ≤ (B)
     ·rw [if_pos c7] at H
      have d8 := decide_eq_true c7
      clear c7
      by_cases c8 : (B) < (l0.length : Int)
      ·rw [if_pos c8] at H
       have d9 := decide_eq_true c8
       clear c8
       by_cases c9 : 0 ≤ d
       ·rw [if_pos c9] at H
        have e0 := decide_eq_true c9
        clear c9
        rcases iE H with H1 | H1 <;> clear H <;> obtain ⟨H, b5, b6, c10⟩ := H1
        ·have H' := aE H
         clear H
         have s : 0 ≤ ((B) : Int) := dt
         have t : (B) < (l0.length : Int) := dt
         obtain ⟨D, T, j⟩ := Kd.yc E.out (B) s t
         cases T
         replace j := hcB HB.out j
         replace s := eq_true s
         replace t := eq_true t
         have u : 0 ≤ (d : Int) := dt
         have x : d < (l0.length : Int) := dt
         obtain ⟨G, X, q⟩ := Kd.yc E.out d u x
         obtain rfl : D = G := (by injection X)
         replace q := hcB HB.out q
         replace u := eq_true u
         replace x := eq_true x
         go_wp2
         go_roundg k1
         case measure => have := M.out; omega
         case rel => exact ⟨(wrap64 (d + 1)), rq, H', ⟨by have := M.out; omega⟩, ⟨bl⟩⟩
        ·rcases iE H with H1 | H1 <;> clear H <;> obtain ⟨H, b7, b8, e1⟩ := H1
         ·obtain ⟨Y, I⟩ : ∃ j_ : Int, (mn d (l0.length : Int)) = j_ := ⟨_, rfl⟩
          replace H : ((wa.f k1 l0 (Y) a2).bind fun O => (some (Y, O))) = some (r1, r2) := by first | (rw [I] at H; exact H) | (simp only [I] at H ⊢; exact H)
          have b1 : (if (l0.length : Int) < d then (l0.length : Int) else d) = Y := I
          obtain ⟨O, b9, H⟩ := oB H
          try dsimp only at H
          simp only [Option.some.injEq, Prod.mk.injEq] at H
          obtain ⟨rfl, rfl⟩ := H
          have s : 0 ≤ ((B) : Int) := dt
          have t : (B) < (l0.length : Int) := dt
          obtain ⟨D, T, j⟩ := Kd.yc E.out (B) s t
          cases T
          replace j := hcB HB.out j
          replace s := eq_true s
          replace t := eq_true t
          have u : 0 ≤ (d : Int) := dt
          have x : d < (l0.length : Int) := dt
          obtain ⟨G, X, q⟩ := Kd.yc E.out d u x
          obtain rfl : D = G := (by injection X)
          replace q := hcB HB.out q
          replace u := eq_true u
          replace x := eq_true x
          go_wp2_with (first | ((with_reducible refine gf 39 rfl ?_); refine Ve (some 43) rfl rfl Tryz.func39 (by kernel_rfl) rfl #[.slice (some D) l0.length c0, .int .i64 Y, .int .u8 a2] rfl (by (try simp only [List.map_toArray, List.map_cons, List.map_nil]); first | done | (simp only [I]; rfl) | rfl | (simp only [List.length_drop, List.length_take]; rfl)) ?_; (with_reducible refine (wa.calls k1 _ _ l0 Y a2 O _ ?side1 ?side2 b9.out).mono ?_); (case side1 => exact cU (Kd.wz E.out HB.out)); (case side2 => exact a9.out); rintro e e2 ⟨rfl, hb⟩; refine ⟨_, rfl, ?_⟩; have n_ := aE (bs hb); clear HB; have HB := n_; clear n_))
          go_ret2
          exact ⟨by first | rfl | (simp [wP, wQ] <;> rfl) | (simp only [← a5, ← I]; first | rfl | (simp [wP, wQ] <;> rfl)) | (simp [*, wP, wQ] <;> rfl), bl⟩
         ·have H' := aE H
          clear H
          have s : 0 ≤ ((B) : Int) := dt
          have t : (B) < (l0.length : Int) := dt
          obtain ⟨D, T, j⟩ := Kd.yc E.out (B) s t
          cases T
          replace j := hcB HB.out j
          replace s := eq_true s
          replace t := eq_true t
          have u : 0 ≤ (d : Int) := dt
          have x : d < (l0.length : Int) := dt
          obtain ⟨G, X, q⟩ := Kd.yc E.out d u x
          obtain rfl : D = G := (by injection X)
          replace q := hcB HB.out q
          replace u := eq_true u
          replace x := eq_true x
          go_wp2
          go_roundg k1
          case measure => have := M.out; omega
          case rel => exact ⟨(wrap64 (d + 1)), rq, H', ⟨by have := M.out; omega⟩, ⟨bl⟩⟩
       ·rw [if_neg c9] at H
        exact nB H
      ·rw [if_neg c8] at H
       exact nB H
     ·rw [if_neg c7] at H
      exact nB H
    ·by_cases a8 : 0 ≤ d
     ·rw [if_pos a8] at H
      have c1 := decide_eq_true a8
      clear a8
      rcases iE H with H1 | H1 <;> clear H <;> obtain ⟨H, d0, d1, e3⟩ := H1
      ·have H' := aE H
       clear H
       have y : 0 ≤ (d : Int) := dt
       have z : d < (l0.length : Int) := dt
       obtain ⟨a4, Z, r⟩ := Kd.yc E.out d y z
       cases Z
       replace r := hcB HB.out r
       replace y := eq_true y
       replace z := eq_true z
       go_wp2
       go_roundg k1
       case measure => have := M.out; omega
       case rel => exact ⟨(wrap64 (d + 1)), rq, H', ⟨by have := M.out; omega⟩, ⟨bl⟩⟩
      ·rcases iE H with H1 | H1 <;> clear H <;> obtain ⟨H, d2, d3, e4⟩ := H1
       ·obtain ⟨a0, J⟩ : ∃ j_ : Int, (mn d (l0.length : Int)) = j_ := ⟨_, rfl⟩
        replace H : ((wa.f k1 l0 (a0) a2).bind fun a6 => (some (a0, a6))) = some (r1, r2) := by first | (rw [J] at H; exact H) | (simp only [J] at H ⊢; exact H)
        have b2 : (if (l0.length : Int) < d then (l0.length : Int) else d) = a0 := J
        obtain ⟨a6, d4, H⟩ := oB H
        try dsimp only at H
        simp only [Option.some.injEq, Prod.mk.injEq] at H
        obtain ⟨rfl, rfl⟩ := H
        have y : 0 ≤ (d : Int) := dt
        have z : d < (l0.length : Int) := dt
        obtain ⟨a4, Z, r⟩ := Kd.yc E.out d y z
        cases Z
        replace r := hcB HB.out r
        replace y := eq_true y
        replace z := eq_true z
        go_wp2_with (first | ((with_reducible refine gf 39 rfl ?_); refine Ve (some 43) rfl rfl Tryz.func39 (by kernel_rfl) rfl #[.slice (some a4) l0.length c0, .int .i64 a0, .int .u8 a2] rfl (by (try simp only [List.map_toArray, List.map_cons, List.map_nil]); first | done | (simp only [J]; rfl) | rfl | (simp only [List.length_drop, List.length_take]; rfl)) ?_; (with_reducible refine (wa.calls k1 _ _ l0 a0 a2 a6 _ ?side1 ?side2 d4.out).mono ?_); (case side1 => exact cU (Kd.wz E.out HB.out)); (case side2 => exact a9.out); rintro e e5 ⟨rfl, hb⟩; refine ⟨_, rfl, ?_⟩; have n_ := aE (bs hb); clear HB; have HB := n_; clear n_))
        go_ret2
        exact ⟨by first | rfl | (simp [wP, wQ] <;> rfl) | (simp only [← J]; first | rfl | (simp [wP, wQ] <;> rfl)) | (simp [*, wP, wQ] <;> rfl), bl⟩
       ·have H' := aE H
        clear H
        have y : 0 ≤ (d : Int) := dt
        have z : d < (l0.length : Int) := dt
        obtain ⟨a4, Z, r⟩ := Kd.yc E.out d y z
        cases Z
        replace r := hcB HB.out r
        replace y := eq_true y
        replace z := eq_true z
        go_wp2
        go_roundg k1
        case measure => have := M.out; omega
        case rel => exact ⟨(wrap64 (d + 1)), rq, H', ⟨by have := M.out; omega⟩, ⟨bl⟩⟩
     ·rw [if_neg a8] at H
      exact nB H
   ·obtain ⟨a3, L⟩ : ∃ j_ : Int, (mn d (l0.length : Int)) = j_ := ⟨_, rfl⟩
    replace H : ((wa.f k1 l0 (a3) a2).bind fun a7 => (some (a3, a7))) = some (r1, r2) := by first | (rw [L] at H; exact H) | (simp only [L] at H ⊢; exact H)
    have b3 : (if (l0.length : Int) < d then (l0.length : Int) else d) = a3 := L
    obtain ⟨a7, d5, H⟩ := oB H
    try dsimp only at H
    simp only [Option.some.injEq, Prod.mk.injEq] at H
    obtain ⟨rfl, rfl⟩ := H
    go_wp2_with (first | ((with_reducible refine gf 39 rfl ?_); refine Ve (some 43) rfl rfl Tryz.func39 (by kernel_rfl) rfl #[.slice A0 l0.length c0, .int .i64 a3, .int .u8 a2] rfl (by (try simp only [List.map_toArray, List.map_cons, List.map_nil]); first | done | (simp only [L]; rfl) | rfl | (simp only [List.length_drop, List.length_take]; rfl)) ?_; (with_reducible refine (wa.calls k1 _ _ l0 a3 a2 a7 _ ?side1 ?side2 d5.out).mono ?_); (case side1 => exact cU (Kd.wz E.out HB.out)); (case side2 => exact a9.out); rintro e e6 ⟨rfl, hb⟩; refine ⟨_, rfl, ?_⟩; have n_ := aE (bs hb); clear HB; have HB := n_; clear n_))
    go_ret2
    exact ⟨by first | rfl | (simp [wP, wQ] <;> rfl) | (simp only [← L]; first | rfl | (simp [wP, wQ] <;> rfl)) | (simp [*, wP, wQ] <;> rfl), bl⟩
end Go.Proofs.YtknclbodinfbeaaGreatDoor.PRunsBack
