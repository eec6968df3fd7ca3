-- printed (wip/tools/myprint.py)
import Derived.Test.YtknclbodinfbeaaGreatDoorPRunsBackx0
import Derived.Test.YtknclbodinfbeaaGreatDoorPRunsBackx2
import Derived.Test.YtknclbodinfbeaaGreatDoorPRunsBackx3
import Derived.Test.YtknclbodinfbeaaGreatDoorPRunsBackx5
namespace Go.Proofs.YtknclbodinfbeaaGreatDoor.PRunsBack
open Go.RowKit Go.Proofs.YtknclbodinfbeaaGreatDoorW.PrintWords Go.Proofs.YtknclbodinfbeaaGreatDoorW.PrintLast Go.Proofs.YtknclbodinfbeaaGreatDoorW.PrintMore
attribute [local go_sem] yo ym yC yD xU xT yn yq
set_option linter.unusedVariables false
set_option linter.unusedSimpArgs false
set_option maxHeartbeats 8000000
set_option maxRecDepth 100000
def wZ.f (k : Nat) (a0 : Int) (a1 : Int) : Option (List Int) := (xX.f k 0).bind fun j => ((xI.f k j.1 false (wrap64 (Int.tdiv a0 64))).bind fun d => ((zb.f a1).bind fun q => ((xI.f k q false (Int.tmod a0 64)).bind fun e => (if d.1.length + e.1.length < 140737488355328 then (some (d.1 ++ e.1)) else (none)))))
theorem wZ.mono : ∀ a0 a1 k, vK (wZ.f k a0 a1) (wZ.f (k + 1) a0 a1) := by
 intro a0 a1 k
 unfold wZ.f
 repeat' first
   | (with_reducible exact xI.mono _ _ _ _)
   | (with_reducible exact xX.mono _ _)
   | (with_reducible first | exact vK.refl _ | exact vK.none _ | apply vK.ite | apply vK.bind | intro)
theorem wZ.calls (k : Nat) (a0 : Int) (a1 : Int) (r : List Int) (w : World) (h : wZ.f k a0 a1 = some r) :
  Calls Tryz.prog 21 #[.int .i64 a0, .int .i64 a1] w fun e w' => ∃ E : Value, e = .returned (E) ∧ Kd.R (Kd.int .u8) 5 w' w.heap.size (fun _ => True) E r ∧ Below w.heap.size w w' := by
 have hu69 := Tryz.underlying69
 have HB := bR w
 have H := h
 unfold wZ.f at H
 clear h
 obtain ⟨⟨y, G⟩, A3, H⟩ := oB H
 try dsimp only at H
 obtain ⟨⟨x, I⟩, A4, H⟩ := oB H
 try dsimp only at H
 obtain ⟨z, A5, H⟩ := oB H
 try dsimp only at H
 obtain ⟨⟨u, J⟩, A6, H⟩ := oB H
 try dsimp only at H
 by_cases c7 : x.length + u.length < 140737488355328
 ·rw [if_pos c7] at H
  have L := aE c7
  clear c7
  obtain ⟨M, hy_⟩ : ∃ y_ : List Int, y_ = (x ++ u) := ⟨_, rfl⟩
  replace H : (some M) = some r := rh
  have B := aE hy_
  clear hy_
  obtain rfl := Option.some.inj H
  go_enter Tryz.func21, Tryz.ntmps21
  go_wp2_with (first | ((with_reducible refine gf 35 rfl ?_); refine gL (some 12) rfl rfl Tryz.func35 rfl #[.int .i64 0] rfl ?_; (with_reducible refine (xX.calls k 0 y G _ A3.out).mono ?_); rintro e w8 ⟨a7, rfl, t, hb⟩; refine ⟨_, rfl, ?_⟩; have n_ := aC (Kd.vS t bz) (aE (bs hb)); clear HB; obtain ⟨d, HB⟩ := n_; obtain ⟨a4, a5, a6⟩ := Kd.vY d.out; subst a6) | ((with_reducible refine gf 36 rfl ?_); refine gL (some 20) rfl rfl Tryz.func36 rfl #[.slice a4 y.length a5, .agg #[.bool false, .int .i64 (wrap64 (Int.tdiv a0 64))]] rfl ?_; (with_reducible refine (xI.calls k _ _ y false (wrap64 (Int.tdiv a0 64)) x I _ ?side1 ?side2 A4.out).mono ?_); (case side1 => exact cU (Kd.R_reads' d.out).2.2); (case side2 => exact (Kd.R_reads' d.out).2.1); rintro e b1 ⟨O, rfl, t, hb⟩; refine ⟨_, rfl, ?_⟩; have n_ := aC (Kd.wg (rU d.out) hb) (aC (Kd.vS t bz) (aE (bs hb))); clear d HB; obtain ⟨d, j, HB⟩ := n_) | ((with_reducible refine gf 37 rfl ?_); refine gL (some 25) rfl rfl Tryz.func37 rfl #[.int .i64 a1] rfl ?_; (with_reducible refine (zb.calls a1 z _ A5.out).mono ?_); rintro e b2 ⟨a8, rfl, t, hb⟩; refine ⟨_, rfl, ?_⟩; have n_ := aC (Kd.R_elder' (rU d.out) (Kd.xc t) hb) (aC (Kd.wg (rU j.out) hb) (aC (Kd.vS (Kd.R_new' t (Kd.xW (rU d.out))) bz) (aE (bs hb)))); clear d j HB; obtain ⟨d, j, q, HB⟩ := n_; obtain ⟨T, X, Y⟩ := Kd.vY q.out; subst Y) | ((with_reducible refine gf 36 rfl ?_); refine gL (some 29) rfl rfl Tryz.func36 rfl #[.slice T z.length X, .agg #[.bool false, .int .i64 (Int.tmod a0 64)]] rfl ?_; (with_reducible refine (xI.calls k _ _ z false (Int.tmod a0 64) u J _ ?side1 ?side2 A6.out).mono ?_); (case side1 => exact cU (Kd.R_reads' q.out).2.2); (case side2 => exact (Kd.R_reads' q.out).2.1); rintro e b3 ⟨a9, rfl, t, hb⟩; refine ⟨_, rfl, ?_⟩; have n_ := aC (Kd.wg (rU d.out) hb) (aC (Kd.R_elder' (rU j.out) (Kd.xc t) hb) (aC (Kd.wg (rU q.out) hb) (aC (Kd.vS (Kd.R_new' t (Kd.xW (rU j.out))) bz) (aE (bs hb))))); clear d j q HB; obtain ⟨d, j, q, s, HB⟩ := n_; obtain ⟨Z, a2, a3⟩ := Kd.vY s.out; subst a3) | ((with_reducible refine wU (b := .append) (xs := #[.tmp 32, .tmp 33]) rfl ?_); at_builtin; refine Kd.xO (Kd.int .u8) (w0 := w) w.heap.size rfl (.tmp 32) (.tmp 33) 22 5 (.int .u8 0) 1 rfl Tryz.underlying22 info5 rfl (by decide) (by omega) O x u _ _ _ (fun k_ => some k_ ≠ (.slice Z u.length a2 : Value).ownBlock) (fun _ => False) rfl rfl ?aO ?aR (fun _ _ h => h) (fun _ h => h.elim) ?aF ?aB ?aS ?aL ?_; (case aR => repeat (first | exact (Kd.R_reads' s.out).2.2 | (with_reducible refine Kd.yi ?_ _) | (with_reducible refine Kd.yg ?_ _) | (with_reducible refine Kd.yr ?_))); (case aB => exact bl); (case aF => exact (fun k_ hk => Kd.fresh' (Kd.xW (rU s.out)) k_ hk)); (case aO => exact (rU (Kd.vU j.out (fun _ hk => hk.2)))); (case aS => exact bz); (case aL => have := L.out; omega); intro b0 b4 ho hb hg hat; rw [← B.out] at ho; have n_ := aC (Kd.R_over' (rU d.out) (Kd.zI (rU j.out)) (by decide) hg) (aC (Kd.R_over' (rU q.out) (Kd.zI (rU j.out)) (by decide) hg) (aC (Kd.yG (ok := (fun _ => True)) (rU s.out) hg hat) (aC hb (aE ho)))); clear d q s HB j; obtain ⟨d, q, s, HB, D⟩ := n_; clear ho hb hg hat))
  go_ret
  exact ⟨_, re, rU (Kd.vU D.out (fun _ hk => trivial)), bl⟩
 ·rw [if_neg c7] at H
  exact nB H
def xV.f (k : Nat) (a0 : Int) (a1 : Int) : Option (List Int × Int) := if a0 < 0 then (some (([] : List Int), 2)) else (if a0 > 200 then (some (([] : List Int), 2)) else (if a1 = 0 then ((wZ.f k a0 a1).bind fun d => (some (d, 0))) else (if a1 = 1 then ((wZ.f k a0 a1).bind fun e => (some (e, 0))) else (some (([] : List Int), 2)))))
theorem xV.mono : ∀ a0 a1 k, vK (xV.f k a0 a1) (xV.f (k + 1) a0 a1) := by
 intro a0 a1 k
 unfold xV.f
 repeat' first
   | (with_reducible exact wZ.mono _ _ _)
   | (with_reducible first | exact vK.refl _ | exact vK.none _ | apply vK.ite | apply vK.bind | intro)
theorem xV.calls (k : Nat) (a0 : Int) (a1 : Int) (r1 : List Int) (r2 : Int) (w : World) (h : xV.f k a0 a1 = some (r1, r2)) :
  Calls Tryz.prog 16 #[.int .i64 a0, .int .i64 a1] w fun e w' => ∃ r : Value, e = .returned (.tuple #[r, .int .i64 r2]) ∧ Kd.R (Kd.int .u8) 5 w' w.heap.size (fun _ => True) r r1 ∧ Below w.heap.size w w' := by
 have HB := bR w
 have H := h
 unfold xV.f at H
 clear h
 rcases iL H with H1 | H1 <;> clear H <;> obtain ⟨H, u⟩ := H1
 ·simp only [Option.some.injEq, Prod.mk.injEq] at H
  obtain ⟨rfl, rfl⟩ := H
  go_enter Tryz.func16, Tryz.ntmps16
  go_wp2
  go_ret2
  exact ⟨_, re, by first | exact Kd.yu _ _ _ _ _ | exact Kd.yR _ _ _ _ _ | exact Kd.yS _ _ _ _ _ | exact Kd.yP _ _ _ _ _ | exact Kd.yV _ _ _ _ _, bl⟩
 ·rcases iL H with H1 | H1 <;> clear H <;> obtain ⟨H, x⟩ := H1
  ·simp only [Option.some.injEq, Prod.mk.injEq] at H
   obtain ⟨rfl, rfl⟩ := H
   go_enter Tryz.func16, Tryz.ntmps16
   go_wp2
   go_ret2
   exact ⟨_, re, by first | exact Kd.yu _ _ _ _ _ | exact Kd.yR _ _ _ _ _ | exact Kd.yS _ _ _ _ _ | exact Kd.yP _ _ _ _ _ | exact Kd.yV _ _ _ _ _, bl⟩
  ·rcases iE H with H1 | H1 <;> clear H <;> obtain ⟨H, y, z, c5⟩ := H1
   ·obtain ⟨s, A6, H⟩ := oB H
    try dsimp only at H
    simp only [Option.some.injEq, Prod.mk.injEq] at H
    obtain ⟨rfl, rfl⟩ := H
    go_enter Tryz.func16, Tryz.ntmps16
    go_wp2_with (first | ((with_reducible refine gf 21 rfl ?_); refine gL (some 22) rfl rfl Tryz.func21 rfl #[.int .i64 a0, .int .i64 a1] rfl ?_; (with_reducible refine (wZ.calls k a0 a1 s _ A6.out).mono ?_); rintro e w7 ⟨B, rfl, d, hb⟩; refine ⟨_, rfl, ?_⟩; have n_ := aC (Kd.vS d bz) (aE (bs hb)); clear HB; obtain ⟨j, HB⟩ := n_))
    go_ret2
    exact ⟨_, re, rU j.out, bl⟩
   ·rcases iE H with H1 | H1 <;> clear H <;> obtain ⟨H, D, E, c8⟩ := H1
    ·obtain ⟨t, A9, H⟩ := oB H
     try dsimp only at H
     simp only [Option.some.injEq, Prod.mk.injEq] at H
     obtain ⟨rfl, rfl⟩ := H
     go_enter Tryz.func16, Tryz.ntmps16
     go_wp2_with (first | ((with_reducible refine gf 21 rfl ?_); refine gL (some 22) rfl rfl Tryz.func21 rfl #[.int .i64 a0, .int .i64 a1] rfl ?_; (with_reducible refine (wZ.calls k a0 a1 t _ A9.out).mono ?_); rintro e I ⟨G, rfl, d, hb⟩; refine ⟨_, rfl, ?_⟩; have n_ := aC (Kd.vS d bz) (aE (bs hb)); clear HB; obtain ⟨q, HB⟩ := n_))
     go_ret2
     exact ⟨_, re, rU q.out, bl⟩
    ·simp only [Option.some.injEq, Prod.mk.injEq] at H
     obtain ⟨rfl, rfl⟩ := H
     go_enter Tryz.func16, Tryz.ntmps16
     go_wp2
     go_ret2
     exact ⟨_, re, by first | exact Kd.yu _ _ _ _ _ | exact Kd.yR _ _ _ _ _ | exact Kd.yS _ _ _ _ _ | exact Kd.yP _ _ _ _ _ | exact Kd.yV _ _ _ _ _, bl⟩
def vZ.l0 : Nat → List Int → List Int → Int → Int → Option (Bool)
 | 0, _, _, _, _ => none
 | k + 1, x0, x1, e, d => if d < e then (if 0 ≤ d then (if d < (x0.length : Int) then (if d < (x1.length : Int) then (if (rd x0 d) = (rd x1 d) then (vZ.l0 k x0 x1 e (wrap64 (d + 1))) else (some false)) else (none)) else (none)) else (none)) else (some true)
def vZ.f (k : Nat) (l0 : List Int) (l1 : List Int) : Option (Bool) := if (l0.length : Int) = (l1.length : Int) then (vZ.l0 k l0 l1 (l0.length : Int) 0) else (some false)
theorem vZ.wt : ∀ k, (∀ y0 y1 y2 y3, vK (vZ.l0 k y0 y1 y2 y3) (vZ.l0 (k + 1) y0 y1 y2 y3))
 | 0 => fun _ _ _ _ r h => by simp [vZ.l0] at h
 | k + 1 => by
  have ih0 := vZ.wt k
  ·intro y0 y1 y2 y3
   unfold vZ.l0
   repeat' first
   | (with_reducible exact ih0 _ _ _ _)
   | (with_reducible first | exact vK.refl _ | exact vK.none _ | apply vK.ite | apply vK.bind | intro)
theorem vZ.mono : ∀ a0 a1 k, vK (vZ.f k a0 a1) (vZ.f (k + 1) a0 a1) := by
 intro a0 a1 k
 have ih0 := vZ.wt k
 unfold vZ.f
 repeat' first
   | (with_reducible exact ih0 _ _ _ _)
   | (with_reducible first | exact vK.refl _ | exact vK.none _ | apply vK.ite | apply vK.bind | intro)
theorem vZ.calls (k : Nat) (A0 : Option Addr) (c0 : Nat) (l0 : List Int) (A1 : Option Addr) (c1 : Nat) (l1 : List Int) (r : Bool) (w : World) (hr0 : Kd.C (Kd.int .u8) w A0 l0.length l0) (E : l0.length ≤ c0) (hr1 : Kd.C (Kd.int .u8) w A1 l1.length l1) (G : l1.length ≤ c1) (h : vZ.f k l0 l1 = some r) :
  Calls Tryz.prog 17 #[.slice A0 l0.length c0, .slice A1 l1.length c1] w fun e w' => e = .returned (.bool r) ∧ wl w w' := by
 have I := aE hr0
 have a4 := aE E
 clear hr0 E
 have J := aE hr1
 have a5 := aE G
 clear hr1 G
 have H := h
 unfold vZ.f at H
 clear h
 by_cases c3 : (l0.length : Int) = (l1.length : Int)
 ·rw [if_pos c3] at H
  have L := beq_iff_eq.mpr c3
  have M := bne_eq_false_iff_eq.mpr c3
  have O : (l0.length == l1.length) = true := by first | simpa using c3 | (simp at c3 ⊢; omega)
  clear c3
  have H' := aE H
  clear H
  go_enter Tryz.func17, Tryz.ntmps17
  go_wp2
  go_loopg [13] k (fun kq X w' => ∃ (d : Int), X = .int .i64 d ∧ Aside0 (vZ.l0 kq l0 l1 (l0.length : Int) d = some r) ∧ Aside0 (kq ≤ k) ∧ wl w w')
  case atStart => exact ⟨(0), rq, H', ⟨Nat.le_refl _⟩, by repeat (first | exact wl.refl _ | apply wl.step)⟩
  case round =>
   clear H'
   try clear c1
   obtain ⟨d, rfl, HA, T, ⟨m1, rfl⟩⟩ := hrel
   cases gk with
   | zero => exact absurd HA.out (by simp [vZ.l0])
   | succ k1 =>
    have H := HA.out
    clear HA
    simp only [vZ.l0] at H
    rcases iL H with H1 | H1 <;> clear H <;> obtain ⟨H, Y⟩ := H1
    ·by_cases c5 : 0 ≤ d
     ·rw [if_pos c5] at H
      have Z := decide_eq_true c5
      clear c5
      by_cases c6 : d < (l0.length : Int)
      ·rw [if_pos c6] at H
       have a0 := decide_eq_true c6
       clear c6
       by_cases c7 : d < (l1.length : Int)
       ·rw [if_pos c7] at H
        have a1 := decide_eq_true c7
        clear c7
        rcases iE H with H1 | H1 <;> clear H <;> obtain ⟨H, a2, a3, c8⟩ := H1
        ·have H' := aE H
         clear H
         have j : 0 ≤ (d : Int) := dt
         have q : d < (l0.length : Int) := dt
         obtain ⟨B, u, x⟩ := Kd.yc I.out d j q
         cases u
         replace j := eq_true j
         replace q := eq_true q
         have s : 0 ≤ (d : Int) := dt
         have t : d < (l1.length : Int) := dt
         obtain ⟨D, y, z⟩ := Kd.yc J.out d s t
         cases y
         replace s := eq_true s
         replace t := eq_true t
         go_wp2
         repeat (go_quiet (fail); try go_wp2)
         go_roundg k1
         case measure => have := T.out; omega
         case rel => exact ⟨(wrap64 (d + 1)), rq, H', ⟨by have := T.out; omega⟩, by repeat (first | exact wl.refl _ | apply wl.step)⟩
        ·obtain rfl := Option.some.inj H
         have j : 0 ≤ (d : Int) := dt
         have q : d < (l0.length : Int) := dt
         obtain ⟨B, u, x⟩ := Kd.yc I.out d j q
         cases u
         replace j := eq_true j
         replace q := eq_true q
         have s : 0 ≤ (d : Int) := dt
         have t : d < (l1.length : Int) := dt
         obtain ⟨D, y, z⟩ := Kd.yc J.out d s t
         cases y
         replace s := eq_true s
         replace t := eq_true t
         go_wp2
         repeat (go_quiet (fail); try go_wp2)
         go_ret
         exact ⟨by first | rfl | (simp; done) | (simp [*]; done), by repeat (first | exact wl.refl _ | apply wl.step)⟩
       ·rw [if_neg c7] at H
        exact nB H
      ·rw [if_neg c6] at H
       exact nB H
     ·rw [if_neg c5] at H
      exact nB H
    ·obtain rfl := Option.some.inj H
     go_wp2
     go_ret
     exact ⟨by first | rfl | (simp; done) | (simp [*]; done), by repeat (first | exact wl.refl _ | apply wl.step)⟩
 ·rw [if_neg c3] at H
  have L := beq_eq_false_iff_ne.mpr c3
  have M := bne_iff_ne.mpr c3
  have O : (l0.length == l1.length) = false := by first | simpa using c3 | (simp at c3 ⊢; omega)
  obtain rfl := Option.some.inj H
  go_enter Tryz.func17, Tryz.ntmps17
  go_wp2
  go_ret
  exact ⟨by first | rfl | (simp; done) | (simp [*]; done), by repeat (first | exact wl.refl _ | apply wl.step)⟩
set_option maxHeartbeats 8000000
set_option maxRecDepth 100000
def we.f (k : Nat)  : Option (Bool) := if 5 ≤ 281474976710656 then ((wX.f k (List.replicate 5 0) (List.replicate 5 0)).bind fun d => ((xV.f k 5 0).bind fun e => (if d.2 = 0 then (if (d.1.length : Int) = 1 then (if 0 < (d.1.length : Int) then (if (jU ByteArray.empty d.1 0).toList = ([117, 112, 48] : List UInt8) then (if e.2 = 0 then ((vZ.f k e.1 (([0, 0, 1, 0, 0, 1] : List Int))).bind fun j => (some j)) else (some false)) else (some false)) else (none)) else (some false)) else (some false)))) else (none)
theorem we.mono : ∀ k, vK (we.f k ) (we.f (k + 1) ) := by
 intro  k
 unfold we.f
 repeat' first
   | (with_reducible exact vZ.mono _ _ _)
   | (with_reducible exact wX.mono _ _ _)
   | (with_reducible exact xV.mono _ _ _)
   | (with_reducible first | exact vK.refl _ | exact vK.none _ | apply vK.ite | apply vK.bind | intro)
def we.T1 : Bool × List (List Nat × List Nat) := (true, [([], []), ([], []), ([0, 1], [0, 1]), ([2], [2]), ([3], [3]), ([3], [3]), ([4, 2, 0, 1, 2, 3, 4], [4]), ([5, 6, 0, 1, 2, 3, 4, 5, 6], [5])])
def we.B1 : List Nat := [0, 0, 3, 7, 15, 15, 31, 127]
theorem we.tab1 : zi .any (opsOf Tryz.f5 1) = we.T1 := by kernel_rfl
theorem we.bits1 : yv we.T1.2 we.B1 = true := by kernel_rfl
theorem we.calls (k : Nat)  (r : Bool) (w : World) (hT0 : TIs w) (h : we.f k  = some r) :
  Calls Tryz.prog 5 #[] w fun e w' => e = .returned (.bool r) ∧ Below w.heap.size w w' := by
 have HTI := aE hT0
 clear hT0
 have HB := bR w
 have H := h
 unfold we.f at H
 clear h
 by_cases c1 : 5 ≤ 281474976710656
 ·rw [if_pos c1] at H
  have i6 := eq_true c1
  have i7 := decide_eq_true c1
  clear c1
  obtain ⟨B, hy_⟩ : ∃ y_ : List Int, y_ = (List.replicate 5 0) := ⟨_, rfl⟩
  replace H : ((wX.f k B (List.replicate 5 0)).bind fun Y => ((xV.f k 5 0).bind fun b0 => (if Y.2 = 0 then (if (Y.1.length : Int) = 1 then (if 0 < (Y.1.length : Int) then (if (jU ByteArray.empty Y.1 0).toList = ([117, 112, 48] : List UInt8) then (if b0.2 = 0 then ((vZ.f k b0.1 (([0, 0, 1, 0, 0, 1] : List Int))).bind fun b1 => (some b1)) else (some false)) else (some false)) else (none)) else (some false)) else (some false)))) = some r := rh
  have x := aE hy_
  clear hy_
  obtain ⟨D, hy_⟩ : ∃ y_ : List Int, y_ = (List.replicate 5 0) := ⟨_, rfl⟩
  replace H : ((wX.f k B D).bind fun Y => ((xV.f k 5 0).bind fun b0 => (if Y.2 = 0 then (if (Y.1.length : Int) = 1 then (if 0 < (Y.1.length : Int) then (if (jU ByteArray.empty Y.1 0).toList = ([117, 112, 48] : List UInt8) then (if b0.2 = 0 then ((vZ.f k b0.1 (([0, 0, 1, 0, 0, 1] : List Int))).bind fun b1 => (some b1)) else (some false)) else (some false)) else (none)) else (some false)) else (some false)))) = some r := rh
  have y := aE hy_
  clear hy_
  obtain ⟨⟨I, b3⟩, A2, H⟩ := oB H
  try dsimp only at H
  obtain ⟨⟨b2, b4⟩, A3, H⟩ := oB H
  try dsimp only at H
  rcases iE H with H1 | H1 <;> clear H <;> obtain ⟨H, i8, i9, c4⟩ := H1
  ·rcases iE H with H1 | H1 <;> clear H <;> obtain ⟨H, j2, j3, c5⟩ := H1
   ·by_cases c6 : 0 < (I.length : Int)
    ·rw [if_pos c6] at H
     have j4 := decide_eq_true c6
     have j5 : decide (0 < I.length) = true := decide_eq_true (by omega)
     clear c6
     rcases iE H with H1 | H1 <;> clear H <;> obtain ⟨H, j6, j7, c7⟩ := H1
     ·rcases iE H with H1 | H1 <;> clear H <;> obtain ⟨H, j8, j9, c8⟩ := H1
      ·obtain ⟨d1, hy_⟩ : ∃ y_ : List Int, y_ = (([0, 0, 1, 0, 0, 1] : List Int)) := ⟨_, rfl⟩
       replace H : ((vZ.f k b2 d1).bind fun b1 => (some b1)) = some r := rh
       have b9 := aE hy_
       clear hy_
       obtain ⟨b1, A9, H⟩ := oB H
       try dsimp only at H
       obtain rfl := Option.some.inj H
       go_enter Tryz.func5, Tryz.ntmps5
       try go_wp2
       have n_ := aE (vy HB.out)
       clear HB
       have HB := n_
       clear n_
       refine st 8 (fun w' => True) [] (bv 8 0) we.tab1 we.bits1 trivial (fun hHeld HT_ HW_ => ?_)
       generalize w.drew = l5 at HB hHeld ⊢
       refine zO (σ := Value × Value) 6 #[true, true, false, false, false, false, false, false] (fun s_ => [(6, s_.1), (7, s_.2)]) (fun s_ w' => (Kd.R (Kd.int .u8) 5 w' w.heap.size (fun k_ => some k_ ≠ (s_.2 : Value).ownBlock) s_.1 B) ∧ (Kd.R (Kd.int .u8) 5 w' w.heap.size (fun k_ => some k_ ≠ (s_.1 : Value).ownBlock) s_.2 D) ∧ (Below w.heap.size w w')) ?_ ?_
       rotate_left
       ·intro hCont
        refine kV (i := 0) (j := 1) (Ni := some 6) (Nj := some 7) #[true, false, false, false, false, false, false, false] #[false, true, false, false, false, false, false, false] rfl rfl rfl rfl (jg HT_.out (by kernel_rfl)) (by decide) (by decide) (fun K hK => ?_) (fun K hK => ?_)
        ·skip
         refine Kd.xM (Kd.int .u8) _ 5 (by rfl) (N := 6) rfl 22 _ _ rfl 5 rfl rfl Tryz.underlying22 (.int .u8 0) 1 info5 rfl (by decide) (by omega) 0 (ok := fun _ => True) (okp := fun _ => True) rfl (fun _ hk => hk) trivial (by omega) (by omega) (Below.refl _ _) (Nat.le_refl _) ?_
         intro t h6 Z hb hg_ hnew_
         clear hg_ hnew_
         (first | rw [← x.out] at Z | (simp only [Int.reduceToNat] at Z; rw [← x.out] at Z))
         have n_ := aC (Kd.vS Z bz) (aE (bs hb))
         clear HB
         obtain ⟨d, HB⟩ := n_
         clear hb Z
         refine hK.out _ _ trivial (fun hHeld => ?_)
         clear hK K
         refine nm (some 6) ?_
         refine yA (i := 1) (N := some 7) (bv 8 3) rfl rfl (xl HT_.out (by kernel_rfl)) (by decide) (fun K hK => ?_)
         refine Kd.xM (Kd.int .u8) _ 5 (by rfl) (N := 7) rfl 22 _ _ rfl 5 rfl rfl Tryz.underlying22 (.int .u8 0) 1 info5 rfl (by decide) (by omega) 0 (ok := fun _ => True) (okp := fun _ => True) rfl (fun _ hk => hk) trivial (by omega) (by omega) (Below.refl _ _) (Nat.le_refl _) ?_
         intro u h7 J hb hg_ hnew_
         clear hg_ hnew_
         (first | rw [← y.out] at J | (simp only [Int.reduceToNat] at J; rw [← y.out] at J))
         have n_ := aC (Kd.R_elder' (rU d.out) (Kd.xc J) hb) (aC (Kd.vS (Kd.R_new' J (Kd.xW (rU d.out))) bz) (aE (bs hb)))
         clear d HB
         obtain ⟨d, q, HB⟩ := n_
         clear hb J
         refine hK.out _ _ trivial (fun hHeld => ?_)
         clear hK K
         refine nm (some 7) ?_
         exact yQ (by simp only [yf, Act.put, List.setIfInBounds_toArray, List.set_cons_zero, List.set_cons_succ]) (hCont (t, u) _ ⟨(rU (Kd.vU d.out (fun _ hk => hk.2))), (rU (Kd.vU q.out (fun _ hk => hk.2))), bl⟩)
        ·skip
         refine Kd.xM (Kd.int .u8) _ 5 (by rfl) (N := 7) rfl 22 _ _ rfl 5 rfl rfl Tryz.underlying22 (.int .u8 0) 1 info5 rfl (by decide) (by omega) 0 (ok := fun _ => True) (okp := fun _ => True) rfl (fun _ hk => hk) trivial (by omega) (by omega) (Below.refl _ _) (Nat.le_refl _) ?_
         intro u h6 Z hb hg_ hnew_
         clear hg_ hnew_
         (first | rw [← y.out] at Z | (simp only [Int.reduceToNat] at Z; rw [← y.out] at Z))
         have n_ := aC (Kd.vS Z bz) (aE (bs hb))
         clear HB
         obtain ⟨q, HB⟩ := n_
         clear hb Z
         refine hK.out _ _ trivial (fun hHeld => ?_)
         clear hK K
         refine nm (some 7) ?_
         refine yA (i := 0) (N := some 6) (bv 8 3) rfl rfl (xl HT_.out (by kernel_rfl)) (by decide) (fun K hK => ?_)
         refine Kd.xM (Kd.int .u8) _ 5 (by rfl) (N := 6) rfl 22 _ _ rfl 5 rfl rfl Tryz.underlying22 (.int .u8 0) 1 info5 rfl (by decide) (by omega) 0 (ok := fun _ => True) (okp := fun _ => True) rfl (fun _ hk => hk) trivial (by omega) (by omega) (Below.refl _ _) (Nat.le_refl _) ?_
         intro t h7 J hb hg_ hnew_
         clear hg_ hnew_
         (first | rw [← x.out] at J | (simp only [Int.reduceToNat] at J; rw [← x.out] at J))
         have n_ := aC (Kd.R_elder' (rU q.out) (Kd.xc J) hb) (aC (Kd.vS (Kd.R_new' J (Kd.xW (rU q.out))) bz) (aE (bs hb)))
         clear q HB
         obtain ⟨q, d, HB⟩ := n_
         clear hb J
         refine hK.out _ _ trivial (fun hHeld => ?_)
         clear hK K
         refine nm (some 6) ?_
         exact yQ (by simp only [yf, Act.put, List.setIfInBounds_toArray, List.set_cons_zero, List.set_cons_succ]) (hCont (t, u) _ ⟨(rU (Kd.vU d.out (fun _ hk => hk.2))), (rU (Kd.vU q.out (fun _ hk => hk.2))), bl⟩)
       rintro ⟨t, u⟩ e2 ⟨h0_, h1_, h2_⟩
       have a6 : Aside0 (Kd.R (Kd.int .u8) 5 e2 w.heap.size (fun k_ => some k_ ≠ (u : Value).ownBlock) t B) := ⟨h0_⟩
       have a7 : Aside0 (Kd.R (Kd.int .u8) 5 e2 w.heap.size (fun k_ => some k_ ≠ (t : Value).ownBlock) u D) := ⟨h1_⟩
       have a8 : Aside0 (Below w.heap.size w e2) := ⟨h2_⟩
       clear HB
       clear h0_ h1_ h2_
       have d := a6
       have q := a7
       have HB := a8
       clear a6 a7 a8
       have hHeld := trivial
       obtain ⟨e7, e8, d2⟩ := Kd.vY d.out
       (first | subst d2 | (injection d2 with f1_ f2_ f3_; have f4_ := f1_.symm; have f5_ := f3_.symm; clear f1_ f2_ f3_; subst f4_; subst f5_))
       obtain ⟨e9, f0, d3⟩ := Kd.vY q.out
       (first | subst d3 | (injection d3 with f1_ f2_ f3_; have f4_ := f1_.symm; have f5_ := f3_.symm; clear f1_ f2_ f3_; subst f4_; subst f5_))
       refine yQ (a' := ?_) ?_ ?_
       rotate_left
       ·simp only [yf, Act.put, List.setIfInBounds_toArray, List.set_cons_zero, List.set_cons_succ]
        rfl
       refine yA (i := 2) (N := some 8) (bv 8 7) rfl rfl (xl HT_.out (by kernel_rfl)) (by decide) (fun K hK => ?_)
       refine gK Tryz.func15 rfl #[.slice e7 B.length e8, .slice e9 D.length f0] rfl rfl ?_
       with_reducible refine (wX.calls k _ _ B _ _ D I b3 _ (TIs.on HTI) ?side1 ?side2 ?side3 ?side4 A2.out).mono ?_
       (case side1 => exact cU (Kd.R_reads' d.out).2.2)
       (case side2 => exact (Kd.R_reads' d.out).2.1)
       (case side3 => exact cU (Kd.R_reads' q.out).2.2)
       (case side4 => exact (Kd.R_reads' q.out).2.1)
       rintro e l6 ⟨b7, rfl, z, hb⟩
       refine ⟨_, rfl, ?_⟩
       have n_ := aC (Kd.wg (rU d.out) hb) (aC (Kd.wg (rU q.out) hb) (aC (Kd.vS z bz) (aE (bs hb))))
       clear d q HB
       obtain ⟨d, q, s, HB⟩ := n_
       (try clear hb)
       (try clear d0)
       (try clear hk)
       (try clear hi)
       (try clear z)
       refine hK.out _ _ trivial (fun hHeld => ?_)
       clear hK K
       refine nm (some 8) ?_
       refine pu 3 5 (bv 8 15) HT_ rfl rfl ?_
       refine pu 4 9 (bv 8 31) HT_ rfl rfl ?_
       refine pu 5 10 (bv 8 63) HT_ rfl rfl ?_
       refine pu 6 1 (bv 8 127) HT_ rfl rfl ?_
       refine pu 7 2 (bv 8 255) HT_ rfl rfl ?_
       refine zd (xZ HT_.out (by kernel_rfl)) ?_
       try go_wp2_with (first | ((with_reducible refine gf 16 rfl ?_); refine gL (some 12) rfl rfl Tryz.func16 rfl #[.int .i64 5, .int .i64 0] rfl ?_; (with_reducible refine (xV.calls k 5 0 b2 b4 _ A3.out).mono ?_); rintro e l7 ⟨b8, rfl, z, hb⟩; refine ⟨_, rfl, ?_⟩; have n_ := aC (Kd.R_elder' (rU d.out) (Kd.xc z) hb) (aC (Kd.R_elder' (rU q.out) (Kd.xc z) hb) (aC (Kd.wg (rU s.out) hb) (aC (Kd.vS (Kd.R_new' (Kd.R_new' z (Kd.xW (rU d.out))) (Kd.xW (rU q.out))) bz) (aE (bs hb))))); clear d q s HB; obtain ⟨d, q, s, G, HB⟩ := n_; obtain ⟨k0, k1, f1⟩ := Kd.vY s.out; subst f1; have a0 : 0 ≤ (0 : Int) := (by omega); have a1 : 0 < (I.length : Int) := dt; obtain ⟨c0, b5, E⟩ := Kd.zU (Kd.R_reads' s.out).2.2 0 a0 a1; cases b5; have qi269 : (0 < I.length) = True := eq_true (by omega); (try rw [show ((0 : Int)).toNat = 0 from rfl] at E); (try rw [Addr.add_zero'] at E); replace a0 := eq_true a0; replace a1 := eq_true a1) | ((with_reducible refine gd 34 rfl ?_); (try (refine xK (by rfl) ?_; dsimp only)); refine Kd.zZ (Kd.int .u8) _ 5 ?hg (N := 34) ?hd (xs := ([0, 0, 1, 0, 0, 1] : List Int)) (inner := [.int .u8 0, .int .u8 0, .int .u8 1, .int .u8 0, .int .u8 0, .int .u8 1]) (ok := fun _ => True) (okp := fun _ => True) ?hr ?hp (fun _ hk => hk) trivial (Below.refl _ _) (Nat.le_refl _) (by simp) ?_; (case hd => rfl); (case hg => rfl); (case hr => first | (go_simp; done) | (go_simp; rfl)); (case hp => exact (xe.one (show Kd.M (Kd.int .u8) _ _ _ 0 [.int .u8 0] from rfl) (xe.one (show Kd.M (Kd.int .u8) _ _ _ 0 [.int .u8 0] from rfl) (xe.one (show Kd.M (Kd.int .u8) _ _ _ 1 [.int .u8 1] from rfl) (xe.one (show Kd.M (Kd.int .u8) _ _ _ 0 [.int .u8 0] from rfl) (xe.one (show Kd.M (Kd.int .u8) _ _ _ 0 [.int .u8 0] from rfl) (xe.one (show Kd.M (Kd.int .u8) _ _ _ 1 [.int .u8 1] from rfl) (xe.none _ _)))))))); intro k2 l8 a9 hb hg_ hnew_; clear hg_ hnew_; (first | rw [← b9.out] at a9 | (simp only [Int.reduceToNat] at a9; rw [← b9.out] at a9)); have n_ := aC (Kd.R_elder' (rU d.out) (Kd.xc a9) hb) (aC (Kd.R_elder' (rU q.out) (Kd.xc a9) hb) (aC (Kd.wg (rU s.out) hb) (aC (Kd.R_elder' (rU G.out) (Kd.xc a9) hb) (aC (Kd.vS (Kd.R_new' (Kd.R_new' (Kd.R_new' a9 (Kd.xW (rU d.out))) (Kd.xW (rU q.out))) (Kd.xW (rU G.out))) bz) (aE (bs hb)))))); clear d q s G HB; obtain ⟨d, q, s, G, b6, HB⟩ := n_; clear hb a9; obtain ⟨k3, k4, f2⟩ := Kd.vY G.out; subst f2; obtain ⟨k5, k6, f3⟩ := Kd.vY b6.out; subst f3) | (go_at_call 17; (with_reducible refine (vZ.calls k _ _ b2 _ _ d1 b1 _ ?side1 ?side2 ?side3 ?side4 A9.out).mono ?_); (case side1 => exact cU (Kd.R_reads' G.out).2.2); (case side2 => exact (Kd.R_reads' G.out).2.1); (case side3 => exact cU (Kd.R_reads' b6.out).2.2); (case side4 => exact (Kd.R_reads' b6.out).2.1); rintro e w' ⟨rfl, ⟨nd, rfl⟩⟩))
       go_ret
       exact ⟨re, bl⟩
      ·obtain rfl := Option.some.inj H
       go_enter Tryz.func5, Tryz.ntmps5
       try go_wp2
       have n_ := aE (vy HB.out)
       clear HB
       have HB := n_
       clear n_
       refine st 8 (fun w' => True) [] (bv 8 0) we.tab1 we.bits1 trivial (fun hHeld HT_ HW_ => ?_)
       generalize w.drew = l9 at HB hHeld ⊢
       refine zO (σ := Value × Value) 6 #[true, true, false, false, false, false, false, false] (fun s_ => [(6, s_.1), (7, s_.2)]) (fun s_ w' => (Kd.R (Kd.int .u8) 5 w' w.heap.size (fun k_ => some k_ ≠ (s_.2 : Value).ownBlock) s_.1 B) ∧ (Kd.R (Kd.int .u8) 5 w' w.heap.size (fun k_ => some k_ ≠ (s_.1 : Value).ownBlock) s_.2 D) ∧ (Below w.heap.size w w')) ?_ ?_
       rotate_left
       ·intro hCont
        refine kV (i := 0) (j := 1) (Ni := some 6) (Nj := some 7) #[true, false, false, false, false, false, false, false] #[false, true, false, false, false, false, false, false] rfl rfl rfl rfl (jg HT_.out (by kernel_rfl)) (by decide) (by decide) (fun K hK => ?_) (fun K hK => ?_)
        ·skip
         refine Kd.xM (Kd.int .u8) _ 5 (by rfl) (N := 6) rfl 22 _ _ rfl 5 rfl rfl Tryz.underlying22 (.int .u8 0) 1 info5 rfl (by decide) (by omega) 0 (ok := fun _ => True) (okp := fun _ => True) rfl (fun _ hk => hk) trivial (by omega) (by omega) (Below.refl _ _) (Nat.le_refl _) ?_
         intro t h8 a2 hb hg_ hnew_
         clear hg_ hnew_
         (first | rw [← x.out] at a2 | (simp only [Int.reduceToNat] at a2; rw [← x.out] at a2))
         have n_ := aC (Kd.vS a2 bz) (aE (bs hb))
         clear HB
         obtain ⟨d, HB⟩ := n_
         clear hb a2
         refine hK.out _ _ trivial (fun hHeld => ?_)
         clear hK K
         refine nm (some 6) ?_
         refine yA (i := 1) (N := some 7) (bv 8 3) rfl rfl (xl HT_.out (by kernel_rfl)) (by decide) (fun K hK => ?_)
         refine Kd.xM (Kd.int .u8) _ 5 (by rfl) (N := 7) rfl 22 _ _ rfl 5 rfl rfl Tryz.underlying22 (.int .u8 0) 1 info5 rfl (by decide) (by omega) 0 (ok := fun _ => True) (okp := fun _ => True) rfl (fun _ hk => hk) trivial (by omega) (by omega) (Below.refl _ _) (Nat.le_refl _) ?_
         intro u h9 L hb hg_ hnew_
         clear hg_ hnew_
         (first | rw [← y.out] at L | (simp only [Int.reduceToNat] at L; rw [← y.out] at L))
         have n_ := aC (Kd.R_elder' (rU d.out) (Kd.xc L) hb) (aC (Kd.vS (Kd.R_new' L (Kd.xW (rU d.out))) bz) (aE (bs hb)))
         clear d HB
         obtain ⟨d, q, HB⟩ := n_
         clear hb L
         refine hK.out _ _ trivial (fun hHeld => ?_)
         clear hK K
         refine nm (some 7) ?_
         exact yQ (by simp only [yf, Act.put, List.setIfInBounds_toArray, List.set_cons_zero, List.set_cons_succ]) (hCont (t, u) _ ⟨(rU (Kd.vU d.out (fun _ hk => hk.2))), (rU (Kd.vU q.out (fun _ hk => hk.2))), bl⟩)
        ·skip
         refine Kd.xM (Kd.int .u8) _ 5 (by rfl) (N := 7) rfl 22 _ _ rfl 5 rfl rfl Tryz.underlying22 (.int .u8 0) 1 info5 rfl (by decide) (by omega) 0 (ok := fun _ => True) (okp := fun _ => True) rfl (fun _ hk => hk) trivial (by omega) (by omega) (Below.refl _ _) (Nat.le_refl _) ?_
         intro u h8 a2 hb hg_ hnew_
         clear hg_ hnew_
         (first | rw [← y.out] at a2 | (simp only [Int.reduceToNat] at a2; rw [← y.out] at a2))
         have n_ := aC (Kd.vS a2 bz) (aE (bs hb))
         clear HB
         obtain ⟨q, HB⟩ := n_
         clear hb a2
         refine hK.out _ _ trivial (fun hHeld => ?_)
         clear hK K
         refine nm (some 7) ?_
         refine yA (i := 0) (N := some 6) (bv 8 3) rfl rfl (xl HT_.out (by kernel_rfl)) (by decide) (fun K hK => ?_)
         refine Kd.xM (Kd.int .u8) _ 5 (by rfl) (N := 6) rfl 22 _ _ rfl 5 rfl rfl Tryz.underlying22 (.int .u8 0) 1 info5 rfl (by decide) (by omega) 0 (ok := fun _ => True) (okp := fun _ => True) rfl (fun _ hk => hk) trivial (by omega) (by omega) (Below.refl _ _) (Nat.le_refl _) ?_
         intro t h9 L hb hg_ hnew_
         clear hg_ hnew_
         (first | rw [← x.out] at L | (simp only [Int.reduceToNat] at L; rw [← x.out] at L))
         have n_ := aC (Kd.R_elder' (rU q.out) (Kd.xc L) hb) (aC (Kd.vS (Kd.R_new' L (Kd.xW (rU q.out))) bz) (aE (bs hb)))
         clear q HB
         obtain ⟨q, d, HB⟩ := n_
         clear hb L
         refine hK.out _ _ trivial (fun hHeld => ?_)
         clear hK K
         refine nm (some 6) ?_
         exact yQ (by simp only [yf, Act.put, List.setIfInBounds_toArray, List.set_cons_zero, List.set_cons_succ]) (hCont (t, u) _ ⟨(rU (Kd.vU d.out (fun _ hk => hk.2))), (rU (Kd.vU q.out (fun _ hk => hk.2))), bl⟩)
       rintro ⟨t, u⟩ e3 ⟨h0_, h1_, h2_⟩
       have a6 : Aside0 (Kd.R (Kd.int .u8) 5 e3 w.heap.size (fun k_ => some k_ ≠ (u : Value).ownBlock) t B) := ⟨h0_⟩
       have a7 : Aside0 (Kd.R (Kd.int .u8) 5 e3 w.heap.size (fun k_ => some k_ ≠ (t : Value).ownBlock) u D) := ⟨h1_⟩
       have a8 : Aside0 (Below w.heap.size w e3) := ⟨h2_⟩
       clear HB
       clear h0_ h1_ h2_
       have d := a6
       have q := a7
       have HB := a8
       clear a6 a7 a8
       have hHeld := trivial
       obtain ⟨f4, f5, d4⟩ := Kd.vY d.out
       (first | subst d4 | (injection d4 with f1_ f2_ f3_; have f4_ := f1_.symm; have f5_ := f3_.symm; clear f1_ f2_ f3_; subst f4_; subst f5_))
       obtain ⟨f6, f7, d5⟩ := Kd.vY q.out
       (first | subst d5 | (injection d5 with f1_ f2_ f3_; have f4_ := f1_.symm; have f5_ := f3_.symm; clear f1_ f2_ f3_; subst f4_; subst f5_))
       refine yQ (a' := ?_) ?_ ?_
       rotate_left
       ·simp only [yf, Act.put, List.setIfInBounds_toArray, List.set_cons_zero, List.set_cons_succ]
        rfl
       refine yA (i := 2) (N := some 8) (bv 8 7) rfl rfl (xl HT_.out (by kernel_rfl)) (by decide) (fun K hK => ?_)
       refine gK Tryz.func15 rfl #[.slice f4 B.length f5, .slice f6 D.length f7] rfl rfl ?_
       with_reducible refine (wX.calls k _ _ B _ _ D I b3 _ (TIs.on HTI) ?side1 ?side2 ?side3 ?side4 A2.out).mono ?_
       (case side1 => exact cU (Kd.R_reads' d.out).2.2)
       (case side2 => exact (Kd.R_reads' d.out).2.1)
       (case side3 => exact cU (Kd.R_reads' q.out).2.2)
       (case side4 => exact (Kd.R_reads' q.out).2.1)
       rintro e m0 ⟨b7, rfl, z, hb⟩
       refine ⟨_, rfl, ?_⟩
       have n_ := aC (Kd.wg (rU d.out) hb) (aC (Kd.wg (rU q.out) hb) (aC (Kd.vS z bz) (aE (bs hb))))
       clear d q HB
       obtain ⟨d, q, s, HB⟩ := n_
       (try clear hb)
       (try clear d0)
       (try clear hk)
       (try clear hi)
       (try clear z)
       refine hK.out _ _ trivial (fun hHeld => ?_)
       clear hK K
       refine nm (some 8) ?_
       refine pu 3 5 (bv 8 15) HT_ rfl rfl ?_
       refine pu 4 9 (bv 8 31) HT_ rfl rfl ?_
       refine pu 5 10 (bv 8 63) HT_ rfl rfl ?_
       refine pu 6 1 (bv 8 127) HT_ rfl rfl ?_
       refine pu 7 2 (bv 8 255) HT_ rfl rfl ?_
       refine zd (xZ HT_.out (by kernel_rfl)) ?_
       try go_wp2_with (first | ((with_reducible refine gf 16 rfl ?_); refine gL (some 12) rfl rfl Tryz.func16 rfl #[.int .i64 5, .int .i64 0] rfl ?_; (with_reducible refine (xV.calls k 5 0 b2 b4 _ A3.out).mono ?_); rintro e m1 ⟨b8, rfl, z, hb⟩; refine ⟨_, rfl, ?_⟩; have n_ := aC (Kd.R_elder' (rU d.out) (Kd.xc z) hb) (aC (Kd.R_elder' (rU q.out) (Kd.xc z) hb) (aC (Kd.wg (rU s.out) hb) (aC (Kd.vS (Kd.R_new' (Kd.R_new' z (Kd.xW (rU d.out))) (Kd.xW (rU q.out))) bz) (aE (bs hb))))); clear d q s HB; obtain ⟨d, q, s, G, HB⟩ := n_; obtain ⟨k7, k8, f8⟩ := Kd.vY s.out; subst f8; have a0 : 0 ≤ (0 : Int) := (by omega); have a1 : 0 < (I.length : Int) := dt; obtain ⟨c0, b5, E⟩ := Kd.zU (Kd.R_reads' s.out).2.2 0 a0 a1; cases b5; have qi269 : (0 < I.length) = True := eq_true (by omega); (try rw [show ((0 : Int)).toNat = 0 from rfl] at E); (try rw [Addr.add_zero'] at E); replace a0 := eq_true a0; replace a1 := eq_true a1))
       go_ret
       exact ⟨re, bl⟩
     ·obtain rfl := Option.some.inj H
      go_enter Tryz.func5, Tryz.ntmps5
      try go_wp2
      have n_ := aE (vy HB.out)
      clear HB
      have HB := n_
      clear n_
      refine st 8 (fun w' => True) [] (bv 8 0) we.tab1 we.bits1 trivial (fun hHeld HT_ HW_ => ?_)
      generalize w.drew = m2 at HB hHeld ⊢
      refine zO (σ := Value × Value) 6 #[true, true, false, false, false, false, false, false] (fun s_ => [(6, s_.1), (7, s_.2)]) (fun s_ w' => (Kd.R (Kd.int .u8) 5 w' w.heap.size (fun k_ => some k_ ≠ (s_.2 : Value).ownBlock) s_.1 B) ∧ (Kd.R (Kd.int .u8) 5 w' w.heap.size (fun k_ => some k_ ≠ (s_.1 : Value).ownBlock) s_.2 D) ∧ (Below w.heap.size w w')) ?_ ?_
      rotate_left
      ·intro hCont
       refine kV (i := 0) (j := 1) (Ni := some 6) (Nj := some 7) #[true, false, false, false, false, false, false, false] #[false, true, false, false, false, false, false, false] rfl rfl rfl rfl (jg HT_.out (by kernel_rfl)) (by decide) (by decide) (fun K hK => ?_) (fun K hK => ?_)
       ·skip
        refine Kd.xM (Kd.int .u8) _ 5 (by rfl) (N := 6) rfl 22 _ _ rfl 5 rfl rfl Tryz.underlying22 (.int .u8 0) 1 info5 rfl (by decide) (by omega) 0 (ok := fun _ => True) (okp := fun _ => True) rfl (fun _ hk => hk) trivial (by omega) (by omega) (Below.refl _ _) (Nat.le_refl _) ?_
        intro t i0 a3 hb hg_ hnew_
        clear hg_ hnew_
        (first | rw [← x.out] at a3 | (simp only [Int.reduceToNat] at a3; rw [← x.out] at a3))
        have n_ := aC (Kd.vS a3 bz) (aE (bs hb))
        clear HB
        obtain ⟨d, HB⟩ := n_
        clear hb a3
        refine hK.out _ _ trivial (fun hHeld => ?_)
        clear hK K
        refine nm (some 6) ?_
        refine yA (i := 1) (N := some 7) (bv 8 3) rfl rfl (xl HT_.out (by kernel_rfl)) (by decide) (fun K hK => ?_)
        refine Kd.xM (Kd.int .u8) _ 5 (by rfl) (N := 7) rfl 22 _ _ rfl 5 rfl rfl Tryz.underlying22 (.int .u8 0) 1 info5 rfl (by decide) (by omega) 0 (ok := fun _ => True) (okp := fun _ => True) rfl (fun _ hk => hk) trivial (by omega) (by omega) (Below.refl _ _) (Nat.le_refl _) ?_
        intro u i1 O hb hg_ hnew_
        clear hg_ hnew_
        (first | rw [← y.out] at O | (simp only [Int.reduceToNat] at O; rw [← y.out] at O))
        have n_ := aC (Kd.R_elder' (rU d.out) (Kd.xc O) hb) (aC (Kd.vS (Kd.R_new' O (Kd.xW (rU d.out))) bz) (aE (bs hb)))
        clear d HB
        obtain ⟨d, q, HB⟩ := n_
        clear hb O
        refine hK.out _ _ trivial (fun hHeld => ?_)
        clear hK K
        refine nm (some 7) ?_
        exact yQ (by simp only [yf, Act.put, List.setIfInBounds_toArray, List.set_cons_zero, List.set_cons_succ]) (hCont (t, u) _ ⟨(rU (Kd.vU d.out (fun _ hk => hk.2))), (rU (Kd.vU q.out (fun _ hk => hk.2))), bl⟩)
       ·skip
        refine Kd.xM (Kd.int .u8) _ 5 (by rfl) (N := 7) rfl 22 _ _ rfl 5 rfl rfl Tryz.underlying22 (.int .u8 0) 1 info5 rfl (by decide) (by omega) 0 (ok := fun _ => True) (okp := fun _ => True) rfl (fun _ hk => hk) trivial (by omega) (by omega) (Below.refl _ _) (Nat.le_refl _) ?_
        intro u i0 a3 hb hg_ hnew_
        clear hg_ hnew_
        (first | rw [← y.out] at a3 | (simp only [Int.reduceToNat] at a3; rw [← y.out] at a3))
        have n_ := aC (Kd.vS a3 bz) (aE (bs hb))
        clear HB
        obtain ⟨q, HB⟩ := n_
        clear hb a3
        refine hK.out _ _ trivial (fun hHeld => ?_)
        clear hK K
        refine nm (some 7) ?_
        refine yA (i := 0) (N := some 6) (bv 8 3) rfl rfl (xl HT_.out (by kernel_rfl)) (by decide) (fun K hK => ?_)
        refine Kd.xM (Kd.int .u8) _ 5 (by rfl) (N := 6) rfl 22 _ _ rfl 5 rfl rfl Tryz.underlying22 (.int .u8 0) 1 info5 rfl (by decide) (by omega) 0 (ok := fun _ => True) (okp := fun _ => True) rfl (fun _ hk => hk) trivial (by omega) (by omega) (Below.refl _ _) (Nat.le_refl _) ?_
        intro t i1 O hb hg_ hnew_
        clear hg_ hnew_
        (first | rw [← x.out] at O | (simp only [Int.reduceToNat] at O; rw [← x.out] at O))
        have n_ := aC (Kd.R_elder' (rU q.out) (Kd.xc O) hb) (aC (Kd.vS (Kd.R_new' O (Kd.xW (rU q.out))) bz) (aE (bs hb)))
        clear q HB
        obtain ⟨q, d, HB⟩ := n_
        clear hb O
        refine hK.out _ _ trivial (fun hHeld => ?_)
        clear hK K
        refine nm (some 6) ?_
        exact yQ (by simp only [yf, Act.put, List.setIfInBounds_toArray, List.set_cons_zero, List.set_cons_succ]) (hCont (t, u) _ ⟨(rU (Kd.vU d.out (fun _ hk => hk.2))), (rU (Kd.vU q.out (fun _ hk => hk.2))), bl⟩)
      rintro ⟨t, u⟩ e4 ⟨h0_, h1_, h2_⟩
      have a6 : Aside0 (Kd.R (Kd.int .u8) 5 e4 w.heap.size (fun k_ => some k_ ≠ (u : Value).ownBlock) t B) := ⟨h0_⟩
      have a7 : Aside0 (Kd.R (Kd.int .u8) 5 e4 w.heap.size (fun k_ => some k_ ≠ (t : Value).ownBlock) u D) := ⟨h1_⟩
      have a8 : Aside0 (Below w.heap.size w e4) := ⟨h2_⟩
      clear HB
      clear h0_ h1_ h2_
      have d := a6
      have q := a7
      have HB := a8
      clear a6 a7 a8
      have hHeld := trivial
      obtain ⟨f9, g0, d6⟩ := Kd.vY d.out
      (first | subst d6 | (injection d6 with f1_ f2_ f3_; have f4_ := f1_.symm; have f5_ := f3_.symm; clear f1_ f2_ f3_; subst f4_; subst f5_))
      obtain ⟨g1, g2, d7⟩ := Kd.vY q.out
      (first | subst d7 | (injection d7 with f1_ f2_ f3_; have f4_ := f1_.symm; have f5_ := f3_.symm; clear f1_ f2_ f3_; subst f4_; subst f5_))
      refine yQ (a' := ?_) ?_ ?_
      rotate_left
      ·simp only [yf, Act.put, List.setIfInBounds_toArray, List.set_cons_zero, List.set_cons_succ]
       rfl
      refine yA (i := 2) (N := some 8) (bv 8 7) rfl rfl (xl HT_.out (by kernel_rfl)) (by decide) (fun K hK => ?_)
      refine gK Tryz.func15 rfl #[.slice f9 B.length g0, .slice g1 D.length g2] rfl rfl ?_
      with_reducible refine (wX.calls k _ _ B _ _ D I b3 _ (TIs.on HTI) ?side1 ?side2 ?side3 ?side4 A2.out).mono ?_
      (case side1 => exact cU (Kd.R_reads' d.out).2.2)
      (case side2 => exact (Kd.R_reads' d.out).2.1)
      (case side3 => exact cU (Kd.R_reads' q.out).2.2)
      (case side4 => exact (Kd.R_reads' q.out).2.1)
      rintro e m3 ⟨b7, rfl, z, hb⟩
      refine ⟨_, rfl, ?_⟩
      have n_ := aC (Kd.wg (rU d.out) hb) (aC (Kd.wg (rU q.out) hb) (aC (Kd.vS z bz) (aE (bs hb))))
      clear d q HB
      obtain ⟨d, q, s, HB⟩ := n_
      (try clear hb)
      (try clear d0)
      (try clear hk)
      (try clear hi)
      (try clear z)
      refine hK.out _ _ trivial (fun hHeld => ?_)
      clear hK K
      refine nm (some 8) ?_
      refine pu 3 5 (bv 8 15) HT_ rfl rfl ?_
      refine pu 4 9 (bv 8 31) HT_ rfl rfl ?_
      refine pu 5 10 (bv 8 63) HT_ rfl rfl ?_
      refine pu 6 1 (bv 8 127) HT_ rfl rfl ?_
      refine pu 7 2 (bv 8 255) HT_ rfl rfl ?_
      refine zd (xZ HT_.out (by kernel_rfl)) ?_
      try go_wp2_with (first | ((with_reducible refine gf 16 rfl ?_); refine gL (some 12) rfl rfl Tryz.func16 rfl #[.int .i64 5, .int .i64 0] rfl ?_; (with_reducible refine (xV.calls k 5 0 b2 b4 _ A3.out).mono ?_); rintro e m4 ⟨b8, rfl, z, hb⟩; refine ⟨_, rfl, ?_⟩; have n_ := aC (Kd.R_elder' (rU d.out) (Kd.xc z) hb) (aC (Kd.R_elder' (rU q.out) (Kd.xc z) hb) (aC (Kd.wg (rU s.out) hb) (aC (Kd.vS (Kd.R_new' (Kd.R_new' z (Kd.xW (rU d.out))) (Kd.xW (rU q.out))) bz) (aE (bs hb))))); clear d q s HB; obtain ⟨d, q, s, G, HB⟩ := n_; obtain ⟨k9, l2, g3⟩ := Kd.vY s.out; subst g3; have a0 : 0 ≤ (0 : Int) := (by omega); have a1 : 0 < (I.length : Int) := dt; obtain ⟨c0, b5, E⟩ := Kd.zU (Kd.R_reads' s.out).2.2 0 a0 a1; cases b5; have qi269 : (0 < I.length) = True := eq_true (by omega); (try rw [show ((0 : Int)).toNat = 0 from rfl] at E); (try rw [Addr.add_zero'] at E); replace a0 := eq_true a0; replace a1 := eq_true a1))
      go_ret
      exact ⟨re, bl⟩
    ·rw [if_neg c6] at H
     exact nB H
   ·obtain rfl := Option.some.inj H
    go_enter Tryz.func5, Tryz.ntmps5
    try go_wp2
    have n_ := aE (vy HB.out)
    clear HB
    have HB := n_
    clear n_
    refine st 8 (fun w' => True) [] (bv 8 0) we.tab1 we.bits1 trivial (fun hHeld HT_ HW_ => ?_)
    generalize w.drew = m5 at HB hHeld ⊢
    refine zO (σ := Value × Value) 6 #[true, true, false, false, false, false, false, false] (fun s_ => [(6, s_.1), (7, s_.2)]) (fun s_ w' => (Kd.R (Kd.int .u8) 5 w' w.heap.size (fun k_ => some k_ ≠ (s_.2 : Value).ownBlock) s_.1 B) ∧ (Kd.R (Kd.int .u8) 5 w' w.heap.size (fun k_ => some k_ ≠ (s_.1 : Value).ownBlock) s_.2 D) ∧ (Below w.heap.size w w')) ?_ ?_
    rotate_left
    ·intro hCont
     refine kV (i := 0) (j := 1) (Ni := some 6) (Nj := some 7) #[true, false, false, false, false, false, false, false] #[false, true, false, false, false, false, false, false] rfl rfl rfl rfl (jg HT_.out (by kernel_rfl)) (by decide) (by decide) (fun K hK => ?_) (fun K hK => ?_)
     ·skip
      refine Kd.xM (Kd.int .u8) _ 5 (by rfl) (N := 6) rfl 22 _ _ rfl 5 rfl rfl Tryz.underlying22 (.int .u8 0) 1 info5 rfl (by decide) (by omega) 0 (ok := fun _ => True) (okp := fun _ => True) rfl (fun _ hk => hk) trivial (by omega) (by omega) (Below.refl _ _) (Nat.le_refl _) ?_
      intro t i2 a4 hb hg_ hnew_
      clear hg_ hnew_
      (first | rw [← x.out] at a4 | (simp only [Int.reduceToNat] at a4; rw [← x.out] at a4))
      have n_ := aC (Kd.vS a4 bz) (aE (bs hb))
      clear HB
      obtain ⟨d, HB⟩ := n_
      clear hb a4
      refine hK.out _ _ trivial (fun hHeld => ?_)
      clear hK K
      refine nm (some 6) ?_
      refine yA (i := 1) (N := some 7) (bv 8 3) rfl rfl (xl HT_.out (by kernel_rfl)) (by decide) (fun K hK => ?_)
      refine Kd.xM (Kd.int .u8) _ 5 (by rfl) (N := 7) rfl 22 _ _ rfl 5 rfl rfl Tryz.underlying22 (.int .u8 0) 1 info5 rfl (by decide) (by omega) 0 (ok := fun _ => True) (okp := fun _ => True) rfl (fun _ hk => hk) trivial (by omega) (by omega) (Below.refl _ _) (Nat.le_refl _) ?_
      intro u i3 T hb hg_ hnew_
      clear hg_ hnew_
      (first | rw [← y.out] at T | (simp only [Int.reduceToNat] at T; rw [← y.out] at T))
      have n_ := aC (Kd.R_elder' (rU d.out) (Kd.xc T) hb) (aC (Kd.vS (Kd.R_new' T (Kd.xW (rU d.out))) bz) (aE (bs hb)))
      clear d HB
      obtain ⟨d, q, HB⟩ := n_
      clear hb T
      refine hK.out _ _ trivial (fun hHeld => ?_)
      clear hK K
      refine nm (some 7) ?_
      exact yQ (by simp only [yf, Act.put, List.setIfInBounds_toArray, List.set_cons_zero, List.set_cons_succ]) (hCont (t, u) _ ⟨(rU (Kd.vU d.out (fun _ hk => hk.2))), (rU (Kd.vU q.out (fun _ hk => hk.2))), bl⟩)
     ·skip
      refine Kd.xM (Kd.int .u8) _ 5 (by rfl) (N := 7) rfl 22 _ _ rfl 5 rfl rfl Tryz.underlying22 (.int .u8 0) 1 info5 rfl (by decide) (by omega) 0 (ok := fun _ => True) (okp := fun _ => True) rfl (fun _ hk => hk) trivial (by omega) (by omega) (Below.refl _ _) (Nat.le_refl _) ?_
      intro u i2 a4 hb hg_ hnew_
      clear hg_ hnew_
      (first | rw [← y.out] at a4 | (simp only [Int.reduceToNat] at a4; rw [← y.out] at a4))
      have n_ := aC (Kd.vS a4 bz) (aE (bs hb))
      clear HB
      obtain ⟨q, HB⟩ := n_
      clear hb a4
      refine hK.out _ _ trivial (fun hHeld => ?_)
      clear hK K
      refine nm (some 7) ?_
      refine yA (i := 0) (N := some 6) (bv 8 3) rfl rfl (xl HT_.out (by kernel_rfl)) (by decide) (fun K hK => ?_)
      refine Kd.xM (Kd.int .u8) _ 5 (by rfl) (N := 6) rfl 22 _ _ rfl 5 rfl rfl Tryz.underlying22 (.int .u8 0) 1 info5 rfl (by decide) (by omega) 0 (ok := fun _ => True) (okp := fun _ => True) rfl (fun _ hk => hk) trivial (by omega) (by omega) (Below.refl _ _) (Nat.le_refl _) ?_
      intro t i3 T hb hg_ hnew_
      clear hg_ hnew_
      (first | rw [← x.out] at T | (simp only [Int.reduceToNat] at T; rw [← x.out] at T))
      have n_ := aC (Kd.R_elder' (rU q.out) (Kd.xc T) hb) (aC (Kd.vS (Kd.R_new' T (Kd.xW (rU q.out))) bz) (aE (bs hb)))
      clear q HB
      obtain ⟨q, d, HB⟩ := n_
      clear hb T
      refine hK.out _ _ trivial (fun hHeld => ?_)
      clear hK K
      refine nm (some 6) ?_
      exact yQ (by simp only [yf, Act.put, List.setIfInBounds_toArray, List.set_cons_zero, List.set_cons_succ]) (hCont (t, u) _ ⟨(rU (Kd.vU d.out (fun _ hk => hk.2))), (rU (Kd.vU q.out (fun _ hk => hk.2))), bl⟩)
    rintro ⟨t, u⟩ e5 ⟨h0_, h1_, h2_⟩
    have a6 : Aside0 (Kd.R (Kd.int .u8) 5 e5 w.heap.size (fun k_ => some k_ ≠ (u : Value).ownBlock) t B) := ⟨h0_⟩
    have a7 : Aside0 (Kd.R (Kd.int .u8) 5 e5 w.heap.size (fun k_ => some k_ ≠ (t : Value).ownBlock) u D) := ⟨h1_⟩
    have a8 : Aside0 (Below w.heap.size w e5) := ⟨h2_⟩
    clear HB
    clear h0_ h1_ h2_
    have d := a6
    have q := a7
    have HB := a8
    clear a6 a7 a8
    have hHeld := trivial
    obtain ⟨g4, g5, d8⟩ := Kd.vY d.out
    (first | subst d8 | (injection d8 with f1_ f2_ f3_; have f4_ := f1_.symm; have f5_ := f3_.symm; clear f1_ f2_ f3_; subst f4_; subst f5_))
    obtain ⟨g6, g7, d9⟩ := Kd.vY q.out
    (first | subst d9 | (injection d9 with f1_ f2_ f3_; have f4_ := f1_.symm; have f5_ := f3_.symm; clear f1_ f2_ f3_; subst f4_; subst f5_))
    refine yQ (a' := ?_) ?_ ?_
    rotate_left
    ·simp only [yf, Act.put, List.setIfInBounds_toArray, List.set_cons_zero, List.set_cons_succ]
     rfl
    refine yA (i := 2) (N := some 8) (bv 8 7) rfl rfl (xl HT_.out (by kernel_rfl)) (by decide) (fun K hK => ?_)
    refine gK Tryz.func15 rfl #[.slice g4 B.length g5, .slice g6 D.length g7] rfl rfl ?_
    with_reducible refine (wX.calls k _ _ B _ _ D I b3 _ (TIs.on HTI) ?side1 ?side2 ?side3 ?side4 A2.out).mono ?_
    (case side1 => exact cU (Kd.R_reads' d.out).2.2)
    (case side2 => exact (Kd.R_reads' d.out).2.1)
    (case side3 => exact cU (Kd.R_reads' q.out).2.2)
    (case side4 => exact (Kd.R_reads' q.out).2.1)
    rintro e m6 ⟨b7, rfl, z, hb⟩
    refine ⟨_, rfl, ?_⟩
    have n_ := aC (Kd.wg (rU d.out) hb) (aC (Kd.wg (rU q.out) hb) (aC (Kd.vS z bz) (aE (bs hb))))
    clear d q HB
    obtain ⟨d, q, s, HB⟩ := n_
    (try clear hb)
    (try clear d0)
    (try clear hk)
    (try clear hi)
    (try clear z)
    refine hK.out _ _ trivial (fun hHeld => ?_)
    clear hK K
    refine nm (some 8) ?_
    refine pu 3 5 (bv 8 15) HT_ rfl rfl ?_
    refine pu 4 9 (bv 8 31) HT_ rfl rfl ?_
    refine pu 5 10 (bv 8 63) HT_ rfl rfl ?_
    refine pu 6 1 (bv 8 127) HT_ rfl rfl ?_
    refine pu 7 2 (bv 8 255) HT_ rfl rfl ?_
    refine zd (xZ HT_.out (by kernel_rfl)) ?_
    try go_wp2_with (first | ((with_reducible refine gf 16 rfl ?_); refine gL (some 12) rfl rfl Tryz.func16 rfl #[.int .i64 5, .int .i64 0] rfl ?_; (with_reducible refine (xV.calls k 5 0 b2 b4 _ A3.out).mono ?_); rintro e m7 ⟨b8, rfl, z, hb⟩; refine ⟨_, rfl, ?_⟩; have n_ := aC (Kd.R_elder' (rU d.out) (Kd.xc z) hb) (aC (Kd.R_elder' (rU q.out) (Kd.xc z) hb) (aC (Kd.wg (rU s.out) hb) (aC (Kd.vS (Kd.R_new' (Kd.R_new' z (Kd.xW (rU d.out))) (Kd.xW (rU q.out))) bz) (aE (bs hb))))); clear d q s HB; obtain ⟨d, q, s, G, HB⟩ := n_; obtain ⟨l3, l4, g8⟩ := Kd.vY s.out; subst g8))
    go_ret
    exact ⟨re, bl⟩
  ·obtain rfl := Option.some.inj H
   go_enter Tryz.func5, Tryz.ntmps5
   try go_wp2
   have n_ := aE (vy HB.out)
   clear HB
   have HB := n_
   clear n_
   refine st 8 (fun w' => True) [] (bv 8 0) we.tab1 we.bits1 trivial (fun hHeld HT_ HW_ => ?_)
   generalize w.drew = m8 at HB hHeld ⊢
   refine zO (σ := Value × Value) 6 #[true, true, false, false, false, false, false, false] (fun s_ => [(6, s_.1), (7, s_.2)]) (fun s_ w' => (Kd.R (Kd.int .u8) 5 w' w.heap.size (fun k_ => some k_ ≠ (s_.2 : Value).ownBlock) s_.1 B) ∧ (Kd.R (Kd.int .u8) 5 w' w.heap.size (fun k_ => some k_ ≠ (s_.1 : Value).ownBlock) s_.2 D) ∧ (Below w.heap.size w w')) ?_ ?_
   rotate_left
   ·intro hCont
    refine kV (i := 0) (j := 1) (Ni := some 6) (Nj := some 7) #[true, false, false, false, false, false, false, false] #[false, true, false, false, false, false, false, false] rfl rfl rfl rfl (jg HT_.out (by kernel_rfl)) (by decide) (by decide) (fun K hK => ?_) (fun K hK => ?_)
    ·skip
     refine Kd.xM (Kd.int .u8) _ 5 (by rfl) (N := 6) rfl 22 _ _ rfl 5 rfl rfl Tryz.underlying22 (.int .u8 0) 1 info5 rfl (by decide) (by omega) 0 (ok := fun _ => True) (okp := fun _ => True) rfl (fun _ hk => hk) trivial (by omega) (by omega) (Below.refl _ _) (Nat.le_refl _) ?_
     intro t i4 a5 hb hg_ hnew_
     clear hg_ hnew_
     (first | rw [← x.out] at a5 | (simp only [Int.reduceToNat] at a5; rw [← x.out] at a5))
     have n_ := aC (Kd.vS a5 bz) (aE (bs hb))
     clear HB
     obtain ⟨d, HB⟩ := n_
     clear hb a5
     refine hK.out _ _ trivial (fun hHeld => ?_)
     clear hK K
     refine nm (some 6) ?_
     refine yA (i := 1) (N := some 7) (bv 8 3) rfl rfl (xl HT_.out (by kernel_rfl)) (by decide) (fun K hK => ?_)
     refine Kd.xM (Kd.int .u8) _ 5 (by rfl) (N := 7) rfl 22 _ _ rfl 5 rfl rfl Tryz.underlying22 (.int .u8 0) 1 info5 rfl (by decide) (by omega) 0 (ok := fun _ => True) (okp := fun _ => True) rfl (fun _ hk => hk) trivial (by omega) (by omega) (Below.refl _ _) (Nat.le_refl _) ?_
     intro u i5 X hb hg_ hnew_
     clear hg_ hnew_
     (first | rw [← y.out] at X | (simp only [Int.reduceToNat] at X; rw [← y.out] at X))
     have n_ := aC (Kd.R_elder' (rU d.out) (Kd.xc X) hb) (aC (Kd.vS (Kd.R_new' X (Kd.xW (rU d.out))) bz) (aE (bs hb)))
     clear d HB
     obtain ⟨d, q, HB⟩ := n_
     clear hb X
     refine hK.out _ _ trivial (fun hHeld => ?_)
     clear hK K
     refine nm (some 7) ?_
     exact yQ (by simp only [yf, Act.put, List.setIfInBounds_toArray, List.set_cons_zero, List.set_cons_succ]) (hCont (t, u) _ ⟨(rU (Kd.vU d.out (fun _ hk => hk.2))), (rU (Kd.vU q.out (fun _ hk => hk.2))), bl⟩)
    ·skip
     refine Kd.xM (Kd.int .u8) _ 5 (by rfl) (N := 7) rfl 22 _ _ rfl 5 rfl rfl Tryz.underlying22 (.int .u8 0) 1 info5 rfl (by decide) (by omega) 0 (ok := fun _ => True) (okp := fun _ => True) rfl (fun _ hk => hk) trivial (by omega) (by omega) (Below.refl _ _) (Nat.le_refl _) ?_
     intro u i4 a5 hb hg_ hnew_
     clear hg_ hnew_
     (first | rw [← y.out] at a5 | (simp only [Int.reduceToNat] at a5; rw [← y.out] at a5))
     have n_ := aC (Kd.vS a5 bz) (aE (bs hb))
     clear HB
     obtain ⟨q, HB⟩ := n_
     clear hb a5
     refine hK.out _ _ trivial (fun hHeld => ?_)
     clear hK K
     refine nm (some 7) ?_
     refine yA (i := 0) (N := some 6) (bv 8 3) rfl rfl (xl HT_.out (by kernel_rfl)) (by decide) (fun K hK => ?_)
     refine Kd.xM (Kd.int .u8) _ 5 (by rfl) (N := 6) rfl 22 _ _ rfl 5 rfl rfl Tryz.underlying22 (.int .u8 0) 1 info5 rfl (by decide) (by omega) 0 (ok := fun _ => True) (okp := fun _ => True) rfl (fun _ hk => hk) trivial (by omega) (by omega) (Below.refl _ _) (Nat.le_refl _) ?_
     intro t i5 X hb hg_ hnew_
     clear hg_ hnew_
     (first | rw [← x.out] at X | (simp only [Int.reduceToNat] at X; rw [← x.out] at X))
     have n_ := aC (Kd.R_elder' (rU q.out) (Kd.xc X) hb) (aC (Kd.vS (Kd.R_new' X (Kd.xW (rU q.out))) bz) (aE (bs hb)))
     clear q HB
     obtain ⟨q, d, HB⟩ := n_
     clear hb X
     refine hK.out _ _ trivial (fun hHeld => ?_)
     clear hK K
     refine nm (some 6) ?_
     exact yQ (by simp only [yf, Act.put, List.setIfInBounds_toArray, List.set_cons_zero, List.set_cons_succ]) (hCont (t, u) _ ⟨(rU (Kd.vU d.out (fun _ hk => hk.2))), (rU (Kd.vU q.out (fun _ hk => hk.2))), bl⟩)
   rintro ⟨t, u⟩ e6 ⟨h0_, h1_, h2_⟩
   have a6 : Aside0 (Kd.R (Kd.int .u8) 5 e6 w.heap.size (fun k_ => some k_ ≠ (u : Value).ownBlock) t B) := ⟨h0_⟩
   have a7 : Aside0 (Kd.R (Kd.int .u8) 5 e6 w.heap.size (fun k_ => some k_ ≠ (t : Value).ownBlock) u D) := ⟨h1_⟩
   have a8 : Aside0 (Below w.heap.size w e6) := ⟨h2_⟩
   clear HB
   clear h0_ h1_ h2_
   have d := a6
   have q := a7
   have HB := a8
   clear a6 a7 a8
   have hHeld := trivial
   obtain ⟨g9, h3, e0⟩ := Kd.vY d.out
   (first | subst e0 | (injection e0 with f1_ f2_ f3_; have f4_ := f1_.symm; have f5_ := f3_.symm; clear f1_ f2_ f3_; subst f4_; subst f5_))
   obtain ⟨h4, h5, e1⟩ := Kd.vY q.out
   (first | subst e1 | (injection e1 with f1_ f2_ f3_; have f4_ := f1_.symm; have f5_ := f3_.symm; clear f1_ f2_ f3_; subst f4_; subst f5_))
   refine yQ (a' := ?_) ?_ ?_
   rotate_left
   ·simp only [yf, Act.put, List.setIfInBounds_toArray, List.set_cons_zero, List.set_cons_succ]
    rfl
   refine yA (i := 2) (N := some 8) (bv 8 7) rfl rfl (xl HT_.out (by kernel_rfl)) (by decide) (fun K hK => ?_)
   refine gK Tryz.func15 rfl #[.slice g9 B.length h3, .slice h4 D.length h5] rfl rfl ?_
   with_reducible refine (wX.calls k _ _ B _ _ D I b3 _ (TIs.on HTI) ?side1 ?side2 ?side3 ?side4 A2.out).mono ?_
   (case side1 => exact cU (Kd.R_reads' d.out).2.2)
   (case side2 => exact (Kd.R_reads' d.out).2.1)
   (case side3 => exact cU (Kd.R_reads' q.out).2.2)
   (case side4 => exact (Kd.R_reads' q.out).2.1)
   rintro e m9 ⟨b7, rfl, z, hb⟩
   refine ⟨_, rfl, ?_⟩
   have n_ := aC (Kd.wg (rU d.out) hb) (aC (Kd.wg (rU q.out) hb) (aC (Kd.vS z bz) (aE (bs hb))))
   clear d q HB
   obtain ⟨d, q, s, HB⟩ := n_
   (try clear hb)
   (try clear d0)
   (try clear hk)
   (try clear hi)
   (try clear z)
   refine hK.out _ _ trivial (fun hHeld => ?_)
   clear hK K
   refine nm (some 8) ?_
   refine pu 3 5 (bv 8 15) HT_ rfl rfl ?_
   refine pu 4 9 (bv 8 31) HT_ rfl rfl ?_
   refine pu 5 10 (bv 8 63) HT_ rfl rfl ?_
   refine pu 6 1 (bv 8 127) HT_ rfl rfl ?_
   refine pu 7 2 (bv 8 255) HT_ rfl rfl ?_
   refine zd (xZ HT_.out (by kernel_rfl)) ?_
   try go_wp2_with (first | ((with_reducible refine gf 16 rfl ?_); refine gL (some 12) rfl rfl Tryz.func16 rfl #[.int .i64 5, .int .i64 0] rfl ?_; (with_reducible refine (xV.calls k 5 0 b2 b4 _ A3.out).mono ?_); rintro e n0 ⟨b8, rfl, z, hb⟩; refine ⟨_, rfl, ?_⟩; have n_ := aC (Kd.R_elder' (rU d.out) (Kd.xc z) hb) (aC (Kd.R_elder' (rU q.out) (Kd.xc z) hb) (aC (Kd.wg (rU s.out) hb) (aC (Kd.vS (Kd.R_new' (Kd.R_new' z (Kd.xW (rU d.out))) (Kd.xW (rU q.out))) bz) (aE (bs hb))))); clear d q s HB; obtain ⟨d, q, s, G, HB⟩ := n_))
   go_ret
   exact ⟨re, bl⟩
 ·rw [if_neg c1] at H
  exact nB H
end Go.Proofs.YtknclbodinfbeaaGreatDoor.PRunsBack
